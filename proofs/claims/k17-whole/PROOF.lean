import PyProof.Rows.All
import Wide.All
import OpenK.AllK
import Wide.FinOn
import HandS.ForMost
import HandS.ForExc
import HandS.TupAny
import HandS.TupMul
import HandS.DictComp
import HandS.Style
import HandS.NoneIn
import HandS.Conv
import HandS.IsInst
import HandS.SortInts
import HandS.Deep
import HandS.Wide
import HandS.Lambda
import KE.GoesNew
import HandS.Words
import KE.KExcSuper
import HandS.ExcIs
import KE.KExcIs
import PyProof.ListMulRoad
import PyProof.FactsAll.tuple_2
import HandS.Base
import HandS.Call
import HandS.List
import HandS.Iter
import HandS.Zip
import KE.KTupSum
import HandS.WordsExc
import HandS.WordsDict
import HandS.ExcOwn
import PyProof.ReprRoads
import PyProof.ReprLen
import HandS.EndTab
import KE.KStateDown
import HandS.Head0
import HandS.Head1
import HandS.Head2
import HandS.HeadHook4
import PySem.Challenge.RW_outsoonest_k17_whole_all_beginnings_of_a
set_option Elab.async false
set_option linter.all false
set_option autoImplicit false
set_option maxRecDepth 100000
/-! D1: the data layer. A value stands for a datum in a ghost heap G that never changes; the frame's own lists and dicts stand beside it. -/
namespace Od
open PySem PySem.Spec L2

theorem lim_size {n : Nat} (h : n ≤ 100000) : n ≤ sizeLine := by
  rw [sizeLine_eq]
  exact Nat.le_trans h (by decide)
theorem lim_lt {n : Nat} (h : n ≤ 100000) : n < sizeLine := by
  rw [sizeLine_eq]
  exact Nat.lt_of_le_of_lt h (by decide)

mutual
/-- the value v is the datum d, in G -/
inductive Rep (G : Hp) : V → PyData → Prop
  | non : Rep G .non .none
  | bl (b : Bool) : Rep G (.bl b) (.bool b)
  | int (i : Int) : Rep G (.int i) (.int i)
  | str (x : Str) : Rep G (.str x) (.str x)
  | lst {a : Addr} {xs : List V} {ds : List PyData} : G a = some (.lst xs) → ds.length ≤ 100000 → RepA G xs ds → Rep G (.ref a) (.list ds)
  | tup {a : Addr} {xs : List V} {ds : List PyData} : G a = some (.tup xs) → ds.length ≤ 100000 → RepA G xs ds → Rep G (.ref a) (.tuple ds)
inductive RepA (G : Hp) : List V → List PyData → Prop
  | nil : RepA G [] []
  | cons {v : V} {vs : List V} {d : PyData} {ds : List PyData} : Rep G v d → RepA G vs ds → RepA G (v :: vs) (d :: ds)
end
mutual
theorem Rep.up {G G' : Hp} (e : Same G G') : ∀ {d : PyData} {v : V}, Rep G v d → Rep G' v d
  | .none, _, h => by cases h; exact .non
  | .bool _, _, h => by cases h; exact .bl _
  | .int _, _, h => by cases h; exact .int _
  | .str _, _, h => by cases h; exact .str _
  | .list _, _, h => by
    cases h with
    | lst a z b => exact .lst (e _ _ a) z (RepA.up e b)
  | .tuple _, _, h => by
    cases h with
    | tup a z b => exact .tup (e _ _ a) z (RepA.up e b)
  | .dict _, _, h => by cases h
theorem RepA.up {G G' : Hp} (e : Same G G') : ∀ {ds : List PyData} {vs : List V}, RepA G vs ds → RepA G' vs ds
  | [], _, h => by cases h; exact .nil
  | _ :: _, _, h => by
    cases h with
    | cons a b => exact .cons (Rep.up e a) (RepA.up e b)
end
mutual
theorem Rep.dp {K : PySem.W.Frag} {G H : Hp} (e : Same G H) : ∀ {d : PyData} {v : V}, Rep G v d → Dp K H v d
  | .none, _, h => by cases h; exact .non
  | .bool _, _, h => by cases h; exact .bl _
  | .int _, _, h => by cases h; exact .int _
  | .str _, _, h => by cases h; exact .str _
  | .list _, _, h => by
    cases h with
    | lst a z b => exact .lst (SqL.of (e _ _ a)) (RepA.dp e b)
  | .tuple _, _, h => by
    cases h with
    | tup a z b => exact .tup (SqT.of (e _ _ a)) (RepA.dp e b)
  | .dict _, _, h => by cases h
theorem RepA.dp {K : PySem.W.Frag} {G H : Hp} (e : Same G H) : ∀ {ds : List PyData} {vs : List V}, RepA G vs ds → DpAll K H vs ds
  | [], _, h => by cases h; exact .nil
  | _ :: _, _, h => by
    cases h with
    | cons a b => exact .cons (Rep.dp e a) (RepA.dp e b)
end
section
variable {G G' H : Hp} {v : V} {vs ws : List V} {d : PyData} {ds es : List PyData}
theorem RepA.length (r : RepA G vs ds) : vs.length = ds.length := by
  induction ds generalizing vs with
  | nil => cases r; rfl
  | cons d ds ih =>
    cases r with
    | cons a b => simp [ih b]
theorem RepA.get (r : RepA G vs ds) {i : Nat} (h : ds[i]? = some d) : ∃ v, vs[i]? = some v ∧ Rep G v d := by
  induction ds generalizing vs i with
  | nil => simp at h
  | cons e ds ih =>
    cases r with
    | cons a b =>
      cases i with
      | zero =>
        simp only [List.getElem?_cons_zero, Option.some.injEq] at h
        subst h
        exact ⟨_, rfl, a⟩
      | succ i => exact ih b (by simpa using h)
theorem RepA.getV (r : RepA G vs ds) {i : Nat} (h : vs[i]? = some v) : ∃ d, ds[i]? = some d ∧ Rep G v d := by
  induction ds generalizing vs i with
  | nil => cases r; simp at h
  | cons e ds ih =>
    cases r with
    | cons a b =>
      cases i with
      | zero =>
        simp only [List.getElem?_cons_zero, Option.some.injEq] at h
        subst h
        exact ⟨_, rfl, a⟩
      | succ i => exact ih b (by simpa using h)
theorem RepA.append (r : RepA G vs ds) (s : RepA G ws es) : RepA G (vs ++ ws) (ds ++ es) := by
  induction ds generalizing vs with
  | nil => cases r; exact s
  | cons d ds ih =>
    cases r with
    | cons a b => exact .cons a (ih b)
theorem RepA.one (r : Rep G v d) : RepA G [v] [d] := .cons r .nil
theorem RepA.drop (r : RepA G vs ds) : ∀ n : Nat, RepA G (vs.drop n) (ds.drop n) := by
  induction ds generalizing vs with
  | nil => intro n; cases r; simpa using RepA.nil
  | cons d ds ih =>
    intro n
    cases r with
    | cons a b =>
      cases n with
      | zero => exact .cons a b
      | succ n => exact ih b n
theorem RepA.take (r : RepA G vs ds) : ∀ n : Nat, RepA G (vs.take n) (ds.take n) := by
  induction ds generalizing vs with
  | nil => intro n; cases r; simpa using RepA.nil
  | cons d ds ih =>
    intro n
    cases r with
    | cons a b =>
      cases n with
      | zero => exact .nil
      | succ n => exact .cons a (ih b n)
theorem RepA.reverse (r : RepA G vs ds) : RepA G vs.reverse ds.reverse := by
  induction ds generalizing vs with
  | nil => cases r; exact .nil
  | cons d ds ih =>
    cases r with
    | cons a b =>
      rw [List.reverse_cons, List.reverse_cons]
      exact (ih b).append (.one a)
theorem RepA.set (r : RepA G vs ds) (s : Rep G v d) : ∀ n : Nat, RepA G (vs.set n v) (ds.set n d) := by
  induction ds generalizing vs with
  | nil => intro n; cases r; exact .nil
  | cons e ds ih =>
    intro n
    cases r with
    | cons a b =>
      cases n with
      | zero => exact .cons s b
      | succ n => exact .cons a (ih b n)
theorem RepA.eraseIdx (r : RepA G vs ds) : ∀ n : Nat, RepA G (vs.eraseIdx n) (ds.eraseIdx n) := by
  induction ds generalizing vs with
  | nil => intro n; cases r; exact .nil
  | cons e ds ih =>
    intro n
    cases r with
    | cons a b =>
      cases n with
      | zero => exact b
      | succ n => exact .cons a (ih b n)
theorem RepA.ints (ns : List Int) : RepA G (ns.map V.int) (ns.map PyData.int) := by
  induction ns with
  | nil => exact .nil
  | cons n ns ih => exact .cons (.int n) ih
theorem RepA.of_ints {ns : List Int} (r : RepA G vs (ns.map PyData.int)) : vs = ns.map V.int := by
  induction ns generalizing vs with
  | nil => cases r; rfl
  | cons n ns ih =>
    cases r with
    | cons a b =>
      cases a
      rw [ih b]
      rfl
theorem RepA.of_bools {ns : List Bool} (r : RepA G vs (ns.map PyData.bool)) : vs = ns.map V.bl := by
  induction ns generalizing vs with
  | nil => cases r; rfl
  | cons n ns ih =>
    cases r with
    | cons a b =>
      cases a
      rw [ih b]
      rfl
theorem Rep.intV {i : Int} (r : Rep G v (.int i)) : v = .int i := by cases r; rfl
theorem Rep.blV {b : Bool} (r : Rep G v (.bool b)) : v = .bl b := by cases r; rfl
theorem Rep.strV {x : Str} (r : Rep G v (.str x)) : v = .str x := by cases r; rfl
theorem Rep.nonV (r : Rep G v .none) : v = .non := by cases r; rfl
end

/-! ### the state -/
/-- a frame's slot: not told, a value, a datum -/
inductive Sl where
  | any | val (v : V) | dat (d : PyData)
/-- an own object: a list of data; a list of two ints from 0 on (the draws' box); any -/
inductive MO where
  | lst (ds : List PyData) | box | raw (o : HO) | dct (kvs : List (Int × PyData)) | rd (kvs : List (Int × PyData)) | tab (q : Str)
/-- only read -/
def MO.ro : MO → Bool
  | .rd _ => true
  | _ => false
/-- a dict's pairs -/
inductive RepK (G : Hp) : List (Key × V) → List (Int × PyData) → Prop
  | nil : RepK G [] []
  | cons {i : Int} {v : V} {d : PyData} {vs : List (Key × V)} {ds : List (Int × PyData)} : Rep G v d → RepK G vs ds → RepK G ((.inl i, v) :: vs) ((i, d) :: ds)
def SlOk (G : Hp) : Sl → Option (Option V) → Prop
  | .any, _ => True
  | .val v, o => o = some (some v)
  | .dat d, o => ∃ v, o = some (some v) ∧ Rep G v d
def MOk (G : Hp) : MO → HO → Prop
  | .lst ds, o => ∃ xs, o = .lst xs ∧ RepA G xs ds ∧ ds.length ≤ 100000
  | .box, o => ∃ g r : Int, o = .lst [.int g, .int r] ∧ 0 ≤ g ∧ 0 ≤ r ∧ r ≤ 2147483563
  | .raw u, o => o = u
  | .dct kvs, o => ∃ xs, o = .dK xs ∧ RepK G xs kvs ∧ kvs.length ≤ 100000
  | .rd kvs, o => ∃ xs, o = .dK xs ∧ RepK G xs kvs ∧ kvs.length ≤ 100000
  | .tab q, o => ∃ ps : Array Value, o = .tbl ps ∧ TriplesOk ps.toList ∧ ∀ (pos : Pos) (cv : Value), codeAmong pos ps.toList = some cv → ∃ c, cv = .ref c ∧ G c = some (LamX.CodeO c q)
abbrev Mem := List (Addr × MO)
/-- from (G0, H0) to (G, H): data stay, new data stand at new places, objects stay but those at S -/
structure Ev (S : List Addr) (G0 H0 G H : Hp) : Prop where
  gg : Same G0 G
  gh : Same G H
  old : ∀ b o, H0 b = some o → G b = G0 b
  keep : ∀ b o, H0 b = some o → b ∉ S → H b = some o
  dom : ∀ b o, H0 b = some o → ∃ u, H b = some u
theorem Ev.refl {S : List Addr} {G H : Hp} (e : Same G H) : Ev S G H G H := ⟨.refl _, e, fun _ _ _ => rfl, fun _ _ h _ => h, fun _ o h => ⟨o, h⟩⟩
theorem Ev.trans {S : List Addr} {G0 H0 G1 H1 G2 H2 : Hp} (a : Ev S G0 H0 G1 H1) (b : Ev S G1 H1 G2 H2) : Ev S G0 H0 G2 H2 where
  gg := a.gg.trans b.gg
  gh := b.gh
  old := fun c o h => by
    obtain ⟨u, hu⟩ := a.dom c o h
    exact (b.old c u hu).trans (a.old c o h)
  keep := fun c o h n => b.keep c o (a.keep c o h n) n
  dom := fun c o h => by
    obtain ⟨u, hu⟩ := a.dom c o h
    exact b.dom c u hu
theorem Ev.mono {S T : List Addr} {G0 H0 G H : Hp} (a : Ev S G0 H0 G H) (h : ∀ b ∈ S, b ∈ T) : Ev T G0 H0 G H := ⟨a.gg, a.gh, a.old, fun b o e n => a.keep b o e fun z => n (h b z), a.dom⟩
theorem Ev.same {G0 H0 G H : Hp} (a : Ev [] G0 H0 G H) : Same H0 H := fun b o h => a.keep b o h (by simp)
/-- a new datum -/
theorem Ev.new {S : List Addr} {G H : Hp} {p : Addr} {o : HO} (e : Same G H) (n : H p = none) : Ev S G H (upd G p o) (upd H p o) where
  gg := fun b u h => by rw [upd_ne (ne_of_none (e _ _ h) n)]; exact h
  gh := fun b u h => by
    by_cases hb : b = p
    · subst hb; rw [upd_same] at h ⊢; exact h
    · rw [upd_ne hb] at h ⊢; exact e _ _ h
  old := fun b u h => upd_ne (ne_of_none h n)
  keep := fun b u h _ => by rw [upd_ne (ne_of_none h n)]; exact h
  dom := fun b u h => ⟨u, by rw [upd_ne (ne_of_none h n)]; exact h⟩
/-- a new object that is no datum (yet) -/
theorem Ev.lay {S : List Addr} {G H : Hp} {p : Addr} {o : HO} (e : Same G H) (n : H p = none) : Ev S G H G (upd H p o) where
  gg := .refl _
  gh := fun b u h => by rw [upd_ne (ne_of_none (e _ _ h) n)]; exact e _ _ h
  old := fun b u h => rfl
  keep := fun b u h _ => by rw [upd_ne (ne_of_none h n)]; exact h
  dom := fun b u h => ⟨u, by rw [upd_ne (ne_of_none h n)]; exact h⟩

/-- the context: the entry's heaps, the objects of others that may change, a lower bound of G -/
structure Ct where
  S : List Addr
  G0 : Hp
  H0 : Hp
  lo : Hp
structure At (c : Ct) (δ : List Sl) (M : Mem) (G H : Hp) (σ : St) : Prop where
  ev : Ev c.S c.G0 c.H0 G H
  lo : Same c.lo G
  len : σ.length = δ.length
  sl : ∀ (i : Nat) (s : Sl), δ[i]? = some s → SlOk G s σ[i]?
  mem : ∀ p o, (p, o) ∈ M → G p = none ∧ (p ∈ c.S ∨ c.H0 p = none ∨ o.ro = true) ∧ ∃ u, H p = some u ∧ MOk G o u
  nd : (M.map (·.1)).Nodup
  sdom : ∀ b ∈ c.S, ∃ o, c.H0 b = some o
theorem SlOk.up {G G' : Hp} (e : Same G G') : ∀ {s : Sl} {o : Option (Option V)}, SlOk G s o → SlOk G' s o
  | .any, _, _ => trivial
  | .val _, _, h => h
  | .dat _, _, ⟨v, h, r⟩ => ⟨v, h, r.up e⟩
theorem RepK.up {G G' : Hp} (e : Same G G') {vs : List (Key × V)} {ds : List (Int × PyData)} (h : RepK G vs ds) : RepK G' vs ds := by
  induction h with
  | nil => exact .nil
  | cons a _ ih => exact .cons (a.up e) ih
theorem MOk.up {G G' : Hp} (e : Same G G') : ∀ {o : MO} {u : HO}, MOk G o u → MOk G' o u
  | .lst _, _, ⟨xs, h, r, z⟩ => ⟨xs, h, r.up e, z⟩
  | .box, _, h => h
  | .raw _, _, h => h
  | .dct _, _, ⟨xs, h, r, z⟩ => ⟨xs, h, r.up e, z⟩
  | .rd _, _, ⟨xs, h, r, z⟩ => ⟨xs, h, r.up e, z⟩
  | .tab _, _, ⟨ps, h1, h2, h3⟩ => ⟨ps, h1, h2, fun pos cv hc => by
    obtain ⟨c, e1, e2⟩ := h3 pos cv hc
    exact ⟨c, e1, e _ _ e2⟩⟩
section
variable {c : Ct} {δ : List Sl} {M : Mem} {G G' H H' : Hp} {σ : St}
/-- behind something that changes nothing that stood -/
theorem At.ext (A : At c δ M G H σ) (e : Ev [] G H G' H') : At c δ M G' H' σ where
  ev := A.ev.trans (e.mono (by simp))
  lo := A.lo.trans e.gg
  len := A.len
  sl := fun i s h => (A.sl i s h).up e.gg
  mem := fun p o h => by
    obtain ⟨a, b, u, hu, ok⟩ := A.mem p o h
    exact ⟨(e.old p u hu).trans a, b, u, e.same _ _ hu, ok.up e.gg⟩
  nd := A.nd
  sdom := A.sdom
theorem At.gh (A : At c δ M G H σ) : Same G H := A.ev.gh
theorem At.set (A : At c δ M G H σ) {i : Nat} {s : Sl} {v : V} (h : SlOk G s (some (some v))) : At c (δ.set i s) M G H (σ.set i (some v)) where
  ev := A.ev
  lo := A.lo
  len := by rw [List.length_set, List.length_set]; exact A.len
  sl := fun j t hj => by
    by_cases e : i = j
    · subst e
      have hl : i < δ.length := by
        have z := (List.getElem?_eq_some_iff.mp hj).1
        rwa [List.length_set] at z
      rw [List.getElem?_set_self hl] at hj
      cases hj
      rw [List.getElem?_set_self (by rw [A.len]; exact hl)]
      exact h
    · rw [List.getElem?_set_ne e] at hj ⊢
      exact A.sl j t hj
  mem := A.mem
  nd := A.nd
  sdom := A.sdom
/-- forgetting -/
theorem At.weak (A : At c δ M G H σ) {δ' : List Sl} (hl : δ'.length = δ.length) (h : ∀ (i : Nat) (s : Sl), δ'[i]? = some s → s = .any ∨ δ[i]? = some s) : At c δ' M G H σ where
  ev := A.ev
  lo := A.lo
  len := A.len.trans hl.symm
  sl := fun i s hi => by
    rcases h i s hi with e | e
    · subst e; trivial
    · exact A.sl i s e
  mem := A.mem
  nd := A.nd
  sdom := A.sdom
theorem At.relo (A : At c δ M G H σ) : At { c with lo := G } δ M G H σ := ⟨A.ev, .refl _, A.len, A.sl, A.mem, A.nd, A.sdom⟩
theorem At.unlo {L : Hp} (A : At { c with lo := L } δ M G H σ) (e : Same c.lo L) : At c δ M G H σ := ⟨A.ev, e.trans A.lo, A.len, A.sl, A.mem, A.nd, A.sdom⟩
theorem At.fresh (A : At c δ M G H σ) {p : Addr} (n : H p = none) : c.H0 p = none ∧ G p = none ∧ p ∉ M.map (·.1) := by
  refine ⟨?_, ?_, fun z => ?_⟩
  · cases q : c.H0 p with
    | none => rfl
    | some o =>
      obtain ⟨u, hu⟩ := A.ev.dom p o q
      rw [n] at hu; cases hu
  · cases q : G p with
    | none => rfl
    | some o =>
      have z := A.gh p o q
      rw [n] at z; cases z
  · obtain ⟨⟨q, o⟩, hm, e⟩ := List.mem_map.mp z
    obtain ⟨_, _, u, hu, _⟩ := A.mem q o hm
    have e : q = p := e
    rw [e, n] at hu; cases hu
/-- a new own object -/
theorem At.lay (A : At c δ M G H σ) {p : Addr} {o : MO} {u : HO} (n : H p = none) (ok : MOk G o u) : At c δ ((p, o) :: M) G (upd H p u) σ := by
  obtain ⟨h0, hg, hm⟩ := A.fresh n
  have A' := A.ext (Ev.lay (o := u) A.gh n)
  refine ⟨A'.ev, A'.lo, A'.len, A'.sl, fun q x hq => ?_, List.nodup_cons.mpr ⟨hm, A.nd⟩, A.sdom⟩
  rcases List.mem_cons.mp hq with e | hq
  · cases e
    exact ⟨hg, .inr (.inl h0), u, upd_same, ok⟩
  · exact A'.mem q x hq
end
end Od
set_option Elab.async false
set_option linter.all false
set_option autoImplicit false
set_option maxRecDepth 100000
set_option maxHeartbeats 2000000
/-! D2: expressions over the data layer. -/
namespace Od
open PySem PySem.Spec L2

/-- an expression gives the datum d -/
def Gv (δ : List Sl) (M : Mem) (t : TE) (d : PyData) : Prop := ∀ (c : Ct) (G H : Hp) (σ : L2.St) (Q : VK), At c δ M G H σ → (∀ G' H' v, At c δ M G' H' σ → Same G G' → Rep G' v d → Q v H') → t σ H Q
/-- .. just the value x -/
def Gx (δ : List Sl) (M : Mem) (t : TE) (x : V) : Prop := ∀ (c : Ct) (G H : Hp) (σ : L2.St) (Q : VK), At c δ M G H σ → (∀ G' H', At c δ M G' H' σ → Same G G' → Q x H') → t σ H Q
def Gt (δ : List Sl) (M : Mem) (t : TT) (b : Bool) : Prop := ∀ (c : Ct) (G H : Hp) (σ : L2.St) (Q : Bool → Hp → Prop), At c δ M G H σ → (∀ G' H', At c δ M G' H' σ → Same G G' → Q b H') → t σ H Q
def Ga (δ : List Sl) (M : Mem) (t : TA) (ds : List PyData) : Prop := ∀ (c : Ct) (G H : Hp) (σ : L2.St) (Q : List V → Hp → Prop), At c δ M G H σ → (∀ G' H' vs, At c δ M G' H' σ → Same G G' → RepA G' vs ds → Q vs H') → t σ H Q
def isNone : PyData → Bool
  | .none => true
  | _ => false
def seqOf : PyData → Option (List PyData)
  | .list ds => some ds
  | .tuple ds => some ds
  | _ => none
theorem Rep.seq {G H : Hp} {K : PySem.W.Frag} {v : V} {d : PyData} {ds : List PyData} (e : Same G H) (r : Rep G v d) (h : seqOf d = some ds) :
    ∃ a xs, v = .ref a ∧ (SqL K H a xs ∨ SqT K H a xs) ∧ RepA G xs ds ∧ ds.length ≤ 100000 := by
  cases r with
  | lst a z b =>
    cases h
    exact ⟨_, _, rfl, .inl (SqL.of (e _ _ a)), b, z⟩
  | tup a z b =>
    cases h
    exact ⟨_, _, rfl, .inr (SqT.of (e _ _ a)), b, z⟩
  | non => cases h
  | bl _ => cases h
  | int _ => cases h
  | str _ => cases h

section
variable {δ : List Sl} {M : Mem} {K : PySem.W.Frag} {ta tb : TE} {d da db : PyData} {ds es : List PyData}
theorem g_var {i : Nat} (h : δ[i]? = some (.dat d)) : Gv δ M (tVar i) d := fun c G H σ Q A k => by
  obtain ⟨v, e, r⟩ := A.sl i _ h
  exact ⟨v, e, k G H v A (.refl _) r⟩
theorem gx_var {i : Nat} {x : V} (h : δ[i]? = some (.val x)) : Gx δ M (tVar i) x := fun c G H σ Q A k => ⟨x, A.sl i _ h, k G H A (.refl _)⟩
theorem gx_c {x : V} : Gx δ M (tC x) x := fun c G H σ Q A k => k G H A (.refl _)
theorem g_int {i : Int} : Gv δ M (tC (.int i)) (.int i) := fun c G H σ Q A k => k G H _ A (.refl _) (.int i)
theorem g_bl {b : Bool} : Gv δ M (tC (.bl b)) (.bool b) := fun c G H σ Q A k => k G H _ A (.refl _) (.bl b)
theorem g_non : Gv δ M (tC .non) .none := fun c G H σ Q A k => k G H _ A (.refl _) .non
theorem g_str {x : Str} : Gv δ M (tC (.str x)) (.str x) := fun c G H σ Q A k => k G H _ A (.refl _) (.str x)
theorem Gx.int {i : Int} (h : Gx δ M ta (.int i)) : Gv δ M ta (.int i) := fun c G H σ Q A k => h c G H σ Q A fun G' H' A' s => k G' H' _ A' s (.int i)
theorem Gv.x {i : Int} (h : Gv δ M ta (.int i)) : Gx δ M ta (.int i) := fun c G H σ Q A k => h c G H σ Q A fun G' H' v A' s r => by
  rw [r.intV]
  exact k G' H' A' s
theorem Gv.cast (h : Gv δ M ta da) (e : da = d) : Gv δ M ta d := e ▸ h
/-! ### operators on ints -/
theorem g_op0 {g : Int → Int → Int} {i j : Int} (ha : Gv δ M ta (.int i)) (hb : Gv δ M tb (.int j)) : Gv δ M (tOp (rI0 fun i j => .int (g i j)) ta tb) (.int (g i j)) := fun c G H σ Q A k =>
  ha c G H σ _ A fun G1 H1 v A1 s1 r1 => hb c G1 H1 σ _ A1 fun G2 H2 w A2 s2 r2 => ⟨i, j, r1.intV, r2.intV, k G2 H2 _ A2 (s1.trans s2) (.int _)⟩
theorem g_opB {g : Int → Int → Bool} {i j : Int} (ha : Gv δ M ta (.int i)) (hb : Gv δ M tb (.int j)) : Gv δ M (tOp (rI0 fun i j => .bl (g i j)) ta tb) (.bool (g i j)) := fun c G H σ Q A k =>
  ha c G H σ _ A fun G1 H1 v A1 s1 r1 => hb c G1 H1 σ _ A1 fun G2 H2 w A2 s2 r2 => ⟨i, j, r1.intV, r2.intV, k G2 H2 _ A2 (s1.trans s2) (.bl _)⟩
theorem g_opC {C : Int → Int → Prop} {g : Int → Int → Int} {i j : Int} (ha : Gv δ M ta (.int i)) (hb : Gv δ M tb (.int j)) (hc : C i j) : Gv δ M (tOp (rI C fun i j => .int (g i j)) ta tb) (.int (g i j)) := fun c G H σ Q A k =>
  ha c G H σ _ A fun G1 H1 v A1 s1 r1 => hb c G1 H1 σ _ A1 fun G2 H2 w A2 s2 r2 => ⟨i, j, r1.intV, r2.intV, hc, k G2 H2 _ A2 (s1.trans s2) (.int _)⟩
theorem g_un {g : Int → Int} {i : Int} (ha : Gv δ M ta (.int i)) : Gv δ M (tUn (rU fun i => .int (g i)) ta) (.int (g i)) := fun c G H σ Q A k =>
  ha c G H σ _ A fun G1 H1 v A1 s1 r1 => ⟨i, r1.intV, k G1 H1 _ A1 s1 (.int _)⟩
/-- the value of a flat datum -/
def flV : PyData → Option V
  | .none => some .non
  | .bool b => some (.bl b)
  | .int i => some (.int i)
  | .str x => some (.str x)
  | _ => none
theorem Rep.fl {G : Hp} {v x : V} {d : PyData} (r : Rep G v d) (h : flV d = some x) : v = x := by
  cases r <;> cases h <;> rfl
theorem g_eq {x y : V} (ha : Gv δ M ta da) (hb : Gv δ M tb db) (h1 : flV da = some x) (h2 : flV db = some y) (hs : scal x y = true) : Gv δ M (tOp rEq ta tb) (.bool (decide (x = y))) := fun c G H σ Q A k =>
  ha c G H σ _ A fun G1 H1 v A1 s1 r1 => hb c G1 H1 σ _ A1 fun G2 H2 w A2 s2 r2 => by
    rw [r1.fl h1, r2.fl h2]
    exact ⟨hs, k G2 H2 _ A2 (s1.trans s2) (.bl _)⟩
theorem g_ne {x y : V} (ha : Gv δ M ta da) (hb : Gv δ M tb db) (h1 : flV da = some x) (h2 : flV db = some y) (hs : scal x y = true) : Gv δ M (tOp rNe ta tb) (.bool (!decide (x = y))) := fun c G H σ Q A k =>
  ha c G H σ _ A fun G1 H1 v A1 s1 r1 => hb c G1 H1 σ _ A1 fun G2 H2 w A2 s2 r2 => by
    rw [r1.fl h1, r2.fl h2]
    exact ⟨hs, k G2 H2 _ A2 (s1.trans s2) (.bl _)⟩
theorem dec_ii {i j : Int} : decide (V.int i = V.int j) = decide (i = j) := by simp
theorem g_eqI {i j : Int} (ha : Gv δ M ta (.int i)) (hb : Gv δ M tb (.int j)) : Gv δ M (tOp rEq ta tb) (.bool (decide (i = j))) := (g_eq ha hb rfl rfl rfl).cast (by rw [dec_ii])
theorem g_neI {i j : Int} (ha : Gv δ M ta (.int i)) (hb : Gv δ M tb (.int j)) : Gv δ M (tOp rNe ta tb) (.bool (!decide (i = j))) := (g_ne ha hb rfl rfl rfl).cast (by rw [dec_ii])
/-- == of data -/
theorem g_eqD (ha : Gv δ M ta da) (hb : Gv δ M tb db) (h1 : SeqAt.shaped da = true) (h2 : SeqAt.shaped db = true) : Gv δ M (tOp (rEqD K) ta tb) (.bool (PyData.eqv da db)) := fun c G H σ Q A k =>
  ha c G H σ _ A fun G1 H1 v A1 s1 r1 => hb c G1 H1 σ _ A1 fun G2 H2 w A2 s2 r2 =>
    ⟨da, db, (r1.up s2).dp A2.gh, r2.dp A2.gh, h1, h2, k G2 H2 _ A2 (s1.trans s2) (.bl _)⟩
theorem g_neD (ha : Gv δ M ta da) (hb : Gv δ M tb db) (h1 : SeqAt.shaped da = true) (h2 : SeqAt.shaped db = true) : Gv δ M (tOp (rNeD K) ta tb) (.bool (!PyData.eqv da db)) := fun c G H σ Q A k =>
  ha c G H σ _ A fun G1 H1 v A1 s1 r1 => hb c G1 H1 σ _ A1 fun G2 H2 w A2 s2 r2 =>
    ⟨da, db, (r1.up s2).dp A2.gh, r2.dp A2.gh, h1, h2, k G2 H2 _ A2 (s1.trans s2) (.bl _)⟩
/-- x in xs: xs a list or a tuple of flat data -/
def flAll (ds : List PyData) : Option (List V) := ds.mapM flV
theorem RepA.fl {G : Hp} {vs xs : List V} {ds : List PyData} (r : RepA G vs ds) (h : flAll ds = some xs) : vs = xs := by
  unfold flAll at h
  induction ds generalizing vs xs with
  | nil =>
    cases r
    simp at h
    exact h.symm
  | cons d ds ih =>
    cases r with
    | cons a b =>
      rw [List.mapM_cons] at h
      cases h1 : flV d with
      | none => rw [h1] at h; simp at h
      | some x =>
        cases h2 : ds.mapM flV with
        | none => rw [h1, h2] at h; simp at h
        | some ys =>
          rw [h1, h2] at h
          simp at h
          rw [← h, a.fl h1, ih b h2]
theorem g_in {x : V} {xs : List V} (ha : Gv δ M ta da) (hb : Gv δ M tb db) (hq : seqOf db = some ds) (h1 : flV da = some x) (h2 : flAll ds = some xs) (h3 : flatV x = true) (h4 : xs.all flatV = true) :
    Gv δ M (tOp (rIn K false) ta tb) (.bool (inV x xs)) := fun c G H σ Q A k =>
  ha c G H σ _ A fun G1 H1 v A1 s1 r1 => hb c G1 H1 σ _ A1 fun G2 H2 w A2 s2 r2 => by
    obtain ⟨p, ys, rfl, hs, ra, _⟩ := r2.seq (K := K) A2.gh hq
    rw [ra.fl h2] at hs
    rw [r1.fl h1]
    exact ⟨p, xs, rfl, hs, h3, h4, k G2 H2 _ A2 (s1.trans s2) (.bl _)⟩
theorem g_notin {x : V} {xs : List V} (ha : Gv δ M ta da) (hb : Gv δ M tb db) (hq : seqOf db = some ds) (h1 : flV da = some x) (h2 : flAll ds = some xs) (h3 : flatV x = true) (h4 : xs.all flatV = true) :
    Gv δ M (tOp (rIn K true) ta tb) (.bool (!inV x xs)) := fun c G H σ Q A k =>
  ha c G H σ _ A fun G1 H1 v A1 s1 r1 => hb c G1 H1 σ _ A1 fun G2 H2 w A2 s2 r2 => by
    obtain ⟨p, ys, rfl, hs, ra, _⟩ := r2.seq (K := K) A2.gh hq
    rw [ra.fl h2] at hs
    rw [r1.fl h1]
    exact ⟨p, xs, rfl, hs, h3, h4, k G2 H2 _ A2 (s1.trans s2) (.bl _)⟩
theorem flAll_ints (ns : List Int) : flAll (ns.map PyData.int) = some (ns.map V.int) := by
  unfold flAll
  induction ns with
  | nil => rfl
  | cons n ns ih =>
    rw [List.map_cons, List.mapM_cons, ih]
    rfl
theorem flat_ints (ns : List Int) : (ns.map V.int).all flatV = true := by
  rw [List.all_eq_true]
  intro x hx
  obtain ⟨n, _, rfl⟩ := List.mem_map.mp hx
  rfl
theorem inV_ints (n : Int) (ns : List Int) : inV (.int n) (ns.map V.int) = decide (n ∈ ns) := by
  rw [Bool.eq_iff_iff]
  unfold inV
  simp only [List.any_eq_true, List.mem_map, decide_eq_true_eq]
  constructor
  · rintro ⟨y, ⟨m, hm, rfl⟩, h⟩
    have e : m = n := by simpa [eqV] using h
    rw [← e]; exact hm
  · intro h
    exact ⟨_, ⟨n, h, rfl⟩, by simp [eqV]⟩
theorem g_inI {n : Int} {ns : List Int} (ha : Gv δ M ta (.int n)) (hb : Gv δ M tb db) (hq : seqOf db = some (ns.map PyData.int)) : Gv δ M (tOp (rIn K false) ta tb) (.bool (decide (n ∈ ns))) :=
  (g_in ha hb hq rfl (flAll_ints ns) rfl (flat_ints ns)).cast (by rw [inV_ints])
theorem g_notinI {n : Int} {ns : List Int} (ha : Gv δ M ta (.int n)) (hb : Gv δ M tb db) (hq : seqOf db = some (ns.map PyData.int)) : Gv δ M (tOp (rIn K true) ta tb) (.bool (!decide (n ∈ ns))) :=
  (g_notin ha hb hq rfl (flAll_ints ns) rfl (flat_ints ns)).cast (by rw [inV_ints])
/-- is None -/
theorem g_isN (ha : Gv δ M ta da) : Gv δ M (tIsN ta) (.bool (isNone da)) := fun c G H σ Q A k =>
  ha c G H σ _ A fun G1 H1 v A1 s1 r1 => by
    refine k G1 H1 _ A1 s1 ?_
    cases r1 <;> exact .bl _
theorem g_notN (ha : Gv δ M ta da) : Gv δ M (tNotN ta) (.bool (!isNone da)) := fun c G H σ Q A k =>
  ha c G H σ _ A fun G1 H1 v A1 s1 r1 => by
    refine k G1 H1 _ A1 s1 ?_
    cases r1 <;> exact .bl _
/-! ### and, or, not, if -/
theorem g_and {a b : Bool} (ha : Gv δ M ta (.bool a)) (hb : a = true → Gv δ M tb (.bool b)) : Gv δ M (tAndV ta tb) (.bool (a && b)) := fun c G H σ Q A k =>
  ha c G H σ _ A fun G1 H1 v A1 s1 r1 => ⟨a, r1.blV, by
    cases a with
    | true => exact iteT (hb rfl c G1 H1 σ _ A1 fun G2 H2 w A2 s2 r2 => k G2 H2 w A2 (s1.trans s2) r2)
    | false => exact iteF (k G1 H1 _ A1 s1 (.bl _))⟩
theorem g_or {a b : Bool} (ha : Gv δ M ta (.bool a)) (hb : a = false → Gv δ M tb (.bool b)) : Gv δ M (tOrV ta tb) (.bool (a || b)) := fun c G H σ Q A k =>
  ha c G H σ _ A fun G1 H1 v A1 s1 r1 => ⟨a, r1.blV, by
    cases a with
    | true => exact iteT (k G1 H1 _ A1 s1 (.bl _))
    | false => exact iteF (hb rfl c G1 H1 σ _ A1 fun G2 H2 w A2 s2 r2 => k G2 H2 w A2 (s1.trans s2) r2)⟩
theorem g_not {a : Bool} (ha : Gv δ M ta (.bool a)) : Gv δ M (tNotV ta) (.bool (!a)) := fun c G H σ Q A k =>
  ha c G H σ _ A fun G1 H1 v A1 s1 r1 => ⟨a, r1.blV, k G1 H1 _ A1 s1 (.bl _)⟩
theorem g_if {t : TT} {b : Bool} (ht : Gt δ M t b) (ha : b = true → Gv δ M ta d) (hb : b = false → Gv δ M tb d) : Gv δ M (tIf t ta tb) d := fun c G H σ Q A k =>
  ht c G H σ _ A fun G1 H1 A1 s1 => by
    cases b with
    | true => exact iteT (ha rfl c G1 H1 σ _ A1 fun G2 H2 w A2 s2 r2 => k G2 H2 w A2 (s1.trans s2) r2)
    | false => exact iteF (hb rfl c G1 H1 σ _ A1 fun G2 H2 w A2 s2 r2 => k G2 H2 w A2 (s1.trans s2) r2)
theorem gt_test {b : Bool} (ha : Gv δ M ta (.bool b)) : Gt δ M (tTest ta) b := fun c G H σ Q A k =>
  ha c G H σ _ A fun G1 H1 v A1 s1 r1 => ⟨b, r1.blV, k G1 H1 A1 s1⟩
theorem gt_b {b : Bool} (ha : Gv δ M ta (.bool b)) : Gt δ M (tB ta) b := fun c G H σ Q A k =>
  ha c G H σ _ A fun G1 H1 v A1 s1 r1 => ⟨b, r1.blV, k G1 H1 A1 s1⟩
theorem gt_not {t : TT} {b : Bool} (ht : Gt δ M t b) : Gt δ M (tNot t) (!b) := fun c G H σ Q A k => ht c G H σ _ A fun G1 H1 A1 s1 => k G1 H1 A1 s1
theorem gt_and {t u : TT} {a b : Bool} (ht : Gt δ M t a) (hu : a = true → Gt δ M u b) : Gt δ M (tAnd t u) (a && b) := fun c G H σ Q A k =>
  ht c G H σ _ A fun G1 H1 A1 s1 => by
    cases a with
    | true => exact iteT (hu rfl c G1 H1 σ _ A1 fun G2 H2 A2 s2 => k G2 H2 A2 (s1.trans s2))
    | false => exact iteF (k G1 H1 A1 s1)
theorem gt_or {t u : TT} {a b : Bool} (ht : Gt δ M t a) (hu : a = false → Gt δ M u b) : Gt δ M (tOr t u) (a || b) := fun c G H σ Q A k =>
  ht c G H σ _ A fun G1 H1 A1 s1 => by
    cases a with
    | true => exact iteT (k G1 H1 A1 s1)
    | false => exact iteF (hu rfl c G1 H1 σ _ A1 fun G2 H2 A2 s2 => k G2 H2 A2 (s1.trans s2))
theorem gt_yes : Gt δ M tYes true := fun c G H σ Q A k => k G H A (.refl _)
theorem Gt.cast {t : TT} {a b : Bool} (h : Gt δ M t a) (e : a = b) : Gt δ M t b := e ▸ h
/-! ### argument lists, displays -/
theorem ga_nil : Ga δ M tNil [] := fun c G H σ Q A k => k G H [] A (.refl _) .nil
theorem ga_cons {tr : TA} (ha : Gv δ M ta d) (hr : Ga δ M tr ds) : Ga δ M (tCons ta tr) (d :: ds) := fun c G H σ Q A k =>
  ha c G H σ _ A fun G1 H1 v A1 s1 r1 => hr c G1 H1 σ _ A1 fun G2 H2 vs A2 s2 r2 => k G2 H2 _ A2 (s1.trans s2) (.cons (r1.up s2) r2)
theorem Ga.one {t : TA} {d : PyData} {Q : List V → Hp → Prop} {c : Ct} {G H : Hp} {σ : L2.St} (h : Ga δ M t [d]) (A : At c δ M G H σ) (k : ∀ G' H' v, At c δ M G' H' σ → Same G G' → Rep G' v d → Q [v] H') : t σ H Q :=
  h c G H σ Q A fun G1 H1 vs A1 s1 r1 => by
    cases r1 with
    | cons a b =>
      cases b
      exact k G1 H1 _ A1 s1 a
/-- a new list, a new tuple -/
theorem at_newL {c : Ct} {G H : Hp} {σ : L2.St} (A : At c δ M G H σ) {p : Addr} (n : H p = none) {xs : List V} (hl : ds.length ≤ 100000) (r : RepA G xs ds) :
    At c δ M (upd G p (.lst xs)) (upd H p (.lst xs)) σ ∧ Same G (upd G p (.lst xs)) ∧ Rep (upd G p (.lst xs)) (.ref p) (.list ds) := by
  have e := Ev.new (S := []) (o := .lst xs) A.gh n
  exact ⟨A.ext e, e.gg, .lst upd_same hl (r.up e.gg)⟩
theorem at_newT {c : Ct} {G H : Hp} {σ : L2.St} (A : At c δ M G H σ) {p : Addr} (n : H p = none) {xs : List V} (hl : ds.length ≤ 100000) (r : RepA G xs ds) :
    At c δ M (upd G p (.tup xs)) (upd H p (.tup xs)) σ ∧ Same G (upd G p (.tup xs)) ∧ Rep (upd G p (.tup xs)) (.ref p) (.tuple ds) := by
  have e := Ev.new (S := []) (o := .tup xs) A.gh n
  exact ⟨A.ext e, e.gg, .tup upd_same hl (r.up e.gg)⟩
theorem g_tup {t : TA} (h : Ga δ M t ds) (hl : ds.length ≤ 100000) : Gv δ M (tTup t) (.tuple ds) := fun c G H σ Q A k =>
  h c G H σ _ A fun G1 H1 vs A1 s1 r1 => ⟨by rw [r1.length]; exact lim_size hl, fun p n => by
    obtain ⟨A2, s2, r2⟩ := at_newT A1 n hl r1
    exact k _ _ _ A2 (s1.trans s2) r2⟩
theorem g_lst {t : TA} (h : Ga δ M t ds) (hl : ds.length ≤ 100000) : Gv δ M (tLst t) (.list ds) := fun c G H σ Q A k =>
  h c G H σ _ A fun G1 H1 vs A1 s1 r1 => ⟨by rw [r1.length]; exact lim_size hl, fun p n => by
    obtain ⟨A2, s2, r2⟩ := at_newL A1 n hl r1
    exact k _ _ _ A2 (s1.trans s2) r2⟩
/-! ### items -/
theorem g_ix {n : Nat} (ha : Gv δ M ta da) (hb : Gv δ M tb (.int (n : Int))) (hq : seqOf da = some ds) (h : ds[n]? = some d) : Gv δ M (tOp (rIx K) ta tb) d := fun c G H σ Q A k =>
  ha c G H σ _ A fun G1 H1 v A1 s1 r1 => hb c G1 H1 σ _ A1 fun G2 H2 w A2 s2 r2 => by
    obtain ⟨p, ys, rfl, hs, ra, _⟩ := (r1.up s2).seq (K := K) A2.gh hq
    obtain ⟨x, hx, rx⟩ := ra.get h
    rw [r2.intV]
    have q := k G2 H2 x A2 (s1.trans s2) rx
    rcases hs with hs | hs
    · exact .inl ⟨p, ys, _, x, rfl, rfl, hs, atI_nat hx, q⟩
    · exact .inr (.inl ⟨p, ys, _, x, rfl, rfl, hs, atI_nat hx, q⟩)
theorem g_ixI {i : Int} {n : Nat} (ha : Gv δ M ta da) (hb : Gv δ M tb (.int i)) (e : i = (n : Int)) (hq : seqOf da = some ds) (h : ds[n]? = some d) : Gv δ M (tOp (rIx K) ta tb) d := g_ix ha (e ▸ hb) hq h
theorem g_ixLast (ha : Gv δ M ta da) (hb : Gv δ M tb (.int (-1))) (hq : seqOf da = some (ds ++ [d])) : Gv δ M (tOp (rIx K) ta tb) d := fun c G H σ Q A k =>
  ha c G H σ _ A fun G1 H1 v A1 s1 r1 => hb c G1 H1 σ _ A1 fun G2 H2 w A2 s2 r2 => by
    obtain ⟨p, ys, rfl, hs, ra, _⟩ := (r1.up s2).seq (K := K) A2.gh hq
    have hn : (ds ++ [d])[ds.length]? = some d := by simp
    obtain ⟨x, hx, rx⟩ := ra.get hn
    have hl := ra.length
    rw [List.length_append] at hl
    have ey : ys = ys.take ds.length ++ [x] := by
      have e1 := (List.take_append_drop ds.length ys).symm
      have e2 : ys.drop ds.length = [x] := by
        rw [List.drop_eq_getElem_cons (by simp at hl; omega)]
        rw [List.getElem?_eq_getElem (by simp at hl; omega)] at hx
        rw [Option.some.inj hx, List.drop_eq_nil_of_le (by simp at hl; omega)]
      rw [e2] at e1
      exact e1
    rw [r2.intV]
    have q := k G2 H2 x A2 (s1.trans s2) rx
    have at1 : atI ys (-1) = some x := by rw [ey]; exact atI_last _ _
    rcases hs with hs | hs
    · exact .inl ⟨p, ys, _, x, rfl, rfl, hs, at1, q⟩
    · exact .inr (.inl ⟨p, ys, _, x, rfl, rfl, hs, at1, q⟩)
/-! ### calls -/
/-- a def of data, that changes nothing and raises nothing -/
def spD (dom : List PyData → Prop) (f : List PyData → PyData) : Sp := fun vs H Q _ => ∃ G ds, Same G H ∧ RepA G vs ds ∧ dom ds ∧ ∀ G' H' v, Ev [] G H G' H' → Rep G' v (f ds) → Q v H'
theorem g_call {dom : List PyData → Prop} {f : List PyData → PyData} {t : TA} {E : XK} (h : Ga δ M t ds) (hd : dom ds) : Gv δ M (tCall (spD dom f) [] E t) (f ds) := fun c G H σ Q A k =>
  h c G H σ _ A fun G1 H1 vs A1 s1 r1 => by
    rw [List.append_nil]
    exact ⟨G1, ds, A1.gh, r1, hd, fun G' H' v e r => k G' H' v (A1.ext e) (s1.trans e.gg) r⟩
/-- .. by a promise that raises, on a way that does not -/
def kLen (K : PySem.W.Frag) : List V → Hp → VK → Prop := fun xs H Q => ∃ p ys, xs = [.ref p] ∧ (SqL K H p ys ∨ SqT K H p ys) ∧ Q (.int ys.length) H
theorem c_len {X : Cx} : CallR X (.builtin "len") (kLen X.K) := call_len_seq
theorem g_len {t : TA} (h : Ga δ M t [d]) (hq : seqOf d = some ds) : Gv δ M (tCB (kLen K) t) (.int ds.length) := fun c G H σ Q A k =>
  h.one A fun G1 H1 v A1 s1 r1 => by
    obtain ⟨p, ys, rfl, hs, ra, _⟩ := r1.seq (K := K) A1.gh hq
    refine ⟨p, ys, rfl, hs, ?_⟩
    rw [ra.length]
    exact k G1 H1 _ A1 s1 (.int _)
def kTupOf (K : PySem.W.Frag) : List V → Hp → VK → Prop := fun xs H Q => ∃ p ys, xs = [.ref p] ∧ ((SqL K H p ys ∧ ∀ l, H l = none → Q (.ref l) (upd H l (.tup ys))) ∨ (SqT K H p ys ∧ Q (.ref p) H))
theorem c_tupOf {X : Cx} : CallR X (.type "tuple") (kTupOf X.K) := call_tuple_of
theorem g_tupOf {t : TA} (h : Ga δ M t [d]) (hq : seqOf d = some ds) : Gv δ M (tCB (kTupOf K) t) (.tuple ds) := fun c G H σ Q A k =>
  h.one A fun G1 H1 v A1 s1 r1 => by
    cases r1 with
    | @lst a xs es e z ra =>
      cases hq
      refine ⟨a, xs, rfl, .inl ⟨SqL.of (A1.gh _ _ e), fun l n => ?_⟩⟩
      obtain ⟨A2, s2, r2⟩ := at_newT A1 n z ra
      exact k _ _ _ A2 (s1.trans s2) r2
    | @tup a xs es e z ra =>
      cases hq
      exact ⟨a, xs, rfl, .inr ⟨SqT.of (A1.gh _ _ e), k G1 H1 _ A1 s1 (.tup e z ra)⟩⟩
    | non => cases hq
    | bl _ => cases hq
    | int _ => cases hq
    | str _ => cases hq
def kLstOf (K : PySem.W.Frag) : List V → Hp → VK → Prop := fun xs H Q => ∃ p ys, xs = [.ref p] ∧ (SqL K H p ys ∨ SqT K H p ys) ∧ ∀ l, H l = none → Q (.ref l) (upd H l (.lst ys))
theorem c_lstOf {X : Cx} : CallR X (.type "list") (kLstOf X.K) := call_list_of
theorem g_lstOf {t : TA} (h : Ga δ M t [d]) (hq : seqOf d = some ds) : Gv δ M (tCB (kLstOf K) t) (.list ds) := fun c G H σ Q A k =>
  h.one A fun G1 H1 v A1 s1 r1 => by
    obtain ⟨p, ys, rfl, hs, ra, z⟩ := r1.seq (K := K) A1.gh hq
    refine ⟨p, ys, rfl, hs, fun l n => ?_⟩
    obtain ⟨A2, s2, r2⟩ := at_newL A1 n z ra
    exact k _ _ _ A2 (s1.trans s2) r2
theorem g_all {bs : List Bool} {t : TA} (h : Ga δ M t [.list (bs.map PyData.bool)]) : Gv δ M (tCB (rAll K) t) (.bool (bs.all id)) := fun c G H σ Q A k =>
  h.one A fun G1 H1 v A1 s1 r1 => by
    cases r1 with
    | @lst a xs es e z ra =>
      have q := ra.of_bools
      subst q
      exact ⟨a, bs, rfl, SqL.of (A1.gh _ _ e), k G1 H1 _ A1 s1 (.bl _)⟩
theorem g_sum {ns : List Int} {t : TA} (h : Ga δ M t [.list (ns.map PyData.int)]) : Gv δ M (tCB (rSum K) t) (.int ns.sum) := fun c G H σ Q A k =>
  h.one A fun G1 H1 v A1 s1 r1 => by
    cases r1 with
    | @lst a xs es e z ra =>
      have q := ra.of_ints
      subst q
      exact ⟨a, ns, rfl, SqL.of (A1.gh _ _ e), k G1 H1 _ A1 s1 (.int _)⟩
/-- int(n), abs(n) -/
def kInt : List V → Hp → VK → Prop := fun xs H Q => (∃ i, xs = [.int i] ∧ Q (.int i) H) ∨ ∃ k, xs = [.bl k] ∧ Q (.int (if k then 1 else 0)) H
theorem c_int {X : Cx} : CallR X (.type "int") kInt := call_int1
theorem g_intOf {i : Int} {t : TA} (h : Ga δ M t [.int i]) : Gv δ M (tCB kInt t) (.int i) := fun c G H σ Q A k =>
  h.one A fun G1 H1 v A1 s1 r1 => .inl ⟨i, by rw [r1.intV], k G1 H1 _ A1 s1 (.int _)⟩
def kAbs : List V → Hp → VK → Prop := fun xs H Q => ∃ i, xs = [.int i] ∧ Q (.int (if i < 0 then -i else i)) H
theorem c_abs {X : Cx} : CallR X (.builtin "abs") kAbs := call_abs
theorem g_abs {i : Int} {t : TA} (h : Ga δ M t [.int i]) : Gv δ M (tCB kAbs t) (.int (if i < 0 then -i else i)) := fun c G H σ Q A k =>
  h.one A fun G1 H1 v A1 s1 r1 => ⟨i, by rw [r1.intV], k G1 H1 _ A1 s1 (.int _)⟩
/-! ### isinstance -/
/-- a datum's type -/
def tyD : PyData → String
  | .none => "NoneType"
  | .bool _ => "bool"
  | .int _ => "int"
  | .str _ => "str"
  | .list _ => "list"
  | .tuple _ => "tuple"
  | .dict _ => "dict"
theorem Rep.tyX {G H : Hp} {v : V} {d : PyData} (e : Same G H) (r : Rep G v d) : TyX K H v (.type (tyD d)) := by
  cases r with
  | non => exact .base .non
  | bl b => exact .base (.bl b)
  | int i => exact .base (.int i)
  | str x => exact .base (.str x)
  | lst a z b => exact .base (.lst (e _ _ a))
  | tup a z b => exact .base (.tup (e _ _ a))
end
end Od
set_option Elab.async false
set_option linter.all false
set_option autoImplicit false
set_option maxRecDepth 100000
set_option maxHeartbeats 2000000
/-! D3: what is walked, comprehensions, slices, sums of lists, isinstance. -/
namespace Od
open PySem PySem.Spec L2
theorem getElem?_idx {α : Type} {l : List α} {i : Nat} {x y : α} (a : l[i]? = some x) (b : l[i]? = some y) : x = y := Option.some.inj (a.symm.trans b)
theorem take_snoc {α : Type} {l : List α} {i : Nat} {x : α} (h : l[i]? = some x) : l.take (i + 1) = l.take i ++ [x] := by
  rw [List.take_add_one, h]
  rfl

/-! ### an own object is changed -/
section
variable {c : Ct} {δ δ' : List Sl} {M M' : Mem} {G G' H H' : Hp} {σ σ' : L2.St}
theorem map_fst_set : ∀ {M : Mem} {k : Nat} {p : Addr} {o : MO}, (M.map (·.1))[k]? = some p → (M.set k (p, o)).map (·.1) = M.map (·.1)
  | [], _, _, _, _ => rfl
  | (q, x) :: r, 0, p, o, h => by
    have e : q = p := Option.some.inj h
    subst e
    rfl
  | (q, x) :: r, k + 1, p, o, h => by
    show q :: (r.set k (p, o)).map (·.1) = q :: r.map (·.1)
    rw [map_fst_set (M := r) (k := k) h]
theorem At.write (A : At c δ M G H σ) {k : Nat} {p : Addr} {o o' : MO} {u : HO} (hm : M[k]? = some (p, o)) (ok : MOk G o' u) (hro : o.ro = false := by rfl) : At c δ (M.set k (p, o')) G (upd H p u) σ := by
  have hk : (M.map (·.1))[k]? = some p := by rw [List.getElem?_map, hm]; rfl
  obtain ⟨hg, hs, u0, hu0, _⟩ := A.mem p o (List.mem_of_getElem? hm)
  have hs : p ∈ c.S ∨ c.H0 p = none := by
    rcases hs with z | z | z
    · exact .inl z
    · exact .inr z
    · rw [hro] at z; cases z
  have gne : ∀ b x, G b = some x → b ≠ p := fun b x e z => by rw [z, hg] at e; cases e
  refine ⟨⟨A.ev.gg, fun b x e => by rw [upd_ne (gne b x e)]; exact A.gh b x e, A.ev.old, fun b x e n => ?_, fun b x e => ?_⟩, A.lo, A.len, A.sl, fun q x hq => ?_, by rw [map_fst_set hk]; exact A.nd, A.sdom⟩
  · by_cases hb : b = p
    · subst hb
      rcases hs with z | z
      · exact absurd z n
      · rw [e] at z; cases z
    · rw [upd_ne hb]; exact A.ev.keep b x e n
  · by_cases hb : b = p
    · exact ⟨u, by rw [hb]; exact upd_same⟩
    · obtain ⟨y, hy⟩ := A.ev.dom b x e
      exact ⟨y, by rw [upd_ne hb]; exact hy⟩
  · by_cases hqp : q = p
    · subst hqp
      refine ⟨hg, hs.elim .inl (fun z => .inr (.inl z)), u, upd_same, ?_⟩
      -- the entry is the new one
      obtain ⟨j, hj⟩ := List.getElem?_of_mem hq
      have nd' : ((M.set k (q, o')).map (·.1)).Nodup := by rw [map_fst_set hk]; exact A.nd
      have h1 : ((M.set k (q, o')).map (·.1))[j]? = some q := by rw [List.getElem?_map, hj]; rfl
      have h2 : ((M.set k (q, o')).map (·.1))[k]? = some q := by rw [map_fst_set hk]; exact hk
      have ejk : j = k := nd_ix nd' h1 h2
      subst ejk
      rw [List.getElem?_set_self (List.getElem?_eq_some_iff.mp hm).1] at hj
      have z := (Prod.mk.inj (Option.some.inj hj)).2
      rw [← z]; exact ok
    · have hq' : (q, x) ∈ M := by
        rcases List.mem_or_eq_of_mem_set hq with z | z
        · exact z
        · exact absurd (Prod.mk.inj z).1 hqp
      obtain ⟨a, b, y, hy, oky⟩ := A.mem q x hq'
      exact ⟨a, b, y, by rw [upd_ne hqp]; exact hy, oky⟩
/-- an own list becomes a datum -/
theorem At.freeze (A : At c δ M G H σ) {k : Nat} {p : Addr} {ds : List PyData} (hm : M[k]? = some (p, .lst ds)) (h0 : c.H0 p = none) : ∃ xs, H p = some (.lst xs) ∧ At c δ (M.eraseIdx k) (upd G p (.lst xs)) H σ ∧ Same G (upd G p (.lst xs)) ∧ Rep (upd G p (.lst xs)) (.ref p) (.list ds) := by
  obtain ⟨hg, hs, u, hu, xs, rfl, ra, hl⟩ := A.mem p _ (List.mem_of_getElem? hm)
  have sm : Same G (upd G p (.lst xs)) := fun b x e => by rw [upd_ne (fun z => by rw [z, hg] at e; cases e)]; exact e
  have hk : (M.map (·.1))[k]? = some p := by rw [List.getElem?_map, hm]; rfl
  refine ⟨xs, hu, ⟨⟨A.ev.gg.trans sm, fun b x e => ?_, fun b x e => ?_, A.ev.keep, A.ev.dom⟩, A.lo.trans sm, A.len, fun i s h => (A.sl i s h).up sm, fun q x hq => ?_, ?_, A.sdom⟩, sm, .lst upd_same hl (ra.up sm)⟩
  · by_cases hb : b = p
    · subst hb; rw [upd_same] at e; cases e; exact hu
    · rw [upd_ne hb] at e; exact A.gh b x e
  · rw [upd_ne (fun z => by rw [z, h0] at e; cases e)]
    exact A.ev.old b x e
  · have hq' : (q, x) ∈ M := List.mem_of_mem_eraseIdx hq
    obtain ⟨a, b, y, hy, oky⟩ := A.mem q x hq'
    have hqp : q ≠ p := fun z => by
      subst z
      obtain ⟨j, hj⟩ := List.getElem?_of_mem hq
      rw [List.getElem?_eraseIdx] at hj
      by_cases hjk : j < k
      · rw [if_pos hjk] at hj
        have h1 : (M.map (·.1))[j]? = some q := by rw [List.getElem?_map, hj]; rfl
        have := nd_ix A.nd h1 hk
        omega
      · rw [if_neg hjk] at hj
        have h1 : (M.map (·.1))[j + 1]? = some q := by rw [List.getElem?_map, hj]; rfl
        have := nd_ix A.nd h1 hk
        omega
    exact ⟨by rw [upd_ne hqp]; exact a, b, y, hy, oky.up sm⟩
  · exact (List.Sublist.map _ (List.eraseIdx_sublist M k)).nodup A.nd
/-- other slots, over later heaps -/
theorem At.slots {c' : Ct} (A : At c δ' M G H σ') (B : At c' δ M' G' H' σ) (e : Same G' G) : At c δ M G H σ :=
  ⟨A.ev, A.lo, B.len, fun i s h => (B.sl i s h).up e, A.mem, A.nd, A.sdom⟩
theorem At.forgetM (A : At c δ M G H σ) (h : ∀ x ∈ M', x ∈ M) (nd : (M'.map (·.1)).Nodup) : At c δ M' G H σ := ⟨A.ev, A.lo, A.len, A.sl, fun p o hp => A.mem p o (h _ hp), nd, A.sdom⟩
theorem At.tail {x : Addr × MO} (A : At c δ (x :: M) G H σ) : At c δ M G H σ := A.forgetM (fun _ h => List.mem_cons_of_mem _ h) (List.nodup_cons.mp A.nd).2
end

/-! ### targets -/
def Gg (δ : List Sl) (M : Mem) (g : TG) (js : List Nat) (d : PyData) (δ' : List Sl) : Prop := ∀ (c : Ct) (G H : Hp) (σ : L2.St) (v : V) (Q : L2.St → Hp → Prop), At c δ M G H σ → Rep G v d →
  (∀ G' H' σ', At c δ' M G' H' σ' → Same G G' → σ'.length = σ.length → (∀ i, i ∉ js → σ'[i]? = σ[i]?) → Q σ' H') → g v σ H Q
def Ggs (δ : List Sl) (M : Mem) (g : TGs) (js : List Nat) (ds : List PyData) (δ' : List Sl) : Prop := ∀ (c : Ct) (G H : Hp) (σ : L2.St) (vs : List V) (Q : L2.St → Hp → Prop), At c δ M G H σ → RepA G vs ds →
  (∀ G' H' σ', At c δ' M G' H' σ' → Same G G' → σ'.length = σ.length → (∀ i, i ∉ js → σ'[i]? = σ[i]?) → Q σ' H') → g vs σ H Q
section
variable {δ δ1 δ2 : List Sl} {M : Mem} {K : PySem.W.Frag} {d : PyData} {ds : List PyData} {js js1 js2 : List Nat}
theorem gg_name {i : Nat} : Gg δ M (gName i) [i] d (δ.set i (.dat d)) := fun c G H σ v Q A r k =>
  k G H _ (A.set ⟨v, rfl, r⟩) (.refl _) (by rw [List.length_set]) fun j hj => by
    rw [List.getElem?_set_ne]
    intro e
    exact hj (by simp [e])
theorem ggs_nil : Ggs δ M gNil [] [] δ := fun c G H σ vs Q A r k => by
  cases r
  exact ⟨rfl, k G H σ A (.refl _) rfl fun _ _ => rfl⟩
theorem ggs_cons {g : TG} {gs : TGs} (h1 : Gg δ M g js1 d δ1) (h2 : Ggs δ1 M gs js2 ds δ2) : Ggs δ M (gCons g gs) (js1 ++ js2) (d :: ds) δ2 := fun c G H σ vs Q A r k => by
  cases r with
  | @cons v vs _ _ a b =>
    refine ⟨v, vs, rfl, h1 c G H σ v _ A a fun G1 H1 σ1 A1 s1 l1 e1 => h2 c G1 H1 σ1 vs _ A1 (b.up s1) fun G2 H2 σ2 A2 s2 l2 e2 => k G2 H2 σ2 A2 (s1.trans s2) (l2.trans l1) fun i hi => ?_⟩
    rw [List.mem_append, not_or] at hi
    exact (e2 i hi.2).trans (e1 i hi.1)
theorem gg_tup {gs : TGs} {n : Nat} (h : Ggs δ M gs js ds δ1) (hn : ds.length = n) : Gg δ M (gTup K n gs) js (.tuple ds) δ1 := fun c G H σ v Q A r k => by
  cases r with
  | @tup a xs _ e z ra => exact ⟨a, xs, rfl, SqT.of (A.gh _ _ e), ra.length.trans hn, h c G H σ xs Q A ra k⟩
end
/-- the slots of own names forgotten -/
def wipeS (δ : List Sl) : List Nat → List Sl
  | [] => δ
  | v :: vs => (wipeS δ vs).set v .any
theorem At.wipe {c : Ct} {δ : List Sl} {M : Mem} {G H : Hp} {σ : L2.St} (A : At c δ M G H σ) : ∀ vs : List Nat, At c (wipeS δ vs) M G H (L2.wipe σ vs)
  | [] => A
  | v :: vs => by
    have B := At.wipe A vs
    refine ⟨B.ev, B.lo, by show (List.set _ _ _).length = (List.set _ _ _).length; rw [List.length_set, List.length_set]; exact B.len, fun i s h => ?_, B.mem, B.nd, B.sdom⟩
    have h : ((wipeS δ vs).set v .any)[i]? = some s := h
    show SlOk G s ((L2.wipe σ vs).set v none)[i]?
    by_cases e : v = i
    · subst e
      by_cases hl : v < (wipeS δ vs).length
      · rw [List.getElem?_set_self hl] at h
        cases h
        trivial
      · rw [List.getElem?_eq_none (by rw [List.length_set]; omega)] at h
        cases h
    · rw [List.getElem?_set_ne e] at h ⊢
      exact B.sl i s h
theorem wipe_same {σ σ' : L2.St} : ∀ {vs : List Nat}, σ'.length = σ.length → (∀ i, i ∉ vs → σ'[i]? = σ[i]?) → L2.wipe σ' vs = L2.wipe σ vs := fun {vs} hl h => by
  refine List.ext_getElem? fun i => ?_
  by_cases hi : i ∈ vs
  · have g : ∀ (τ : L2.St) (us : List Nat), i ∈ us → (L2.wipe τ us)[i]? = if i < τ.length then some none else none := by
      intro τ us
      induction us with
      | nil => intro z; cases z
      | cons u us ih =>
        intro z
        show ((L2.wipe τ us).set u none)[i]? = _
        by_cases e : u = i
        · subst e
          by_cases hlt : u < τ.length
          · rw [if_pos hlt, List.getElem?_set_self (by rw [L2.wipe_length]; exact hlt)]
          · rw [if_neg hlt, List.getElem?_eq_none (by rw [List.length_set, L2.wipe_length]; omega)]
        · rw [List.getElem?_set_ne e]
          rcases List.mem_cons.mp z with z | z
          · exact absurd z.symm e
          · exact ih z
    rw [g _ _ hi, g _ _ hi, hl]
  · have g : ∀ (τ : L2.St) (us : List Nat), i ∉ us → (L2.wipe τ us)[i]? = τ[i]? := by
      intro τ us
      induction us with
      | nil => intro _; rfl
      | cons u us ih =>
        intro z
        rw [List.mem_cons, not_or] at z
        show ((L2.wipe τ us).set u none)[i]? = _
        rw [List.getElem?_set_ne (fun e => z.1 e.symm)]
        exact ih z.2
    rw [g _ _ hi, g _ _ hi]
    exact h i hi

/-! ### what is walked -/
/-- the iterator J goes through the data ds, from the ghost heap G on -/
def Wk (J : It) (G : Hp) (ds : List PyData) : Prop := ∀ (i : Nat) (G' H' : Hp), Same G G' → Same G' H' →
  (∀ d, ds[i]? = some d → J.go i H' ∧ ∀ x H'', J.yld i H' x H'' → ∃ G'', Ev [] G' H' G'' H'' ∧ Rep G'' x d) ∧ (i = ds.length → J.stop i H')
def Gi (δ : List Sl) (M : Mem) (wi : TI) (ds : List PyData) : Prop := ∀ (c : Ct) (G H : Hp) (σ : L2.St) (R : It → Hp → Prop), At c δ M G H σ →
  (∀ G' H' J, At c δ M G' H' σ → Same G G' → Wk J G' ds → R J H') → wi σ H R
section
variable {δ : List Sl} {M : Mem} {K : PySem.W.Frag} {tl ta tb : TE} {d da db : PyData} {ds es : List PyData}
theorem wk_list {G : Hp} {a : Addr} {xs : List V} (e : G a = some (.lst xs)) (ra : RepA G xs ds) : Wk (Itl K a) G ds := fun i G' H' s1 s2 => by
  have hq : SqL K H' a xs := SqL.of (s2 _ _ (s1 _ _ e))
  refine ⟨fun d hd => ?_, fun hi => ⟨xs, hq, by rw [ra.length]; omega⟩⟩
  obtain ⟨x, hx, rx⟩ := ra.get hd
  refine ⟨⟨xs, x, hq, hx⟩, fun y H'' hy => ?_⟩
  obtain ⟨e1, e2⟩ := hy
  have := getElem?_idx (e2 xs hq) hx
  subst this e1
  exact ⟨G', .refl s2, rx.up s1⟩
theorem wk_tup {G : Hp} {a : Addr} {xs : List V} (e : G a = some (.tup xs)) (ra : RepA G xs ds) : Wk (Itt K a) G ds := fun i G' H' s1 s2 => by
  have hq : SqT K H' a xs := SqT.of (s2 _ _ (s1 _ _ e))
  refine ⟨fun d hd => ?_, fun hi => ⟨xs, hq, by rw [ra.length]; omega⟩⟩
  obtain ⟨x, hx, rx⟩ := ra.get hd
  refine ⟨⟨xs, x, hq, hx⟩, fun y H'' hy => ?_⟩
  obtain ⟨e1, e2⟩ := hy
  have := getElem?_idx (e2 xs hq) hx
  subst this e1
  exact ⟨G', .refl s2, rx.up s1⟩
/-- a list or a tuple -/
def iSeq (K : PySem.W.Frag) (tl : TE) : TI := fun σ H R => iList K tl σ H R ∨ iTup K tl σ H R
theorem pi_seq {X : Cx} {tg l : Expr} {tl : TE} (hl : PE X l tl) : PI X tg l (iSeq X.K tl) := ⟨fun pins s σ H R I h => h.elim ((pi_list hl).run pins s σ H R I) ((pi_tup hl).run pins s σ H R I)⟩
theorem Gv.to {t : TE} (h : Gv δ M t d) {c : Ct} {G H : Hp} {σ : L2.St} {Q : VK} (A : At c δ M G H σ) (k : ∀ G' H' v, At c δ M G' H' σ → Same G G' → Rep G' v d → Q v H') : t σ H Q := h c G H σ Q A k
theorem gi_seq (h : Gv δ M tl d) (hq : seqOf d = some ds) : Gi δ M (iSeq K tl) ds := fun c G H σ R A k => by
  cases d with
  | list xs =>
    cases hq
    exact .inl (h.to A fun G1 H1 v A1 s1 r1 => by
      cases r1 with
      | @lst a xs _ e z ra => exact ⟨a, rfl, ⟨xs, SqL.of (A1.gh _ _ e)⟩, k G1 H1 _ A1 s1 (wk_list e ra)⟩)
  | tuple xs =>
    cases hq
    exact .inr (h.to A fun G1 H1 v A1 s1 r1 => by
      cases r1 with
      | @tup a xs _ e z ra => exact ⟨a, rfl, ⟨xs, SqT.of (A1.gh _ _ e)⟩, k G1 H1 _ A1 s1 (wk_tup e ra)⟩)
  | none => cases hq
  | bool _ => cases hq
  | int _ => cases hq
  | str _ => cases hq
  | dict _ => cases hq
def rangeD (n : Nat) : List PyData := (List.range n).map fun i => .int (i : Nat)
theorem rangeD_get {n i : Nat} {d : PyData} (h : (rangeD n)[i]? = some d) : i < n ∧ d = .int (i : Nat) := by
  unfold rangeD at h
  rw [List.getElem?_map] at h
  by_cases hi : i < n
  · rw [List.getElem?_range hi] at h
    exact ⟨hi, (Option.some.inj h).symm⟩
  · rw [List.getElem?_eq_none (by simp; omega)] at h
    cases h
theorem rangeD_len (n : Nat) : (rangeD n).length = n := by simp [rangeD]
theorem gi_range {ta : TA} {n : Nat} (h : Ga δ M ta [.int (n : Nat)]) (hn : n ≤ 100000) : Gi δ M (iRng1 ta) (rangeD n) := fun c G H σ R A k =>
  h.one A fun G1 H1 v A1 s1 r1 => by
    have hn' : (n : Int) ≤ 100000 := by omega
    refine ⟨n, by rw [r1.intV], by omega, by omega, k G1 H1 _ A1 s1 fun i G' H' s1 s2 => ⟨fun d hd => ?_, fun hi => ?_⟩⟩
    · obtain ⟨hi, rfl⟩ := rangeD_get hd
      refine ⟨by show i < (n : Int).toNat; omega, fun x H'' hy => ?_⟩
      obtain ⟨rfl, rfl⟩ := hy
      refine ⟨G', .refl s2, ?_⟩
      have e : (0 : Int) + (i : Nat) = (i : Nat) := by omega
      rw [e]
      exact .int _
    · rw [rangeD_len] at hi
      show (n : Int).toNat ≤ i
      omega
/-! ### list comprehensions -/
theorem g_lc {wi : TI} {g : TG} {tt : TT} {te : TE} {vs : List Nat} {δ' : PyData → List Sl} (p : PyData → Bool) (f : PyData → PyData) (hi : Gi δ M wi ds) (hl : ds.length ≤ 100000)
    (hg : ∀ x d, d ∈ ds → Gg (wipeS δ vs) (x :: M) g vs d (δ' d)) (ht : ∀ x d, d ∈ ds → Gt (δ' d) (x :: M) tt (p d)) (he : ∀ x d, d ∈ ds → p d = true → Gv (δ' d) (x :: M) te (f d)) :
    Gv δ M (tLc wi g tt te vs) (.list ((ds.filter p).map f)) := fun c G H σ Q A k =>
  hi c G H σ _ A fun G0 H0 J A0 s0 wk => fun D nD => by
    have res : ∀ i, ((((ds.take i).filter p).map f)).length ≤ 100000 := fun i => by
      rw [List.length_map]
      refine Nat.le_trans (List.length_filter_le _ _) (Nat.le_trans ?_ hl)
      rw [List.length_take]
      omega
    refine ⟨fun i m H' => m = ds.length - i ∧ i ≤ ds.length ∧ ∃ G', At c δ ((D, .lst (((ds.take i).filter p).map f)) :: M) G' H' σ ∧ Same G0 G', ⟨ds.length, rfl, Nat.zero_le _, G0, A0.lay nD ⟨[], rfl, .nil, by simp⟩, .refl _⟩, ?_⟩
    rintro i m H' ⟨rfl, hil, G', A', s'⟩
    by_cases hlt : i < ds.length
    · have hd : ds[i]? = some ds[i] := List.getElem?_eq_getElem hlt
      have hmem : ds[i] ∈ ds := List.getElem_mem hlt
      obtain ⟨go, yl⟩ := (wk i G' H' s' A'.gh).1 _ hd
      refine .inr ⟨go, fun H'' => ∃ G'', At c δ ((D, .lst (((ds.take (i + 1)).filter p).map f)) :: M) G'' H'' σ ∧ Same G0 G'', fun H'' hN => ⟨ds.length - (i + 1), by omega, rfl, hlt, hN⟩, fun x H1 hy => ?_⟩
      obtain ⟨G1, e1, r1⟩ := yl x H1 hy
      have A1 := (A'.ext e1)
      refine hg _ _ hmem c G1 H1 _ x _ (A1.wipe vs) r1 fun G2 H2 σ2 A2 s2 l2 k2 => ⟨?_, ?_⟩
      · rw [wipe_same l2 k2]
        exact wipe_same (by rw [L2.wipe_length]) fun j hj => L2.wipe_out hj
      · refine ht _ _ hmem c G2 H2 σ2 _ A2 fun G3 H3 A3 s3 => ?_
        have tk : ∀ b, p ds[i] = b → (((ds.take (i + 1)).filter p).map f) = if b = true then ((ds.take i).filter p).map f ++ [f ds[i]] else ((ds.take i).filter p).map f := fun b hb => by
          rw [take_snoc hd, List.filter_append, List.map_append]
          cases b with
          | true => simp [List.filter_cons, hb]
          | false => simp [List.filter_cons, hb]
        cases hb : p ds[i] with
        | true =>
          refine iteT (he _ _ hmem hb c G3 H3 σ2 _ A3 fun G4 H4 y A4 s4 r4 => ?_)
          obtain ⟨hg4, hs4, u, hu, xs, rfl, ra, hl4⟩ := A4.mem D _ (List.mem_cons_self ..)
          refine ⟨xs, hu, by rw [ra.length]; exact lim_lt hl4, G4, ?_, ((s'.trans e1.gg).trans s2).trans (s3.trans s4)⟩
          have r := tk true hb
          rw [if_pos rfl] at r
          have B := A4.write (k := 0) (o' := .lst (((ds.take (i + 1)).filter p).map f)) (u := .lst (xs ++ [y])) rfl ⟨_, rfl, by rw [r]; exact ra.append (.one r4), res _⟩
          exact B.slots A0 (((s'.trans e1.gg).trans s2).trans (s3.trans s4))
        | false =>
          refine iteF ⟨G3, ?_, ((s'.trans e1.gg).trans s2).trans s3⟩
          have r := tk false hb
          rw [if_neg Bool.false_ne_true] at r
          rw [r]
          exact A3.slots A0 (((s'.trans e1.gg).trans s2).trans s3)
    · have ei : i = ds.length := by omega
      subst ei
      refine .inl ⟨(wk _ G' H' s' A'.gh).2 rfl, ?_⟩
      rw [List.take_length] at A'
      obtain ⟨xs, hx, B, sB, rB⟩ := A'.freeze (k := 0) rfl (A0.fresh nD).1
      exact k _ _ _ B ((s0.trans s').trans sB) rB
end
end Od
set_option Elab.async false
set_option linter.all false
set_option autoImplicit false
set_option maxRecDepth 100000
set_option maxHeartbeats 2000000
/-! D4: statements, own lists, what a def promises. -/
namespace Od
open PySem PySem.Spec L2

/-! ### new own lists -/
def Gf (δ : List Sl) (M : Mem) (t : TE) (ds : List PyData) : Prop := ∀ (c : Ct) (G H : Hp) (σ : L2.St) (Q : VK), At c δ M G H σ → (∀ p G' H', c.H0 p = none → At c δ ((p, .lst ds) :: M) G' H' σ → Same G G' → Q (.ref p) H') → t σ H Q
section
variable {δ δ' : List Sl} {M : Mem} {K : PySem.W.Frag} {ta tb te : TE} {d da db : PyData} {ds es : List PyData}
theorem Gf.v (h : Gf δ M ta ds) : Gv δ M ta (.list ds) := fun c G H σ Q A k => h c G H σ Q A fun p G1 H1 h0 A1 s1 => by
  obtain ⟨xs, hx, B, sB, rB⟩ := A1.freeze (k := 0) rfl h0
  exact k _ _ _ B (s1.trans sB) rB
theorem Gf.cast (h : Gf δ M ta ds) (e : ds = es) : Gf δ M ta es := e ▸ h
theorem gf_lst {t : TA} (h : Ga δ M t ds) (hl : ds.length ≤ 100000) : Gf δ M (tLst t) ds := fun c G H σ Q A k =>
  h c G H σ _ A fun G1 H1 vs A1 s1 r1 => ⟨by rw [r1.length]; exact lim_size hl, fun p n => k p _ _ (A1.fresh n).1 (A1.lay n ⟨vs, rfl, r1, hl⟩) s1⟩
theorem gf_lstOf {t : TA} (h : Ga δ M t [d]) (hq : seqOf d = some ds) : Gf δ M (tCB (kLstOf K) t) ds := fun c G H σ Q A k =>
  h.one A fun G1 H1 v A1 s1 r1 => by
    obtain ⟨p, ys, rfl, hs, ra, z⟩ := r1.seq (K := K) A1.gh hq
    exact ⟨p, ys, rfl, hs, fun l n => k l _ _ (A1.fresh n).1 (A1.lay n ⟨ys, rfl, ra, z⟩) s1⟩
/-- xs * n -/
theorem rep_rep {G : Hp} {xs : List V} (r : RepA G xs ds) : ∀ n : Nat, RepA G (List.replicate n xs).flatten (List.replicate n ds).flatten
  | 0 => by simpa using RepA.nil
  | n + 1 => by
    rw [List.replicate_succ, List.replicate_succ, List.flatten_cons, List.flatten_cons]
    exact r.append (rep_rep r n)
theorem gf_rep {n : Nat} (ha : Gv δ M ta (.list ds)) (hb : Gv δ M tb (.int (n : Nat))) (hl : ds.length * n ≤ 100000) (hn : n ≤ 100000) : Gf δ M (tOp rRep ta tb) (List.replicate n ds).flatten := fun c G H σ Q A k =>
  ha c G H σ _ A fun G1 H1 v A1 s1 r1 => hb c G1 H1 σ _ A1 fun G2 H2 w A2 s2 r2 => by
    cases r1.up s2 with
    | @lst a xs _ e z ra =>
      have hn' : (n : Int) ≤ 100000 := by omega
      have el : xs.length * ((n : Int).toNat) = ds.length * n := by rw [ra.length, Int.toNat_natCast]
      have fl : ((List.replicate n ds).flatten).length ≤ 100000 := by
        rw [List.length_flatten, List.map_replicate, List.sum_replicate_nat, Nat.mul_comm]
        exact hl
      refine ⟨a, n, xs, rfl, r2.intV, A2.gh _ _ e, by omega, by omega, by rw [el]; exact lim_size hl, fun p q => ?_⟩
      rw [Int.toNat_natCast]
      exact k p _ _ (A2.fresh q).1 (A2.lay q ⟨_, rfl, rep_rep ra n, fl⟩) (s1.trans s2)
/-- xs + ys -/
theorem gf_cat (ha : Gv δ M ta (.list ds)) (hb : Gv δ M tb (.list es)) (hl : ds.length + es.length ≤ 100000) : Gf δ M (tOp rCat ta tb) (ds ++ es) := fun c G H σ Q A k =>
  ha c G H σ _ A fun G1 H1 v A1 s1 r1 => hb c G1 H1 σ _ A1 fun G2 H2 w A2 s2 r2 => by
    cases r1.up s2 with
    | @lst a xs _ e z ra =>
      cases r2 with
      | @lst b ys _ e' z' rb =>
        refine ⟨a, b, xs, ys, rfl, rfl, A2.gh _ _ e, A2.gh _ _ e', by rw [ra.length, rb.length]; exact lim_size hl, fun p q => ?_⟩
        exact k p _ _ (A2.fresh q).1 (A2.lay q ⟨_, rfl, ra.append rb, by rw [List.length_append]; exact hl⟩) (s1.trans s2)
/-- slices -/
theorem cutV_rep {G : Hp} {xs : List V} (r : RepA G xs ds) (lo hi : Option Int) : RepA G (cutV xs lo hi) ((ds.drop (HT.sIx ds.length 0 lo)).take (HT.sIx ds.length ds.length hi - HT.sIx ds.length 0 lo)) := by
  unfold cutV
  rw [r.length]
  exact (r.drop _).take _
theorem cut_to (ds : List PyData) (n : Nat) : (ds.drop (HT.sIx ds.length 0 none)).take (HT.sIx ds.length ds.length (some (n : Int)) - HT.sIx ds.length 0 none) = ds.take n := by
  rw [HT.sIx_none, HT.sIx_nat, List.drop_zero, Nat.sub_zero, ← List.take_eq_take_min]
theorem cut_from (ds : List PyData) (n : Nat) : (ds.drop (HT.sIx ds.length 0 (some (n : Int)))).take (HT.sIx ds.length ds.length none - HT.sIx ds.length 0 (some (n : Int))) = ds.drop n := by
  rw [HT.sIx_none, HT.sIx_nat]
  by_cases h : n ≤ ds.length
  · rw [Nat.min_eq_left h]
    exact List.take_of_length_le (by rw [List.length_drop]; exact Nat.le_refl _)
  · rw [Nat.min_eq_right (by omega), Nat.sub_self, List.take_zero, List.drop_eq_nil_of_le (by omega)]
theorem gf_slTo {n : Nat} (ha : Gv δ M ta (.list ds)) (hb : Gv δ M tb (.int (n : Nat))) : Gf δ M (tSl (rSlL K) ta tNoPart (tPart tb)) (ds.take n) := fun c G H σ Q A k =>
  ha c G H σ _ A fun G1 H1 v A1 s1 r1 => hb c G1 H1 σ _ A1 fun G2 H2 w A2 s2 r2 => by
    cases r1.up s2 with
    | @lst a xs _ e z ra =>
      refine ⟨n, r2.intV, a, xs, rfl, SqL.of (A2.gh _ _ e), fun p q => ?_⟩
      have rc := cutV_rep ra none (some (n : Int))
      rw [cut_to] at rc
      exact k p _ _ (A2.fresh q).1 (A2.lay q ⟨_, rfl, rc, by rw [List.length_take]; omega⟩) (s1.trans s2)
theorem gf_slFrom {n : Nat} (ha : Gv δ M ta (.list ds)) (hb : Gv δ M tb (.int (n : Nat))) : Gf δ M (tSl (rSlL K) ta (tPart tb) tNoPart) (ds.drop n) := fun c G H σ Q A k =>
  ha c G H σ _ A fun G1 H1 v A1 s1 r1 => hb c G1 H1 σ _ A1 fun G2 H2 w A2 s2 r2 => by
    cases r1.up s2 with
    | @lst a xs _ e z ra =>
      refine ⟨n, r2.intV, a, xs, rfl, SqL.of (A2.gh _ _ e), fun p q => ?_⟩
      have rc := cutV_rep ra (some (n : Int)) none
      rw [cut_from] at rc
      exact k p _ _ (A2.fresh q).1 (A2.lay q ⟨_, rfl, rc, by rw [List.length_drop]; omega⟩) (s1.trans s2)
/-- t[:n] of a tuple (the whole tuple is the same object) -/
theorem g_slTupTo {n : Nat} (ha : Gv δ M ta (.tuple ds)) (hb : Gv δ M tb (.int (n : Nat))) : Gv δ M (tSl (rSlA K) ta tNoPart (tPart tb)) (.tuple (ds.take n)) := fun c G H σ Q A k =>
  ha c G H σ _ A fun G1 H1 v A1 s1 r1 => hb c G1 H1 σ _ A1 fun G2 H2 w A2 s2 r2 => by
    cases r1.up s2 with
    | @tup a xs _ e z ra =>
      have rc := cutV_rep ra none (some (n : Int))
      rw [cut_to] at rc
      refine ⟨n, r2.intV, a, xs, rfl, SqT.of (A2.gh _ _ e), fun hw => ?_, fun _ p q => ?_⟩
      · have e1 : ds.take n = ds := by
          have h2 := hw.2
          rw [HT.sIx_nat, ra.length] at h2
          exact List.take_of_length_le (by omega)
        rw [e1] at k
        exact k G2 H2 _ A2 (s1.trans s2) (.tup e z ra)
      · obtain ⟨A3, s3, r3⟩ := at_newT A2 q (by rw [List.length_take]; omega) rc
        exact k _ _ _ A3 ((s1.trans s2).trans s3) r3
/-- t + u of tuples -/
theorem g_catT (ha : Gv δ M ta (.tuple ds)) (hb : Gv δ M tb (.tuple es)) (hl : ds.length + es.length ≤ 100000) : Gv δ M (tOp (rCatA K) ta tb) (.tuple (ds ++ es)) := fun c G H σ Q A k =>
  ha c G H σ _ A fun G1 H1 v A1 s1 r1 => hb c G1 H1 σ _ A1 fun G2 H2 w A2 s2 r2 => by
    cases r1.up s2 with
    | @tup a xs _ e z ra =>
      cases r2 with
      | @tup b ys _ e' z' rb =>
        refine ⟨a, b, xs, ys, rfl, rfl, SqT.of (A2.gh _ _ e), SqT.of (A2.gh _ _ e'), by rw [ra.length, rb.length]; exact lim_size hl, fun h => ?_, fun _ h => ?_, fun _ _ p q => ?_⟩
        · subst h
          cases ra
          exact k G2 H2 _ A2 (s1.trans s2) (.tup e' z' rb)
        · subst h
          cases rb
          rw [List.append_nil] at k
          exact k G2 H2 _ A2 (s1.trans s2) (.tup e z ra)
        · obtain ⟨A3, s3, r3⟩ := at_newT A2 q (by rw [List.length_append]; exact hl) (ra.append rb)
          exact k _ _ _ A3 ((s1.trans s2).trans s3) r3
/-- xs[::-1] -/
theorem g_rev (ha : Gv δ M ta (.list ds)) : Gv δ M (tRevL K ta) (.list ds.reverse) := fun c G H σ Q A k =>
  ha c G H σ _ A fun G1 H1 v A1 s1 r1 => by
    cases r1 with
    | @lst a xs _ e z ra =>
      refine ⟨a, xs, rfl, SqL.of (A1.gh _ _ e), fun p q => ?_⟩
      obtain ⟨A3, s3, r3⟩ := at_newL A1 q (by rw [List.length_reverse]; exact z) ra.reverse
      exact k _ _ _ A3 (s1.trans s3) r3
/-- sorted(xs) of whole numbers -/
theorem g_sorted {ns : List Int} {t : TA} (h : Ga δ M t [.list (ns.map PyData.int)]) (f : List Int → List Int) (hf : ∀ ms, ms.Perm ns → ms.Pairwise (· ≤ ·) → ms = f ns) : Gv δ M (tCB (rSortedI K) t) (.list ((f ns).map PyData.int)) := fun c G H σ Q A k =>
  h.one A fun G1 H1 v A1 s1 r1 => by
    cases r1 with
    | @lst a xs es e z ra =>
      have q := ra.of_ints
      subst q
      refine ⟨a, ns, rfl, SqL.of (A1.gh _ _ e), fun ms p hp ho n => ?_⟩
      obtain rfl := hf ms hp ho
      have hl : ((f ns).map PyData.int).length ≤ 100000 := by
        rw [List.length_map, hp.length_eq]
        rw [List.length_map] at z
        exact z
      obtain ⟨A3, s3, r3⟩ := at_newL A1 n hl (RepA.ints (f ns))
      exact k _ _ _ A3 (s1.trans s3) r3
/-- min(xs) -/
theorem g_min {ns : List Int} {t : TA} (h : Ga δ M t [.list (ns.map PyData.int)]) (hn : 0 < ns.length) {m : Int} (hm : m ∈ ns) (hle : ∀ y ∈ ns, m ≤ y) : Gv δ M (tCB (rMin K) t) (.int m) := fun c G H σ Q A k =>
  h.one A fun G1 H1 v A1 s1 r1 => by
    cases r1 with
    | @lst a xs es e z ra =>
      have q := ra.of_ints
      subst q
      refine ⟨a, ns, rfl, SqL.of (A1.gh _ _ e), hn, fun x hx hx2 => ?_⟩
      have ex : x = m := Int.le_antisymm (hx2 m hm) (hle x hx)
      subst ex
      exact k G1 H1 _ A1 s1 (.int _)
/-! ### isinstance -/
def isI : PyData → Bool
  | .int _ => true
  | .bool _ => true
  | _ => false
def isB : PyData → Bool
  | .bool _ => true
  | _ => false
def isL : PyData → Bool
  | .list _ => true
  | _ => false
def isT : PyData → Bool
  | .tuple _ => true
  | _ => false
theorem kit_I (d : PyData) : kitB (tyD d) "int" = some (isI d) := by cases d <;> (dsimp only [tyD, isI]; decide +kernel)
theorem kit_B (d : PyData) : kitB (tyD d) "bool" = some (isB d) := by cases d <;> (dsimp only [tyD, isB]; decide +kernel)
theorem kit_L (d : PyData) : kitB (tyD d) "list" = some (isL d) := by cases d <;> (dsimp only [tyD, isL]; decide +kernel)
theorem kit_T (d : PyData) : kitB (tyD d) "tuple" = some (isT d) := by cases d <;> (dsimp only [tyD, isT]; decide +kernel)
theorem g_isi {n : String} {b : Bool} (ha : Gv δ M ta d) (h : kitB (tyD d) n = some b) : Gv δ M (tCB (rIsi K) (tCons ta (tCons (tC (.ty n)) tNil))) (.bool b) := fun c G H σ Q A k =>
  ha c G H σ _ A fun G1 H1 v A1 s1 r1 => ⟨v, .ty n, _, _, b, rfl, .ty n, r1.tyX A1.gh, kit_ty h, k G1 H1 _ A1 s1 (.bl b)⟩
theorem g_isiT {n m : String} {a b : Bool} (ha : Gv δ M ta d) (h : kitB (tyD d) n = some a) (h' : kitB (tyD d) m = some b) :
    Gv δ M (tCB (rIsiT K) (tCons ta (tCons (tTup (tCons (tC (.ty n)) (tCons (tC (.ty m)) tNil))) tNil))) (.bool (a || b)) := fun c G H σ Q A k =>
  ha c G H σ _ A fun G1 H1 v A1 s1 r1 => ⟨by show 2 ≤ sizeLine; decide, fun p q => by
    have A2 := A1.ext (Ev.lay (S := []) (o := .tup [.ty n, .ty m]) A1.gh q)
    refine ⟨v, p, [.ty n, .ty m], _, [.type n, .type m], a || b, rfl, upd_same, .cons (.ty n) (.cons (.ty m) .nil), r1.tyX A2.gh, kitAny_cons (kit_ty h) (fun z => ?_) (fun z => by rw [z]; rfl), k G1 _ _ A2 s1 (.bl _)⟩
    rw [z, Bool.false_or]
    exact kitAny_cons (kit_ty h') (fun y => by rw [y]; exact kitAny_nil) fun y => by rw [y]⟩
end

/-! ### statements -/
section
variable {c : Ct} {δ δ' : List Sl} {M : Mem} {K : PySem.W.Frag} {ta tb te : TE} {d da db : PyData} {ds es : List PyData} {G H : Hp} {σ : L2.St} {D : Ends}
theorem s_seq {t u : TS} (h : t { D with nx := u D } σ H) : tSeq t u D σ H := h
theorem s_set {i : Nat} (A : At c δ M G H σ) (g : Gv δ M te d) (k : ∀ G' H' σ', At c (δ.set i (.dat d)) M G' H' σ' → D.nx σ' H') : tAsg te (gName i) D σ H :=
  g c G H σ _ A fun G1 H1 v A1 _ r1 => k G1 H1 _ (A1.set ⟨v, rfl, r1⟩)
theorem s_setX {i : Nat} {x : V} (A : At c δ M G H σ) (g : Gx δ M te x) (k : ∀ G' H' σ', At c (δ.set i (.val x)) M G' H' σ' → D.nx σ' H') : tAsg te (gName i) D σ H :=
  g c G H σ _ A fun G1 H1 A1 _ => k G1 H1 _ (A1.set rfl)
theorem s_setF {i : Nat} (A : At c δ M G H σ) (g : Gf δ M te ds) (k : ∀ p G' H' σ', c.H0 p = none → At c (δ.set i (.val (.ref p))) ((p, .lst ds) :: M) G' H' σ' → D.nx σ' H') : tAsg te (gName i) D σ H :=
  g c G H σ _ A fun p G1 H1 h0 A1 _ => k p G1 H1 _ h0 (A1.set rfl)
theorem s_asg {g : TG} {js : List Nat} (A : At c δ M G H σ) (h : Gv δ M te d) (hg : Gg δ M g js d δ') (k : ∀ G' H' σ', At c δ' M G' H' σ' → D.nx σ' H') : tAsg te g D σ H :=
  h c G H σ _ A fun G1 H1 v A1 _ r1 => hg c G1 H1 σ v _ A1 r1 fun G2 H2 σ2 A2 _ _ _ => k G2 H2 σ2 A2
theorem s_if {t : TT} {u w : TS} {b : Bool} (A : At c δ M G H σ) (g : Gt δ M t b) (k1 : b = true → ∀ G' H', At c δ M G' H' σ → u D σ H') (k2 : b = false → ∀ G' H', At c δ M G' H' σ → w D σ H') : tIfS t u w D σ H :=
  g c G H σ _ A fun G1 H1 A1 _ => by
    cases b with
    | true => exact iteT (k1 rfl G1 H1 A1)
    | false => exact iteF (k2 rfl G1 H1 A1)
/-- if ..: (leaves or goes on); then w -/
theorem s_ifq {t : TT} {u w : TS} {b : Bool} (A : At c δ M G H σ) (g : Gt δ M t b) (k1 : b = true → ∀ G' H', At c δ M G' H' σ → u { D with nx := w D } σ H') (k2 : b = false → ∀ G' H', At c δ M G' H' σ → w D σ H') : tSeq (tIfS t u tNext) w D σ H :=
  g c G H σ _ A fun G1 H1 A1 _ => by
    cases b with
    | true => exact iteT (k1 rfl G1 H1 A1)
    | false => exact iteF (k2 rfl G1 H1 A1)
theorem s_ret (A : At c δ M G H σ) (g : Gv δ M te d) (k : ∀ G' H' v, At c δ M G' H' σ → Rep G' v d → D.rt v H') : tRet te D σ H :=
  g c G H σ _ A fun G1 H1 v A1 _ r1 => k G1 H1 v A1 r1
theorem s_drop (A : At c δ M G H σ) (g : Gv δ M te d) (k : ∀ G' H', At c δ M G' H' σ → D.nx σ H') : tDrop te D σ H :=
  g c G H σ _ A fun G1 H1 v A1 _ r1 => k G1 H1 A1
/-- xs.append(e), xs an own list -/
theorem s_append {i k : Nat} {p : Addr} (A : At c δ M G H σ) (hi : δ[i]? = some (.val (.ref p))) (hk : M[k]? = some (p, .lst ds)) (g : Gv δ M te d) (hl : ds.length < 100000)
    (kk : ∀ G' H', At c δ (M.set k (p, .lst (ds ++ [d]))) G' H' σ → D.nx σ H') : tDrop (tBM K "list" rAppend (tVar i) (tCons te tNil)) D σ H := by
  obtain ⟨_, _, u, hu, xs, rfl, _, _⟩ := A.mem p _ (List.mem_of_getElem? hk)
  refine ⟨_, A.sl i _ hi, .inl ⟨rfl, xs, SqL.of hu⟩, g c G H σ _ A fun G1 H1 v A1 _ r1 => ?_⟩
  obtain ⟨_, _, u1, hu1, ys, rfl, ra, z⟩ := A1.mem p _ (List.mem_of_getElem? hk)
  refine ⟨p, ys, v, rfl, rfl, hu1, by rw [ra.length]; exact lim_lt (by omega), ?_⟩
  exact kk _ _ (A1.write hk ⟨_, rfl, ra.append (.one r1), by rw [List.length_append, List.length_singleton]; omega⟩)
/-- an own list is read as a datum (its content is that of a datum, at this moment) -/
theorem g_own {i k : Nat} {p : Addr} (hi : δ[i]? = some (.val (.ref p))) (hk : M[k]? = some (p, .lst ds)) (n : Nat) (h : ds[n]? = some d) (hb : Gv δ M tb (.int (n : Nat))) : Gv δ M (tOp (rIx K) (tVar i) tb) d := fun c G H σ Q A k' => by
  refine ⟨_, A.sl i _ hi, hb c G H σ _ A fun G1 H1 w A1 s1 r1 => ?_⟩
  obtain ⟨_, _, u1, hu1, ys, rfl, ra, z⟩ := A1.mem p _ (List.mem_of_getElem? hk)
  obtain ⟨x, hx, rx⟩ := ra.get h
  rw [r1.intV]
  exact .inl ⟨p, ys, _, x, rfl, rfl, SqL.of hu1, atI_nat hx, k' G1 H1 x A1 s1 rx⟩
theorem g_lenOwn {i k : Nat} {p : Addr} (hi : δ[i]? = some (.val (.ref p))) (hk : M[k]? = some (p, .lst ds)) : Gv δ M (tCB (kLen K) (tCons (tVar i) tNil)) (.int ds.length) := fun c G H σ Q A k' => by
  obtain ⟨_, _, u1, hu1, ys, rfl, ra, z⟩ := A.mem p _ (List.mem_of_getElem? hk)
  refine ⟨_, A.sl i _ hi, p, ys, rfl, .inl (SqL.of hu1), ?_⟩
  rw [ra.length]
  exact k' G H _ A (.refl _) (.int _)
theorem g_tupOwn {i k : Nat} {p : Addr} (hi : δ[i]? = some (.val (.ref p))) (hk : M[k]? = some (p, .lst ds)) : Gv δ M (tCB (kTupOf K) (tCons (tVar i) tNil)) (.tuple ds) := fun c G H σ Q A k' => by
  obtain ⟨_, _, u1, hu1, ys, rfl, ra, z⟩ := A.mem p _ (List.mem_of_getElem? hk)
  refine ⟨_, A.sl i _ hi, p, ys, rfl, .inl ⟨SqL.of hu1, fun l n => ?_⟩⟩
  obtain ⟨A2, s2, r2⟩ := at_newT A n z ra
  exact k' _ _ _ A2 s2 r2
/-- xs[i] = e -/
theorem s_setItem {i k : Nat} {p : Addr} {n : Nat} (A : At c δ M G H σ) (hi : δ[i]? = some (.val (.ref p))) (hk : M[k]? = some (p, .lst ds)) (g : Gv δ M te d) (hb : Gv δ M tb (.int (n : Nat))) (hn : n < ds.length)
    (kk : ∀ G' H', At c δ (M.set k (p, .lst (ds.set n d))) G' H' σ → D.nx σ H') : tAsg te (gSub (tVar i) tb rSetL) D σ H :=
  g c G H σ _ A fun G1 H1 v A1 s1 r1 => ⟨_, A1.sl i _ hi, hb c G1 H1 σ _ A1 fun G2 H2 w A2 s2 r2 => by
    obtain ⟨_, _, u1, hu1, ys, rfl, ra, z⟩ := A2.mem p _ (List.mem_of_getElem? hk)
    refine ⟨p, ys, n, n, rfl, r2.intV, hu1, ?_, ?_⟩
    · unfold ixN
      rw [if_pos (by omega), if_pos (by rw [ra.length]; omega), Int.toNat_natCast]
    · exact kk _ _ (A2.write hk ⟨_, rfl, ra.set (r1.up s2) n, by rw [List.length_set]; exact z⟩)⟩
/-- xs[i] op= e on whole numbers -/
theorem s_augItem {f : Int → Int → Int} {i k : Nat} {p : Addr} {n : Nat} {x y : Int} (A : At c δ M G H σ) (hi : δ[i]? = some (.val (.ref p))) (hk : M[k]? = some (p, .lst ds)) (hb : Gv δ M tb (.int (n : Nat))) (hn : ds[n]? = some (.int x)) (g : Gv δ M te (.int y))
    (kk : ∀ G' H', At c δ (M.set k (p, .lst (ds.set n (.int (f x y))))) G' H' σ → D.nx σ H') : tAugS (tVar i) tb te (rIxL K) (ipI f) rSetL D σ H :=
  ⟨_, A.sl i _ hi, hb c G H σ _ A fun G1 H1 v A1 s1 r1 => by
    obtain ⟨_, _, u1, hu1, ys, rfl, ra, z⟩ := A1.mem p _ (List.mem_of_getElem? hk)
    obtain ⟨xv, hx, rx⟩ := ra.get hn
    refine ⟨p, ys, n, xv, rfl, r1.intV, SqL.of hu1, atI_nat hx, g c G1 H1 σ _ A1 fun G2 H2 w A2 s2 r2 => ?_⟩
    refine ⟨x, y, rx.intV, r2.intV, ?_⟩
    obtain ⟨_, _, u2, hu2, zs, rfl, rb, z2⟩ := A2.mem p _ (List.mem_of_getElem? hk)
    refine ⟨p, zs, n, n, rfl, r1.intV, hu2, ?_, ?_⟩
    · unfold ixN
      have := (List.getElem?_eq_some_iff.mp hn).1
      rw [if_pos (by omega), if_pos (by rw [rb.length]; omega), Int.toNat_natCast]
    · exact kk _ _ (A2.write hk ⟨_, rfl, rb.set (.int _) n, by rw [List.length_set]; exact z2⟩)⟩
/-- x op= e on whole numbers -/
theorem s_aug {f : Int → Int → Int} {i : Nat} {x y : Int} (A : At c δ M G H σ) (hi : δ[i]? = some (.dat (.int x))) (g : Gv δ M te (.int y)) (k : ∀ G' H' σ', At c (δ.set i (.dat (.int (f x y)))) M G' H' σ' → D.nx σ' H') : tAug i te (ipI f) D σ H := by
  obtain ⟨v, hv, rv⟩ := A.sl i _ hi
  refine ⟨v, hv, g c G H σ _ A fun G1 H1 w A1 s1 r1 => ⟨x, y, rv.intV, r1.intV, k G1 H1 _ (A1.set ⟨_, rfl, .int _⟩)⟩⟩
/-! ### loops -/
/-- what stands between two turns -/
def Bt (c : Ct) (I : Nat → List Sl → Mem → Prop) (j : Nat) : L2.St → Hp → Prop := fun σ H => ∃ δ M G, I j δ M ∧ At c δ M G H σ
theorem s_for {wi : TI} {g : TG} {tb : TS} (I : Nat → List Sl → Mem → Prop) (A : At c δ M G H σ) (hi : Gi δ M wi ds) (h0 : I 0 δ M)
    (hs : ∀ (c' : Ct) (i : Nat) (d : PyData) (δ' : List Sl) (M' : Mem) (G' H' : Hp) (σ' : L2.St) (v : V), c'.S = c.S → c'.G0 = c.G0 → c'.H0 = c.H0 → ds[i]? = some d → I i δ' M' → At c' δ' M' G' H' σ' → Rep G' v d →
      g v σ' H' fun σ2 H2 => tb { D with nx := Bt c' I (i + 1), ct := Bt c' I (i + 1), bk := D.nx } σ2 H2)
    (hd : ∀ (δ' : List Sl) (M' : Mem) (G' H' : Hp) (σ' : L2.St), I ds.length δ' M' → At c δ' M' G' H' σ' → D.nx σ' H') : tFor wi g tb D σ H :=
  hi c G H σ _ A fun G0 H0 J A0 s0 wk => by
    refine ⟨fun i m σ' H' => m = ds.length - i ∧ i ≤ ds.length ∧ Bt { c with lo := G0 } I i σ' H', ⟨ds.length, rfl, Nat.zero_le _, δ, M, G0, h0, A0.relo⟩, ?_⟩
    rintro i m σ' H' ⟨rfl, hil, δ', M', G', hI, A'⟩
    by_cases hlt : i < ds.length
    · have hd' : ds[i]? = some ds[i] := List.getElem?_eq_getElem hlt
      obtain ⟨go, yl⟩ := (wk i G' H' A'.lo A'.gh).1 _ hd'
      refine .inr ⟨go, Bt { c with lo := G0 } I (i + 1), fun σ2 H2 hN => ⟨ds.length - (i + 1), by omega, rfl, hlt, hN⟩, fun x H1 hy => ?_⟩
      obtain ⟨G1, e1, r1⟩ := yl x H1 hy
      exact hs _ i _ δ' M' G1 H1 σ' x rfl rfl rfl hd' hI (A'.ext e1) r1
    · have ei : i = ds.length := by omega
      subst ei
      exact .inl ⟨(wk _ G' H' A'.lo A'.gh).2 rfl, hd δ' M' G' H' σ' hI (A'.unlo A0.lo)⟩
theorem s_while {t : TT} {tb : TS} (I : Nat → List Sl → Mem → Prop) (A : At c δ M G H σ) {m : Nat} (h0 : I m δ M)
    (hs : ∀ (m : Nat) (δ' : List Sl) (M' : Mem) (G' H' : Hp) (σ' : L2.St), I m δ' M' → At c δ' M' G' H' σ' →
      t σ' H' fun b H1 => if b = true then tb { D with nx := fun σ2 H2 => ∃ m', m' < m ∧ Bt c I m' σ2 H2, ct := fun σ2 H2 => ∃ m', m' < m ∧ Bt c I m' σ2 H2, bk := D.nx } σ' H1 else D.nx σ' H1)
    (mono : ∀ σ H Q Q', (∀ b H1, Q b H1 → Q' b H1) → t σ H Q → t σ H Q') : tWhile t tb D σ H := by
  refine ⟨fun m σ' H' => Bt c I m σ' H', ⟨m, δ, M, G, h0, A⟩, ?_⟩
  rintro m σ' H' ⟨δ', M', G', hI, A'⟩
  refine mono _ _ _ _ (fun b H1 q => ?_) (hs m δ' M' G' H' σ' hI A')
  cases b with
  | true => exact iteT ⟨_, fun _ _ h => h, by simpa using q⟩
  | false => exact iteF (by simpa using q)
end
end Od
set_option Elab.async false
set_option linter.all false
set_option autoImplicit false
set_option maxRecDepth 100000
set_option maxHeartbeats 2000000
/-! W0: the text by places, what a def is known by. -/
namespace Od
open PySem PySem.Spec L2
def topS (i : Nat) : Stmt := PySem.Challenge.pw_outsoonest_k17_whole_all_beginnings_of_a.main.body.getD i (.Pass ⟨0, 0, 0, 0⟩)
/-- the built-ins' names are free, the constants as written -/
structure Bl (mg : Str → Option Value) : Prop where
  len : mg "len" = none
  isi : mg "isinstance" = none
  int : mg "int" = none
  bool : mg "bool" = none
  list : mg "list" = none
  tuple : mg "tuple" = none
  all : mg "all" = none
  zip : mg "zip" = none
  range : mg "range" = none
  enum : mg "enumerate" = none
  sum : mg "sum" = none
  min : mg "min" = none
  sorted : mg "sorted" = none
  abs : mg "abs" = none
  repr : mg "repr" = none
  most : ∃ t, mg "MOST_NODES" = some (.int 2000 t)
  forth : ∃ t, mg "FORTH" = some (.int 1 t)
  back : ∃ t, mg "BACK" = some (.int (-1) t)
/-- a def of the top stands -/
def TopF (K : PySem.W.Frag) (mg : Str → Option Value) (x : Str) (st : Stmt) : Prop := ∃ f fd, mg x = some (.ref f) ∧ Fun K x x st f fd
/-- .. and keeps a promise -/
def Has (P : Program) (w : World) (K : PySem.W.Frag) (mg : Str → Option Value) (base : Heap) (x : Str) (CX : CXT) (k : Nat) (ps : List Str) (sp : Sp) : Prop :=
  ∃ f fd, mg x = some (.ref f) ∧ PySem.W.keepIn K (.ref f) = true ∧ Binds K fd ps [] ∧ FnOk P w K mg base CX k f fd ps sp
section
variable {X : Cx} {x : Str} {k : Nat} {ps : List Str} {sp : Sp} {p pos : Pos} {e : Expr} {es : List Expr} {t : TA}
theorem pe_callH (h : Has X.prog X.w X.K X.mg X.base x CX0 k ps sp) (hr : Room k X.A) (ha : PA X (e :: es) t) (hg : Gl X x := by rfl) (hdb : (x == ("__debug__" : Str)) = false := by decide)
    (he : starEach (e :: es) X.env = (false, eval e X.env) :: starEach es X.env := by rfl) (hpl : (backTo pos (starEach es X.env)).any (·.1) = false := by rfl) : PE X (.Call (.Name x p) (e :: es) [] pos) (tCall sp [] E0 t) := by
  obtain ⟨f, fd, hm, hk, hb, F⟩ := h
  exact pe_call F hr hg hm hk hb .nil pass0 ha hdb he hpl
end
/-- promises by the number of arguments -/
def sp1 (P : PyData → Prop) (f : PyData → PyData) : Sp := spD (fun ds => ∃ a, ds = [a] ∧ P a) (fun | [a] => f a | _ => .none)
def sp2 (P : PyData → PyData → Prop) (f : PyData → PyData → PyData) : Sp := spD (fun ds => ∃ a b, ds = [a, b] ∧ P a b) (fun | [a, b] => f a b | _ => .none)
def sp3 (P : PyData → PyData → PyData → Prop) (f : PyData → PyData → PyData → PyData) : Sp := spD (fun ds => ∃ a b c, ds = [a, b, c] ∧ P a b c) (fun | [a, b, c] => f a b c | _ => .none)
def sp4 (P : PyData → PyData → PyData → PyData → Prop) (f : PyData → PyData → PyData → PyData → PyData) : Sp := spD (fun ds => ∃ a b c d, ds = [a, b, c, d] ∧ P a b c d) (fun | [a, b, c, d] => f a b c d | _ => .none)
section
variable {δ : List Sl} {M : Mem} {t : TA} {E : XK}
theorem g_c1 {P : PyData → Prop} {f : PyData → PyData} {a : PyData} (h : Ga δ M t [a]) (p : P a) : Gv δ M (tCall (sp1 P f) [] E t) (f a) := g_call h ⟨a, rfl, p⟩
theorem g_c2 {P : PyData → PyData → Prop} {f : PyData → PyData → PyData} {a b : PyData} (h : Ga δ M t [a, b]) (p : P a b) : Gv δ M (tCall (sp2 P f) [] E t) (f a b) := g_call h ⟨a, b, rfl, p⟩
theorem g_c3 {P : PyData → PyData → PyData → Prop} {f : PyData → PyData → PyData → PyData} {a b c : PyData} (h : Ga δ M t [a, b, c]) (p : P a b c) : Gv δ M (tCall (sp3 P f) [] E t) (f a b c) := g_call h ⟨a, b, c, rfl, p⟩
theorem g_c4 {P : PyData → PyData → PyData → PyData → Prop} {f : PyData → PyData → PyData → PyData → PyData} {a b c d : PyData} (h : Ga δ M t [a, b, c, d]) (p : P a b c d) : Gv δ M (tCall (sp4 P f) [] E t) (f a b c d) := g_call h ⟨a, b, c, d, rfl, p⟩
end
/-- the entry of a body: the data in the first slots, nothing yet in the others -/
theorem at_start {N : List Str} {vs : List V} {ds : List PyData} {G H : Hp} (e : Same G H) (r : RepA G vs ds) (hl : ds.length ≤ N.length) :
    At ⟨[], G, H, G⟩ (ds.map Sl.dat ++ List.replicate (N.length - ds.length) Sl.any) [] G H (L2.start N vs) where
  ev := .refl e
  lo := .refl _
  len := by
    have := r.length
    simp only [L2.start, List.length_append, List.length_map, List.length_replicate]
    omega
  sl := fun i s h => by
    by_cases hi : i < ds.length
    · rw [List.getElem?_append_left (by rw [List.length_map]; exact hi), List.getElem?_map, List.getElem?_eq_getElem hi] at h
      cases h
      obtain ⟨v, hv, rv⟩ := r.get (List.getElem?_eq_getElem hi)
      refine ⟨v, ?_, rv⟩
      unfold L2.start
      rw [List.getElem?_append_left (by rw [List.length_map, r.length]; exact hi), List.getElem?_map, hv]
      rfl
    · rw [List.getElem?_append_right (by rw [List.length_map]; omega), List.getElem?_replicate] at h
      split at h
      · cases h; trivial
      · cases h
  mem := fun p o h => by cases h
  nd := List.nodup_nil
  sdom := fun b h => by cases h
end Od
set_option Elab.async false
set_option linter.all false
set_option maxRecDepth 100000
set_option maxHeartbeats 2000000
/-! R0: Refused: its __init__ with super(), made, raised, its field read. -/
namespace Od
open PySem PySem.Spec L2 PySem.W PySem.Calls PyProof.Rows PySem.HandSPX
def sIni : Stmt := inClass (topS 2) 0
theorem ini_body : ∃ (j : Nat) (p0 p1 p2 p3 p4 p5 q1 q2 q3 q4 : Pos), defBody sIni =
  [.Expr (.Call (.Attribute (.Call (.Name "super" p0) [] [] p1) "__init__" p2) [.Constant (.str "no such value here") j p3] [] p4) p5, .Assign [.Attribute (.Name "self" q1) "at" q2] (.Name "at" q3) q4] ∧ (p2.endLine == p4.line) = true := ⟨_, _, _, _, _, _, _, _, _, _, _, rfl, rfl⟩
theorem ini_sc : (defScope sIni).names.lookup ("super" : Str) = some NameKind.globalImplicit ∧ (defScope sIni).names.lookup ("__class__" : Str) = some NameKind.free ∧ (defScope sIni).names.lookup ("self" : Str) = some NameKind.local ∧ (defScope sIni).names.lookup ("at" : Str) = some NameKind.local ∧ (defScope sIni).kind = .function ∧ (defScope sIni).isCoroutine = false ∧ (defScope sIni).isGenerator = false := ⟨rfl, rfl, rfl, rfl, rfl, rfl, rfl⟩
theorem ini_cell : ∀ x ∈ (defScope sIni).names, x.2 ≠ .cell := by decide
/-- what the written part says of Refused, at C, of its __init__, at fI, and of OutError, at O -/
structure RefT (P : Program) (K : Frag) (mg : Str → Option Value) (C fI O : Addr) : Prop where
  gC : mg "Refused" = some (.ref C)
  gO : mg "OutError" = some (.ref O)
  gS : mg "super" = none
  cls : ∃ nm q N bs bm sn sub ab col dd k0 k1 k2 k3 k5, K.lookup C = some (excClassObj nm q C N bs bm true sn sub ab col dd k0 k1 k2 k3 k5 "ValueError.__new__") ∧ refsVE bm = true
  sa : findIn K (.ref C) "__setattr__" = some (some (.builtin "object.__setattr__"))
  ga : findIn K (.ref C) "__getattribute__" = some (some (.builtin "BaseException.__getattribute__"))
  gg : findIn K (.ref C) "__getattr__" = some none
  noN : findIn K (.ref C) "at" = some none
  iC : findIn K (.ref C) "__init__" = some (some (.ref fI))
  tC : typeIn K (.ref fI) = some (.type "function")
  kC : keepIn K (.ref C) = true
  exC : subIn K (.ref C) (.type "BaseException") = some true
  veC : subIn K (.ref C) (.type "ValueError") = some true
  tyC : typeIn K (.ref C) = some (.type "type")
  hdC : hasDictIn K C = true
  te : exmOne K (.ref C) (.ref C) = some true
  ooC : subIn K (.ref C) (.ref O) = some true
  mro : mroIn K C (.ref C) = some true
  any : nsIn K cStatics "thirdparty.any" = some none
  sup : ks_superIn K C C "__init__" = some (some (.builtin "ValueError.__init__"))
  top : (P.main.scope.names.lookup ("super" : Str)).isSome = false
  fn : ∃ (oc : Value) (od : Option Addr) (kV doc pm : Value) (an : Option Addr) (cda cc : Addr) (ct : Value) (osl : Array (Option Value)) (vs : Array Value) (file : Str) (tf : Tok) (ccl cl : Value) (cdd cld : Option Addr) (ccs csl : Array (Option Value)),
    K.lookup fI = some ⟨oc, od, .func (fnX "__init__" "Refused.__init__" (defArgs sIni) (defBody sIni) (defScope sIni) [("__class__", cc)] .none kV doc pm an (.ref cda) ct), osl⟩ ∧ codeIn K (.ref cda) "Refused.__init__" = true ∧
    K.lookup cda = some ⟨ccl, cdd, .fields vs, ccs⟩ ∧ vs[2]? = some (.str file tf) ∧ ((P.main.file : Str) == file) = true ∧ K.lookup cc = some ⟨cl, cld, .cell (some (.ref C)), csl⟩
/-- what __init__ leaves of a fresh exception at x -/
structure InitEnd (h h' : Heap) (x C dx t1 : Addr) (v : Value) : Prop where
  keep : ∀ b o, b ≠ x → h.get? b = some o → h'.get? b = some o
  obj : h'.get? x = some { cls := .ref C, dict := some dx, data := .fields #[.ref t1, .none, .none, .none, .bool false, .none] }
  dbig : h.objs.size ≤ dx
  dne : dx ≠ x
  ns : h'.Ns1 dx (fun y => if y = "at" then some v else none)
section
variable {P : Program} {w : World} {A : Around} {E : Value → Shared → Prop} {R : Result → Shared → Prop} {s : Shared} {K : Frag} {mg mb : Str → Option Value} {C fI O : Addr}
/-- the bound __init__ called -/
theorem call_mw {h : Heap} {g : Array GenState} {d : Drawn} {t : Nat} {os : OsState} {nm q : Str} {N : Addr} {bs bm : List Value} {hdct : Bool} {sn : List Str} {sub : List Value} {ab : Bool} {col : Option Bool} {dd : Option Addr} {k0 k1 k2 k3 k5 : Option Value}
    {u e t0 : Addr} {rest : List Value} {Q : Value → Shared → Prop}
    (hC : h.get? C = some (excClassObj nm q C N bs bm hdct sn sub ab col dd k0 k1 k2 k3 k5 "ValueError.__new__")) (he : h.get? e = some (excO C t0)) (hu : h.get? u = some (kxs_mw "ValueError.__init__" e)) (hrest : rest.length ≤ sizeLine)
    (hq : ∀ h' t1, (∀ b o, b ≠ e → h.get? b = some o → h'.get? b = some o) → h'.get? e = some (excO C t1) → h.objs.size ≤ h'.objs.size → Q .none ⟨h', g, d, t, os⟩) :
    wpAny (model P w) A (call (.ref u) rest) Q E ⟨h, g, d, t, os⟩ := by
  refine wpAny_call (codeAny_of_tree ?_)
  show wpAny _ A.in1 (callAny (.ref u) ⟨rest, []⟩) _ _ _
  simp only [callAny]
  refine wpAny_bind (wpAny_load hu ?_)
  simp only [kxs_mw, show (Value.type "method-wrapper" == Value.type "method" || Value.type "method-wrapper" == Value.type "builtin_function_or_method" || Value.type "method-wrapper" == Value.type "method-wrapper") = true by decide, if_true]
  refine KFB.if_so (by decide) ?_
  refine wpAny_bind (check_bound_init F.excBase_ValueError.toExcCallFacts hC he rfl ?_)
  refine wpAny_bind (wpAny_pure (wpAny_pure ?_))
  refine ⟨Code.quiet_builtin _ (by decide +kernel), codeAny_builtin F.excBase_ValueError.initEntry ?_⟩
  rw [Around.under_plainId F.excBase_ValueError.init.plain _]
  wp_walk
  refine hq _ h.objs.size (fun b o hb ho => ?_) ?_ ?_
  · rw [Heap.get?_update_other _ _ (Ne.symm hb)]
    exact Heap.get?_push_of_some _ ho
  · rw [Heap.get?_update_self _ (Heap.get?_push_of_some _ he) rfl]
    rfl
  · have z : h.objs.size ≤ (h.push (kdv_tup rest)).objs.size := by rw [Heap.size_push]; exact Nat.le_succ _
    first
      | (refine Nat.le_trans z ?_; rw [Heap.size_update]; exact Nat.le_refl _)
      | exact z
theorem mcall {o : Expr} {env : Env} {p2 p3 p4 : Pos} {j : Nat} {x : Str} (el : (p2.endLine == p4.line) = true) : ∃ pl, eval (.Call (.Attribute o "__init__" p2) [.Constant (.str x) j p3] [] p4) env = (do
      let ov ← attributeBase o "__init__" env (eval o env)
      standAt p2.atName
      let (f, first) ← holding [ov] (getMethod ov "__init__" pl)
      callWith p4 f first (backTo p4 (starEach [.Constant (.str x) j p3] env)) []) := by
  refine ⟨(do return (← importBound o env).getD true), ?_⟩
  rw [arm_eval_Call]
  have e : ∀ few, methodCallPos few o env p2 p4 = pure p4 := fun few => by
    unfold methodCallPos
    rw [if_pos (by rw [el, Bool.or_true])]
  unfold methodCall
  simp only [e]
  rfl
theorem ini_walk (T : RefT P K mg C fI O) {env : Env} {body : List Stmt} {m : Str → Option Value} {x t0 : Addr} {v : Value} {j : Nat} {p0 p1 p2 p3 p4 p5 q1 q2 q3 q4 : Pos} {Q : Flow → Shared → Prop} (X1 : K.In s.heap) (hx1 : s.heap.get? x = some (excO C t0)) (hnx : K.lookup x = none)
    (hG : s.heap.Ns mainGlobals mg) (hB : s.heap.Ns builtinsNs mb) (hb : mb "super" = some (.type "super"))
    (n1 : env.kindOf "super" = some .globalImplicit) (n2 : env.kindOf "__class__" = some .free) (n3 : env.kindOf "self" = some .local) (n4 : env.kindOf "at" = some .local) (n5 : env.scope.kind = .function)
    (e1 : env.func = some fI) (e3 : env.globals = mainGlobals) (e4 : env.builtins = builtinsNs) (e6 : interactive env = false)
    (hns : s.heap.Ns env.locals m) (m1 : m "self" = some (.ref x)) (m2 : m "at" = some v) (hxL : env.locals ≠ x)
    (fn : ∃ (oc : Value) (od : Option Addr) (fd : FuncData) (osl : Array (Option Value)) (cda cc : Addr) (ar : Arg) (vs : Array Value) (file : Str) (tf : Tok) (ccl cl : Value) (cdd cld : Option Addr) (ccs csl : Array (Option Value)), K.lookup fI = some ⟨oc, od, .func fd, osl⟩ ∧ (fd.params.posonlyargs ++ fd.params.args).head? = some ar ∧ ar.arg = "self" ∧
      env.code = .ref cda ∧ env.cells.lookup ("__class__" : Str) = some cc ∧ K.lookup cda = some ⟨ccl, cdd, .fields vs, ccs⟩ ∧ vs[2]? = some (.str file tf) ∧ ((P.main.file : Str) == file) = true ∧ K.lookup cc = some ⟨cl, cld, .cell (some (.ref C)), csl⟩)
    (hme : ∃ pl, eval (.Call (.Attribute (.Call (.Name "super" p0) [] [] p1) "__init__" p2) [.Constant (.str "no such value here") j p3] [] p4) env = (do
      let ov ← attributeBase (.Call (.Name "super" p0) [] [] p1) "__init__" env (eval (.Call (.Name "super" p0) [] [] p1) env)
      standAt p2.atName
      let (f, first) ← holding [ov] (getMethod ov "__init__" pl)
      callWith p4 f first (backTo p4 (starEach [.Constant (.str "no such value here") j p3] env)) []))
    (hsw : swapsWith (.Call (.Attribute (.Call (.Name "super" p0) [] [] p1) "__init__" p2) [.Constant (.str "no such value here") j p3] [] p4) none p5.line env = pure false)
    (hsw2 : swapsWith (.Name "at" q3) (some (.Attribute (.Name "self" q1) "at" q2)) q4.line env = pure false)
    (hq : ∀ h' tk dx t1, InitEnd s.heap h' x C dx t1 v → Q .next { s with heap := h', toks := tk }) :
    _root_.PySem.wpAt (model P w) A (.func body env) (execs [.Expr (.Call (.Attribute (.Call (.Name "super" p0) [] [] p1) "__init__" p2) [.Constant (.str "no such value here") j p3] [] p4) p5, .Assign [.Attribute (.Name "self" q1) "at" q2] (.Name "at" q3) q4] env) Q E s := by
  obtain ⟨oc, od, fd, osl, cda, cc, ar, vs, file, tf, ccl, cl, cdd, cld, ccs, csl, ho, hp, har, e2, e5, hco, hvs, hfile, hcc⟩ := fn
  obtain ⟨nm, q, N, bs, bm, sn, sub, ab, col, dd, k0, k1, k2, k3, k5, hC, hbm⟩ := T.cls
  have hcl : clsIn K C = some { name := nm, bases := bs, mro := .ref C :: bm, ns := N, qualname := q, hasDict := true, slotNames := sn, subclasses := sub, abstract := ab, collection := col, hasDel := false } := by unfold clsIn; rw [hC] <;> rfl
  have hxC : x ≠ C := fun z => by
    have e := hnx
    rw [z, hC] at e
    cases e
  have hm : alongIn K "__init__" (((Value.ref C :: bm).dropWhile (· != .ref C)).drop 1) = some (some (.builtin "ValueError.__init__")) := by
    have e := T.sup
    unfold ks_superIn at e
    rw [hcl] at e
    exact e
  have hI : ∀ h, K.In h → h.get? x = some (excO C t0) → Looks (model P w) h (isInstance (.ref x) (.type "ValueError")) true := fun h Xh e => (show InstAt h x (excO C t0) C none from ⟨e, rfl, rfl, trivial⟩).type.andThen (looks_subIn Xh T.veC)
  obtain ⟨h1, g, d, tk, os⟩ := s
  obtain ⟨pl, hme⟩ := hme
  refine ks_wpAt_execs_cons (ks_wpAt_Expr_any (ks_wpAt_MethodCall ?_ hme) e6 hsw)
  refine ks_wpAt_super_base n1 n2 (by decide) e1 (X1 _ _ ho) rfl hp e2 (X1 _ _ hco) rfl hvs hfile T.top ?_
  refine ks_loadName_global n5 n1 (loadGlobal_builtin (by rw [e3]; exact hG) T.gS (by rw [e4]; exact hB) hb ⟨rfl, ?_⟩)
  refine wpAny_loadName_free n5 n2 e5 ⟨_, X1 _ _ hcc, rfl⟩ ?_
  rw [har]
  refine wpAny_loadName_local n5 n3 hns m1 ?_
  refine ks_wpAny_isType_cls (X1 _ _ hC) rfl ⟨rfl, ?_⟩
  refine ks_wpAny_call_super (ox := excO C t0) (X1 _ _ hC) rfl hx1 rfl (fun c e => by cases e) (looks_mroIn X1 T.mro) fun h2 hso k2 => ?_
  have X2 := X1.keeps k2
  have hx2 := k2 _ _ hx1
  refine kxs_getMethod kxs_ValueError hso (looks_opaque X2 T.any) (l₀ := .ref C :: bm) (l := ((Value.ref C :: bm).dropWhile (· != .ref C)).drop 1) (fun A Q E s k q => wpAny_bind ((looks_clsIn X2 hcl) A _ E s k (wpAny_pure q))) rfl X2 hm (hI _ X2 hx2) hxC (by decide) ?_
  have k3 : ∀ b o, h2.get? b = some o → (h2.push (kxs_mw "ValueError.__init__" x)).get? b = some o := fun b o e => Heap.get?_push_of_some _ e
  have hu : (h2.push (kxs_mw "ValueError.__init__" x)).get? h2.objs.size = some (kxs_mw "ValueError.__init__" x) := Heap.get?_push_at rfl rfl
  have X3 := X2.keeps k3
  have hx3 := k3 _ _ hx2
  have he : starEach ([.Constant (.str "no such value here") j p3] : List Expr) env = (false, eval (.Constant (.str "no such value here") j p3) env) :: [] := rfl
  rw [he]
  refine kxs_callWith (i := "ValueError.__init__") (x := x) rfl (evalArgs_plain (spliced_cons (Constant_str (k := j) (pos := p3) (spliced_nil ?_))))
  refine ⟨hu, call_mw (t0 := t0) (X3 _ _ hC) hx3 hu (by show 1 ≤ sizeLine; rw [sizeLine_eq]; omega) fun h4 t1 k4 hx4 z4 => ?_⟩
  have X4 : K.In h4 := fun a o e => k4 a o (fun z => by rw [z, hnx] at e; cases e) (X3 _ _ e)
  have hns4 : h4.Ns env.locals m := by
    refine hns.at fun o e => ?_
    exact k4 _ _ hxL (k3 _ _ (k2 _ _ e))
  refine _root_.PySem.wpAt_of_wpAny ?_
  refine wpAny_execs_cons (plainObj_wpAny_Assign_Attribute ?_ hsw2)
  refine wpAny_Name (wpAny_loadName_local n5 n4 hns4 m2 ?_)
  refine wpAny_Name (wpAny_loadName_local n5 n3 hns4 m1 ?_)
  refine set_plain X4 (ox := excO C t1) (od := none) ⟨hx4, rfl, rfl, trivial⟩ T.sa ?_
  refine exc_osa X4 hx4 hcl (show refsVE (.ref C :: bm) = true from hbm) rfl T.noN (fun h5 tk5 dx k5 dn dne hx5 hn5 => ?_)
  refine wpAny_execs_nil (hq h5 tk5 dx t1 ⟨fun b o hb e => k5 b o hb (k4 b o hb (k3 _ _ (k2 _ _ e))), hx5, ?_, dne, hn5⟩)
  have z1 : h1.objs.size < h2.objs.size := Heap.lt_size hso
  rw [Heap.size_push] at z4
  have z5 : h4.objs.size ≤ dx := dn
  show h1.objs.size ≤ dx
  omega
theorem ref_init (T : RefT P K mg C fI O) {x t0 : Addr} {v : Value} (X : K.In s.heap) (hlim : s.heap.NoLimit) (hx : s.heap.get? x = some (excO C t0)) (hnx : K.lookup x = none) (hroom : A.depth < recursionLimit)
    (hG : s.heap.Ns mainGlobals mg) (hB : s.heap.Ns builtinsNs mb) (hb : mb "super" = some (.type "super"))
    (hq : ∀ h' tk dx t1, InitEnd s.heap h' x C dx t1 v → R (.ok (.ret .none)) { s with heap := h', toks := tk }) :
    codeAny (model P w) A (.call (.ref fI) ⟨[.ref x, v], []⟩) R s := by
  obtain ⟨oc, od, kV, doc, pm, an, cda, cc, ct, osl, vs, file, tf, ccl, cl, cdd, cld, ccs, csl, ho, hcd, hco, hvs, hfile, hcc⟩ := T.fn
  obtain ⟨j, p0, p1, p2, p3, p4, p5, q1, q2, q3, q4, eb, el⟩ := ini_body
  obtain ⟨n1, n2, n3, n4, n5, n6, n7⟩ := ini_sc
  refine ks_codeAny_call_defAt (binds := [("self", .ref x), ("at", v)]) hroom (X _ _ ho) rfl hlim (codeRec_of X hcd) rfl (BindsTo.of_eq (by first | rfl | with_unfolding_all rfl)) ini_cell (fun y hy => by
    rcases List.mem_cons.mp hy with z | hy
    · rw [z]; exact n3
    · rw [List.mem_singleton.mp hy]; exact n4) (fun h1 hns k => ?_) n6 n7 n5
  generalize hen : (callEnv (fnX "__init__" "Refused.__init__" (defArgs sIni) (defBody sIni) (defScope sIni) [("__class__", cc)] .none kV doc pm an (.ref cda) ct) s.heap.objs.size fI) = env
  generalize hbd : Code.func (defBody sIni) env = cd
  rw [eb]
  subst hbd
  have hxL : s.heap.objs.size ≠ x := Nat.ne_of_gt (Heap.lt_size hx)
  refine ini_walk T (X.keeps k) (k _ _ hx) hnx (hG.keeps k) (hB.keeps k) hb (by rw [← hen]; exact n1) (by rw [← hen]; exact n2) (by rw [← hen]; exact n3) (by rw [← hen]; exact n4) (by rw [← hen]; exact n5) (by rw [← hen]; rfl) (by rw [← hen]; rfl) (by rw [← hen]; rfl) (by rw [← hen]; rfl)
    (m := fun y => List.lookup y [(("self" : Str), Value.ref x), ("at", v)].reverse) (by rw [← hen]; exact hns) (by rfl) (by rfl) (by rw [← hen]; exact hxL)
    ⟨_, _, _, _, cda, cc, _, _, _, _, _, _, _, _, _, _, ho, rfl, rfl, by rw [← hen]; rfl, by rw [← hen]; rfl, hco, hvs, hfile, hcc⟩ (mcall el) (by rw [← hen]; rfl) (by rw [← hen]; rfl) fun h' tk dx t1 I => ?_
  refine hq h' tk dx t1 ⟨fun b o hb e => I.keep b o hb (k _ _ e), I.obj, ?_, I.dne, I.ns⟩
  have z : s.heap.objs.size < h1.objs.size := hns.lt
  exact Nat.le_of_lt (Nat.lt_of_lt_of_le z I.dbig)
/-- a made Refused -/
structure OwnMade (h h' : Heap) (e C d : Addr) (v : Value) : Prop where
  keep : ∀ b o, h.get? b = some o → h'.get? b = some o
  new : h.objs.size ≤ e
  obj : ∃ oe vs, h'.get? e = some oe ∧ oe.cls = .ref C ∧ oe.dict = some d ∧ oe.data = .fields vs ∧ vs[1]? = some .none
  dbig : h.objs.size ≤ d
  dne : d ≠ e
  ns : h'.Ns1 d (fun y => if y = "at" then some v else none)
theorem ref_made (T : RefT P K mg C fI O) {v : Value} (X : K.In s.heap) (hlim : s.heap.NoLimit) (hroom : A.depth + 1 < recursionLimit)
    (hG : s.heap.Ns mainGlobals mg) (hB : s.heap.Ns builtinsNs mb) (hb : mb "super" = some (.type "super"))
    (hq : ∀ h' tk e d, OwnMade s.heap h' e C d v → R (.ok (.ret (.ref e))) { s with heap := h', toks := tk }) :
    codeAny (model P w) A (.call (.ref C) ⟨[v], []⟩) R s := by
  obtain ⟨nm, q, N, bs, bm, sn, sub, ab, col, dd, k0, k1, k2, k3, k5, hC, hbm⟩ := T.cls
  obtain ⟨hp, g, dr, tk, os⟩ := s
  have k : ∀ b o, hp.get? b = some o → ((hp.push (kdv_tup [v])).push (excO C hp.objs.size)).get? b = some o := fun b o e => Heap.get?_push_of_some _ (Heap.get?_push_of_some _ e)
  have hget : ((hp.push (kdv_tup [v])).push (excO C hp.objs.size)).get? (hp.objs.size + 1) = some (excO C hp.objs.size) := by heap_get
  have hnx : K.lookup (hp.objs.size + 1) = none := by
    cases e : K.lookup (hp.objs.size + 1) with
    | none => rfl
    | some o =>
      have z : hp.get? (hp.objs.size + 1) = some o := X _ _ e
      exact absurd (Nat.lt_of_succ_lt (Heap.lt_size z)) (Nat.lt_irrefl _)
  refine call_own F.excBase_ValueError (fun X => refsVE_contains X bm hbm) (X _ _ hC) (looks_findIn X T.iC) (fun self => bind_fn X self T.tC) (by show 1 ≤ sizeLine; rw [sizeLine_eq]; omega) ?_
  refine ref_init (s := ⟨(hp.push (kdv_tup [v])).push (excO C hp.objs.size), g, dr, tk, os⟩) T (X.keeps k) (hlim.keeps k) hget hnx ?_ (hG.keeps k) (hB.keeps k) hb fun h' tk' dx t1 J => ?_
  · show A.depth + 1 < recursionLimit
    exact hroom
  · obtain ⟨k', hx, dn, dne, hns⟩ := J
    have old : ∀ b o, hp.get? b = some o → h'.get? b = some o := fun b o e => k' b o (Nat.ne_of_lt (Nat.lt_succ_of_lt (Heap.lt_size e))) (k b o e)
    have z : hp.objs.size + 1 + 1 ≤ dx := by
      first
        | (simpa only [Heap.size_push] using dn)
        | exact dn
        | (have q := dn; rw [Heap.size_push, Heap.size_push] at q; exact q)
    exact ⟨rfl, hq h' tk' (hp.objs.size + 1) dx ⟨old, Nat.le_succ _, ⟨_, _, hx, rfl, rfl, rfl, rfl⟩, Nat.le_trans (Nat.le_trans (Nat.le_succ _) (Nat.le_succ _)) z, dne, hns⟩⟩
theorem relO_at {v : V} {v' : Value} (r : RelV v v') (f : Str) : RelO (List.lookup f [(("at" : Str), v)]) (if f = "at" then some v' else none) := by
  by_cases hw : f = "at"
  · subst hw
    rw [if_pos rfl]
    have q : List.lookup ("at" : Str) [(("at" : Str), v)] = some v := by simp [List.lookup]
    rw [q]
    exact r
  · rw [if_neg hw]
    have qw : (f == ("at" : Str)) = false := by simpa using hw
    have q2 : List.lookup f [(("at" : Str), v)] = none := by simp [List.lookup, qw]
    rw [q2]
    trivial
end
section
variable {X : Cx} {C fI O : Addr}
/-- Refused(e) -/
def tMkRef (C : Addr) (ta : TA) : L2.St → Hp → XK → Prop := fun σ H Q => ta σ H fun vs H1 => ∃ v, vs = [v] ∧ ∀ d, H1 d = none → Q (.ref C) (some d) (upd H1 d (.xd [(("at" : Str), v)]))
theorem pmk_ref {a : Expr} {ta : TA} {p pos : Pos} {k : Nat} (T : RefT X.prog X.K X.mg C fI O) (hr : Room k X.A) (ha : PA X [a] ta) (hg : Gl X "Refused" := by rfl)
    (he : starEach (a :: []) X.env = (false, eval a X.env) :: starEach [] X.env := by rfl) (hpl : (backTo pos (starEach [] X.env)).any (·.1) = false := by rfl) :
    PMk X (.Call (.Name "Refused" p) [a] [] pos) (tMkRef C ta) := by
  intro pins s σ H Q I h
  refine wpAny_Call_Name_kw (ld_glob I hg T.gC ?_)
  refine PySem.W.callWith_K (h₀ := X.base) I.ok.mod.kin T.kC (thn (ha.run pos pins s σ H _ I h) fun us s1 hh => ?_) he hpl
  obtain ⟨vs, H1, I1, r1, v, ev, q1⟩ := hh
  subst ev
  refine ⟨I1.kIn, ?_⟩
  cases r1 with
  | cons rv rn =>
    rename_i v' us'
    cases rn
    show wpAny _ _ (call (.ref C) [v']) _ _ _
    have hlim := I1.nolimit
    obtain ⟨mb, hb1, hb2⟩ := I1.mod.blt
    have hG := I1.mod.glob.keeps I1.bk
    have hB := hb1.keeps I1.bk
    obtain ⟨hp, g, dr, tk, os⟩ := s1
    refine wpAny_call (ref_made T I1.kIn hlim (by have := hr.dp; omega) hG hB ((hb2 "super" (by decide)).trans rfl) fun h' tk' e d M => ?_)
    show MkP X pins σ Q (.ref e) ⟨h', g, dr, tk', os⟩
    obtain ⟨oe, fv, hoe, hc, hd, hdat, h1⟩ := M.obj
    have hns := M.ns
    obtain ⟨G', g1, g2⟩ := restrict h' fun b => decide (b ≠ e)
    have gk : ∀ b, b ≠ e → G'.get? b = h'.get? b := fun b hb => g1 b (decide_eq_true hb)
    have ge : G'.get? e = none := g2 e (by simp)
    have old : ∀ b o, hp.get? b = some o → G'.get? b = some o := fun b o q => (gk b (Nat.ne_of_lt (Nat.lt_of_lt_of_le (Heap.lt_size q) M.new))).trans (M.keep b o q)
    have ob : ObjOk X.prog X.w (upd H1 d (.xd [(("at" : Str), v)])) G' d (.xd [(("at" : Str), v)]) :=
      ⟨_, hns.at (fun o q => (gk d M.dne).trans q), fun f => relO_at rv f⟩
    have J : L2.Inv X pins σ (upd H1 d (.xd [(("at" : Str), v)])) ⟨G', g, dr, tk', os⟩ := I1.laid (t' := tk') old M.dbig ob
    refine ⟨e, oe, fv, ⟨G', g, dr, tk', os⟩, _, .ref C, some d, rfl, J, fun b o q => ?_, ge, hoe, ⟨hc, hd⟩, hdat, h1, ?_, rfl, I1.bare, raises_own T.exC T.tyC, q1 d (I1.hok.fresh M.dbig)⟩
    · by_cases hb : b = e
      · have q' : G'.get? b = some o := q
        rw [hb, ge] at q'; cases q'
      · exact (gk b hb).symm.trans q
    · rw [upd_ne (Ne.symm M.dne)]
      exact I1.hok.fresh M.new
/-- raise Refused(e) -/
def tRaiseRef (C : Addr) (W : WX) (ta : TA) : TS := fun _ σ H => tMkRef C ta σ H fun cls d H' => W cls d σ H'
theorem ps_refused {a : Expr} {ta : TA} {W : WX} {p pos pos2 : Pos} {k : Nat} (hc : X.calm = true) (T : RefT X.prog X.K X.mg C fI O) (hr : Room k X.A) (tk : Takes X W) (ha : PA X [a] ta) (hg : Gl X "Refused" := by rfl)
    (he : starEach (a :: []) X.env = (false, eval a X.env) :: starEach [] X.env := by rfl) (hpl : (backTo pos (starEach [] X.env)).any (·.1) = false := by rfl) :
    PS X (.Raise (some (.Call (.Name "Refused" p) [a] [] pos)) none pos2) (tRaiseRef C W ta) := ps_raise hc tk (pmk_ref T hr ha hg he hpl)
/-- e.at, e the exception that the suite holds (at a; its class cls, its dict d) -/
def tAtX (C : Addr) (a : Addr) (cls : Value) (d : Option Addr) (te : TE) : TE := fun σ H Q => te σ H fun x H1 => x = .ref a ∧ cls = .ref C ∧ ∃ (dd : Addr) (v : V), d = some dd ∧ H1 dd = some (.xd [(("at" : Str), v)]) ∧ Q v H1
theorem pe_atX {a : Addr} {oe : Obj} {cls : Value} {d : Option Addr} {pn : List (Addr × Obj)} {e : Expr} {te : TE} {pos : Pos} (T : RefT X.prog X.K X.mg C fI O) (hz : Zc cls d oe) (hf : ∃ vs, oe.data = .fields vs) (he : PE (X.suite a ((a, oe) :: pn)) e te)
    (hb : attributeBase e "at" X.env (eval e X.env) = eval e X.env := by rfl) :
    PE (X.suite a ((a, oe) :: pn)) (.Attribute e "at" pos) (tAtX C a cls d te) := by
  refine ⟨fun pins s σ H Q I h => ?_⟩
  refine attr_of hb (thn (he.run pins s σ H _ I h) fun u s1 hh => ?_)
  obtain ⟨x, H1, I1, rx, ex, ec, dd, v, ed, ea, q⟩ := hh
  subst ex
  obtain rfl : u = Value.ref a := rx
  subst ec
  subst ed
  obtain ⟨ha, _⟩ := I1.pin (a, oe) (List.mem_append_left _ List.mem_cons_self)
  obtain ⟨vs, hd⟩ := hf
  have hx : ObjOk X.prog X.w H1 s1.heap dd (.xd [(("at" : Str), v)]) := I1.hok dd _ ea
  obtain ⟨mA, hns, hr⟩ := hx
  obtain ⟨od, ho, hl⟩ := lookIn_ns hns
  have l : List.lookup ("at" : Str) [(("at" : Str), v)] = some v := by simp [List.lookup]
  obtain ⟨u, hu, ru⟩ := RelO.some_of (v := v) (o := mA "at") (by rw [← l]; exact hr "at")
  have J : PySem.W.InstAt s1.heap a oe C (some od) := ⟨ha, hz.1, by unfold PySem.W.notCls; rw [hd] <;> rfl, by rw [hz.2]; exact ho⟩
  exact HandSPX.exc_get I1.kIn J T.ga T.gg T.exC (PySem.W.findObj_own T.hdC T.noN rfl (by rw [hl, hu])) (handed_of ru) ⟨v, H1, I1.tok _, ru, q⟩
/-- isinstance(e, c) of it -/
def rIsX (K : PySem.W.Frag) (D a : Addr) (cls : Value) (d : Option Addr) : List V → Hp → VK → Prop := fun xs H Q => ∃ (c : V) (cv : Value) (b : Bool) (dd : Addr) (v : V), xs = [.ref a, c] ∧ cls = .ref D ∧ d = some dd ∧ H dd = some (.xd [(("at" : Str), v)]) ∧ (∀ u, RelV c u → u = cv) ∧ PySem.W.kitOne K (.ref D) cv = some b ∧ Q (.bl b) H
theorem call_isX {X : Cx} {a D : Addr} {cls : Value} {d : Option Addr} {oe : Obj} {pn : List (Addr × Obj)} (C : ExcC X.K D) (hz : Zc cls d oe) (hf : ∃ vs, oe.data = .fields vs) : CallR (X.suite a ((a, oe) :: pn)) (.builtin "isinstance") (rIsX X.K D a cls d) := by
  intro pins s σ H xs us Q I r h
  obtain ⟨c, cv, b, dd, v, rfl, rfl, rfl, hdd, hcv, e, q⟩ := h
  cases r with
  | cons rx rr =>
    cases rr with
    | cons rt rr =>
      cases rr
      cases rx
      have ec := hcv _ rt
      subst ec
      obtain ⟨hget, _⟩ := I.pin (a, oe) (List.mem_append.mpr (.inl List.mem_cons_self))
      obtain ⟨vs, hv⟩ := hf
      have hx : ObjOk X.prog X.w H s.heap dd (.xd [(("at" : Str), v)]) := I.hok dd _ hdd
      obtain ⟨mA, hns, hr⟩ := hx
      obtain ⟨od, ho, hl⟩ := lookIn_ns hns
      have J : PySem.W.InstAt s.heap a oe D (some od) := ⟨hget, hz.1, by unfold PySem.W.notCls; rw [hv] <;> rfl, by rw [hz.2]; exact ho⟩
      have hcl : (PySem.W.clsIn X.K D).isSome = true := by
        obtain ⟨cd, hc, _⟩ := PySem.W.any_some C.hd
        rw [hc]; rfl
      exact PySem.W.kia_one (PySem.W.kitx_exc hcl C.hg C.hk C.hs C.ha C.hn C.ht C.hm) I.kIn J e (fun z => nomatch z) fun tk => ⟨.bl b, H, I.kept (t' := tk) fun _ _ z => z, rfl, q⟩
end
end Od
set_option Elab.async false
set_option linter.all false
set_option autoImplicit false
set_option maxRecDepth 100000
set_option maxHeartbeats 4000000
/-! L0: rules that the hand layer lacks: o[i] by values, a tuple times 0 or 1, enumerate of a tuple, zip of a tuple and a list. -/
namespace L2
open PySem PySem.Spec PyProof.Rows
section
variable {X : Cx}
theorem pget_list : PGet X (rIxL X.K) := by
  intro pins s σ H x y v u Q I rx ry h
  obtain ⟨p, xs, i, z, rfl, rfl, hq, he, q⟩ := h
  cases rx
  obtain ⟨t, rfl⟩ := ry
  obtain ⟨its, r, pl, hz⟩ := I.list hq
  obtain ⟨j, h1, h2, h3, h4, h5⟩ := atI_get he
  obtain ⟨w, ew, rw'⟩ := r.get h2
  have hl := r.length
  have hn := line63
  have fin : EP X pins σ Q w s := ⟨z, H, I, rw', q⟩
  by_cases h0 : 0 ≤ i
  · have hj : i.toNat = j := by
      rw [seqIndex_of h0 h5] at h1
      exact Option.some.inj h1
    exact wpAny_getItem_list pl.isList h0 (by omega) (by rw [hj]; simpa using ew) fin
  · have hj : (i + (its.toArray.size : Int)).toNat = j := by
      rw [seqIndex_neg (by omega) h4] at h1
      rw [List.size_toArray, ← hl]
      exact Option.some.inj h1
    exact wpAny_getItem_list_neg pl.isList (by omega) (by rw [List.size_toArray] <;> omega) (by omega) (by rw [hj]; simpa using ew) fin
/-! ### t * 0, t * 1 -/
theorem tuple_mul0 (l : Addr) (items : Array Value) (n : Nat) (dd : Option Addr) (sl : Array (Option Value)) (x : Int) (u : Tok) (c0 : (decide (x < -(2 ^ 63)) || decide (x ≥ 2 ^ 63)) = false) (c1 : (items.isEmpty || x == 1) = false) (c2 : (decide (x ≤ 0) || items.isEmpty) = true) :
    Meets (Builtin.«tuple.__mul__» ⟨[.ref l, .int x u], []⟩) (fun _ R s => s.heap.get? l = some { cls := .type "tuple", dict := dd, data := .seq items n, slots := sl } ∧
      R (.ok (.ret (Value.ref s.heap.objs.size))) { s with heap := s.heap.push { cls := Value.type "tuple", data := Data.seq #[] }, toks := s.toks }) :=
  .of_wp fun prog w A R s h => by
    obtain ⟨hp, g, d, tk, os⟩ := s
    obtain ⟨hl, h⟩ := h
    have f1 := AutoSeq1.idx_int
    wp_walk using wpAny_loadPart' hl
    repeat (first
      | (refine wpAny_ite_false (decide_eq_false (by rw [c0]; exact Bool.false_ne_true)) ?_; wp_walk using wpAny_loadPart' hl)
      | (refine wpAny_ite_false (decide_eq_false (by rw [c1]; exact Bool.false_ne_true)) ?_; wp_walk using wpAny_loadPart' hl)
      | (refine wpAny_ite_true (decide_eq_true c2) ?_; wp_walk using wpAny_loadPart' hl))
    exact ⟨_, rfl, h⟩
theorem tuple_mul1 (l : Addr) (items : Array Value) (n : Nat) (dd : Option Addr) (sl : Array (Option Value)) (u : Tok) :
    Meets (Builtin.«tuple.__mul__» ⟨[.ref l, .int 1 u], []⟩) (fun _ R s => s.heap.get? l = some { cls := .type "tuple", dict := dd, data := .seq items n, slots := sl } ∧ R (.ok (.ret (Value.ref l))) s) :=
  .of_wp fun prog w A R s h => by
    obtain ⟨hp, g, d, tk, os⟩ := s
    obtain ⟨hl, h⟩ := h
    have f1 := AutoSeq1.idx_int
    wp_walk using wpAny_loadPart' hl
    exact ⟨_, rfl, h⟩
theorem mul_tup {pins : List (Addr × Obj)} {σ : L2.St} {H : Hp} {s : Shared} {l : Addr} {k : Int} {t : Tok} {items : Array Value} {n : Nat} {dd : Option Addr} {sl : Array (Option Value)} {Q : Value → Shared → Prop} {E : Value → Shared → Prop} (ho : s.heap.get? l = some { cls := .type "tuple", dict := dd, data := .seq items n, slots := sl })
    (h : codeAny (model X.prog X.w) X.A (.call (.builtin "tuple.__mul__") ⟨[.ref l, .int k t], []⟩) (fun r s' => match r with | .ok (.ret v) => Q v s' | .ok _ => False | .error e => E e s') s) : True := trivial
/-- t * k, t of one item -/
def rRep01 (K : PySem.W.Frag) : R2 := fun x y H Q => ∃ l k v, x = .ref l ∧ y = .int k ∧ SqT K H l [v] ∧ ((k = 1 ∧ Q (.ref l) H) ∨ (k = 0 ∧ ∀ p, H p = none → Q (.ref p) (upd H p (.tup []))))
theorem op_rep01 : OpR X (binaryOp .Mult) (rRep01 X.K) := by
  intro pins s σ H x y v u Q I rx ry h
  obtain ⟨l, k, a, rfl, rfl, hT, q⟩ := h
  cases rx
  obtain ⟨t, rfl⟩ := ry
  obtain ⟨its, r, ⟨⟨cls, dd, data, sl⟩, ho, hc, n, hd⟩, hs⟩ := I.tuple hT
  simp only at hc hd
  subst hc hd
  have hle : its.length = 1 := r.length.symm
  have hi : its.toArray.isEmpty = false := by
    cases its with
    | nil => cases hle
    | cons a b => rfl
  rcases q with ⟨rfl, q⟩ | ⟨rfl, q⟩
  · refine wpAny_binaryOp_repeat_ref (T := "tuple") (U := "int") (by decide) ⟨_, ho, rfl⟩ (fun s' => typeIs_int s' 1 t) noFill_tuple_mul F.fills_int_mul F.slot_int_rmul repeat_tuple F.slot_int_index.lookup
      (call_meets F.slot_int_rmul (typeIs_int s 1 t) F.entry_int_rmul (F.args_int_rmul_2 _ _) (int_rmul_tuple 1 t l its.toArray n dd sl)
        ⟨ho, rfl, ⟨_, ho, rfl⟩, call_meets F.slot_tuple_mul ⟨_, ho, rfl⟩ F.entry_tuple_mul (F.args_tuple_mul_2 _ _) (tuple_mul1 l its.toArray n dd sl t) ⟨ho, ?_⟩⟩)
    exact ⟨.ref l, H, I, rfl, q⟩
  · have c0 : (decide ((0 : Int) < -(2 ^ 63)) || decide ((0 : Int) ≥ 2 ^ 63)) = false := by decide
    have c1 : (its.toArray.isEmpty || (0 : Int) == 1) = false := by rw [hi]; rfl
    have c2 : (decide ((0 : Int) ≤ 0) || its.toArray.isEmpty) = true := by rfl
    refine wpAny_binaryOp_repeat_ref (T := "tuple") (U := "int") (by decide) ⟨_, ho, rfl⟩ (fun s' => typeIs_int s' 0 t) noFill_tuple_mul F.fills_int_mul F.slot_int_rmul repeat_tuple F.slot_int_index.lookup
      (call_meets F.slot_int_rmul (typeIs_int s 0 t) F.entry_int_rmul (F.args_int_rmul_2 _ _) (int_rmul_tuple 0 t l its.toArray n dd sl)
        ⟨ho, rfl, ⟨_, ho, rfl⟩, call_meets F.slot_tuple_mul ⟨_, ho, rfl⟩ F.entry_tuple_mul (F.args_tuple_mul_2 _ _) (tuple_mul0 l its.toArray n dd sl 0 t c0 c1 c2) ⟨ho, ?_⟩⟩)
    refine ⟨.ref s.heap.objs.size, _, I.laid (t' := s.toks) (o := .tup []) (fun b ob q => Heap.get?_push_of_some _ q) (Nat.le_refl _) ?_, rfl, q _ (I.hok.fresh (Nat.le_refl _))⟩
    exact ⟨Nat.zero_le _, [], .nil, IsTup.new _ _⟩
/-- t * k, t of one item, k from 0 to 1000 -/
def rRep1 (K : PySem.W.Frag) : R2 := fun x y H Q => rRepT K x y H Q ∨ rRep01 K x y H Q
theorem op_rep1 : OpR X (binaryOp .Mult) (rRep1 X.K) := by
  intro pins s σ H x y v u Q I rx ry h
  exact h.elim (op_repT pins s σ H x y v u Q I rx ry) (op_rep01 pins s σ H x y v u Q I rx ry)
end
/-! ### enumerate(t), t a tuple -/
theorem meets_enum1 {v : Value} {o : Obj} {H : Heap → Prop} (B : Begins v o H) :
    Meets (Builtin.«enumerate.__new__» ⟨[.type "enumerate", v], []⟩) (fun _ R s => H s.heap ∧
      R (.ok (.ret (.ref (s.heap.push o).objs.size))) { s with heap := (s.heap.push o).push { cls := .type "enumerate", data := .fields #[.none, .bool false, .ref s.heap.objs.size, rawInt 0, .none, .none] } }) :=
  .of_wp fun prog w A R s h => by
    obtain ⟨hp, g, d, tk, os⟩ := s; obtain ⟨h1, h⟩ := h
    have hsub := sub_enumerate
    have q1 : ∀ {A' : Around} {E : Value → Shared → Prop} {Q : Value → Shared → Prop}, Q (.ref hp.objs.size) ⟨hp.push o, g, d, tk, os⟩ → wpAny (model prog w) A' (pyIter v) Q E ⟨hp, g, d, tk, os⟩ :=
      fun q => B.iter prog w _ _ ⟨hp, g, d, tk, os⟩ _ h1 q
    wp_walk using q1
    refine wpAny_stack_any fun st => wpAny_pure ?_
    split
    · rename_i c _ _ _ _ _
      cases (c == Value.type "enumerate")
      · wp_walk using q1
        exact ⟨_, rfl, h⟩
      · wp_walk using q1
        exact ⟨_, rfl, h⟩
    · wp_walk using q1
      exact ⟨_, rfl, h⟩
theorem enum_begins1 {prog : Program} {w : World} {A : Around} {E : Value → Shared → Prop} {s : Shared} {v : Value} {o : Obj} {H : Heap → Prop} {Q : Value → Shared → Prop} (B : Begins v o H) (h1 : H s.heap)
    (h : ∀ h', IsEnum h' (s.heap.objs.size + 1) s.heap.objs.size 0 .none → h'.get? s.heap.objs.size = some o → h'.objs.size = s.heap.objs.size + 2 →
      (∀ b o, s.heap.get? b = some o → h'.get? b = some o) → Q (.ref (s.heap.objs.size + 1)) { s with heap := h' }) :
    wpAny (model prog w) A (call (.type "enumerate") [v]) Q E s := by
  refine callType_new F.called_enumerate (by decide) (F.typeCall_enumerate_1 _) (F.newCall_enumerate_1 _) (fun obj => F.args_object_init_2 obj _) F.entry_enumerate_new
    (meets_enum1 B) ⟨h1, ?_⟩
  have hz : (s.heap.push o).objs.size = s.heap.objs.size + 1 := Heap.size_push ..
  show _ ∧ _
  rw [hz]
  have he : IsEnum ((s.heap.push o).push { cls := .type "enumerate", data := .fields #[.none, .bool false, .ref s.heap.objs.size, rawInt 0, .none, .none] }) (s.heap.objs.size + 1) s.heap.objs.size 0 .none := by
    have := Heap.get?_push_size (s.heap.push o) (o := { cls := .type "enumerate", data := .fields #[.none, .bool false, .ref s.heap.objs.size, rawInt 0, .none, .none] }) rfl
    rw [hz] at this; exact this
  refine ⟨⟨_, he, rfl⟩, h _ he (Heap.get?_push_of_some _ (Heap.get?_push_size _ B.free)) (by rw [Heap.size_push, hz]) fun b o x => Heap.get?_push_of_some _ (Heap.get?_push_of_some _ x)⟩
/-- the tuple at a, each item in a new pair -/
def IteT (K : PySem.W.Frag) (a : Addr) : It :=
  ⟨fun i H => ∃ (xs : List V) (x : V), SqT K H a xs ∧ xs[i]? = some x, fun i H v H' => ∃ T x, v = .ref T ∧ H T = none ∧ H' = upd H T (.tup [.int (i : Nat), x]) ∧ ∀ xs, SqT K H a xs → xs[i]? = some x, fun i H => ∃ xs : List V, SqT K H a xs ∧ xs.length = i⟩
theorem turn_enumT {P : Program} {w : World} {K : PySem.W.Frag} {elts : List Expr} {kk : Nat} {tpos : Pos} (a e it : Addr) :
    Turn P w K (.Tuple elts kk tpos) (IteT K a) [e, it] e (fun i h => (∃ old, IsEnum h e it (0 + (i : Int)) old) ∧ h.IsTupleIter it a i ∧ e ≠ it ∧ a ≠ it ∧ e ≠ a) where
  mem := by simp
  obj := fun i h st b hb => by
    obtain ⟨⟨old, he⟩, ⟨o, ho, hc, hd⟩, _⟩ := st
    have e' : b = e ∨ b = it := by simpa using hb
    rcases e' with z | z
    · rw [z]; exact ⟨_, he, fun v q => nomatch q⟩
    · rw [z]; exact ⟨o, ho, fun v q => by rw [hd] at q; cases q⟩
  keep := fun i h h' st k => let ⟨⟨old, he⟩, hi, hne⟩ := st; ⟨⟨old, k e (by simp) _ he⟩, hi.at fun o q => k it (by simp) o q, hne⟩
  item := by
    intro X hP hw hK hc i pins s σ H E I hf st hg
    subst hP hw hK
    obtain ⟨⟨old, he⟩, hit, hne, ha, hea⟩ := st
    obtain ⟨xs, x, hq, hx⟩ := hg
    obtain ⟨its, rv, p, hz⟩ := I.tuple hq
    obtain ⟨u, hu, ru⟩ := rv.get hx
    have hel : e < s.heap.objs.size := Heap.lt_size he
    have hil : it < s.heap.objs.size := by obtain ⟨_, q, _⟩ := hit; exact Heap.lt_size q
    have hlt : i < its.toArray.size := by
      have := (List.getElem?_eq_some_iff.mp hu).1
      simpa using this
    have W := GoesN.enumFrom (prog := X.prog) (w := X.w) (A := X.A) (elts := elts) (x1 := kk) (pos := tpos) 0 (Draws.tuple (prog := X.prog) (w := X.w) (A := X.A.in1) (I.ok.hd hc) it a ha its.toArray) e hne (by simp [hne, hea]) (by simp)
    refine wpAny_mono (W.goes i s (fun v s2 => ∃ x H', Inv X pins σ H' s2 ∧ RelV x v ∧ (IteT X.K a).yld i H x H' ∧ ((∃ old, IsEnum s2.heap e it (0 + ((i + 1 : Nat) : Int)) old) ∧ s2.heap.IsTupleIter it a (i + 1) ∧ e ≠ it ∧ a ≠ it ∧ e ≠ a) ∧ ∀ b ∈ [e, it], H' b = none) E hlt ⟨⟨old, he⟩, hit, p⟩ fun v h' tk hY st' hk htk => ?_) (fun r s1 q => ?_) fun _ _ z => z
    · obtain ⟨T, t, y, rfl, hT, hy, hTup⟩ := hY
      obtain ⟨he', hit', _⟩ := st'
      have ey : y = u := by
        have : its.toArray[i]? = some u := by simpa using hu
        rw [this] at hy
        exact (Option.some.inj hy).symm
      subst ey
      have new : ObjOk X.prog X.w (upd H T (.tup [.int (i : Nat), x])) h' T (.tup [.int (i : Nat), x]) :=
        ⟨by show 2 ≤ sizeLine; decide, [.int (0 + (i : Int)) t, y], .cons ⟨t, by rw [Int.zero_add]⟩ (.cons ru .nil), hTup⟩
      have I1 : Inv X pins σ (upd H T (.tup [.int (i : Nat), x])) { s with heap := h', toks := tk } :=
        I.turnedNew (ch := [e, it]) (fun b ob hb q => hk b ob hb q) hf hT new
      refine ⟨.ref T, _, I1, rfl, ⟨T, x, rfl, I.hok.fresh hT, rfl, fun ys hy => by rw [I.tuple_inj hy hq]; exact hx⟩, ⟨he', hit', hne, ha, hea⟩, fun b hb => ?_⟩
      have hb' : b < s.heap.objs.size := by
        have e' : b = e ∨ b = it := by simpa using hb
        rcases e' with z | z
        · rw [z]; exact hel
        · rw [z]; exact hil
      rw [upd_ne (Nat.ne_of_lt (Nat.lt_of_lt_of_le hb' hT))]
      exact (hf b hb).1
    · exact q
  done := by
    intro X hP hw hK hc i pins s σ H E I hf st hg
    subst hP hw hK
    obtain ⟨⟨old, he⟩, hit, hne, ha, hea⟩ := st
    obtain ⟨xs, hq, hx⟩ := hg
    obtain ⟨its, rv, p, hz⟩ := I.tuple hq
    have hl := rv.length
    have W := GoesN.enumFrom (prog := X.prog) (w := X.w) (A := X.A) (elts := elts) (x1 := kk) (pos := tpos) 0 (Draws.tuple (prog := X.prog) (w := X.w) (A := X.A.in1) (I.ok.hd hc) it a ha its.toArray) e hne (by simp [hne, hea]) (by simp)
    have ei : i = its.toArray.size := by simp; omega
    subst ei
    refine W.stops s (fun s1 => Inv X pins σ H s1) E ⟨⟨old, he⟩, hit, p⟩ fun h' tk hk _ => ?_
    exact I.turnedL (ch := [e, it]) (fun b o hb q => hk b o hb q) hf
  self := fun A i s Q E st h => let ⟨⟨_, he⟩, _⟩ := st; wpAny_pyIter_enum he h
def iEnumT (K : PySem.W.Frag) (ta : TA) : TI := fun σ H R => ta σ H fun vs H1 => ∃ a xs, vs = [.ref a] ∧ SqT K H1 a xs ∧ R (IteT K a) H1
theorem pi_enumT {X : Cx} {e : Expr} {ta : TA} {p pos tpos : Pos} {elts : List Expr} {kk : Nat} (hg : Gl X "enumerate") (hm : X.mg "enumerate" = none) (ha : PA X [e] ta) (hs : starEach [e] X.env = [(false, eval e X.env)] := by rfl) :
    PI X (.Tuple elts kk tpos) (.Call (.Name "enumerate" p) [e] [] pos) (iEnumT X.K ta) := by
  refine ⟨fun pins s σ H R I h => ?_⟩
  refine Call_ (ld_blt I hg hm boot_enumerate (PyProof.Rows.callWith_type1 (thn (ha.run pos pins s σ H _ I h) fun us s1 ⟨vs, H1, I1, r1, q1⟩ => ?_) hs rfl))
  obtain ⟨a, xs, ex, hq, q⟩ := q1
  subst ex
  obtain ⟨u, rfl, ru⟩ := vals1 r1
  cases ru
  obtain ⟨its, rv, p', _⟩ := I1.tuple hq
  have hal : a < s1.heap.objs.size := by obtain ⟨o, ho, _⟩ := id p'; exact Heap.lt_size ho
  refine enum_begins1 (begins_tuple a its.toArray) (show s1.heap.IsTuple a its.toArray from p') fun h' he hit hsz hk => wpAny_pyIter_enum he ?_
  have I2 : Inv X pins σ H1 { s1 with heap := h' } := I1.kept (t' := s1.toks) hk
  refine ⟨s1.heap.objs.size + 1, [s1.heap.objs.size + 1, s1.heap.objs.size], _, _, H1, rfl, I2, turn_enumT a (s1.heap.objs.size + 1) s1.heap.objs.size, ⟨⟨.none, ?_⟩, ⟨_, hit, rfl, rfl⟩, Nat.succ_ne_self _, Nat.ne_of_lt hal, Nat.ne_of_gt (Nat.lt_succ_of_lt hal)⟩, fun b hb => ?_, q⟩
  · exact he
  · have e' : b = s1.heap.objs.size + 1 ∨ b = s1.heap.objs.size := by simpa using hb
    have hle : s1.heap.objs.size ≤ b := by
      rcases e' with z | z
      · rw [z]; exact Nat.le_add_right _ _
      · rw [z]; exact Nat.le_refl _
    exact I1.fpOk hle (I1.hok.fresh hle)
/-! ### zip(t, xs), t a tuple, xs a list -/
def ItzQ (K : PySem.W.Frag) (a b : Addr) : It :=
  ⟨fun i H => ∃ (xs ys : List V) (x y : V), SqT K H a xs ∧ SqL K H b ys ∧ xs[i]? = some x ∧ ys[i]? = some y,
    fun i H v H' => ∃ T x y, v = .ref T ∧ H T = none ∧ H' = upd H T (.tup [x, y]) ∧ (∀ xs, SqT K H a xs → xs[i]? = some x) ∧ ∀ ys, SqL K H b ys → ys[i]? = some y,
    fun i H => ∃ xs ys : List V, SqT K H a xs ∧ SqL K H b ys ∧ xs.length = i ∧ ys.length = i⟩
theorem turn_zipQ {P : Program} {w : World} {K : PySem.W.Frag} {elts : List Expr} {kk : Nat} {tpos : Pos} {a b z TI TO i1 i2 : Addr} (D : ZipSep2 z TI TO i1 i2 [i1, a] [i2, b]) :
    Turn P w K (.Tuple elts kk tpos) (ItzQ K a b) [z, TI, TO, i1, i2] z (fun i h => IsZip h z TI TO .none ∧ IsTupOf2 h TI (.ref i1) (.ref i2) ∧ (∃ x y, IsTupOf2 h TO x y) ∧ h.IsTupleIter i1 a i ∧ h.IsListIter i2 b i ∧ a ≠ i1 ∧ b ≠ i2) where
  mem := by simp
  obj := fun i h st c hc => by
    obtain ⟨hz, hTI, ⟨x, y, hTO⟩, ⟨o1, e1, _, d1⟩, ⟨o2, e2, _, d2⟩, _⟩ := st
    have e' : c = z ∨ c = TI ∨ c = TO ∨ c = i1 ∨ c = i2 := by simpa using hc
    rcases e' with q | q | q | q | q
    · rw [q]; exact ⟨_, hz, fun v q => nomatch q⟩
    · rw [q]; exact ⟨_, hTI, fun v q => nomatch q⟩
    · rw [q]; exact ⟨_, hTO, fun v q => nomatch q⟩
    · rw [q]; exact ⟨o1, e1, fun v q => by rw [d1] at q; cases q⟩
    · rw [q]; exact ⟨o2, e2, fun v q => by rw [d2] at q; cases q⟩
  keep := fun i h h' st k => by
    obtain ⟨hz, hTI, ⟨x, y, hTO⟩, h1, h2, n1, n2⟩ := st
    exact ⟨k z (by simp) _ hz, k TI (by simp) _ hTI, ⟨x, y, k TO (by simp) _ hTO⟩, h1.at fun o q => k i1 (by simp) o q, h2.at fun o q => k i2 (by simp) o q, n1, n2⟩
  item := by
    intro X hP hw hK hc i pins s σ H E I hf st hg
    subst hP hw hK
    obtain ⟨hz, hTI, hTO, h1, h2, n1, n2⟩ := st
    obtain ⟨xs, ys, x, y, hqx, hqy, hx, hy⟩ := hg
    obtain ⟨its, rv, p, _⟩ := I.tuple hqx
    obtain ⟨its2, rv2, p2, _⟩ := I.list hqy
    obtain ⟨u, hu, ru⟩ := rv.get hx
    obtain ⟨u2, hu2, ru2⟩ := rv2.get hy
    have W := GoesN.zip2 (prog := X.prog) (w := X.w) (A := X.A) (elts := elts) (x1 := kk) (pos := tpos) D (Draws.tuple (prog := X.prog) (w := X.w) (A := X.A.in1) (I.ok.hd hc) i1 a n1 its.toArray) (Draws.list (prog := X.prog) (w := X.w) (A := X.A.in1) (I.ok.hd hc) i2 b n2 its2.toArray)
    have hlt : i < min its.toArray.size its2.toArray.size := by
      have q1 := (List.getElem?_eq_some_iff.mp hu).1
      have q2 := (List.getElem?_eq_some_iff.mp hu2).1
      simp only [List.size_toArray]
      omega
    refine wpAny_mono (W.goes i s (fun v s2 => ∃ x H', Inv X pins σ H' s2 ∧ RelV x v ∧ (ItzQ X.K a b).yld i H x H' ∧ (IsZip s2.heap z TI TO .none ∧ IsTupOf2 s2.heap TI (.ref i1) (.ref i2) ∧ (∃ x y, IsTupOf2 s2.heap TO x y) ∧ s2.heap.IsTupleIter i1 a (i + 1) ∧ s2.heap.IsListIter i2 b (i + 1) ∧ a ≠ i1 ∧ b ≠ i2) ∧ ∀ c ∈ [z, TI, TO, i1, i2], H' c = none) E hlt ⟨hz, hTI, hTO, ⟨h1, p⟩, ⟨h2, p2.isList⟩⟩ fun v h' tk hY st' hk htk => ?_) (fun r s1 q => q) fun _ _ z => z
    obtain ⟨T, c, d, rfl, hT, hc1, hd1, hTup⟩ := hY
    obtain ⟨z', TI', TO', ⟨h1', _⟩, ⟨h2', _⟩⟩ := st'
    have e1 : c = u := by
      have : its.toArray[i]? = some u := by simpa using hu
      rw [this] at hc1
      exact (Option.some.inj hc1).symm
    have e2 : d = u2 := by
      have : its2.toArray[i]? = some u2 := by simpa using hu2
      rw [this] at hd1
      exact (Option.some.inj hd1).symm
    subst e1 e2
    have new : ObjOk X.prog X.w (upd H T (.tup [x, y])) h' T (.tup [x, y]) :=
      ⟨by show 2 ≤ sizeLine; decide, [c, d], .cons ru (.cons ru2 .nil), hTup⟩
    have I1 : Inv X pins σ (upd H T (.tup [x, y])) { s with heap := h', toks := tk } :=
      I.turnedNew (ch := [z, TI, TO, i1, i2]) (fun b' ob hb q => hk b' ob (fun m => hb (by
        have m' : b' = z ∨ b' = TO ∨ b' = i1 ∨ b' = i2 := by simpa using m
        rcases m' with e | e | e | e <;> simp [e])) q) hf hT new
    refine ⟨.ref T, _, I1, rfl, ⟨T, x, y, rfl, I.hok.fresh hT, rfl, fun l hl => by rw [I.tuple_inj hl hqx]; exact hx, fun l hl => by rw [I.list_inj hl hqy]; exact hy⟩, ⟨z', TI', TO', h1', h2', n1, n2⟩, fun c' hcm => ?_⟩
    have hlt' : c' < s.heap.objs.size := by
      obtain ⟨x0, y0, hTO⟩ := hTO
      have e' : c' = z ∨ c' = TI ∨ c' = TO ∨ c' = i1 ∨ c' = i2 := by simpa using hcm
      rcases e' with q | q | q | q | q
      · rw [q]; exact Heap.lt_size hz
      · rw [q]; exact Heap.lt_size hTI
      · rw [q]; exact Heap.lt_size hTO
      · rw [q]; obtain ⟨_, e1, _⟩ := h1; exact Heap.lt_size e1
      · rw [q]; obtain ⟨_, e2, _⟩ := h2; exact Heap.lt_size e2
    rw [upd_ne (Nat.ne_of_lt (Nat.lt_of_lt_of_le hlt' hT))]
    exact (hf c' hcm).1
  done := by
    intro X hP hw hK hc i pins s σ H E I hf st hg
    subst hP hw hK
    obtain ⟨hz, hTI, hTO, h1, h2, n1, n2⟩ := st
    obtain ⟨xs, ys, hqx, hqy, hx, hy⟩ := hg
    obtain ⟨its, rv, p, _⟩ := I.tuple hqx
    obtain ⟨its2, rv2, p2, _⟩ := I.list hqy
    have l1 := rv.length
    have l2 := rv2.length
    have W := GoesN.zip2 (prog := X.prog) (w := X.w) (A := X.A) (elts := elts) (x1 := kk) (pos := tpos) D (Draws.tuple (prog := X.prog) (w := X.w) (A := X.A.in1) (I.ok.hd hc) i1 a n1 its.toArray) (Draws.list (prog := X.prog) (w := X.w) (A := X.A.in1) (I.ok.hd hc) i2 b n2 its2.toArray)
    have ei : i = min its.toArray.size its2.toArray.size := by simp only [List.size_toArray]; omega
    subst ei
    refine W.stops s (fun s1 => Inv X pins σ H s1) E ⟨hz, hTI, hTO, ⟨h1, p⟩, ⟨h2, p2.isList⟩⟩ fun h' tk hk _ => ?_
    exact I.turnedL (ch := [z, TI, TO, i1, i2]) (fun b' ob hb q => hk b' ob (fun m => hb (by
        have m' : b' = z ∨ b' = TO ∨ b' = i1 ∨ b' = i2 := by simpa using m
        rcases m' with e | e | e | e <;> simp [e])) q) hf
  self := fun A i s Q E st h => wpAny_pyIter_zip st.1 h
/-- zip(t, xs), t a tuple, xs a list or a tuple -/
def iZipQ (K : PySem.W.Frag) (ta : TA) : TI := fun σ H R => ta σ H fun vs H1 => ∃ a b xs ys, vs = [.ref a, .ref b] ∧ SqT K H1 a xs ∧ ((SqT K H1 b ys ∧ R (RZ.ItzT K a b) H1) ∨ (SqL K H1 b ys ∧ R (ItzQ K a b) H1))
theorem pi_zipQ {X : Cx} {e e2 : Expr} {ta : TA} {p pos tpos : Pos} {elts : List Expr} {kk : Nat} (hg : Gl X "zip") (hm : X.mg "zip" = none) (ha : PA X [e, e2] ta)
    (hs : starEach [e, e2] X.env = (false, eval e X.env) :: starEach [e2] X.env := by rfl) (hpl : (backTo pos (starEach [e2] X.env)).any (·.1) = false := by rfl) :
    PI X (.Tuple elts kk tpos) (.Call (.Name "zip" p) [e, e2] [] pos) (iZipQ X.K ta) := by
  refine ⟨fun pins s σ H R I h => ?_⟩
  refine Call_ (ld_blt I hg hm PyProof.Rows.boot_zip (PyProof.Rows.callWith_type1 (thn (ha.run pos pins s σ H _ I h) fun us s1 ⟨vs, H1, I1, r1, q1⟩ => ?_) hs hpl))
  obtain ⟨a, b, xs, ys, ex, hqx, q1⟩ := q1
  subst ex
  cases r1 with
  | cons r rr =>
    cases rr with
    | cons r' rr =>
      cases rr
      cases r
      cases r'
      have fresh5 : ∀ c, c ∈ [s1.heap.objs.size + 4, s1.heap.objs.size + 2, s1.heap.objs.size + 3, s1.heap.objs.size, s1.heap.objs.size + 1] → FpOk X pins H1 c := fun c hcm => by
        have e' : c = s1.heap.objs.size + 4 ∨ c = s1.heap.objs.size + 2 ∨ c = s1.heap.objs.size + 3 ∨ c = s1.heap.objs.size ∨ c = s1.heap.objs.size + 1 := by simpa using hcm
        have hle : s1.heap.objs.size ≤ c := by
          rcases e' with z | z | z | z | z
          · rw [z]; exact Nat.le_add_right _ _
          · rw [z]; exact Nat.le_add_right _ _
          · rw [z]; exact Nat.le_add_right _ _
          · rw [z]; exact Nat.le_refl _
          · rw [z]; exact Nat.le_add_right _ _
        exact I1.fpOk hle (I1.hok.fresh hle)
      obtain ⟨its, rv, p1, _⟩ := I1.tuple hqx
      obtain ⟨o1, ho1, _⟩ := id p1
      rcases q1 with ⟨hqy, q⟩ | ⟨hqy, q⟩
      · obtain ⟨its2, rv2, p2, _⟩ := I1.tuple hqy
        obtain ⟨o2, ho2, _⟩ := id p2
        refine RZ.call_zipT (show s1.heap.IsTuple a its.toArray from p1) (show s1.heap.IsTuple b its2.toArray from p2) fun h' hz hTI hTO h1 h2 hsz hk => wpAny_pyIter_zip hz ?_
        have I2 : Inv X pins σ H1 { s1 with heap := h' } := I1.kept (t' := s1.toks) hk
        exact ⟨s1.heap.objs.size + 4, [s1.heap.objs.size + 4, s1.heap.objs.size + 2, s1.heap.objs.size + 3, s1.heap.objs.size, s1.heap.objs.size + 1], _, _, H1, rfl, I2, RZ.turn_zipT (PySem.W.ktu_apart s1.heap.objs.size a b (Heap.lt_size ho1) (Heap.lt_size ho2)), ⟨hz, hTI, ⟨_, _, hTO⟩, h1, h2⟩, fresh5, q⟩
      · obtain ⟨its2, rv2, p2, _⟩ := I1.list hqy
        refine zip_begins2 (begins_tuple a its.toArray) (begins_list b its2.toArray) (show s1.heap.IsTuple a its.toArray from p1) p2.isList fun h' hz hTI hTO h1 h2 hsz hk => wpAny_pyIter_zip hz ?_
        have I2 : Inv X pins σ H1 { s1 with heap := h' } := I1.kept (t' := s1.toks) hk
        have la : a < s1.heap.objs.size := Heap.lt_size ho1
        have lb : b < s1.heap.objs.size := p2.lt
        exact ⟨s1.heap.objs.size + 4, [s1.heap.objs.size + 4, s1.heap.objs.size + 2, s1.heap.objs.size + 3, s1.heap.objs.size, s1.heap.objs.size + 1], _, _, H1, rfl, I2,
          turn_zipQ (zip_sep2 (fp1 := [a]) (fp2 := [b]) (fun c hc => by rw [List.mem_singleton.mp hc]; exact la) (fun c hc => by rw [List.mem_singleton.mp hc]; exact lb)), ⟨hz, hTI, ⟨_, _, hTO⟩, ⟨_, h1, rfl, rfl⟩, ⟨_, h2, rfl, rfl⟩, Nat.ne_of_lt la, Nat.ne_of_lt (Nat.lt_succ_of_lt lb)⟩, fresh5, q⟩
/-! ### sum(t), t a tuple of ints -/
def rSumT (K : PySem.W.Frag) : List V → Hp → VK → Prop := fun vs H Q => ∃ (a : Addr) (ns : List Int), vs = [V.ref a] ∧ SqT K H a (ns.map V.int) ∧ Q (.int ns.sum) H
theorem cr_sumT {X : Cx} (hc : X.calm = true) : CallR X (.builtin "sum") (rSumT X.K) := by
  intro pins s σ H vs us Q I r h
  obtain ⟨a, ns, rfl, hs, q⟩ := h
  obtain ⟨its, rv, hl, _⟩ := I.tuple hs
  rw [Vals.ref1 r]
  obtain ⟨xs, e⟩ := rv.ints.allInts.items
  have hn : numsOf (intItems xs).toList = ns := by rw [← e]; exact rv.ints.numsOf
  rw [nums_intItems] at hn
  have hl' : s.heap.IsTuple a its.toArray := hl
  rw [e] at hl'
  refine PySem.W.ktm_sumG (I.ok.hd hc) hl' fun h' tk t' hk => ?_
  rw [preSum_eq, List.take_of_length_le (by simp), hn]
  exact ⟨.int _, H, I.kept hk, ⟨_, rfl⟩, q⟩
end L2
set_option Elab.async false
set_option linter.all false
set_option autoImplicit false
set_option maxRecDepth 100000
set_option maxHeartbeats 2000000
/-! D5: refusals, zip, enumerate, dicts, draws over the data layer. -/
namespace Od
open PySem PySem.Spec L2
/-! ### refusals -/
/-- a def of data that may refuse -/
def spX (C : Addr) (dom : List PyData → Prop) (f : List PyData → Except PyData PyData) : Sp := fun vs H Q E => ∃ G ds, Same G H ∧ RepA G vs ds ∧ dom ds ∧
  (∀ d, f ds = .ok d → ∀ G' H' v, Ev [] G H G' H' → Rep G' v d → Q v H') ∧
  (∀ d, f ds = .error d → ∀ G' H' v dx, Ev [] G H G' H' → Rep G' v d → H' dx = some (.xd [(("at" : Str), v)]) → E (.ref C) (some dx) H')
section
variable {δ : List Sl} {M : Mem} {K : PySem.W.Frag} {ta tb tl te : TE} {d e da db : PyData} {ds es : List PyData} {C : Addr} {dom : List PyData → Prop} {f : List PyData → Except PyData PyData} {t : TA} {W : WX} {E : XK}
theorem g_callX (h : Ga δ M t ds) (hd : dom ds) (hf : f ds = .ok d) : Gv δ M (tCallS (spX C dom f) (WE W) t) d := fun c G H σ Q A k =>
  h c G H σ _ A fun G1 H1 vs A1 s1 r1 => ⟨G1, ds, A1.gh, r1, hd, (fun d' e' G' H' v ev r => by
    rw [hf] at e'
    cases e'
    exact k G' H' v (A1.ext ev) (s1.trans ev.gg) r), (fun d' e' => by
    rw [hf] at e'
    cases e')⟩
theorem g_callL (h : Ga δ M t ds) (hd : dom ds) (hf : f ds = .ok d) : Gv δ M (tCall (spX C dom f) [] E t) d := fun c G H σ Q A k =>
  h c G H σ _ A fun G1 H1 vs A1 s1 r1 => by
    rw [List.append_nil]
    exact ⟨G1, ds, A1.gh, r1, hd, (fun d' e' G' H' v ev r => by
      rw [hf] at e'
      cases e'
      exact k G' H' v (A1.ext ev) (s1.trans ev.gg) r), (fun d' e' => by
      rw [hf] at e'
      cases e')⟩
/-- a refusal leaves the def -/
theorem e_callX {c : Ct} {G H : Hp} {σ : L2.St} {Q : VK} (A : At c δ M G H σ) (h : Ga δ M t ds) (hd : dom ds) (hf : f ds = .error d)
    (k : ∀ G' H' v dx, At c δ M G' H' σ → Rep G' v d → H' dx = some (.xd [(("at" : Str), v)]) → W (.ref C) (some dx) σ H') : tCallS (spX C dom f) (WE W) t σ H Q :=
  h c G H σ _ A fun G1 H1 vs A1 s1 r1 => ⟨G1, ds, A1.gh, r1, hd, (fun d' e' => by
    rw [hf] at e'
    cases e'), (fun d' e' G' H' v dx ev r hx => by
    rw [hf] at e'
    cases e'
    exact k G' H' v dx (A1.ext ev) r hx)⟩
theorem e_raise {c : Ct} {G H : Hp} {σ : L2.St} {D : Ends} (A : At c δ M G H σ) (h : Ga δ M t [d])
    (k : ∀ G' H' v dx, At c δ M G' H' σ → Rep G' v d → H' dx = some (.xd [(("at" : Str), v)]) → W (.ref C) (some dx) σ H') : tRaiseRef C W t D σ H :=
  h.one A fun G1 H1 v A1 s1 r1 => ⟨v, rfl, fun dx hn => k G1 _ v dx (A1.ext (Ev.lay A1.gh hn)) r1 upd_same⟩
end
/-! ### zip, enumerate -/
def zipD (ds es : List PyData) : List PyData := List.zipWith (fun a b => .tuple [a, b]) ds es
def enumD (ds : List PyData) : List PyData := ds.mapIdx fun i d => .tuple [.int (i : Nat), d]
section
variable {δ : List Sl} {M : Mem} {K : PySem.W.Frag} {d e : PyData} {ds es : List PyData} {t : TA}
theorem pair_new {G H : Hp} {T : Addr} {x y : V} {a b : PyData} (gh : Same G H) (n : H T = none) (ra : Rep G x a) (rb : Rep G y b) : ∃ G', Ev [] G H G' (upd H T (.tup [x, y])) ∧ Rep G' (.ref T) (.tuple [a, b]) := by
  have ev := Ev.new (S := []) (o := .tup [x, y]) gh n
  exact ⟨_, ev, .tup upd_same (by show (2 : Nat) ≤ 100000; decide) (.cons (ra.up ev.gg) (.cons (rb.up ev.gg) .nil))⟩
theorem gi_enumT (h : Ga δ M t [.tuple ds]) : Gi δ M (iEnumT K t) (enumD ds) := fun c G H σ R A k =>
  h.one A fun G1 H1 v A1 s1 r1 => by
    cases r1 with
    | @tup a xs _ e z ra =>
      refine ⟨a, xs, rfl, SqT.of (A1.gh _ _ e), k G1 H1 _ A1 s1 fun i G' H' s2 s3 => ⟨fun d hd => ?_, fun hi => ?_⟩⟩
      · have hq : SqT K H' a xs := SqT.of (s3 _ _ (s2 _ _ e))
        unfold enumD at hd
        rw [List.getElem?_mapIdx] at hd
        cases hi : ds[i]? with
        | none => rw [hi] at hd; cases hd
        | some d0 =>
          rw [hi] at hd
          cases hd
          obtain ⟨x, hx, rx⟩ := ra.get hi
          refine ⟨⟨xs, x, hq, hx⟩, fun y H'' hy => ?_⟩
          obtain ⟨T, x', rfl, hn, rfl, hall⟩ := hy
          have := getElem?_idx (hall xs hq) hx
          subst this
          exact pair_new s3 hn (.int _) (rx.up s2)
      · refine ⟨xs, SqT.of (s3 _ _ (s2 _ _ e)), ?_⟩
        unfold enumD at hi
        rw [List.length_mapIdx] at hi
        rw [ra.length, hi]
theorem zipD_get {i : Nat} {d : PyData} (h : (zipD ds es)[i]? = some d) : ∃ a b, ds[i]? = some a ∧ es[i]? = some b ∧ d = .tuple [a, b] := by
  unfold zipD at h
  rw [List.getElem?_zipWith] at h
  cases h1 : ds[i]? with
  | none => rw [h1] at h; simp at h
  | some a =>
    cases h2 : es[i]? with
    | none => rw [h1, h2] at h; simp at h
    | some b =>
      rw [h1, h2] at h
      simp at h
      exact ⟨a, b, rfl, rfl, h.symm⟩
theorem gi_zipQ (h : Ga δ M t [.tuple ds, e]) (hq : seqOf e = some es) (hl : ds.length = es.length) : Gi δ M (iZipQ K t) (zipD ds es) := fun c G H σ R A k =>
  h c G H σ _ A fun G1 H1 vs A1 s1 r1 => by
    have hz : (zipD ds es).length = ds.length := by
      unfold zipD
      rw [List.length_zipWith]
      omega
    cases r1 with
    | cons r1 rr =>
      cases rr with
      | cons r2 rr =>
        cases rr
        cases r1 with
        | @tup a xs _ e1 z1 ra =>
          have hqx : ∀ {G' H'}, Same G1 G' → Same G' H' → SqT K H' a xs := fun s2 s3 => SqT.of (s3 _ _ (s2 _ _ e1))
          cases r2 with
          | @lst b ys _ e2 z2 rb =>
            cases hq
            have hqy : ∀ {G' H'}, Same G1 G' → Same G' H' → SqL K H' b ys := fun s2 s3 => SqL.of (s3 _ _ (s2 _ _ e2))
            refine ⟨a, b, xs, ys, rfl, hqx (.refl _) A1.gh, .inr ⟨hqy (.refl _) A1.gh, k G1 H1 _ A1 s1 fun i G' H' s2 s3 => ⟨fun d hd => ?_, fun hi => ⟨xs, ys, hqx s2 s3, hqy s2 s3, by rw [ra.length]; omega, by rw [rb.length]; omega⟩⟩⟩⟩
            obtain ⟨a0, b0, h1, h2, rfl⟩ := zipD_get hd
            obtain ⟨x, hx, rx⟩ := ra.get h1
            obtain ⟨y, hy, ry⟩ := rb.get h2
            refine ⟨⟨xs, ys, x, y, hqx s2 s3, hqy s2 s3, hx, hy⟩, fun v H'' hv => ?_⟩
            obtain ⟨T, x', y', rfl, hn, rfl, ha1, ha2⟩ := hv
            have q1 := getElem?_idx (ha1 xs (hqx s2 s3)) hx
            have q2 := getElem?_idx (ha2 ys (hqy s2 s3)) hy
            subst q1 q2
            exact pair_new s3 hn (rx.up s2) (ry.up s2)
          | @tup b ys _ e2 z2 rb =>
            cases hq
            have hqy : ∀ {G' H'}, Same G1 G' → Same G' H' → SqT K H' b ys := fun s2 s3 => SqT.of (s3 _ _ (s2 _ _ e2))
            refine ⟨a, b, xs, ys, rfl, hqx (.refl _) A1.gh, .inl ⟨hqy (.refl _) A1.gh, k G1 H1 _ A1 s1 fun i G' H' s2 s3 => ⟨fun d hd => ?_, fun hi => ⟨xs, ys, hqx s2 s3, hqy s2 s3, .inl (by rw [ra.length]; omega)⟩⟩⟩⟩
            obtain ⟨a0, b0, h1, h2, rfl⟩ := zipD_get hd
            obtain ⟨x, hx, rx⟩ := ra.get h1
            obtain ⟨y, hy, ry⟩ := rb.get h2
            refine ⟨⟨xs, ys, x, y, hqx s2 s3, hqy s2 s3, hx, hy⟩, fun v H'' hv => ?_⟩
            obtain ⟨T, x', y', rfl, hn, rfl, ha1, ha2⟩ := hv
            have q1 := getElem?_idx (ha1 xs (hqx s2 s3)) hx
            have q2 := getElem?_idx (ha2 ys (hqy s2 s3)) hy
            subst q1 q2
            exact pair_new s3 hn (rx.up s2) (ry.up s2)
          | non => cases hq
          | bl _ => cases hq
          | int _ => cases hq
          | str _ => cases hq
/-- (d,) * n -/
theorem g_rep1 {ta tb : TE} {n : Nat} (ha : Gv δ M ta (.tuple [d])) (hb : Gv δ M tb (.int (n : Nat))) (hn : n ≤ 1000) : Gv δ M (tOp (rRep1 K) ta tb) (.tuple (List.replicate n d)) := fun c G H σ Q A k =>
  ha c G H σ _ A fun G1 H1 v A1 s1 r1 => hb c G1 H1 σ _ A1 fun G2 H2 w A2 s2 r2 => by
    cases r1.up s2 with
    | @tup a xs _ e z ra =>
      cases ra with
      | @cons x _ _ _ rx rn =>
        cases rn
        have hq : SqT K H2 a [x] := SqT.of (A2.gh _ _ e)
        by_cases h2 : 2 ≤ n
        · refine .inl ⟨a, n, [x], rfl, r2.intV, hq, by simp, by omega, by omega, by show (1 : Nat) ≤ 1000; decide, fun p hp => ?_⟩
          have e1 : (List.replicate (n : Int).toNat [x]).flatten = List.replicate n x := by
            rw [Int.toNat_natCast]
            induction n with
            | zero => rfl
            | succ n ih => rw [List.replicate_succ, List.replicate_succ, List.flatten_cons, flat_one n]; rfl
          have rr : RepA G2 (List.replicate n x) (List.replicate n d) := rep_one rx n
          obtain ⟨A3, s3, r3⟩ := at_newT A2 hp (by rw [List.length_replicate]; omega) rr
          rw [e1]
          exact k _ _ _ A3 ((s1.trans s2).trans s3) r3
        · refine .inr ⟨a, n, x, rfl, r2.intV, hq, ?_⟩
          by_cases h1 : n = 1
          · subst h1
            exact .inl ⟨rfl, k G2 H2 _ A2 (s1.trans s2) (.tup e z (.cons rx .nil))⟩
          · have h0 : n = 0 := by omega
            subst h0
            refine .inr ⟨rfl, fun p hp => ?_⟩
            obtain ⟨A3, s3, r3⟩ := at_newT (ds := []) A2 hp (by simp) .nil
            exact k _ _ _ A3 ((s1.trans s2).trans s3) r3
where
  flat_one (n : Nat) : ∀ {x : V}, (List.replicate n [x]).flatten = List.replicate n x := by
    intro x
    induction n with
    | zero => rfl
    | succ n ih => rw [List.replicate_succ, List.replicate_succ, List.flatten_cons, ih]; rfl
  rep_one {G : Hp} {x : V} {d : PyData} (r : Rep G x d) : ∀ n : Nat, RepA G (List.replicate n x) (List.replicate n d)
    | 0 => .nil
    | n + 1 => .cons r (rep_one r n)
/-- sum of a tuple's ints is taken by way of an own rule -/
theorem g_negI {ta : TE} {i : Int} (ha : Gv δ M ta (.int i)) : Gv δ M (tUn (rU fun i => .int (-i)) ta) (.int (-i)) := g_un ha
end
/-! ### the entry of a body, own objects of others -/
inductive SlA (G : Hp) : List Sl → List V → Prop
  | nil : SlA G [] []
  | dat {v : V} {d : PyData} {ss : List Sl} {vs : List V} : Rep G v d → SlA G ss vs → SlA G (.dat d :: ss) (v :: vs)
  | val {v : V} {ss : List Sl} {vs : List V} : SlA G ss vs → SlA G (.val v :: ss) (v :: vs)
theorem SlA.length {G : Hp} {ss : List Sl} {vs : List V} (h : SlA G ss vs) : ss.length = vs.length := by
  induction h with
  | nil => rfl
  | dat _ _ ih => simp [ih]
  | val _ ih => simp [ih]
theorem SlA.of {G : Hp} {ds : List PyData} {vs : List V} (r : RepA G vs ds) : SlA G (ds.map Sl.dat) vs := by
  induction ds generalizing vs with
  | nil => cases r; exact .nil
  | cons d ds ih =>
    cases r with
    | cons a b => exact .dat a (ih b)
theorem SlA.get {G : Hp} {ss : List Sl} {vs : List V} (h : SlA G ss vs) : ∀ {i : Nat} {s : Sl}, ss[i]? = some s → ∃ v, vs[i]? = some v ∧ SlOk G s (some (some v)) := by
  induction h with
  | nil => intro i s e; cases e
  | @dat v d ss vs r _ ih =>
    intro i s e
    cases i with
    | zero =>
      cases e
      exact ⟨v, rfl, v, rfl, r⟩
    | succ i => exact ih (by simpa using e)
  | @val v ss vs _ ih =>
    intro i s e
    cases i with
    | zero =>
      cases e
      exact ⟨v, rfl, rfl⟩
    | succ i => exact ih (by simpa using e)
theorem at_startG {N : List Str} {vs : List V} {ss : List Sl} {S : List Addr} {M : Mem} {G H : Hp} (e : Same G H) (r : SlA G ss vs) (hl : ss.length ≤ N.length)
    (hm : ∀ p o, (p, o) ∈ M → G p = none ∧ (p ∈ S ∨ o.ro = true) ∧ ∃ u, H p = some u ∧ MOk G o u) (nd : (M.map (·.1)).Nodup) (hS : ∀ p ∈ S, ∃ o, H p = some o) :
    At ⟨S, G, H, G⟩ (ss ++ List.replicate (N.length - ss.length) Sl.any) M G H (L2.start N vs) where
  ev := .refl e
  lo := .refl _
  len := by
    have := r.length
    simp only [L2.start, List.length_append, List.length_map, List.length_replicate]
    omega
  sl := fun i s h => by
    by_cases hi : i < ss.length
    · rw [List.getElem?_append_left hi] at h
      obtain ⟨v, hv, ok⟩ := r.get h
      have e2 : (L2.start N vs)[i]? = some (some v) := by
        unfold L2.start
        rw [List.getElem?_append_left (by rw [List.length_map, ← r.length]; exact hi), List.getElem?_map, hv]
        rfl
      rw [e2]
      exact ok
    · rw [List.getElem?_append_right (by omega), List.getElem?_replicate] at h
      split at h
      · cases h; trivial
      · cases h
  mem := fun p o h => by
    obtain ⟨a, b, c⟩ := hm p o h
    exact ⟨a, b.elim .inl fun z => .inr (.inr z), c⟩
  nd := nd
  sdom := fun b h => hS b h
section
variable {c : Ct} {δ : List Sl} {M M' : Mem} {G G' H H' : Hp} {σ : L2.St} {p : Addr}
theorem mem_val {p : Addr} {o o' : MO} : ∀ {M : Mem}, (M.map (·.1)).Nodup → (p, o) ∈ M → (p, o') ∈ M → o = o'
  | (q, x) :: r, nd, h, h' => by
    have nd' : q ∉ r.map (·.1) ∧ (r.map (·.1)).Nodup := List.nodup_cons.mp nd
    have no : ∀ y, (q, y) ∉ r := fun y hy => nd'.1 (show q ∈ r.map (·.1) from List.mem_map.mpr ⟨(q, y), hy, rfl⟩)
    rcases List.mem_cons.mp h with e | h1
    · rcases List.mem_cons.mp h' with e' | h2
      · exact (Prod.mk.inj e).2.trans (Prod.mk.inj e').2.symm
      · rw [(Prod.mk.inj e).1] at h2
        exact absurd h2 (no _)
    · rcases List.mem_cons.mp h' with e' | h2
      · rw [(Prod.mk.inj e').1] at h1
        exact absurd h1 (no _)
      · exact mem_val nd'.2 h1 h2
/-- behind a call that changed the objects at S -/
theorem At.extM {S : List Addr} (A : At c δ M G H σ) (ev : Ev S G H G' H') (hS : ∀ b ∈ S, ∃ o, (b, o) ∈ M ∧ o.ro = false) (hM : M'.map (·.1) = M.map (·.1))
    (h : ∀ q o, (q, o) ∈ M' → (q ∉ S ∧ (q, o) ∈ M) ∨ (q ∈ S ∧ ∃ u, H' q = some u ∧ MOk G' o u)) : At c δ M' G' H' σ where
  ev := by
    refine ⟨A.ev.gg.trans ev.gg, ev.gh, fun b o e => ?_, fun b o e n => ?_, fun b o e => ?_⟩
    · obtain ⟨u, hu⟩ := A.ev.dom b o e
      exact (ev.old b u hu).trans (A.ev.old b o e)
    · refine ev.keep b o (A.ev.keep b o e n) fun z => ?_
      obtain ⟨x, hx, ro⟩ := hS b z
      obtain ⟨_, hc, _⟩ := A.mem b x hx
      rcases hc with q | q | q
      · exact n q
      · rw [e] at q; cases q
      · rw [ro] at q; cases q
    · obtain ⟨u, hu⟩ := A.ev.dom b o e
      exact ev.dom b u hu
  lo := A.lo.trans ev.gg
  len := A.len
  sl := fun i s h => (A.sl i s h).up ev.gg
  mem := fun q o hq => by
    rcases h q o hq with ⟨n, hm⟩ | ⟨hs, u, hu, ok⟩
    · obtain ⟨a, b, u, hu, ok⟩ := A.mem q o hm
      exact ⟨(ev.old q u hu).trans a, b, u, ev.keep q u hu n, ok.up ev.gg⟩
    · obtain ⟨x, hx, ro⟩ := hS q hs
      obtain ⟨a, b, u0, hu0, _⟩ := A.mem q x hx
      refine ⟨(ev.old q u0 hu0).trans a, ?_, u, hu, ok⟩
      rcases b with b | b | b
      · exact .inl b
      · exact .inr (.inl b)
      · rw [ro] at b; cases b
  nd := by rw [hM]; exact A.nd
  sdom := A.sdom
/-- behind a draw -/
theorem At.extB (A : At c δ M G H σ) (hm : (p, MO.box) ∈ M) (ev : Ev [p] G H G' H') (hb : ∃ o, H' p = some o ∧ MOk G' .box o) : At c δ M G' H' σ :=
  A.extM ev (fun b hb => by
    rw [List.mem_singleton.mp hb]
    exact ⟨_, hm, rfl⟩) rfl fun q o hq => by
    by_cases e : q = p
    · subst e
      have := mem_val A.nd hq hm
      subst this
      obtain ⟨u, hu, ok⟩ := hb
      exact .inr ⟨List.mem_singleton_self _, u, hu, ok⟩
    · exact .inl ⟨fun z => e (List.mem_singleton.mp z), hq⟩
/-- an object handed over by a call -/
theorem At.got {o : MO} {u : HO} (A : At c δ M G H σ) (ev : Ev [] G H G' H') (n : H p = none) (hg : G' p = none) (hp : H' p = some u) (ok : MOk G' o u) : At c δ ((p, o) :: M) G' H' σ := by
  obtain ⟨h0, _, hm⟩ := A.fresh n
  have B := A.ext ev
  refine ⟨B.ev, B.lo, B.len, B.sl, fun q x hq => ?_, List.nodup_cons.mpr ⟨hm, A.nd⟩, A.sdom⟩
  rcases List.mem_cons.mp hq with e | hq
  · cases e
    exact ⟨hg, .inr (.inl h0), u, hp, ok⟩
  · exact B.mem q x hq
end
/-! ### what is not told wholly -/
/-- an expression gives a datum with P -/
def Gs (δ : List Sl) (M : Mem) (t : TE) (P : PyData → Prop) : Prop := ∀ (c : Ct) (G H : Hp) (σ : L2.St) (Q : VK), At c δ M G H σ → (∀ d G' H' v, P d → At c δ M G' H' σ → Same G G' → Rep G' v d → Q v H') → t σ H Q
/-- a def that draws from the box, its first argument -/
def spBx (dom : List PyData → Prop) (R : List PyData → PyData → Prop) : Sp := fun vs H Q _ => ∃ G p us ds, vs = .ref p :: us ∧ Same G H ∧ RepA G us ds ∧ dom ds ∧ G p = none ∧ (∃ o, H p = some o ∧ MOk G .box o) ∧
  ∀ G' H' v d, R ds d → Ev [p] G H G' H' → (∃ o, H' p = some o ∧ MOk G' .box o) → Rep G' v d → Q v H'
section
variable {δ : List Sl} {M : Mem} {K : PySem.W.Frag} {ta tb te : TE} {d e : PyData} {ds es : List PyData} {t tr : TA} {P P' : PyData → Prop} {dom : List PyData → Prop} {R : List PyData → PyData → Prop} {E : XK}
theorem Gv.s (h : Gv δ M ta d) (p : P d) : Gs δ M ta P := fun c G H σ Q A k => h c G H σ Q A fun G' H' v A' s' r' => k d G' H' v p A' s' r'
theorem Gs.imp (h : Gs δ M ta P) (f : ∀ d, P d → P' d) : Gs δ M ta P' := fun c G H σ Q A k => h c G H σ Q A fun d G' H' v p => k d G' H' v (f d p)
theorem gs_box {i : Nat} {p : Addr} (hi : δ[i]? = some (.val (.ref p))) (hm : (p, MO.box) ∈ M) (h : Ga δ M tr ds) (hd : dom ds) : Gs δ M (tCall (spBx dom R) [] E (tCons (tVar i) tr)) (R ds) := fun c G H σ Q A k => by
  refine ⟨_, A.sl i _ hi, h c G H σ _ A fun G1 H1 vs A1 s1 r1 => ?_⟩
  obtain ⟨hg, _, hb⟩ := A1.mem p _ hm
  show spBx dom R _ _ _ _
  rw [List.append_nil]
  refine ⟨G1, p, vs, ds, rfl, A1.gh, r1, hd, hg, hb, fun G' H' v d hR ev hb' r => ?_⟩
  exact k d G' H' v hR (A1.extB hm ev hb') (s1.trans ev.gg) r
end
/-! ### dicts -/
section
variable {δ : List Sl} {M : Mem} {K : PySem.W.Frag} {ta tb ty tv : TE} {d e : PyData} {ds es : List PyData} {kvs : List (Int × PyData)} {i : Nat} {p : Addr} {n : Int}
def isDct (o : MO) (kvs : List (Int × PyData)) : Prop := o = .dct kvs ∨ o = .rd kvs
theorem RepK.val {G : Hp} {xs : List (Key × V)} (h : RepK G xs kvs) (n : Int) : (∀ d, kvs.lookup n = some d → ∃ v, valV xs (.inl n) = some v ∧ Rep G v d) ∧ (kvs.lookup n = none → valV xs (.inl n) = none) := by
  induction h with
  | nil => exact ⟨fun d e => (nomatch e), fun _ => rfl⟩
  | @cons i v d vs ds r _ ih =>
    by_cases hi : n = i
    · subst hi
      have e1 : valV ((Sum.inl n, v) :: vs : List (Key × V)) (.inl n) = some v := valV_pos rfl
      rw [e1]
      have e2 : ((n, d) :: ds).lookup n = some d := by simp [List.lookup]
      rw [e2]
      exact ⟨fun d' e => by cases e; exact ⟨v, rfl, r⟩, fun e => by cases e⟩
    · have e1 : valV ((Sum.inl i, v) :: vs : List (Key × V)) (.inl n) = valV vs (.inl n) := valV_neg (fun z => hi (Sum.inl.inj z).symm)
      have e2 : ((i, d) :: ds).lookup n = ds.lookup n := by
        have : (n == i) = false := by simpa using hi
        simp [List.lookup, this]
      rw [e1, e2]
      exact ih
theorem RepK.length {G : Hp} {xs : List (Key × V)} (h : RepK G xs kvs) : xs.length = kvs.length := by
  induction h with
  | nil => rfl
  | cons _ _ ih => simp [ih]
theorem RepK.snoc {G : Hp} {xs : List (Key × V)} {v : V} (h : RepK G xs kvs) (r : Rep G v d) : RepK G (xs ++ [(.inl n, v)]) (kvs ++ [(n, d)]) := by
  induction h with
  | nil => exact .cons r .nil
  | cons a _ ih => exact .cons a ih
theorem RepK.keys {G : Hp} {xs : List (Key × V)} (h : RepK G xs kvs) : xs.map (fun kv => kV kv.1) = (kvs.map (·.1)).map V.int := by
  induction h with
  | nil => rfl
  | cons _ _ ih =>
    rw [List.map_cons, List.map_cons, List.map_cons, ih]
    rfl
theorem dict_at {c : Ct} {G H : Hp} {σ : L2.St} {o : MO} (A : At c δ M G H σ) (hm : (p, o) ∈ M) (ho : isDct o kvs) : ∃ xs, H p = some (.dK xs) ∧ RepK G xs kvs ∧ kvs.length ≤ 100000 := by
  obtain ⟨_, _, u, hu, ok⟩ := A.mem p o hm
  rcases ho with rfl | rfl
  · obtain ⟨xs, rfl, r, z⟩ := ok
    exact ⟨xs, hu, r, z⟩
  · obtain ⟨xs, rfl, r, z⟩ := ok
    exact ⟨xs, hu, r, z⟩
theorem g_dget {o : MO} (hi : δ[i]? = some (.val (.ref p))) (hm : (p, o) ∈ M) (ho : isDct o kvs) (hb : Gv δ M ty (.int n)) (h : kvs.lookup n = some d) : Gv δ M (tDGet (tVar i) ty) d := fun c G H σ Q A k => by
  refine ⟨_, A.sl i _ hi, hb c G H σ _ A fun G1 H1 y A1 s1 r1 => ?_⟩
  obtain ⟨xs, hx, rx, _⟩ := dict_at A1 hm ho
  obtain ⟨v, hv, rv⟩ := (rx.val n).1 d h
  rw [r1.intV]
  exact ⟨p, v, rfl, by rw [← hv]; exact DGet.k (k := .inl n) hx, k G1 H1 v A1 s1 rv⟩
theorem val_some {G : Hp} {xs : List (Key × V)} (rx : RepK G xs kvs) : (valV xs (.inl n)).isSome = (kvs.lookup n).isSome := by
  cases h : kvs.lookup n with
  | none => rw [(rx.val n).2 h]; rfl
  | some d =>
    obtain ⟨v, hv, _⟩ := (rx.val n).1 d h
    rw [hv]; rfl
theorem g_din {o : MO} (hi : δ[i]? = some (.val (.ref p))) (hm : (p, o) ∈ M) (ho : isDct o kvs) (hb : Gv δ M ty (.int n)) : Gv δ M (tDIn ty (tVar i)) (.bool (kvs.lookup n).isSome) := fun c G H σ Q A k =>
  hb c G H σ _ A fun G1 H1 y A1 s1 r1 => by
    refine ⟨_, A1.sl i _ hi, ?_⟩
    obtain ⟨xs, hx, rx, _⟩ := dict_at A1 hm ho
    rw [r1.intV]
    exact ⟨p, _, rfl, DGet.k (k := .inl n) hx, by rw [val_some rx]; exact k G1 H1 _ A1 s1 (.bl _)⟩
theorem g_dnotin {o : MO} (hi : δ[i]? = some (.val (.ref p))) (hm : (p, o) ∈ M) (ho : isDct o kvs) (hb : Gv δ M ty (.int n)) : Gv δ M (tDNotIn ty (tVar i)) (.bool (!(kvs.lookup n).isSome)) := fun c G H σ Q A k =>
  hb c G H σ _ A fun G1 H1 y A1 s1 r1 => by
    refine ⟨_, A1.sl i _ hi, ?_⟩
    obtain ⟨xs, hx, rx, _⟩ := dict_at A1 hm ho
    rw [r1.intV]
    exact ⟨p, _, rfl, DGet.k (k := .inl n) hx, by rw [val_some rx]; exact k G1 H1 _ A1 s1 (.bl _)⟩
theorem s_dput {c : Ct} {G H : Hp} {σ : L2.St} {D : Ends} {k : Nat} (A : At c δ M G H σ) (hi : δ[i]? = some (.val (.ref p))) (hm : M[k]? = some (p, .dct kvs)) (g : Gv δ M tv d) (hb : Gv δ M ty (.int n)) (hn : kvs.lookup n = none) (hl : kvs.length < 100000)
    (kk : ∀ G' H', At c δ (M.set k (p, .dct (kvs ++ [(n, d)]))) G' H' σ → D.nx σ H') : sDPut (tVar i) ty tv D σ H :=
  g c G H σ _ A fun G1 H1 v A1 s1 r1 => ⟨_, A1.sl i _ hi, hb c G1 H1 σ _ A1 fun G2 H2 y A2 s2 r2 => by
    obtain ⟨xs, hx, rx, z⟩ := dict_at A2 (List.mem_of_getElem? hm) (.inl rfl)
    have hv := (rx.val n).2 hn
    rw [r2.intV]
    refine ⟨p, _, rfl, DPut.k (k := .inl n) (v := v) hx (by rw [rx.length]; exact lim_lt (Nat.le_of_lt hl)), ?_⟩
    rw [putK_new v hv]
    exact kk _ _ (A2.write hm ⟨_, rfl, rx.snoc (r1.up s2), by rw [List.length_append, List.length_singleton]; omega⟩)⟩
/-- the keys of {n: True for n in ns}, in order -/
def keysOf (ns : List Int) : List Int := ns.foldl (fun acc n => if n ∈ acc then acc else acc ++ [n]) []
theorem keysOf_snoc (ns : List Int) (n : Int) : keysOf (ns ++ [n]) = if n ∈ keysOf ns then keysOf ns else keysOf ns ++ [n] := by
  unfold keysOf
  rw [List.foldl_append]
  rfl
theorem keysOf_len (ns : List Int) : (keysOf ns).length ≤ ns.length := by
  have key : ∀ (ns acc : List Int), (ns.foldl (fun acc n => if n ∈ acc then acc else acc ++ [n]) acc).length ≤ acc.length + ns.length := by
    intro ns
    induction ns with
    | nil => intro acc; simp
    | cons n ns ih =>
      intro acc
      rw [List.foldl_cons]
      have := ih (if n ∈ acc then acc else acc ++ [n])
      rw [List.length_cons]
      split at this
      · rename_i h; rw [if_pos h]; omega
      · rename_i h; rw [if_neg h]; rw [List.length_append, List.length_singleton] at this; omega
  simpa [keysOf] using key ns []
theorem g_lenDc {wi : TI} {ns : List Int} (hg : Gi δ M wi (ns.map PyData.int)) (hl : ns.length ≤ 100000) (hiL : i < δ.length) :
    Gv δ M (tCB (fun xs H Q => ∃ a kvs, xs = [V.ref a] ∧ H a = some (.dK kvs) ∧ Q (.int kvs.length) H) (tCons (tDc wi (gName i) tYes (tVar i) (tC (.bl true)) [i]) tNil)) (.int (keysOf ns).length) := fun c G H σ Q A k =>
  hg c G H σ _ A fun G0 H0 J A0 s0 wk => fun D nD => by
    refine ⟨fun j m H' => m = ns.length - j ∧ j ≤ ns.length ∧ ∃ G', At c δ ((D, .dct ((keysOf (ns.take j)).map fun n => (n, .bool true))) :: M) G' H' σ ∧ Same G0 G', ⟨ns.length, rfl, Nat.zero_le _, G0, A0.lay nD ⟨[], rfl, .nil, by simp [keysOf]⟩, .refl _⟩, ?_⟩
    rintro j m H' ⟨rfl, hil, G', A', s'⟩
    by_cases hlt : j < ns.length
    · have hd : (ns.map PyData.int)[j]? = some (.int ns[j]) := by rw [List.getElem?_map, List.getElem?_eq_getElem hlt]; rfl
      obtain ⟨go, yl⟩ := (wk j G' H' s' A'.gh).1 _ hd
      refine .inr ⟨go, fun H'' => ∃ G'', At c δ ((D, .dct ((keysOf (ns.take (j + 1))).map fun n => (n, .bool true))) :: M) G'' H'' σ ∧ Same G0 G'', fun H'' hN => ⟨ns.length - (j + 1), by omega, rfl, hlt, hN⟩, fun x H1 hy => ?_⟩
      obtain ⟨G1, e1, r1⟩ := yl x H1 hy
      have A1 := A'.ext e1
      refine ⟨?_, ?_⟩
      · show L2.wipe ((L2.wipe σ [i]).set i (some x)) [i] = L2.wipe σ [i]
        exact wipe_same (vs := [i]) (by rw [List.length_set, L2.wipe_length]) (fun q hq => by
          rw [List.getElem?_set_ne (fun z => hq (by simp [z]))]) |>.trans (wipe_same (by rw [L2.wipe_length]) fun q hq => L2.wipe_out hq)
      · rw [r1.intV]
        have hx : ((L2.wipe σ [i]).set i (some (V.int ns[j])))[i]? = some (some (.int ns[j])) := by
          rw [List.getElem?_set_self]
          rw [L2.wipe_length, A.len]
          exact hiL
        unfold tYes
        refine (if_pos rfl).mpr ?_
        refine ⟨.int ns[j], hx, ?_⟩
        obtain ⟨xs, hxs, rx, z⟩ := dict_at A1 (List.mem_cons_self ..) (.inl rfl)
        refine ⟨xs, .inl ns[j], rfl, hxs, by rw [rx.length]; exact lim_lt (by rw [List.length_map]; have := keysOf_len (ns.take j); rw [List.length_take] at this; omega), G1, ?_, s'.trans e1.gg⟩
        have tk := take_snoc (List.getElem?_eq_getElem hlt)
        by_cases hmem : ns[j] ∈ keysOf (ns.take j)
        · have ek : keysOf (ns.take (j + 1)) = keysOf (ns.take j) := by rw [tk, keysOf_snoc, if_pos hmem]
          have hv : valV xs (.inl ns[j]) = some (.bl true) := by
            have hlk : ((keysOf (ns.take j)).map fun n => (n, PyData.bool true)).lookup ns[j] = some (.bool true) := look_in hmem
            obtain ⟨v, hv, rv⟩ := (rx.val ns[j]).1 _ hlk
            rw [hv, rv.blV]
          rw [put_same rx hv, ek]
          have : upd H1 D (.dK xs) = H1 := by
            funext b
            by_cases hb : b = D
            · subst hb; rw [upd_same, hxs]
            · rw [upd_ne hb]
          rw [this]
          exact A1
        · have ek : keysOf (ns.take (j + 1)) = keysOf (ns.take j) ++ [ns[j]] := by rw [tk, keysOf_snoc, if_neg hmem]
          have hv : valV xs (.inl ns[j]) = none := (rx.val ns[j]).2 (look_out hmem)
          rw [putK_new _ hv]
          refine A1.write (k := 0) (o' := .dct ((keysOf (ns.take (j + 1))).map fun n => (n, .bool true))) rfl ⟨_, rfl, ?_, ?_⟩
          · rw [ek, List.map_append]
            exact rx.snoc (.bl true)
          · rw [List.length_map]
            have := keysOf_len (ns.take (j + 1))
            rw [List.length_take] at this
            omega
    · have ei : j = ns.length := by omega
      subst ei
      refine .inl ⟨(wk _ G' H' s' A'.gh).2 (by rw [List.length_map]), ?_⟩
      rw [List.take_length] at A'
      obtain ⟨xs, hxs, rx, z⟩ := dict_at A' (List.mem_cons_self ..) (.inl rfl)
      refine ⟨D, xs, rfl, hxs, ?_⟩
      rw [rx.length, List.length_map]
      exact k _ _ _ A'.tail (s0.trans s') (.int _)
where
  look_in {n : Int} {l : List Int} (h : n ∈ l) : (l.map fun n => (n, PyData.bool true)).lookup n = some (.bool true) := by
    induction l with
    | nil => cases h
    | cons a l ih =>
      by_cases e : n = a
      · subst e; simp [List.lookup]
      · have e' : (n == a) = false := by simpa using e
        simp only [List.map_cons, List.lookup, e']
        exact ih ((List.mem_cons.mp h).resolve_left e)
  look_out {n : Int} {l : List Int} (h : n ∉ l) : (l.map fun n => (n, PyData.bool true)).lookup n = none := by
    induction l with
    | nil => rfl
    | cons a l ih =>
      rw [List.mem_cons, not_or] at h
      have e' : (n == a) = false := by simpa using h.1
      simp only [List.map_cons, List.lookup, e']
      exact ih h.2
  all_true {G : Hp} : ∀ {l : List Int} {xs : List (Key × V)}, RepK G xs (l.map fun n => (n, PyData.bool true)) → ∀ kv ∈ xs, kv.2 = .bl true
    | [], _, h, kv, hm => by cases h; cases hm
    | a :: l, _, h, kv, hm => by
      cases h with
      | cons r t =>
        rcases List.mem_cons.mp hm with e | hm
        · rw [e]; exact r.blV
        · exact all_true t kv hm
  put_same {G : Hp} {l : List Int} {xs : List (Key × V)} {n : Int} (r : RepK G xs (l.map fun n => (n, PyData.bool true))) (h : valV xs (.inl n) = some (.bl true)) : putK xs (.inl n) (.bl true) = xs := by
    unfold putK
    rw [valV_any, h, if_pos (show (some (V.bl true)).isSome = true from rfl)]
    have e : ∀ kv ∈ xs, (if kv.1 = Sum.inl n then (kv.1, V.bl true) else kv) = kv := fun kv hm => by
      by_cases z : kv.1 = Sum.inl n
      · rw [if_pos z, ← all_true r kv hm]
      · rw [if_neg z]
    rw [List.map_congr_left e, List.map_id']
end
theorem isTrue_list {α : Type} (l : List α) : l.filter (fun _ => true) = l := List.filter_eq_self.mpr fun _ _ => rfl
section
variable {δ : List Sl} {M : Mem} {K : PySem.W.Frag} {d b : PyData} {ds xs ys : List PyData} {wi : TI} {g : TG} {te : TE} {vs : List Nat} {δ' : PyData → List Sl}
/-- [f x for x in ..] -/
theorem g_map (f : PyData → PyData) (hi : Gi δ M wi ds) (hl : ds.length ≤ 100000) (hg : ∀ x d, d ∈ ds → Gg (wipeS δ vs) (x :: M) g vs d (δ' d)) (he : ∀ x d, d ∈ ds → Gv (δ' d) (x :: M) te (f d)) :
    Gv δ M (tLc wi g tYes te vs) (.list (ds.map f)) := (g_lc (fun _ => true) f hi hl hg (fun _ _ _ => gt_yes) fun x d h _ => he x d h).cast (by rw [isTrue_list])
/-- all([p x for x in ..]) -/
theorem g_allMap (p : PyData → Bool) (hi : Gi δ M wi ds) (hl : ds.length ≤ 100000) (hg : ∀ x d, d ∈ ds → Gg (wipeS δ vs) (x :: M) g vs d (δ' d)) (he : ∀ x d, d ∈ ds → Gv (δ' d) (x :: M) te (.bool (p d))) :
    Gv δ M (tCB (rAll K) (tCons (tLc wi g tYes te vs) tNil)) (.bool (ds.all p)) :=
  (g_all (bs := ds.map p) (ga_cons ((g_map (fun d => .bool (p d)) hi hl hg he).cast (by rw [List.map_map]; rfl)) ga_nil)).cast (by rw [List.all_map]; rfl)
variable {c : Ct} {G H : Hp} {σ : L2.St} {i n : Nat}
theorem At.seqLen (A : At c δ M G H σ) (h : δ[i]? = some (.dat d)) (hs : seqOf d = some xs) : xs.length ≤ 100000 := by
  obtain ⟨v, _, rv⟩ := A.sl i _ h
  obtain ⟨_, _, _, _, _, hlen⟩ := rv.seq (K := []) A.gh hs
  exact hlen
theorem At.itemLen (A : At c δ M G H σ) (h : δ[i]? = some (.dat d)) (hs : seqOf d = some xs) (hx : xs[n]? = some b) (hb : seqOf b = some ys) : ys.length ≤ 100000 := by
  obtain ⟨v, _, rv⟩ := A.sl i _ h
  obtain ⟨_, _, _, _, ra, _⟩ := rv.seq (K := []) A.gh hs
  obtain ⟨bv, _, rb⟩ := ra.get hx
  obtain ⟨_, _, _, _, _, hlen⟩ := rb.seq (K := []) A.gh hb
  exact hlen
end
/-! ### statements ahead of others -/
section
variable {c : Ct} {δ δ' : List Sl} {M : Mem} {K : PySem.W.Frag} {ta tb te ty tv : TE} {d da db : PyData} {ds es : List PyData} {G H : Hp} {σ : L2.St} {D : Ends} {w : TS}
theorem s_setq {i : Nat} (A : At c δ M G H σ) (g : Gv δ M te d) (k : ∀ G' H' σ', At c (δ.set i (.dat d)) M G' H' σ' → w D σ' H') : tSeq (tAsg te (gName i)) w D σ H := s_set A g k
theorem s_setXq {i : Nat} {x : V} (A : At c δ M G H σ) (g : Gx δ M te x) (k : ∀ G' H' σ', At c (δ.set i (.val x)) M G' H' σ' → w D σ' H') : tSeq (tAsg te (gName i)) w D σ H := s_setX A g k
theorem s_setFq {i : Nat} (A : At c δ M G H σ) (g : Gf δ M te ds) (k : ∀ p G' H' σ', c.H0 p = none → At c (δ.set i (.val (.ref p))) ((p, .lst ds) :: M) G' H' σ' → w D σ' H') : tSeq (tAsg te (gName i)) w D σ H := s_setF A g k
theorem s_asgq {g : TG} {js : List Nat} (A : At c δ M G H σ) (h : Gv δ M te d) (hg : Gg δ M g js d δ') (k : ∀ G' H' σ', At c δ' M G' H' σ' → w D σ' H') : tSeq (tAsg te g) w D σ H := s_asg A h hg k
theorem s_dropq (A : At c δ M G H σ) (g : Gv δ M te d) (k : ∀ G' H', At c δ M G' H' σ → w D σ H') : tSeq (tDrop te) w D σ H := s_drop A g k
theorem s_appendq {i k : Nat} {p : Addr} (A : At c δ M G H σ) (hi : δ[i]? = some (.val (.ref p))) (hk : M[k]? = some (p, .lst ds)) (g : Gv δ M te d) (hl : ds.length < 100000)
    (kk : ∀ G' H', At c δ (M.set k (p, .lst (ds ++ [d]))) G' H' σ → w D σ H') : tSeq (tDrop (tBM K "list" rAppend (tVar i) (tCons te tNil))) w D σ H := s_append A hi hk g hl kk
theorem s_setItemq {i k : Nat} {p : Addr} {n : Nat} (A : At c δ M G H σ) (hi : δ[i]? = some (.val (.ref p))) (hk : M[k]? = some (p, .lst ds)) (g : Gv δ M te d) (hb : Gv δ M tb (.int (n : Nat))) (hn : n < ds.length)
    (kk : ∀ G' H', At c δ (M.set k (p, .lst (ds.set n d))) G' H' σ → w D σ H') : tSeq (tAsg te (gSub (tVar i) tb rSetL)) w D σ H := s_setItem A hi hk g hb hn kk
theorem s_augItemq {f : Int → Int → Int} {i k : Nat} {p : Addr} {n : Nat} {x y : Int} (A : At c δ M G H σ) (hi : δ[i]? = some (.val (.ref p))) (hk : M[k]? = some (p, .lst ds)) (hb : Gv δ M tb (.int (n : Nat))) (hn : ds[n]? = some (.int x)) (g : Gv δ M te (.int y))
    (kk : ∀ G' H', At c δ (M.set k (p, .lst (ds.set n (.int (f x y))))) G' H' σ → w D σ H') : tSeq (tAugS (tVar i) tb te (rIxL K) (ipI f) rSetL) w D σ H := s_augItem A hi hk hb hn g kk
theorem s_augq {f : Int → Int → Int} {i : Nat} {x y : Int} (A : At c δ M G H σ) (hi : δ[i]? = some (.dat (.int x))) (g : Gv δ M te (.int y)) (k : ∀ G' H' σ', At c (δ.set i (.dat (.int (f x y)))) M G' H' σ' → w D σ' H') : tSeq (tAug i te (ipI f)) w D σ H := s_aug A hi g k
theorem s_dputq {kvs : List (Int × PyData)} {i k : Nat} {p : Addr} {n : Int} (A : At c δ M G H σ) (hi : δ[i]? = some (.val (.ref p))) (hm : M[k]? = some (p, .dct kvs)) (g : Gv δ M tv d) (hb : Gv δ M ty (.int n)) (hn : kvs.lookup n = none) (hl : kvs.length < 100000)
    (kk : ∀ G' H', At c δ (M.set k (p, .dct (kvs ++ [(n, d)]))) G' H' σ → w D σ H') : tSeq (sDPut (tVar i) ty tv) w D σ H := s_dput A hi hm g hb hn hl kk
theorem s_forq {wi : TI} {g : TG} {tb : TS} (I : Nat → List Sl → Mem → Prop) (A : At c δ M G H σ) (hi : Gi δ M wi ds) (h0 : I 0 δ M)
    (hs : ∀ (c' : Ct) (i : Nat) (d : PyData) (δ' : List Sl) (M' : Mem) (G' H' : Hp) (σ' : L2.St) (v : V), c'.S = c.S → c'.G0 = c.G0 → c'.H0 = c.H0 → ds[i]? = some d → I i δ' M' → At c' δ' M' G' H' σ' → Rep G' v d →
      g v σ' H' fun σ2 H2 => tb { D with nx := Bt c' I (i + 1), ct := Bt c' I (i + 1), bk := w D } σ2 H2)
    (hd : ∀ (δ' : List Sl) (M' : Mem) (G' H' : Hp) (σ' : L2.St), I ds.length δ' M' → At c δ' M' G' H' σ' → w D σ' H') : tSeq (tFor wi g tb) w D σ H := s_for I A hi h0 hs hd
/-- two names at once: data -/
theorem s_parq {i j : Nat} (A : At c δ M G H σ) (g1 : Gv δ M ta da) (g2 : Gv δ M tb db) (k : ∀ G' H' σ', At c ((δ.set i (.dat da)).set j (.dat db)) M G' H' σ' → w D σ' H') : tSeq (tPar i j (tCons ta (tCons tb tNil))) w D σ H :=
  g1 c G H σ _ A fun G1 H1 v A1 s1 r1 => g2 c G1 H1 σ _ A1 fun G2 H2 u A2 s2 r2 => ⟨v, u, rfl, k G2 H2 _ ((A2.set (s := .dat da) ⟨v, rfl, r1.up s2⟩).set (s := .dat db) ⟨u, rfl, r2⟩)⟩
/-- .. an own list, a datum -/
theorem s_parFq {i j : Nat} (A : At c δ M G H σ) (g1 : Gf δ M ta ds) (g2 : ∀ x, Gv δ (x :: M) tb db) (k : ∀ p G' H' σ', c.H0 p = none → At c ((δ.set i (.val (.ref p))).set j (.dat db)) ((p, .lst ds) :: M) G' H' σ' → w D σ' H') : tSeq (tPar i j (tCons ta (tCons tb tNil))) w D σ H :=
  g1 c G H σ _ A fun p G1 H1 h0 A1 s1 => g2 _ c G1 H1 σ _ A1 fun G2 H2 u A2 s2 r2 => ⟨_, u, rfl, k p G2 H2 _ h0 ((A2.set (s := .val (.ref p)) rfl).set (s := .dat db) ⟨u, rfl, r2⟩)⟩
/-- .. a datum, an own list -/
theorem s_parGq {i j : Nat} (A : At c δ M G H σ) (g1 : Gv δ M ta da) (g2 : Gf δ M tb ds) (k : ∀ p G' H' σ', c.H0 p = none → At c ((δ.set i (.dat da)).set j (.val (.ref p))) ((p, .lst ds) :: M) G' H' σ' → w D σ' H') : tSeq (tPar i j (tCons ta (tCons tb tNil))) w D σ H :=
  g1 c G H σ _ A fun G1 H1 v A1 s1 r1 => g2 c G1 H1 σ _ A1 fun p G2 H2 h0 A2 s2 => ⟨v, _, rfl, k p G2 H2 _ h0 ((A2.set (s := .dat da) ⟨v, rfl, r1.up s2⟩).set (s := .val (.ref p)) rfl)⟩
end
end Od
set_option Elab.async false
set_option linter.all false
set_option autoImplicit false
set_option maxRecDepth 100000
set_option maxHeartbeats 2000000
/-! WK: the rules with the table named, so that they serve in a comprehension's block; calls of defs that may refuse. -/
namespace Od
open PySem PySem.Spec L2
section
variable {X : Cx} {K : PySem.W.Frag}
theorem kix (h : X.K = K := by rfl) : IxR X (rIx K) := h ▸ ix_seq
theorem klen (h : X.K = K := by rfl) : CallR X (.builtin "len") (kLen K) := h ▸ c_len
theorem ktup (h : X.K = K := by rfl) : CallR X (.type "tuple") (kTupOf K) := h ▸ c_tupOf
theorem klst (h : X.K = K := by rfl) : CallR X (.type "list") (kLstOf K) := h ▸ c_lstOf
theorem kall (h : X.K = K := by rfl) (hc : X.calm = true := by rfl) : CallR X (.builtin "all") (rAll K) := h ▸ cr_all hc
theorem ksum (h : X.K = K := by rfl) (hc : X.calm = true := by rfl) : CallR X (.builtin "sum") (rSum K) := h ▸ cr_sum hc
theorem ksumT (h : X.K = K := by rfl) (hc : X.calm = true := by rfl) : CallR X (.builtin "sum") (rSumT K) := h ▸ cr_sumT hc
theorem kmin (h : X.K = K := by rfl) (hc : X.calm = true := by rfl) : CallR X (.builtin "min") (rMin K) := h ▸ cr_min hc
theorem ksorted (h : X.K = K := by rfl) : CallR X (.builtin "sorted") (rSortedI K) := h ▸ cr_sortedI
theorem kisi (h : X.K = K := by rfl) : CallR X (.builtin "isinstance") (rIsi K) := h ▸ call_isi
theorem kisiT (h : X.K = K := by rfl) : CallR X (.builtin "isinstance") (rIsiT K) := h ▸ call_isiT
theorem kin (h : X.K = K := by rfl) : OpR X (compareOp .In) (rIn K false) := h ▸ op_in_seq
theorem knotin (h : X.K = K := by rfl) : OpR X (compareOp .NotIn) (rIn K true) := h ▸ op_notIn_seq
theorem ksl (h : X.K = K := by rfl) : SlR X (rSlL K) := h ▸ sl_list
theorem kslT (h : X.K = K := by rfl) : SlR X (rSlA K) := h ▸ sl_tupA
theorem kcatT (h : X.K = K := by rfl) : OpR X (binaryOp .Add) (rCatA K) := h ▸ op_catA
theorem krep1 (h : X.K = K := by rfl) : OpR X (binaryOp .Mult) (rRep1 K) := h ▸ op_rep1
theorem kget (h : X.K = K := by rfl) : PGet X (rIxL K) := h ▸ pget_list
theorem keq (hu : X.A.units + 64 < cLine) (h : X.K = K := by rfl) : OpR X (compareOp .Eq) (rEqD K) := h ▸ op_eqD hu
theorem kne (hu : X.A.units + 64 < cLine) (h : X.K = K := by rfl) : OpR X (compareOp .NotEq) (rNeD K) := h ▸ op_neD hu
theorem kseq {tg l : Expr} {tl : TE} (hl : PE X l tl) (h : X.K = K := by rfl) : PI X tg l (iSeq K tl) := h ▸ pi_seq hl
theorem ktg {es : List Expr} {k : Nat} {t : TGs} {n : Nat} {pos : Pos} (h : PGs X es t) (hn : (assignEach es X.env).length = n := by rfl) (hst : (assignEach es X.env).findIdx? (·.1) = none := by rfl) (hK : X.K = K := by rfl) (hc : X.calm = true := by rfl) : PG X (.Tuple es k pos) (gTup K n t) := hK ▸ pg_tup hc h hn hst
theorem krev {e : Expr} {te : TE} {k : Nat} {p1 p2 p3 pos : Pos} (he : PE X e te) (hK : X.K = K := by rfl) : PE X (.Subscript e (.Slice none none (some (.UnaryOp .USub (.Constant (.int 1) k p1) p2)) p3) pos) (tRevL K te) := hK ▸ pe_revL he
theorem kzip {e e2 : Expr} {ta : TA} {p pos tpos : Pos} {elts : List Expr} {kk : Nat} (hg : Gl X "zip") (hm : X.mg "zip" = none) (ha : PA X [e, e2] ta)
    (hs : starEach [e, e2] X.env = (false, eval e X.env) :: starEach [e2] X.env := by rfl) (hpl : (backTo pos (starEach [e2] X.env)).any (·.1) = false := by rfl) (hK : X.K = K := by rfl) :
    PI X (.Tuple elts kk tpos) (.Call (.Name "zip" p) [e, e2] [] pos) (iZipQ K ta) := hK ▸ pi_zipQ hg hm ha hs hpl
theorem kenum {e : Expr} {ta : TA} {p pos tpos : Pos} {elts : List Expr} {kk : Nat} (hg : Gl X "enumerate") (hm : X.mg "enumerate" = none) (ha : PA X [e] ta) (hs : starEach [e] X.env = [(false, eval e X.env)] := by rfl) (hK : X.K = K := by rfl) :
    PI X (.Tuple elts kk tpos) (.Call (.Name "enumerate" p) [e] [] pos) (iEnumT K ta) := hK ▸ pi_enumT hg hm ha hs
end
section
variable {X : Cx} {x : Str} {k : Nat} {ps : List Str} {sp : Sp} {p pos : Pos} {e : Expr} {es : List Expr} {t : TA} {W : WX}
/-- a call of a def that may refuse, where nothing is refused -/
theorem pe_callHL (h : Has X.prog X.w X.K X.mg X.base x (L2.CX X.prog X.w) k ps sp) (hr : Room k X.A) (ha : PA X (e :: es) t) (hg : Gl X x := by rfl) (hdb : (x == ("__debug__" : Str)) = false := by decide)
    (he : starEach (e :: es) X.env = (false, eval e X.env) :: starEach es X.env := by rfl) (hpl : (backTo pos (starEach es X.env)).any (·.1) = false := by rfl) : PE X (.Call (.Name x p) (e :: es) [] pos) (tCall sp [] E0 t) := by
  obtain ⟨f, fd, hm, hk, hb, F⟩ := h
  exact pe_call F hr hg hm hk hb .nil passL ha hdb he hpl
/-- .. where a refusal goes on -/
theorem pe_callHX (h : Has X.prog X.w X.K X.mg X.base x (L2.CX X.prog X.w) k ps sp) (hr : Room k X.A) (tk : Takes X W) (ha : PA X (e :: es) t) (hg : Gl X x := by rfl) (hdb : (x == ("__debug__" : Str)) = false := by decide)
    (he : starEach (e :: es) X.env = (false, eval e X.env) :: starEach es X.env := by rfl) (hpl : (backTo pos (starEach es X.env)).any (·.1) = false := by rfl) : PE X (.Call (.Name x p) (e :: es) [] pos) (tCallS sp (WE W) t) := by
  obtain ⟨f, fd, hm, hk, hb, F⟩ := h
  exact pe_callS F hr hg hm hk hb (fun σ => passAt tk σ) ha hdb he hpl
end
def sX1 (C : Addr) (P : PyData → Prop) (f : PyData → Except PyData PyData) : Sp := spX C (fun ds => ∃ a, ds = [a] ∧ P a) (fun | [a] => f a | _ => .ok .none)
def sX2 (C : Addr) (P : PyData → PyData → Prop) (f : PyData → PyData → Except PyData PyData) : Sp := spX C (fun ds => ∃ a b, ds = [a, b] ∧ P a b) (fun | [a, b] => f a b | _ => .ok .none)
def sX3 (C : Addr) (P : PyData → PyData → PyData → Prop) (f : PyData → PyData → PyData → Except PyData PyData) : Sp := spX C (fun ds => ∃ a b c, ds = [a, b, c] ∧ P a b c) (fun | [a, b, c] => f a b c | _ => .ok .none)
def sX4 (C : Addr) (P : PyData → PyData → PyData → PyData → Prop) (f : PyData → PyData → PyData → PyData → Except PyData PyData) : Sp := spX C (fun ds => ∃ a b c d, ds = [a, b, c, d] ∧ P a b c d) (fun | [a, b, c, d] => f a b c d | _ => .ok .none)
section
variable {δ : List Sl} {M : Mem} {t : TA} {E : XK} {C : Addr} {W : WX}
theorem g_cX1 {P : PyData → Prop} {f : PyData → Except PyData PyData} {a r : PyData} (h : Ga δ M t [a]) (p : P a) (e : f a = .ok r) : Gv δ M (tCallS (sX1 C P f) (WE W) t) r := g_callX h ⟨a, rfl, p⟩ e
theorem g_cX2 {P : PyData → PyData → Prop} {f : PyData → PyData → Except PyData PyData} {a b r : PyData} (h : Ga δ M t [a, b]) (p : P a b) (e : f a b = .ok r) : Gv δ M (tCallS (sX2 C P f) (WE W) t) r := g_callX h ⟨a, b, rfl, p⟩ e
theorem g_cX3 {P : PyData → PyData → PyData → Prop} {f : PyData → PyData → PyData → Except PyData PyData} {a b c r : PyData} (h : Ga δ M t [a, b, c]) (p : P a b c) (e : f a b c = .ok r) : Gv δ M (tCallS (sX3 C P f) (WE W) t) r := g_callX h ⟨a, b, c, rfl, p⟩ e
theorem g_cX4 {P : PyData → PyData → PyData → PyData → Prop} {f : PyData → PyData → PyData → PyData → Except PyData PyData} {a b c d r : PyData} (h : Ga δ M t [a, b, c, d]) (p : P a b c d) (e : f a b c d = .ok r) : Gv δ M (tCallS (sX4 C P f) (WE W) t) r := g_callX h ⟨a, b, c, d, rfl, p⟩ e
theorem g_cL1 {P : PyData → Prop} {f : PyData → Except PyData PyData} {a r : PyData} (h : Ga δ M t [a]) (p : P a) (e : f a = .ok r) : Gv δ M (tCall (sX1 C P f) [] E t) r := g_callL h ⟨a, rfl, p⟩ e
theorem g_cL2 {P : PyData → PyData → Prop} {f : PyData → PyData → Except PyData PyData} {a b r : PyData} (h : Ga δ M t [a, b]) (p : P a b) (e : f a b = .ok r) : Gv δ M (tCall (sX2 C P f) [] E t) r := g_callL h ⟨a, b, rfl, p⟩ e
theorem g_cL3 {P : PyData → PyData → PyData → Prop} {f : PyData → PyData → PyData → Except PyData PyData} {a b c r : PyData} (h : Ga δ M t [a, b, c]) (p : P a b c) (e : f a b c = .ok r) : Gv δ M (tCall (sX3 C P f) [] E t) r := g_callL h ⟨a, b, c, rfl, p⟩ e
theorem g_cL4 {P : PyData → PyData → PyData → PyData → Prop} {f : PyData → PyData → PyData → PyData → Except PyData PyData} {a b c d r : PyData} (h : Ga δ M t [a, b, c, d]) (p : P a b c d) (e : f a b c d = .ok r) : Gv δ M (tCall (sX4 C P f) [] E t) r := g_callL h ⟨a, b, c, d, rfl, p⟩ e
variable {c : Ct} {G H : Hp} {σ : L2.St} {Q : VK}
theorem e_cX1 {P : PyData → Prop} {f : PyData → Except PyData PyData} {a r : PyData} (A : At c δ M G H σ) (h : Ga δ M t [a]) (p : P a) (e : f a = .error r)
    (k : ∀ G' H' v dx, At c δ M G' H' σ → Rep G' v r → H' dx = some (.xd [(("at" : Str), v)]) → W (.ref C) (some dx) σ H') : tCallS (sX1 C P f) (WE W) t σ H Q := e_callX A h ⟨a, rfl, p⟩ e k
theorem e_cX2 {P : PyData → PyData → Prop} {f : PyData → PyData → Except PyData PyData} {a b r : PyData} (A : At c δ M G H σ) (h : Ga δ M t [a, b]) (p : P a b) (e : f a b = .error r)
    (k : ∀ G' H' v dx, At c δ M G' H' σ → Rep G' v r → H' dx = some (.xd [(("at" : Str), v)]) → W (.ref C) (some dx) σ H') : tCallS (sX2 C P f) (WE W) t σ H Q := e_callX A h ⟨a, b, rfl, p⟩ e k
theorem e_cX3 {P : PyData → PyData → PyData → Prop} {f : PyData → PyData → PyData → Except PyData PyData} {a b d r : PyData} (A : At c δ M G H σ) (h : Ga δ M t [a, b, d]) (p : P a b d) (e : f a b d = .error r)
    (k : ∀ G' H' v dx, At c δ M G' H' σ → Rep G' v r → H' dx = some (.xd [(("at" : Str), v)]) → W (.ref C) (some dx) σ H') : tCallS (sX3 C P f) (WE W) t σ H Q := e_callX A h ⟨a, b, d, rfl, p⟩ e k
theorem e_cX4 {P : PyData → PyData → PyData → PyData → Prop} {f : PyData → PyData → PyData → PyData → Except PyData PyData} {a b d g r : PyData} (A : At c δ M G H σ) (h : Ga δ M t [a, b, d, g]) (p : P a b d g) (e : f a b d g = .error r)
    (k : ∀ G' H' v dx, At c δ M G' H' σ → Rep G' v r → H' dx = some (.xd [(("at" : Str), v)]) → W (.ref C) (some dx) σ H') : tCallS (sX4 C P f) (WE W) t σ H Q := e_callX A h ⟨a, b, d, g, rfl, p⟩ e k
end
section
variable {C : Addr} {vs : List V} {H : Hp} {Q : VK} {E : XK}
theorem lenX1 {P : PyData → Prop} {f : PyData → Except PyData PyData} (h : sX1 C P f vs H Q E) : vs.length = 1 := by
  obtain ⟨G, ds, _, ra, ⟨_, rfl, _⟩, _⟩ := h
  exact ra.length
theorem lenX2 {P : PyData → PyData → Prop} {f : PyData → PyData → Except PyData PyData} (h : sX2 C P f vs H Q E) : vs.length = 2 := by
  obtain ⟨G, ds, _, ra, ⟨_, _, rfl, _⟩, _⟩ := h
  exact ra.length
theorem lenX3 {P : PyData → PyData → PyData → Prop} {f : PyData → PyData → PyData → Except PyData PyData} (h : sX3 C P f vs H Q E) : vs.length = 3 := by
  obtain ⟨G, ds, _, ra, ⟨_, _, _, rfl, _⟩, _⟩ := h
  exact ra.length
theorem lenX4 {P : PyData → PyData → PyData → PyData → Prop} {f : PyData → PyData → PyData → PyData → Except PyData PyData} (h : sX4 C P f vs H Q E) : vs.length = 4 := by
  obtain ⟨G, ds, _, ra, ⟨_, _, _, _, rfl, _⟩, _⟩ := h
  exact ra.length
end
/-- name = [..] on one line -/
theorem ps_setLcQ {X : Cx} {i : Nat} {y : Str} {py : Pos} {elt tg iter : Expr} {ifs : List Expr} {scope : Scope} {own : List (Str × Nat)} {pos spos : Pos} {wi : TI} {g : TG} {tt : TT} {te : TE} (hc : X.calm = true) (hN : X.N.Nodup) (hi : PI X tg iter wi) (ok : BlkOk X.N X.env.scope scope own)
    (hg : ∀ (s : Shared) (H : Hp) (C : Addr) (cl : List (Str × Addr)) (fp : List Addr), PG (X.blk s H scope (compEnvC scope cl C X.env) fp) tg g) (ht : ∀ (s : Shared) (H : Hp) (C : Addr) (cl : List (Str × Addr)) (fp : List Addr), PTs (X.blk s H scope (compEnvC scope cl C X.env) fp) ifs tt)
    (he : ∀ (s : Shared) (H : Hp) (C : Addr) (cl : List (Str × Addr)) (fp : List Addr), PE (X.blk s H scope (compEnvC scope cl C X.env) fp) elt te) (hs : ∀ x, foldedSetIterable iter X.env x = pure x := by intro _; rfl)
    (hy : X.N[i]? = some y := by rfl) (hyl : X.env.scope.names.lookup y = some .local := by rfl) (hk : X.env.scope.kind = .function := by rfl) (hl : (py.line == pos.line) = true := by rfl)
    (ha : (scope.names.any fun (n, k) => n == y && (k == .local || k == .cell)) = false := by rfl) :
    PS X (.Assign [.Name y py] (.ListComp elt [⟨tg, iter, ifs, 0⟩] scope pos) spos) (tAsg (tLc wi g tt te (own.map (·.2))) (gName i)) := ps_setLc hc hN hy hyl (sw_true hk hyl hl ha) hi ok hg ht he hs
/-! ### a reading opened up to its first part -/
section
variable {c : Ct} {δ : List Sl} {M : Mem} {ta tb te : TE} {d : PyData} {G H : Hp} {σ : L2.St} {D : Ends} {r : R2} {Q : VK} {w : TS} {t : TA} {rc : List V → Hp → VK → Prop} {g : TG} {QA : List V → Hp → Prop}
theorem e_ret (h : te σ H D.rt) : tRet te D σ H := h
theorem e_op (A : At c δ M G H σ) (g : Gv δ M ta d) (k : ∀ G1 H1 v, At c δ M G1 H1 σ → Rep G1 v d → tb σ H1 fun y H2 => r v y H2 Q) : tOp r ta tb σ H Q := g c G H σ _ A fun G1 H1 v A1 _ r1 => k G1 H1 v A1 r1
theorem e_op1 (h : ta σ H fun v H1 => tb σ H1 fun y H2 => r v y H2 Q) : tOp r ta tb σ H Q := h
theorem e_cb (h : t σ H fun vs H1 => rc vs H1 Q) : tCB rc t σ H Q := h
theorem e_cons (h : ta σ H fun v H1 => t σ H1 fun vs H2 => QA (v :: vs) H2) : tCons ta t σ H QA := h
theorem e_tup (h : t σ H fun vs H1 => vs.length ≤ sizeLine ∧ ∀ p, H1 p = none → Q (.ref p) (upd H1 p (.tup vs))) : tTup t σ H Q := h
theorem e_asg (h : te σ H fun v H1 => g v σ H1 D.nx) : tAsg te g D σ H := h
theorem e_asgq (h : te σ H fun v H1 => g v σ H1 (w D)) : tSeq (tAsg te g) w D σ H := h
theorem e_dropq (h : te σ H fun _ H1 => w D σ H1) : tSeq (tDrop te) w D σ H := h
theorem s_whileq {t : TT} {tb : TS} (I : Nat → List Sl → Mem → Prop) (A : At c δ M G H σ) {m : Nat} (h0 : I m δ M)
    (hs : ∀ (m : Nat) (δ' : List Sl) (M' : Mem) (G' H' : Hp) (σ' : L2.St), I m δ' M' → At c δ' M' G' H' σ' →
      t σ' H' fun b H1 => if b = true then tb { D with nx := fun σ2 H2 => ∃ m', m' < m ∧ Bt c I m' σ2 H2, ct := fun σ2 H2 => ∃ m', m' < m ∧ Bt c I m' σ2 H2, bk := w D } σ' H1 else w D σ' H1)
    (mono : ∀ σ H Q Q', (∀ b H1, Q b H1 → Q' b H1) → t σ H Q → t σ H Q') : tSeq (tWhile t tb) w D σ H := s_while I A h0 hs mono
/-- xs[::-1], xs an own list -/
theorem g_revOwn {K : PySem.W.Frag} {i k : Nat} {p : Addr} {ds : List PyData} (hi : δ[i]? = some (.val (.ref p))) (hk : M[k]? = some (p, .lst ds)) : Gv δ M (tRevL K (tVar i)) (.list ds.reverse) := fun c G H σ Q A k' => by
  obtain ⟨_, _, u1, hu1, ys, rfl, ra, z⟩ := A.mem p _ (List.mem_of_getElem? hk)
  refine ⟨_, A.sl i _ hi, p, ys, rfl, SqL.of hu1, fun q n => ?_⟩
  obtain ⟨A2, s2, r2⟩ := at_newL A n (by rw [List.length_reverse]; exact z) ra.reverse
  exact k' _ _ _ A2 s2 r2
end
end Od
set_option Elab.async false
set_option linter.all false
set_option autoImplicit false
set_option maxRecDepth 100000
set_option maxHeartbeats 2000000
/-! D6: own lists that are walked, read, cut; the draws' box. -/
namespace Od
open PySem PySem.Spec L2
section
variable {δ : List Sl} {M : Mem} {K : PySem.W.Frag} {ta tb te tl : TE} {d e : PyData} {ds es : List PyData} {i k : Nat} {p : Addr}
/-- a comprehension's list, own -/
theorem gf_lc {wi : TI} {g : TG} {tt : TT} {te : TE} {vs : List Nat} {δ' : PyData → List Sl} (q : PyData → Bool) (f : PyData → PyData) (hi : Gi δ M wi ds) (hl : ds.length ≤ 100000)
    (hg : ∀ x d, d ∈ ds → Gg (wipeS δ vs) (x :: M) g vs d (δ' d)) (ht : ∀ x d, d ∈ ds → Gt (δ' d) (x :: M) tt (q d)) (he : ∀ x d, d ∈ ds → q d = true → Gv (δ' d) (x :: M) te (f d)) :
    Gf δ M (tLc wi g tt te vs) ((ds.filter q).map f) := fun c G H σ Q A k =>
  hi c G H σ _ A fun G0 H0 J A0 s0 wk => fun D nD => by
    have res : ∀ i, ((((ds.take i).filter q).map f)).length ≤ 100000 := fun i => by
      rw [List.length_map]
      refine Nat.le_trans (List.length_filter_le _ _) (Nat.le_trans ?_ hl)
      rw [List.length_take]
      omega
    refine ⟨fun i m H' => m = ds.length - i ∧ i ≤ ds.length ∧ ∃ G', At c δ ((D, .lst (((ds.take i).filter q).map f)) :: M) G' H' σ ∧ Same G0 G', ⟨ds.length, rfl, Nat.zero_le _, G0, A0.lay nD ⟨[], rfl, .nil, by simp⟩, .refl _⟩, ?_⟩
    rintro i m H' ⟨rfl, hil, G', A', s'⟩
    by_cases hlt : i < ds.length
    · have hd : ds[i]? = some ds[i] := List.getElem?_eq_getElem hlt
      have hmem : ds[i] ∈ ds := List.getElem_mem hlt
      obtain ⟨go, yl⟩ := (wk i G' H' s' A'.gh).1 _ hd
      refine .inr ⟨go, fun H'' => ∃ G'', At c δ ((D, .lst (((ds.take (i + 1)).filter q).map f)) :: M) G'' H'' σ ∧ Same G0 G'', fun H'' hN => ⟨ds.length - (i + 1), by omega, rfl, hlt, hN⟩, fun x H1 hy => ?_⟩
      obtain ⟨G1, e1, r1⟩ := yl x H1 hy
      have A1 := (A'.ext e1)
      refine hg _ _ hmem c G1 H1 _ x _ (A1.wipe vs) r1 fun G2 H2 σ2 A2 s2 l2 k2 => ⟨?_, ?_⟩
      · rw [wipe_same l2 k2]
        exact wipe_same (by rw [L2.wipe_length]) fun j hj => L2.wipe_out hj
      · refine ht _ _ hmem c G2 H2 σ2 _ A2 fun G3 H3 A3 s3 => ?_
        have tk : ∀ b, q ds[i] = b → (((ds.take (i + 1)).filter q).map f) = if b = true then ((ds.take i).filter q).map f ++ [f ds[i]] else ((ds.take i).filter q).map f := fun b hb => by
          rw [take_snoc hd, List.filter_append, List.map_append]
          cases b with
          | true => simp [List.filter_cons, hb]
          | false => simp [List.filter_cons, hb]
        cases hb : q ds[i] with
        | true =>
          refine iteT (he _ _ hmem hb c G3 H3 σ2 _ A3 fun G4 H4 y A4 s4 r4 => ?_)
          obtain ⟨hg4, hs4, u, hu, xs, rfl, ra, hl4⟩ := A4.mem D _ (List.mem_cons_self ..)
          refine ⟨xs, hu, by rw [ra.length]; exact lim_lt hl4, G4, ?_, ((s'.trans e1.gg).trans s2).trans (s3.trans s4)⟩
          have r := tk true hb
          rw [if_pos rfl] at r
          have B := A4.write (k := 0) (o' := .lst (((ds.take (i + 1)).filter q).map f)) (u := .lst (xs ++ [y])) rfl ⟨_, rfl, by rw [r]; exact ra.append (.one r4), res _⟩
          exact B.slots A0 (((s'.trans e1.gg).trans s2).trans (s3.trans s4))
        | false =>
          refine iteF ⟨G3, ?_, ((s'.trans e1.gg).trans s2).trans s3⟩
          have r := tk false hb
          rw [if_neg Bool.false_ne_true] at r
          rw [r]
          exact A3.slots A0 (((s'.trans e1.gg).trans s2).trans s3)
    · have ei : i = ds.length := by omega
      subst ei
      refine .inl ⟨(wk _ G' H' s' A'.gh).2 rfl, ?_⟩
      rw [List.take_length] at A'
      exact k D _ _ (A0.fresh nD).1 A' (s0.trans s')
theorem wipe_set1 {σ : L2.St} {j : Nat} {x : V} : L2.wipe ((L2.wipe σ [j]).set j (some x)) [j] = L2.wipe σ [j] :=
  (wipe_same (vs := [j]) (by rw [List.length_set, L2.wipe_length]) (fun q hq => by
    rw [List.getElem?_set_ne (fun z => hq (by simp [z]))])).trans (wipe_same (by rw [L2.wipe_length]) fun q hq => L2.wipe_out hq)
/-- [f x for x in xs], xs an own list of data -/
theorem g_lcOwn {j : Nat} (f : PyData → PyData) (hi : δ[i]? = some (.val (.ref p))) (hm : (p, MO.lst ds) ∈ M) (hl : ds.length ≤ 100000) (he : ∀ x d, d ∈ ds → Gv ((wipeS δ [j]).set j (.dat d)) (x :: M) te (f d)) :
    Gv δ M (tLc (iSeq K (tVar i)) (gName j) tYes te [j]) (.list (ds.map f)) := fun c G H σ Q A k => by
  obtain ⟨_, _, u0, hu0, xs0, rfl, ra0, _⟩ := A.mem p _ hm
  refine .inl ⟨_, A.sl i _ hi, p, rfl, ⟨xs0, SqL.of hu0⟩, fun R nD => ?_⟩
  refine ⟨fun n m H' => m = ds.length - n ∧ n ≤ ds.length ∧ ∃ G', At c δ ((R, .lst ((ds.take n).map f)) :: M) G' H' σ ∧ Same G G', ⟨ds.length, rfl, Nat.zero_le _, G, A.lay nD ⟨[], rfl, .nil, by simp⟩, .refl _⟩, ?_⟩
  rintro n m H' ⟨rfl, hnl, G', A', s'⟩
  obtain ⟨_, _, u, hu, xs, rfl, ra, _⟩ := A'.mem p _ (List.mem_cons_of_mem _ hm)
  have hq : SqL K H' p xs := SqL.of hu
  by_cases hlt : n < ds.length
  · have hd : ds[n]? = some ds[n] := List.getElem?_eq_getElem hlt
    obtain ⟨v, hv, rv⟩ := ra.get hd
    refine .inr ⟨⟨xs, v, hq, hv⟩, fun H'' => ∃ G'', At c δ ((R, .lst ((ds.take (n + 1)).map f)) :: M) G'' H'' σ ∧ Same G G'', fun H'' hN => ⟨ds.length - (n + 1), by omega, rfl, hlt, hN⟩, fun x H1 hy => ?_⟩
    obtain ⟨rfl, hall⟩ := hy
    have := getElem?_idx (hall xs hq) hv
    subst this
    refine ⟨wipe_set1, ?_⟩
    unfold tYes
    refine (if_pos rfl).mpr ?_
    have A2 := (A'.wipe [j]).set (i := j) (s := .dat ds[n]) (v := x) ⟨x, rfl, rv⟩
    refine he _ _ (List.getElem_mem hlt) c G' _ _ _ A2 fun G3 H3 y A3 s3 r3 => ?_
    obtain ⟨hg4, hs4, u4, hu4, ys, rfl, ra4, hl4⟩ := A3.mem R _ (List.mem_cons_self ..)
    refine ⟨ys, hu4, by rw [ra4.length]; exact lim_lt hl4, G3, ?_, s'.trans s3⟩
    have B := A3.write (k := 0) (o' := .lst ((ds.take (n + 1)).map f)) (u := .lst (ys ++ [y])) rfl ⟨_, rfl, by rw [take_snoc hd, List.map_append]; exact ra4.append (.one r3), by rw [List.length_map, List.length_take]; omega⟩
    exact B.slots A (s'.trans s3)
  · have ei : n = ds.length := by omega
    subst ei
    refine .inl ⟨⟨xs, hq, by rw [ra.length]; exact Nat.le_refl _⟩, ?_⟩
    rw [List.take_length] at A'
    obtain ⟨ys, hx, B, sB, rB⟩ := A'.freeze (k := 0) rfl (A.fresh nD).1
    exact k _ _ _ B (s'.trans sB) rB
/-- v in xs, an own list of numbers -/
theorem g_notinOwn {ns : List Int} {n : Int} (ha : Gv δ M ta (.int n)) (hi : δ[i]? = some (.val (.ref p))) (hm : (p, MO.lst (ns.map PyData.int)) ∈ M) : Gv δ M (tOp (rIn K true) ta (tVar i)) (.bool (!decide (n ∈ ns))) := fun c G H σ Q A k =>
  ha c G H σ _ A fun G1 H1 v A1 s1 r1 => by
    obtain ⟨_, _, u, hu, xs, rfl, ra, _⟩ := A1.mem p _ hm
    have ex := ra.of_ints
    subst ex
    refine ⟨_, A1.sl i _ hi, p, ns.map V.int, rfl, .inl (SqL.of hu), ?_, flat_ints ns, ?_⟩
    · rw [r1.intV]; rfl
    · rw [r1.intV, if_pos rfl, inV_ints]
      exact k G1 H1 _ A1 s1 (.bl _)
/-- xs[-1], an own list -/
theorem g_ownLast (hi : δ[i]? = some (.val (.ref p))) (hm : (p, MO.lst (ds ++ [d])) ∈ M) (hb : Gv δ M tb (.int (-1))) : Gv δ M (tOp (rIx K) (tVar i) tb) d := fun c G H σ Q A k => by
  refine ⟨_, A.sl i _ hi, hb c G H σ _ A fun G1 H1 w A1 s1 r1 => ?_⟩
  obtain ⟨_, _, u, hu, xs, rfl, ra, _⟩ := A1.mem p _ hm
  have hn : (ds ++ [d])[ds.length]? = some d := by simp
  obtain ⟨x, hx, rx⟩ := ra.get hn
  have hl := ra.length
  rw [List.length_append] at hl
  have ey : xs = xs.take ds.length ++ [x] := by
    have e1 := (List.take_append_drop ds.length xs).symm
    have e2 : xs.drop ds.length = [x] := by
      rw [List.drop_eq_getElem_cons (by simp at hl; omega)]
      rw [List.getElem?_eq_getElem (by simp at hl; omega)] at hx
      rw [Option.some.inj hx, List.drop_eq_nil_of_le (by simp at hl; omega)]
    rw [e2] at e1
    exact e1
  rw [r1.intV]
  exact .inl ⟨p, xs, _, x, rfl, rfl, SqL.of hu, by rw [ey]; exact atI_last _ _, k G1 H1 x A1 s1 rx⟩
theorem gf_slToOwn {n : Nat} (hi : δ[i]? = some (.val (.ref p))) (hm : (p, MO.lst ds) ∈ M) (hb : Gv δ M tb (.int (n : Nat))) : Gf δ M (tSl (rSlL K) (tVar i) tNoPart (tPart tb)) (ds.take n) := fun c G H σ Q A k => by
  refine ⟨_, A.sl i _ hi, hb c G H σ _ A fun G2 H2 w A2 s2 r2 => ?_⟩
  obtain ⟨_, _, u, hu, xs, rfl, ra, z⟩ := A2.mem p _ hm
  refine ⟨n, r2.intV, p, xs, rfl, SqL.of hu, fun q hq => ?_⟩
  have rc := cutV_rep ra none (some (n : Int))
  rw [cut_to] at rc
  exact k q _ _ (A2.fresh hq).1 (A2.lay hq ⟨_, rfl, rc, by rw [List.length_take]; omega⟩) s2
theorem gf_slFromOwn {n : Nat} (hi : δ[i]? = some (.val (.ref p))) (hm : (p, MO.lst ds) ∈ M) (hb : Gv δ M tb (.int (n : Nat))) : Gf δ M (tSl (rSlL K) (tVar i) (tPart tb) tNoPart) (ds.drop n) := fun c G H σ Q A k => by
  refine ⟨_, A.sl i _ hi, hb c G H σ _ A fun G2 H2 w A2 s2 r2 => ?_⟩
  obtain ⟨_, _, u, hu, xs, rfl, ra, z⟩ := A2.mem p _ hm
  refine ⟨n, r2.intV, p, xs, rfl, SqL.of hu, fun q hq => ?_⟩
  have rc := cutV_rep ra (some (n : Int)) none
  rw [cut_from] at rc
  exact k q _ _ (A2.fresh hq).1 (A2.lay hq ⟨_, rfl, rc, by rw [List.length_drop]; omega⟩) s2
variable {c : Ct} {G H : Hp} {σ : L2.St} {D : Ends} {w : TS} {g : TG} {ts : TS}
/-- for x in xs, an own list that stays -/
theorem s_forOwn (I : Nat → List Sl → Mem → Prop) (A : At c δ M G H σ) (hi : δ[i]? = some (.val (.ref p))) (hm : (p, MO.lst ds) ∈ M) (h0 : I 0 δ M) (hI : ∀ j δ' M', I j δ' M' → (p, MO.lst ds) ∈ M')
    (hs : ∀ (j : Nat) (d : PyData) (δ' : List Sl) (M' : Mem) (G' H' : Hp) (σ' : L2.St) (v : V), ds[j]? = some d → I j δ' M' → At c δ' M' G' H' σ' → Rep G' v d →
      g v σ' H' fun σ2 H2 => ts { D with nx := Bt c I (j + 1), ct := Bt c I (j + 1), bk := D.nx } σ2 H2)
    (hd : ∀ (δ' : List Sl) (M' : Mem) (G' H' : Hp) (σ' : L2.St), I ds.length δ' M' → At c δ' M' G' H' σ' → D.nx σ' H') : tFor (iSeq K (tVar i)) g ts D σ H := by
  obtain ⟨_, _, u0, hu0, xs0, rfl, ra0, _⟩ := A.mem p _ hm
  refine .inl ⟨_, A.sl i _ hi, p, rfl, ⟨xs0, SqL.of hu0⟩, ?_⟩
  refine ⟨fun n m σ' H' => m = ds.length - n ∧ n ≤ ds.length ∧ Bt c I n σ' H', ⟨ds.length, rfl, Nat.zero_le _, δ, M, G, h0, A⟩, ?_⟩
  rintro n m σ' H' ⟨rfl, hil, δ', M', G', hI', A'⟩
  obtain ⟨_, _, u, hu, xs, rfl, ra, _⟩ := A'.mem p _ (hI n δ' M' hI')
  have hq : SqL K H' p xs := SqL.of hu
  by_cases hlt : n < ds.length
  · have hdn : ds[n]? = some ds[n] := List.getElem?_eq_getElem hlt
    obtain ⟨v, hv, rv⟩ := ra.get hdn
    refine .inr ⟨⟨xs, v, hq, hv⟩, Bt c I (n + 1), fun σ2 H2 hN => ⟨ds.length - (n + 1), by omega, rfl, hlt, hN⟩, fun x H1 hy => ?_⟩
    obtain ⟨rfl, hall⟩ := hy
    have := getElem?_idx (hall xs hq) hv
    subst this
    exact hs n _ δ' M' G' _ σ' x hdn hI' A' rv
  · have ei : n = ds.length := by omega
    subst ei
    exact .inl ⟨⟨xs, hq, by rw [ra.length]; exact Nat.le_refl _⟩, hd δ' M' G' H' σ' hI' A'⟩
/-! ### the box -/
theorem g_rawI {xs : List V} {n : Nat} {y : Int} (hi : δ[i]? = some (.val (.ref p))) (hm : (p, MO.raw (.lst xs)) ∈ M) (h : xs[n]? = some (.int y)) : Gv δ M (tOp (rIx K) (tVar i) (tC (.int (n : Nat)))) (.int y) := fun c G H σ Q A k => by
  obtain ⟨_, _, u1, hu1, rfl⟩ := A.mem p _ hm
  exact ⟨_, A.sl i _ hi, .inl ⟨p, xs, _, _, rfl, rfl, SqL.of hu1, atI_nat h, k G H _ A (.refl _) (.int _)⟩⟩
theorem s_setRaw {xs : List V} {n : Nat} {y : Int} (A : At c δ M G H σ) (hi : δ[i]? = some (.val (.ref p))) (hk : M[k]? = some (p, .raw (.lst xs))) (g : Gv δ M te (.int y)) (hn : n < xs.length)
    (kk : ∀ G' H', At c δ (M.set k (p, .raw (.lst (xs.set n (.int y))))) G' H' σ → D.nx σ H') : tAsg te (gSub (tVar i) (tC (.int (n : Nat))) rSetL) D σ H :=
  g c G H σ _ A fun G1 H1 v A1 s1 r1 => by
    refine ⟨_, A1.sl i _ hi, ?_⟩
    obtain ⟨_, _, u1, hu1, rfl⟩ := A1.mem p _ (List.mem_of_getElem? hk)
    rw [r1.intV]
    refine ⟨p, xs, n, n, rfl, rfl, hu1, ?_, ?_⟩
    · unfold ixN
      rw [if_pos (by omega), if_pos (by omega), Int.toNat_natCast]
    · exact kk _ _ (A1.write hk rfl)
theorem at_startB {N : List Str} {us : List V} {ds : List PyData} (e : Same G H) (r : RepA G us ds) (hl : (Sl.val (.ref p) :: ds.map Sl.dat).length ≤ N.length) (hg : G p = none) (hb : ∃ o, H p = some o ∧ MOk G .box o) :
    At ⟨[p], G, H, G⟩ ((Sl.val (.ref p) :: ds.map Sl.dat) ++ List.replicate (N.length - (Sl.val (.ref p) :: ds.map Sl.dat).length) Sl.any) [(p, .box)] G H (L2.start N (.ref p :: us)) :=
  at_startG e (.val (SlA.of r)) hl (fun q o h => by
    cases List.mem_singleton.mp h
    exact ⟨hg, .inl (List.mem_singleton_self _), hb⟩) (by simp) fun q h => by
    rw [List.mem_singleton.mp h]
    exact ⟨_, hb.choose_spec.1⟩
theorem At.box {δ' : List Sl} {M' : Mem} {G' H' : Hp} {σ' : L2.St} (A : At c δ' M' G' H' σ') (hm : (p, MO.box) ∈ M') : ∃ o, H' p = some o ∧ MOk G' .box o := (A.mem p _ hm).2.2
end
/-- promises with a box, by the number of the other arguments -/
def sB1 (P : PyData → Prop) (R : PyData → PyData → Prop) : Sp := spBx (fun ds => ∃ a, ds = [a] ∧ P a) (fun | [a] => R a | _ => fun _ => False)
def sB2 (P : PyData → PyData → Prop) (R : PyData → PyData → PyData → Prop) : Sp := spBx (fun ds => ∃ a b, ds = [a, b] ∧ P a b) (fun | [a, b] => R a b | _ => fun _ => False)
def sB3 (P : PyData → PyData → PyData → Prop) (R : PyData → PyData → PyData → PyData → Prop) : Sp := spBx (fun ds => ∃ a b c, ds = [a, b, c] ∧ P a b c) (fun | [a, b, c] => R a b c | _ => fun _ => False)
section
variable {δ : List Sl} {M : Mem} {tr : TA} {E : XK} {i : Nat} {p : Addr} {a b c : PyData}
theorem gs_b1 {P : PyData → Prop} {R : PyData → PyData → Prop} (hi : δ[i]? = some (.val (.ref p))) (hm : (p, MO.box) ∈ M) (h : Ga δ M tr [a]) (hp : P a) : Gs δ M (tCall (sB1 P R) [] E (tCons (tVar i) tr)) (R a) := gs_box hi hm h ⟨a, rfl, hp⟩
theorem gs_b2 {P : PyData → PyData → Prop} {R : PyData → PyData → PyData → Prop} (hi : δ[i]? = some (.val (.ref p))) (hm : (p, MO.box) ∈ M) (h : Ga δ M tr [a, b]) (hp : P a b) : Gs δ M (tCall (sB2 P R) [] E (tCons (tVar i) tr)) (R a b) := gs_box hi hm h ⟨a, b, rfl, hp⟩
theorem gs_b3 {P : PyData → PyData → PyData → Prop} {R : PyData → PyData → PyData → PyData → Prop} (hi : δ[i]? = some (.val (.ref p))) (hm : (p, MO.box) ∈ M) (h : Ga δ M tr [a, b, c]) (hp : P a b c) : Gs δ M (tCall (sB3 P R) [] E (tCons (tVar i) tr)) (R a b c) := gs_box hi hm h ⟨a, b, c, rfl, hp⟩
theorem lenB1 {P : PyData → Prop} {R : PyData → PyData → Prop} {vs : List V} {H : Hp} {Q : VK} (h : sB1 P R vs H Q E) : vs.length = 2 := by
  obtain ⟨G, p, us, ds, rfl, _, ra, ⟨_, rfl, _⟩, _⟩ := h
  simp [ra.length]
theorem lenB2 {P : PyData → PyData → Prop} {R : PyData → PyData → PyData → Prop} {vs : List V} {H : Hp} {Q : VK} (h : sB2 P R vs H Q E) : vs.length = 3 := by
  obtain ⟨G, p, us, ds, rfl, _, ra, ⟨_, _, rfl, _⟩, _⟩ := h
  simp [ra.length]
theorem lenB3 {P : PyData → PyData → PyData → Prop} {R : PyData → PyData → PyData → PyData → Prop} {vs : List V} {H : Hp} {Q : VK} (h : sB3 P R vs H Q E) : vs.length = 4 := by
  obtain ⟨G, p, us, ds, rfl, _, ra, ⟨_, _, _, rfl, _⟩, _⟩ := h
  simp [ra.length]
/-- a statement whose value is drawn -/
theorem s_setsq {c : Ct} {G H : Hp} {σ : L2.St} {D : Ends} {w : TS} {te : TE} {P : PyData → Prop} (A : At c δ M G H σ) (g : Gs δ M te P) (k : ∀ d G' H' σ', P d → At c (δ.set i (.dat d)) M G' H' σ' → w D σ' H') : tSeq (tAsg te (gName i)) w D σ H :=
  g c G H σ _ A fun d G1 H1 v hp A1 _ r1 => k d G1 H1 _ hp (A1.set ⟨v, rfl, r1⟩)
theorem s_sets {c : Ct} {G H : Hp} {σ : L2.St} {D : Ends} {te : TE} {P : PyData → Prop} (A : At c δ M G H σ) (g : Gs δ M te P) (k : ∀ d G' H' σ', P d → At c (δ.set i (.dat d)) M G' H' σ' → D.nx σ' H') : tAsg te (gName i) D σ H :=
  g c G H σ _ A fun d G1 H1 v hp A1 _ r1 => k d G1 H1 _ hp (A1.set ⟨v, rfl, r1⟩)
theorem s_rets {c : Ct} {G H : Hp} {σ : L2.St} {D : Ends} {te : TE} {P : PyData → Prop} (A : At c δ M G H σ) (g : Gs δ M te P) (k : ∀ d G' H' v, P d → At c δ M G' H' σ → Rep G' v d → D.rt v H') : tRet te D σ H :=
  g c G H σ _ A fun d G1 H1 v hp A1 _ r1 => k d G1 H1 v hp A1 r1
end
end Od
set_option Elab.async false
set_option linter.all false
set_option autoImplicit false
set_option maxRecDepth 100000
set_option maxHeartbeats 4000000
/-! W1: numbers, sequences, arcs. -/
namespace Od
open PySem PySem.Spec L2
def isInteger : PyData → Bool
  | .int _ => true
  | _ => false
def isNumber : PyData → Bool
  | .int i => decide (0 ≤ i)
  | _ => false
def isBelow (d : PyData) (m : Int) : Bool := match d with
  | .int i => decide (0 ≤ i) && decide (i < m)
  | _ => false
def isSeqD : PyData → Bool
  | .list _ => true
  | .tuple _ => true
  | _ => false
def isArcD (m : Int) (d : PyData) : Bool := match seqOf d with
  | some [a, b, c] => isBelow a m && (isBelow b m && (isNone c || isNumber c))
  | _ => false
def isInt (d : PyData) : Prop := ∃ i, d = .int i
def intOf : PyData → Int
  | .int i => i
  | _ => 0
theorem isSeqD_some {d : PyData} (h : isSeqD d = true) : ∃ ds, seqOf d = some ds := by
  cases d <;> first | exact ⟨_, rfl⟩ | cases h
theorem isSeqD_none {d : PyData} (h : isSeqD d = false) : seqOf d = none := by
  cases d <;> first | rfl | cases h
theorem isNum_int {d : PyData} (h : isNumber d = true) : ∃ i, d = .int i ∧ 0 ≤ i := by
  cases d with
  | int i => exact ⟨i, rfl, of_decide_eq_true h⟩
  | _ => cases h
theorem isBelow_int {d : PyData} {m : Int} (h : isBelow d m = true) : ∃ i, d = .int i ∧ 0 ≤ i ∧ i < m := by
  cases d with
  | int i =>
    simp only [isBelow, Bool.and_eq_true, decide_eq_true_eq] at h
    exact ⟨i, rfl, h⟩
  | _ => cases h
theorem len1 {P : PyData → Prop} {f : PyData → PyData} {vs : List V} {H : Hp} {Q : VK} {E : XK} (h : sp1 P f vs H Q E) : vs.length = 1 := by
  obtain ⟨G, ds, _, ra, ⟨_, rfl, _⟩, _⟩ := h
  exact ra.length
theorem len2 {P : PyData → PyData → Prop} {f : PyData → PyData → PyData} {vs : List V} {H : Hp} {Q : VK} {E : XK} (h : sp2 P f vs H Q E) : vs.length = 2 := by
  obtain ⟨G, ds, _, ra, ⟨_, _, rfl, _⟩, _⟩ := h
  exact ra.length
theorem len3 {P : PyData → PyData → PyData → Prop} {f : PyData → PyData → PyData → PyData} {vs : List V} {H : Hp} {Q : VK} {E : XK} (h : sp3 P f vs H Q E) : vs.length = 3 := by
  obtain ⟨G, ds, _, ra, ⟨_, _, _, rfl, _⟩, _⟩ := h
  exact ra.length
theorem len4 {P : PyData → PyData → PyData → PyData → Prop} {f : PyData → PyData → PyData → PyData → PyData} {vs : List V} {H : Hp} {Q : VK} {E : XK} (h : sp4 P f vs H Q E) : vs.length = 4 := by
  obtain ⟨G, ds, _, ra, ⟨_, _, _, _, rfl, _⟩, _⟩ := h
  exact ra.length
section
variable {δ : List Sl} {M : Mem} {a b c d : PyData} {i j k l : Nat}
theorem ga_v (h : δ[i]? = some (.dat a)) : Ga δ M (tCons (tVar i) tNil) [a] := ga_cons (g_var h) ga_nil
theorem ga_v2 (h : δ[i]? = some (.dat a)) (h2 : δ[j]? = some (.dat b)) : Ga δ M (tCons (tVar i) (tCons (tVar j) tNil)) [a, b] := ga_cons (g_var h) (ga_v h2)
theorem ga_v3 (h : δ[i]? = some (.dat a)) (h2 : δ[j]? = some (.dat b)) (h3 : δ[k]? = some (.dat c)) : Ga δ M (tCons (tVar i) (tCons (tVar j) (tCons (tVar k) tNil))) [a, b, c] := ga_cons (g_var h) (ga_v2 h2 h3)
theorem ga_v4 (h : δ[i]? = some (.dat a)) (h2 : δ[j]? = some (.dat b)) (h3 : δ[k]? = some (.dat c)) (h4 : δ[l]? = some (.dat d)) : Ga δ M (tCons (tVar i) (tCons (tVar j) (tCons (tVar k) (tCons (tVar l) tNil)))) [a, b, c, d] := ga_cons (g_var h) (ga_v3 h2 h3 h4)
end
theorem isInteger_int {d : PyData} (h : isInteger d = true) : ∃ i, d = .int i := by
  cases d with
  | int i => exact ⟨i, rfl⟩
  | _ => cases h
abbrev spB1 (f : PyData → Bool) : Sp := sp1 (fun _ => True) fun d => .bool (f d)
section
variable {P : Program} {w : World} {K : PySem.W.Frag} {mg : Str → Option Value} {base : Heap}
abbrev s_is_integer : Stmt := topS 4
abbrev N_is_integer : List Str := ["value"]
theorem sc_is_integer : FnScope N_is_integer ["value"] (defScope s_is_integer) := ⟨rfl, rfl, rfl, by decide +kernel, rfl, by decide +kernel, by decide +kernel⟩
theorem h_is_integer (B : Bl mg) (T : TopF K mg "is_integer" s_is_integer) : Has P w K mg base "is_integer" CX0 1 ["value"] (spB1 isInteger) := by
  obtain ⟨f, fd, hm, F⟩ := T
  refine ⟨f, fd, hm, F.kp, F.binds (ps := ["value"]) fun _ _ _ _ _ _ us hl => match us, hl with | [_], _ => rfl, F.ok sc_is_integer (fun vs H Q E h => len1 h) (fun cdv A outer s H vs Q E hr h => ?_)⟩
  have nd := sc_is_integer.nd
  have hu := hu_of hr
  obtain ⟨G, ds, gh, ra, ⟨d, rfl, _⟩, k⟩ := h
  refine ⟨_, (pss_one (ps_ret (pe_and (pe_callB (kisi (K := K)) (by rfl) B.isi (by decide +kernel) (pa_cons (pv 0) (pa_cons (pe_bltn (v := .ty "int") (by rfl) B.int (by decide +kernel) rfl) pa_nil))) (pe_one (pe_not (pe_callB (kisi (K := K)) (by rfl) B.isi (by decide +kernel) (pa_cons (pv 0) (pa_cons (pe_bltn (v := .ty "bool") (by rfl) B.bool (by decide +kernel) rfl) pa_nil)))))))), ?_⟩
  have A0 := at_start (N := N_is_integer) gh ra (Nat.le_of_ble_eq_true rfl)
  refine s_ret A0 ((g_and (g_isi (g_var rfl) (kit_I d)) fun _ => g_not (g_isi (g_var rfl) (kit_B d))).cast (d := .bool (isInteger d)) ?_) fun G' H' v A' r => k G' H' v A'.ev r
  cases d <;> rfl
abbrev s_is_number : Stmt := topS 5
abbrev N_is_number : List Str := ["value"]
theorem sc_is_number : FnScope N_is_number ["value"] (defScope s_is_number) := ⟨rfl, rfl, rfl, by decide +kernel, rfl, by decide +kernel, by decide +kernel⟩
theorem h_is_number (B : Bl mg) (T : TopF K mg "is_number" s_is_number) (h_is_integer : Has P w K mg base "is_integer" CX0 1 ["value"] (spB1 isInteger)) : Has P w K mg base "is_number" CX0 2 ["value"] (spB1 isNumber) := by
  obtain ⟨f, fd, hm, F⟩ := T
  refine ⟨f, fd, hm, F.kp, F.binds (ps := ["value"]) fun _ _ _ _ _ _ us hl => match us, hl with | [_], _ => rfl, F.ok sc_is_number (fun vs H Q E h => len1 h) (fun cdv A outer s H vs Q E hr h => ?_)⟩
  have nd := sc_is_number.nd
  have hu := hu_of hr
  obtain ⟨G, ds, gh, ra, ⟨d, rfl, _⟩, k⟩ := h
  refine ⟨_, (pss_one (ps_ret (pe_and (pe_callH h_is_integer (hr.mono (by decide)) (pa_cons (pv 0) pa_nil)) (pe_one (pe_cmpR op_ge (pv 0) pe_int (nomark _)))))), ?_⟩
  have A0 := at_start (N := N_is_number) gh ra (Nat.le_of_ble_eq_true rfl)
  refine s_ret A0 ((g_and (b := isNumber d) (g_c1 (ga_v rfl) trivial) fun z => ?_).cast (d := .bool (isNumber d)) ?_) fun G' H' v A' r => k G' H' v A'.ev r
  · obtain ⟨i, rfl⟩ := isInteger_int z
    exact g_opB (g_var rfl) g_int
  · cases d <;> rfl
abbrev s_is_below : Stmt := topS 6
abbrev N_is_below : List Str := ["value", "most"]
theorem sc_is_below : FnScope N_is_below ["value", "most"] (defScope s_is_below) := ⟨rfl, rfl, rfl, by decide +kernel, rfl, by decide +kernel, by decide +kernel⟩
theorem h_is_below (B : Bl mg) (T : TopF K mg "is_below" s_is_below) (h_is_number : Has P w K mg base "is_number" CX0 2 ["value"] (spB1 isNumber)) :
    Has P w K mg base "is_below" CX0 3 ["value", "most"] (sp2 (fun _ m => isInt m) fun d m => .bool (isBelow d (intOf m))) := by
  obtain ⟨f, fd, hm, F⟩ := T
  refine ⟨f, fd, hm, F.kp, F.binds (ps := ["value", "most"]) fun _ _ _ _ _ _ us hl => match us, hl with | [_, _], _ => rfl, F.ok sc_is_below (fun vs H Q E h => len2 h) (fun cdv A outer s H vs Q E hr h => ?_)⟩
  have nd := sc_is_below.nd
  have hu := hu_of hr
  obtain ⟨G, ds, gh, ra, ⟨d, _, rfl, ⟨m, rfl⟩⟩, k⟩ := h
  refine ⟨_, (pss_one (ps_ret (pe_and (pe_callH h_is_number (hr.mono (by decide)) (pa_cons (pv 0) pa_nil)) (pe_one (pe_cmpR op_lt (pv 0) (pv 1) (nomark _)))))), ?_⟩
  have A0 := at_start (N := N_is_below) gh ra (Nat.le_of_ble_eq_true rfl)
  refine s_ret A0 ((g_and (b := isBelow d m) (g_c1 (ga_v rfl) trivial) fun z => ?_).cast (d := .bool (isBelow d m)) ?_) fun G' H' v A' r => k G' H' v A'.ev r
  · obtain ⟨i, rfl, hi⟩ := isNum_int z
    refine (g_opB (g_var rfl) (g_var rfl)).cast ?_
    simp [isBelow, hi]
  · cases d with
    | int i => simp [isBelow, isNumber]
    | _ => rfl
abbrev s_is_sequence : Stmt := topS 7
abbrev N_is_sequence : List Str := ["value"]
theorem sc_is_sequence : FnScope N_is_sequence ["value"] (defScope s_is_sequence) := ⟨rfl, rfl, rfl, by decide +kernel, rfl, by decide +kernel, by decide +kernel⟩
theorem h_is_sequence (B : Bl mg) (T : TopF K mg "is_sequence" s_is_sequence) : Has P w K mg base "is_sequence" CX0 1 ["value"] (spB1 isSeqD) := by
  obtain ⟨f, fd, hm, F⟩ := T
  refine ⟨f, fd, hm, F.kp, F.binds (ps := ["value"]) fun _ _ _ _ _ _ us hl => match us, hl with | [_], _ => rfl, F.ok sc_is_sequence (fun vs H Q E h => len1 h) (fun cdv A outer s H vs Q E hr h => ?_)⟩
  have nd := sc_is_sequence.nd
  have hu := hu_of hr
  obtain ⟨G, ds, gh, ra, ⟨d, rfl, _⟩, k⟩ := h
  refine ⟨_, (pss_one (ps_ret (pe_callB (kisiT (K := K)) (by rfl) B.isi (by decide +kernel) (pa_cons (pv 0) (pa_cons (pe_tup (pa_cons (pe_bltn (v := .ty "list") (by rfl) B.list (by decide +kernel) rfl) (pa_cons (pe_bltn (v := .ty "tuple") (by rfl) B.tuple (by decide +kernel) rfl) pa_nil))) pa_nil))))), ?_⟩
  have A0 := at_start (N := N_is_sequence) gh ra (Nat.le_of_ble_eq_true rfl)
  refine s_ret A0 ((g_isiT (g_var rfl) (kit_L d) (kit_T d)).cast (d := .bool (isSeqD d)) ?_) fun G' H' v A' r => k G' H' v A'.ev r
  cases d <;> rfl
theorem decN {a b : Nat} : (!decide ((a : Int) = (b : Int))) = !decide (a = b) := by
  by_cases h : a = b
  · subst h; simp
  · rw [decide_eq_false h, decide_eq_false (by omega)]
abbrev s_is_arc : Stmt := topS 12
abbrev N_is_arc : List Str := ["many", "value"]
theorem sc_is_arc : FnScope N_is_arc ["many", "value"] (defScope s_is_arc) := ⟨rfl, rfl, rfl, by decide +kernel, rfl, by decide +kernel, by decide +kernel⟩
theorem h_is_arc (B : Bl mg) (T : TopF K mg "is_arc" s_is_arc) (h_is_sequence : Has P w K mg base "is_sequence" CX0 1 ["value"] (spB1 isSeqD)) (h_is_number : Has P w K mg base "is_number" CX0 2 ["value"] (spB1 isNumber))
    (h_is_below : Has P w K mg base "is_below" CX0 3 ["value", "most"] (sp2 (fun _ m => isInt m) fun d m => .bool (isBelow d (intOf m)))) :
    Has P w K mg base "is_arc" CX0 4 ["many", "value"] (sp2 (fun m _ => isInt m) fun m d => .bool (isArcD (intOf m) d)) := by
  obtain ⟨f, fd, hm, F⟩ := T
  refine ⟨f, fd, hm, F.kp, F.binds (ps := ["many", "value"]) fun _ _ _ _ _ _ us hl => match us, hl with | [_, _], _ => rfl, F.ok sc_is_arc (fun vs H Q E h => len2 h) (fun cdv A outer s H vs Q E hr h => ?_)⟩
  have nd := sc_is_arc.nd
  have hu := hu_of hr
  obtain ⟨G, ds, gh, ra, ⟨_, d, rfl, ⟨m, rfl⟩⟩, k⟩ := h
  refine ⟨_, (pss_cons (ps_if (PW.pt (pw_or (pt_not (pt_val (pe_callH h_is_sequence (hr.mono (by decide)) (pa_cons (pv 1) pa_nil)))) (pw_or1 (pt_cmpR op_ne (pe_callB (klen (K := K)) (by rfl) B.len (by decide +kernel) (pa_cons (pv 1) pa_nil)) pe_int (nomark _))))) (pss_one (ps_ret pe_bl)) pss_nil)
    (pss_one (ps_ret (pe_and (pe_callH h_is_below (hr.mono (by decide)) (pa_cons (pe_ix (kix (K := K)) (pv 1) pe_int (fun _ _ => rfl)) (pa_cons (pv 0) pa_nil))) (pe_and (pe_callH h_is_below (hr.mono (by decide)) (pa_cons (pe_ix (kix (K := K)) (pv 1) pe_int (fun _ _ => rfl)) (pa_cons (pv 0) pa_nil))) (pe_one (pe_or (pe_cmp (pc_isN (pe_ix (kix (K := K)) (pv 1) pe_int (fun _ _ => rfl))) rfl) (pe_one (pe_callH h_is_number (hr.mono (by decide)) (pa_cons (pe_ix (kix (K := K)) (pv 1) pe_int (fun _ _ => rfl)) pa_nil)))))))))), ?_⟩
  have A0 := at_start (N := N_is_arc) gh ra (Nat.le_of_ble_eq_true rfl)
  have k' : ∀ b, b = isArcD m d → ∀ G' H' v, Ev [] G H G' H' → Rep G' v (.bool b) → Q v H' := fun b e G' H' v ev r => k G' H' v ev (by show Rep G' v (.bool (isArcD m d)); rw [← e]; exact r)
  cases hs : seqOf d with
  | none =>
    have hq : isSeqD d = false := by cases d <;> first | rfl | cases hs
    refine s_ifq (b := true) A0 ((gt_or (gt_not (gt_b (g_c1 (ga_v rfl) trivial))) (b := true) fun z => ?_).cast (by rw [hq]; rfl)) (fun _ G1 H1 A1 => s_ret A1 g_bl fun G' H' v A' r => k' _ (by unfold isArcD; rw [hs]) G' H' v A'.ev r) fun z => nomatch z
    rw [hq] at z
    cases z
  | some xs =>
    have hq : isSeqD d = true := by cases d <;> first | rfl | cases hs
    refine s_ifq A0 (gt_or (gt_not (gt_b (g_c1 (ga_v rfl) trivial))) fun z => gt_test (g_neI (g_len (ga_v rfl) hs) g_int)) (fun z G1 H1 A1 => ?_) fun z G1 H1 A1 => ?_
    · refine s_ret A1 g_bl fun G' H' v A' r => k' _ ?_ G' H' v A'.ev r
      rw [hq] at z
      have hl : xs.length ≠ 3 := fun e => by rw [e] at z; simp at z
      unfold isArcD
      rw [hs]
      match xs, hl with
      | [], _ => rfl
      | [_], _ => rfl
      | [_, _], _ => rfl
      | [_, _, _], h => exact absurd rfl h
      | _ :: _ :: _ :: _ :: _, _ => rfl
    · rw [hq] at z
      have hl : xs.length = 3 := by
        have z' : (decide ((xs.length : Int) = 3)) = true := by simpa using z
        have := of_decide_eq_true z'
        omega
      match xs, hl with
      | [a, b, c], _ =>
        have e : isArcD m d = (isBelow a m && (isBelow b m && (isNone c || isNumber c))) := by unfold isArcD; rw [hs]
        refine s_ret (d := .bool (isArcD m d)) A1 ?_ fun G' H' v A' r => k G' H' v A'.ev r
        refine (g_and (g_c2 (ga_cons (g_ix (n := 0) (g_var rfl) g_int hs rfl) (ga_v rfl)) ⟨m, rfl⟩) fun _ => g_and (g_c2 (ga_cons (g_ix (n := 1) (g_var rfl) g_int hs rfl) (ga_v rfl)) ⟨m, rfl⟩) fun _ =>
          g_or (g_isN (g_ix (n := 2) (g_var rfl) g_int hs rfl)) fun _ => g_c1 (ga_cons (g_ix (n := 2) (g_var rfl) g_int hs rfl) ga_nil) trivial).cast ?_
        rw [e]
        cases c <;> rfl
end
end Od
set_option Elab.async false
set_option linter.all false
set_option autoImplicit false
set_option maxRecDepth 100000
/-! M0: what the program computes, over plain data: nets, loads, steps, the search, the leading. -/
namespace Od
open PySem
structure Arc where
  t : Nat
  h : Nat
  c : Option Int
deriving DecidableEq, Inhabited
/-- a step: an arc by its place, forth or back -/
structure Step where
  at_ : Nat
  w : Bool
deriving DecidableEq, Inhabited
def wayI (b : Bool) : Int := if b then 1 else -1
def capD : Option Int → PyData
  | none => .none
  | some c => .int c
def natD (n : Nat) : PyData := .int (n : Int)
def arcD (a : Arc) : PyData := .tuple [natD a.t, natD a.h, capD a.c]
def arcsD (as : List Arc) : PyData := .tuple (as.map arcD)
def netD (n : Nat) (as : List Arc) : PyData := .tuple [natD n, arcsD as]
def intsD (l : List Int) : List PyData := l.map PyData.int
def loadD (l : List Int) : PyData := .tuple (intsD l)
def natsD (l : List Nat) : List PyData := l.map natD
def stepD (s : Step) : PyData := .tuple [natD s.at_, .int (wayI s.w)]
def optD : Option PyData → PyData
  | none => .none
  | some d => d
/-! ### nets -/
def capOf : PyData → Option Int
  | .int c => some c
  | _ => none
/-- an arc, of a value that is one -/
def arcOf (d : PyData) : Arc := match seqOf d with
  | some [a, b, c] => ⟨(intOf a).toNat, (intOf b).toNat, capOf c⟩
  | _ => ⟨0, 0, none⟩
/-- a value as a net: its nodes, its arcs -/
def netOf (d : PyData) : Option (Nat × List Arc) := match seqOf d with
  | some [a, b] => match seqOf b with
    | some xs => if isBelow a 2001 && !(decide (intOf a = 0)) && xs.all (isArcD (intOf a)) then some ((intOf a).toNat, xs.map arcOf) else none
    | none => none
  | _ => none
/-! ### ends -/
def isEndD (m : Int) (s : PyData) (d : PyData) : Bool := isBelow d m && !(decide (intOf d = intOf s))
def endsOf (m : Int) (s e : PyData) : Except PyData (List Nat) :=
  if isBelow s m then match seqOf e with
    | some xs => if xs.all (isEndD m s) && decide ((keysOf (xs.map intOf)).length = xs.length) then .ok (xs.map fun d => (intOf d).toNat) else .error e
    | none => .error e
  else .error s
/-! ### loads -/
def leCap (x : Int) : Option Int → Bool
  | none => true
  | some c => decide (x ≤ c)
/-- a value as a load of the arcs -/
def loadOf (as : List Arc) (d : PyData) : Option (List Int) := match seqOf d with
  | some xs => if decide (xs.length = as.length) && xs.all isNumber && (List.zipWith (fun a x => leCap (intOf x) a.c) as xs).all id then some (xs.map intOf) else none
  | none => none
def surp1 (f : List Int) (a : Arc) (x : Int) : List Int := (f.set a.t (f.getD a.t 0 - x)).set a.h ((f.set a.t (f.getD a.t 0 - x)).getD a.h 0 + x)
def surplus (n : Nat) (as : List Arc) (l : List Int) : List Int := (as.zip l).foldl (fun f p => surp1 f p.1 p.2) (List.replicate n 0)
/-- all but the named have as much in as out -/
def fitsB (n : Nat) (as : List Arc) (es : List Nat) (l : List Int) : Bool := (List.range n).all fun v => decide ((surplus n as l).getD v 0 = 0) || decide (v ∈ es)
/-! ### the search -/
def leftOf (as : List Arc) (l : List Int) (s : Step) : Option Int :=
  if s.w then match (as.getD s.at_ default).c with
    | none => none
    | some c => some (c - l.getD s.at_ 0)
  else some (l.getD s.at_ 0)
def canGo (as : List Arc) (l : List Int) (s : Step) : Bool := !decide (leftOf as l s = some 0)
def sideOf (as : List Arc) (s : Step) : Nat × Nat := if s.w then ((as.getD s.at_ default).t, (as.getD s.at_ default).h) else ((as.getD s.at_ default).h, (as.getD s.at_ default).t)
structure Lead where
  st : Step
  there : Nat
deriving DecidableEq, Inhabited
def leadD (x : Lead) : PyData := .tuple [natD x.st.at_, .int (wayI x.st.w), natD x.there]
def addLead (f : List (List Lead)) (v : Nat) (x : Lead) : List (List Lead) := f.set v (f.getD v [] ++ [x])
def leads1 (f : List (List Lead)) (i : Nat) (a : Arc) : List (List Lead) := addLead (addLead f a.t ⟨⟨i, true⟩, a.h⟩) a.h ⟨⟨i, false⟩, a.t⟩
/-- the leads of the first k arcs -/
def leadsK (n : Nat) (as : List Arc) : Nat → List (List Lead)
  | 0 => List.replicate n []
  | k + 1 => leads1 (leadsK n as k) k (as.getD k default)
def leadsOf (n : Nat) (as : List Arc) : List (List Lead) := leadsK n as as.length
def leadsD (ls : List (List Lead)) : PyData := .tuple (ls.map fun row => .tuple (row.map leadD))
abbrev Found := List (Nat × Option Step)
def see (as : List Arc) (l : List Int) (f : Found) (x : Lead) : Found := if (f.lookup x.there).isNone && canGo as l x.st then f ++ [(x.there, some x.st)] else f
def expand (ls : List (List Lead)) (as : List Arc) (l : List Int) (f : Found) (v : Nat) : Found := (ls.getD v []).foldl (see as l) f
def bfsN (ls : List (List Lead)) (as : List Arc) (l : List Int) (s : Nat) : Nat → Found
  | 0 => [(s, none)]
  | i + 1 => match (bfsN ls as l s i)[i]? with
    | some p => expand ls as l (bfsN ls as l s i) p.1
    | none => bfsN ls as l s i
def comeBy (n : Nat) (as : List Arc) (l : List Int) (s : Nat) : Found := bfsN (leadsOf n as) as l s n
/-- the steps to v, of the last k of them -/
def trace (as : List Arc) (f : Found) : Nat → Nat → List Step
  | 0, _ => []
  | k + 1, v => match f.lookup v with
    | some (some st) => trace as f k (sideOf as st).1 ++ [st]
    | _ => []
def traced (as : List Arc) (f : Found) (v : Nat) : List Step := trace as f f.length v
def knownOf (as : List Arc) (l : List Int) (ss : List Step) : List Int := ss.filterMap (leftOf as l)
def minOf : List Int → Int
  | [] => 0
  | [x] => x
  | x :: y :: r => min x (minOf (y :: r))
def leastLeft (as : List Arc) (l : List Int) (ss : List Step) : Option Int := if (knownOf as l ss).isEmpty then none else some (minOf (knownOf as l ss))
def gone (l : List Int) (ss : List Step) (x : Int) : List Int := ss.foldl (fun f st => f.set st.at_ (f.getD st.at_ 0 + wayI st.w * x)) l
/-! ### the leading -/
/-- a walk of k steps from s to v in what is left -/
def reach (as : List Arc) (l : List Int) (s : Nat) : Nat → Nat → Bool
  | 0, v => decide (v = s)
  | k + 1, v => reach as l s k v || (List.range as.length).any fun i => [true, false].any fun b => canGo as l ⟨i, b⟩ && decide ((sideOf as ⟨i, b⟩).2 = v) && reach as l s k (sideOf as ⟨i, b⟩).1
/-- pairs (k, v), k, v < n, with a walk of at most k steps -/
def nearer (n : Nat) (as : List Arc) (l : List Int) (s : Nat) : Nat := ((List.range n).map fun k => ((List.range n).filter fun v => reach as l s k v).length).sum
/-- steps that lead one further -/
def tightB (n : Nat) (as : List Arc) (l : List Int) (s : Nat) (st : Step) : Bool := canGo as l st && (List.range n).any fun k => reach as l s k (sideOf as st).1 && reach as l s (k + 1) (sideOf as st).2 && !reach as l s k (sideOf as st).2
def tights (n : Nat) (as : List Arc) (l : List Int) (s : Nat) : Nat := ((List.range as.length).map fun i => ([true, false].filter fun b => tightB n as l s ⟨i, b⟩).length).sum
def mu (n : Nat) (as : List Arc) (s : Nat) (l : List Int) : Nat := nearer n as l s * (2 * as.length + 1) + tights n as l s
def someOf (n : Nat) (as : List Arc) (s : Nat) (gs : List Nat) (l : List Int) : List Nat := gs.filter fun g => ((comeBy n as l s).lookup g).isSome
def led (n : Nat) (as : List Arc) (s : Nat) (gs : List Nat) (l : List Int) : Option (List Int) :=
  match someOf n as s gs l with
  | [] => some l
  | g :: _ => match leastLeft as l (traced as (comeBy n as l s) g) with
    | none => none
    | some x => if h : mu n as s (gone l (traced as (comeBy n as l s) g) x) < mu n as s l then led n as s gs (gone l (traced as (comeBy n as l s) g) x) else none
termination_by mu n as s l
/-- the flows to the first one, two, .. of the ends -/
def flowK (n : Nat) (as : List Arc) (s : Nat) (es : List Nat) : Nat → Option (List Int)
  | 0 => some (List.replicate as.length 0)
  | k + 1 => (flowK n as s es k).bind fun l => led n as s (es.take (k + 1)) l
def flowsOf (n : Nat) (as : List Arc) (s : Nat) (es : List Nat) : List (Option (List Int)) := (List.range es.length).map fun k => flowK n as s es (k + 1)
def flowD : Option (List Int) → PyData
  | none => .none
  | some l => loadD l
end Od
set_option Elab.async false
set_option linter.all false
set_option autoImplicit false
set_option maxRecDepth 100000
/-! M1: the leads, the search: what it finds. -/
namespace Od
open PySem
def okArcs (n : Nat) (as : List Arc) : Prop := n ≤ 2000 ∧ ∀ a ∈ as, a.t < n ∧ a.h < n
theorem getD_mem {as : List Arc} {i : Nat} (h : i < as.length) : as.getD i default ∈ as := by
  rw [List.getD_eq_getElem?_getD, List.getElem?_eq_getElem h]
  exact List.getElem_mem h
theorem nodup_lt : ∀ (n : Nat) (l : List Nat), l.Nodup → (∀ v ∈ l, v < n) → l.length ≤ n
  | 0, l, _, h => by
    cases l with
    | nil => exact Nat.le_refl _
    | cons a l => exact absurd (h a (List.mem_cons_self ..)) (Nat.not_lt_zero _)
  | n + 1, l, nd, h => by
    have ih := nodup_lt n (l.erase n) (nd.erase n) fun v hv => by
      have h1 := h v (List.mem_of_mem_erase hv)
      have h2 : v ≠ n := fun e => by
        subst e
        exact (List.Nodup.not_mem_erase nd) hv
      omega
    have := List.length_erase (a := n) (l := l)
    split at this <;> omega
/-! ### leads -/
theorem addLead_len (f : List (List Lead)) (v : Nat) (x : Lead) : (addLead f v x).length = f.length := List.length_set ..
theorem leadsK_len (n : Nat) (as : List Arc) : ∀ k, (leadsK n as k).length = n
  | 0 => List.length_replicate ..
  | k + 1 => by
    show (addLead (addLead _ _ _) _ _).length = n
    rw [addLead_len, addLead_len, leadsK_len n as k]
theorem addLead_mem {f : List (List Lead)} {v w : Nat} {x y : Lead} : y ∈ (addLead f v x).getD w [] ↔ y ∈ f.getD w [] ∨ (y = x ∧ w = v ∧ v < f.length) := by
  unfold addLead
  rw [List.getD_eq_getElem?_getD, List.getD_eq_getElem?_getD, List.getD_eq_getElem?_getD]
  by_cases h : v = w
  · subst h
    by_cases hl : v < f.length
    · rw [List.getElem?_set_self hl]
      show y ∈ _ ++ [x] ↔ _
      rw [List.mem_append, List.mem_singleton]
      simp [hl]
    · rw [List.getElem?_eq_none (by rw [List.length_set]; omega), List.getElem?_eq_none (by omega)]
      simp [hl]
  · rw [List.getElem?_set_ne h]
    constructor
    · exact .inl
    · rintro (z | ⟨_, z, _⟩)
      · exact z
      · exact absurd z.symm h
theorem leadsK_mem {n : Nat} {as : List Arc} {v : Nat} {y : Lead} : ∀ {k : Nat}, y ∈ (leadsK n as k).getD v [] ↔ ∃ i, i < k ∧ ((y = ⟨⟨i, true⟩, (as.getD i default).h⟩ ∧ v = (as.getD i default).t ∧ v < n) ∨ (y = ⟨⟨i, false⟩, (as.getD i default).t⟩ ∧ v = (as.getD i default).h ∧ v < n))
  | 0 => by
    constructor
    · intro h
      have : ((List.replicate n []).getD v [] : List Lead) = [] := by
        rw [List.getD_eq_getElem?_getD, List.getElem?_replicate]
        split <;> rfl
      rw [show (leadsK n as 0).getD v [] = [] from this] at h
      cases h
    · rintro ⟨i, hi, _⟩
      exact absurd hi (Nat.not_lt_zero _)
  | k + 1 => by
    show y ∈ (addLead (addLead _ _ _) _ _).getD v [] ↔ _
    rw [addLead_mem, addLead_mem, addLead_len, leadsK_len, leadsK_mem]
    constructor
    · rintro ((⟨i, hi, h⟩ | ⟨h1, h2, h3⟩) | ⟨h1, h2, h3⟩)
      · exact ⟨i, by omega, h⟩
      · exact ⟨k, by omega, .inl ⟨h1, h2, by rw [h2]; exact h3⟩⟩
      · exact ⟨k, by omega, .inr ⟨h1, h2, by rw [h2]; exact h3⟩⟩
    · rintro ⟨i, hi, h⟩
      by_cases e : i = k
      · subst e
        rcases h with ⟨h1, h2, h3⟩ | ⟨h1, h2, h3⟩
        · exact .inl (.inr ⟨h1, h2, by rw [← h2]; exact h3⟩)
        · exact .inr ⟨h1, h2, by rw [← h2]; exact h3⟩
      · exact .inl (.inl ⟨i, by omega, h⟩)
theorem leads_side {n : Nat} {as : List Arc} {v : Nat} {y : Lead} (h : y ∈ (leadsOf n as).getD v []) : y.st.at_ < as.length ∧ sideOf as y.st = (v, y.there) := by
  obtain ⟨i, hi, h⟩ := leadsK_mem.mp h
  rcases h with ⟨rfl, rfl, _⟩ | ⟨rfl, rfl, _⟩
  · exact ⟨hi, rfl⟩
  · exact ⟨hi, rfl⟩
theorem side_lt {n : Nat} {as : List Arc} (ok : okArcs n as) {st : Step} (h : st.at_ < as.length) : (sideOf as st).1 < n ∧ (sideOf as st).2 < n := by
  obtain ⟨h1, h2⟩ := ok.2 _ (getD_mem h)
  unfold sideOf
  cases st.w
  · exact ⟨h2, h1⟩
  · exact ⟨h1, h2⟩
theorem leads_lt {n : Nat} {as : List Arc} (ok : okArcs n as) {v : Nat} {y : Lead} (h : y ∈ (leadsOf n as).getD v []) : y.there < n := by
  obtain ⟨h1, h2⟩ := leads_side h
  have := (side_lt ok h1).2
  rw [h2] at this
  exact this
theorem leads_has {n : Nat} {as : List Arc} (ok : okArcs n as) {st : Step} (h : st.at_ < as.length) : ⟨st, (sideOf as st).2⟩ ∈ (leadsOf n as).getD (sideOf as st).1 [] := by
  refine leadsK_mem.mpr ⟨st.at_, h, ?_⟩
  have := (side_lt ok h).1
  obtain ⟨i, w⟩ := st
  cases w
  · exact .inr ⟨rfl, rfl, this⟩
  · exact .inl ⟨rfl, rfl, this⟩
/-! ### the search -/
def keys (f : Found) : List Nat := f.map (·.1)
def goodF (n : Nat) (f : Found) : Prop := (keys f).Nodup ∧ ∀ v ∈ keys f, v < n
theorem lookup_none {f : Found} {v : Nat} : f.lookup v = none ↔ v ∉ keys f := by
  unfold keys
  induction f with
  | nil => simp [List.lookup]
  | cons p f ih =>
    by_cases h : v = p.1
    · subst h
      simp [List.lookup]
    · have e : (v == p.1) = false := by simpa using h
      simp only [List.lookup, e, List.map_cons, List.mem_cons, h, false_or]
      exact ih
theorem lookup_at {f : Found} {i : Nat} {v : Nat} {o : Option Step} (nd : (keys f).Nodup) (h : f[i]? = some (v, o)) : f.lookup v = some o := by
  unfold keys at nd
  induction f generalizing i with
  | nil => cases h
  | cons p f ih =>
    obtain ⟨nd1, nd2⟩ := List.nodup_cons.mp nd
    cases i with
    | zero =>
      cases h
      simp [List.lookup]
    | succ i =>
      have h : f[i]? = some (v, o) := by simpa using h
      have hne : v ≠ p.1 := fun e => nd1 (by
        show p.1 ∈ f.map (·.1)
        rw [← e]
        exact List.mem_map.mpr ⟨(v, o), List.mem_of_getElem? h, rfl⟩)
      have e : (v == p.1) = false := by simpa using hne
      simp only [List.lookup, e]
      exact ih nd2 h
theorem lookup_ix {f : Found} {v : Nat} {o : Option Step} (h : f.lookup v = some o) : ∃ i : Nat, f[i]? = some (v, o) := by
  induction f with
  | nil => cases h
  | cons p f ih =>
    by_cases hv : v = p.1
    · subst hv
      simp [List.lookup] at h
      exact ⟨0, by rw [← h]; rfl⟩
    · have e : (v == p.1) = false := by simpa using hv
      simp only [List.lookup, e] at h
      obtain ⟨i, hi⟩ := ih h
      exact ⟨i + 1, by simpa using hi⟩
theorem goodF_len {n : Nat} {f : Found} (h : goodF n f) : f.length ≤ n := by
  have := nodup_lt n (keys f) h.1 h.2
  rwa [keys, List.length_map] at this
theorem see_cases (as : List Arc) (l : List Int) (f : Found) (x : Lead) : see as l f x = f ∨ (see as l f x = f ++ [(x.there, some x.st)] ∧ f.lookup x.there = none ∧ canGo as l x.st = true) := by
  unfold see
  by_cases h : ((f.lookup x.there).isNone && canGo as l x.st) = true
  · rw [if_pos h]
    obtain ⟨h1, h2⟩ := Bool.and_eq_true_iff.mp h
    exact .inr ⟨rfl, Option.isNone_iff_eq_none.mp h1, h2⟩
  · rw [if_neg h]
    exact .inl rfl
theorem see_good {n : Nat} {as : List Arc} {l : List Int} {f : Found} {x : Lead} (h : goodF n f) (hx : x.there < n) : goodF n (see as l f x) := by
  rcases see_cases as l f x with e | ⟨e, h1, _⟩
  · rw [e]; exact h
  · rw [e]
    have h1 := lookup_none.mp h1
    unfold goodF keys at *
    rw [List.map_append]
    refine ⟨List.nodup_append.mpr ⟨h.1, by simp, fun a ha b hb => ?_⟩, fun v hv => ?_⟩
    · have : b = x.there := by simpa using hb
      rw [this]
      rintro rfl
      exact h1 ha
    · rcases List.mem_append.mp hv with z | z
      · exact h.2 v z
      · have : v = x.there := by simpa using z
        rw [this]; exact hx
theorem fold_good {n : Nat} {as : List Arc} {l : List Int} : ∀ {xs : List Lead} {f : Found}, goodF n f → (∀ x ∈ xs, x.there < n) → goodF n (xs.foldl (see as l) f)
  | [], _, h, _ => h
  | x :: xs, f, h, hx => fold_good (xs := xs) (see_good h (hx x (List.mem_cons_self ..))) fun y hy => hx y (List.mem_cons_of_mem _ hy)
theorem bfs_good {n : Nat} {as : List Arc} (ok : okArcs n as) {l : List Int} {s : Nat} (hs : s < n) : ∀ i, goodF n (bfsN (leadsOf n as) as l s i)
  | 0 => ⟨by simp [bfsN, keys], fun v hv => by
    have : v = s := by simpa [bfsN, keys] using hv
    rw [this]; exact hs⟩
  | i + 1 => by
    have h := bfs_good ok (l := l) hs i
    unfold bfsN
    split
    · exact fold_good h fun x hx => leads_lt ok hx
    · exact h
theorem fold_len {as : List Arc} {l : List Int} : ∀ (xs : List Lead) (f : Found), f.length ≤ (xs.foldl (see as l) f).length
  | [], _ => Nat.le_refl _
  | x :: xs, f => by
    refine Nat.le_trans ?_ (fold_len xs (see as l f x))
    rcases see_cases as l f x with e | ⟨e, _, _⟩
    · rw [e]; exact Nat.le_refl _
    · rw [e, List.length_append]; omega
theorem bfs_succ {ls : List (List Lead)} {as : List Arc} {l : List Int} {s i : Nat} {p : Nat × Option Step} (h : (bfsN ls as l s i)[i]? = some p) : bfsN ls as l s (i + 1) = expand ls as l (bfsN ls as l s i) p.1 := by
  show (match (bfsN ls as l s i)[i]? with | some p => expand ls as l (bfsN ls as l s i) p.1 | none => bfsN ls as l s i) = _
  rw [h]
theorem bfs_stop {ls : List (List Lead)} {as : List Arc} {l : List Int} {s i : Nat} (h : (bfsN ls as l s i).length ≤ i) : ∀ j, i ≤ j → bfsN ls as l s j = bfsN ls as l s i := by
  intro j hj
  induction j with
  | zero =>
    have : i = 0 := by omega
    rw [this]
  | succ j ih =>
    by_cases e : i = j + 1
    · rw [e]
    · have ih := ih (by omega)
      show (match (bfsN ls as l s j)[j]? with | some p => expand ls as l (bfsN ls as l s j) p.1 | none => bfsN ls as l s j) = _
      rw [List.getElem?_eq_none (by rw [ih]; omega)]
      exact ih
/-- a tree: each that was found comes by a step from one found earlier -/
def treeF (as : List Arc) (f : Found) : Prop := ∀ (i v : Nat) (st : Step), f[i]? = some (v, some st) → st.at_ < as.length ∧ (sideOf as st).2 = v ∧ ∃ (j : Nat) (o : Option Step), j < i ∧ f[j]? = some ((sideOf as st).1, o)
theorem snoc_get {α : Type} {f : List α} {x y : α} {i : Nat} (h : (f ++ [x])[i]? = some y) : f[i]? = some y ∨ (i = f.length ∧ y = x) := by
  by_cases hi : i < f.length
  · rw [List.getElem?_append_left hi] at h
    exact .inl h
  · rw [List.getElem?_append_right (by omega)] at h
    by_cases e : i = f.length
    · subst e
      rw [Nat.sub_self] at h
      cases h
      exact .inr ⟨rfl, rfl⟩
    · rw [List.getElem?_eq_none (by simp; omega)] at h
      cases h
theorem see_tree {n : Nat} {as : List Arc} {l : List Int} {f : Found} {x : Lead} {v k : Nat} {o : Option Step} (h : treeF as f) (hk : f[k]? = some (v, o)) (hx : x ∈ (leadsOf n as).getD v []) : treeF as (see as l f x) := by
  rcases see_cases as l f x with e | ⟨e, _, _⟩
  · rw [e]; exact h
  · rw [e]
    obtain ⟨h1, h2⟩ := leads_side hx
    intro i u st hi
    have lt : ∀ {j : Nat} {y : Nat × Option Step}, f[j]? = some y → (f ++ [(x.there, some x.st)])[j]? = some y := fun {j y} hj => by
      rw [List.getElem?_append_left (List.getElem?_eq_some_iff.mp hj).1]
      exact hj
    rcases snoc_get hi with hi | ⟨rfl, e2⟩
    · obtain ⟨a, b, j, o', hj, hfj⟩ := h i u st hi
      exact ⟨a, b, j, o', hj, lt hfj⟩
    · cases e2
      rw [h2]
      exact ⟨h1, rfl, k, o, (List.getElem?_eq_some_iff.mp hk).1, lt hk⟩
theorem see_keep {as : List Arc} {l : List Int} {f : Found} {x : Lead} {k : Nat} {y : Nat × Option Step} (h : f[k]? = some y) : (see as l f x)[k]? = some y := by
  rcases see_cases as l f x with e | ⟨e, _, _⟩
  · rw [e]; exact h
  · rw [e, List.getElem?_append_left (List.getElem?_eq_some_iff.mp h).1]
    exact h
theorem fold_keep {as : List Arc} {l : List Int} : ∀ {xs : List Lead} {f : Found} {k : Nat} {y : Nat × Option Step}, f[k]? = some y → (xs.foldl (see as l) f)[k]? = some y
  | [], _, _, _, h => h
  | x :: xs, f, k, y, h => fold_keep (xs := xs) (see_keep h)
theorem fold_tree {n : Nat} {as : List Arc} {l : List Int} {v : Nat} : ∀ {xs : List Lead} {f : Found} {k : Nat} {o : Option Step}, treeF as f → f[k]? = some (v, o) → (∀ x ∈ xs, x ∈ (leadsOf n as).getD v []) → treeF as (xs.foldl (see as l) f)
  | [], _, _, _, h, _, _ => h
  | x :: xs, f, k, o, h, hk, hx => fold_tree (xs := xs) (see_tree h hk (hx x (List.mem_cons_self ..))) (see_keep hk) fun y hy => hx y (List.mem_cons_of_mem _ hy)
theorem bfs_tree {n : Nat} {as : List Arc} {l : List Int} {s : Nat} : ∀ i, treeF as (bfsN (leadsOf n as) as l s i)
  | 0 => fun i v st h => by
    cases i with
    | zero => cases h
    | succ i => cases h
  | i + 1 => by
    have h := bfs_tree (n := n) (as := as) (l := l) (s := s) i
    cases e : (bfsN (leadsOf n as) as l s i)[i]? with
    | none =>
      have : bfsN (leadsOf n as) as l s (i + 1) = bfsN (leadsOf n as) as l s i := by
        show (match (bfsN (leadsOf n as) as l s i)[i]? with | some p => _ | none => _) = _
        rw [e]
      rw [this]; exact h
    | some p =>
      rw [bfs_succ e]
      exact fold_tree h e fun x hx => hx
/-! ### the steps back -/
theorem trace_fuel {as : List Arc} {f : Found} (nd : (keys f).Nodup) (tr : treeF as f) : ∀ (i : Nat) (v : Nat) (o : Option Step), f[i]? = some (v, o) → ∀ k, i < k → trace as f k v = trace as f (i + 1) v := by
  intro i
  induction i using Nat.strongRecOn with
  | _ i ih =>
    intro v o hi k hk
    have e := lookup_at nd hi
    cases k with
    | zero => exact absurd hk (Nat.not_lt_zero _)
    | succ k =>
      show (match f.lookup v with | some (some st) => trace as f k (sideOf as st).1 ++ [st] | _ => []) = (match f.lookup v with | some (some st) => trace as f i (sideOf as st).1 ++ [st] | _ => [])
      rw [e]
      cases o with
      | none => rfl
      | some st =>
        obtain ⟨_, _, j, o', hj, hfj⟩ := tr i v st hi
        show trace as f k _ ++ [st] = trace as f i _ ++ [st]
        rw [ih j hj _ _ hfj k (by omega), ih j hj _ _ hfj i (by omega)]
theorem trace_ok {as : List Arc} {f : Found} (tr : treeF as f) : ∀ (k v : Nat) (st : Step), st ∈ trace as f k v → st.at_ < as.length
  | 0, _, _, h => by cases h
  | k + 1, v, st, h => by
    have h : st ∈ (match f.lookup v with | some (some s1) => trace as f k (sideOf as s1).1 ++ [s1] | _ => []) := h
    split at h
    · rename_i s1 e
      rcases List.mem_append.mp h with h | h
      · exact trace_ok tr k _ st h
      · have : st = s1 := by simpa using h
        subst this
        obtain ⟨i, hi⟩ := lookup_ix e
        exact (tr i v st hi).1
    · cases h
/-- a load that is one -/
def okLoad (as : List Arc) (l : List Int) : Prop := as.length = l.length ∧ ∀ i, i < as.length → 0 ≤ l.getD i 0 ∧ ∀ c, (as.getD i default).c = some c → l.getD i 0 ≤ c
/-- what one turn of the leading does -/
def LedStep : Prop := ∀ (n : Nat) (as : List Arc) (s : Nat) (gs : List Nat) (l : List Int) (g : Nat) (r : List Nat) (x : Int), okArcs n as → okLoad as l → s < n → someOf n as s gs l = g :: r → leastLeft as l (traced as (comeBy n as l s) g) = some x →
  mu n as s (gone l (traced as (comeBy n as l s) g) x) < mu n as s l ∧ okLoad as (gone l (traced as (comeBy n as l s) g) x)
theorem led_nil {n : Nat} {as : List Arc} {s : Nat} {gs : List Nat} {l : List Int} (h : someOf n as s gs l = []) : led n as s gs l = some l := by
  rw [led, h]
theorem led_none {n : Nat} {as : List Arc} {s : Nat} {gs : List Nat} {l : List Int} {g : Nat} {r : List Nat} (h : someOf n as s gs l = g :: r) (h2 : leastLeft as l (traced as (comeBy n as l s) g) = none) : led n as s gs l = none := by
  rw [led, h]
  dsimp only
  rw [h2]
theorem led_more {n : Nat} {as : List Arc} {s : Nat} {gs : List Nat} {l : List Int} {g : Nat} {r : List Nat} {x : Int} (h : someOf n as s gs l = g :: r) (h2 : leastLeft as l (traced as (comeBy n as l s) g) = some x)
    (h3 : mu n as s (gone l (traced as (comeBy n as l s) g) x) < mu n as s l) : led n as s gs l = led n as s gs (gone l (traced as (comeBy n as l s) g) x) := by
  rw [led, h]
  dsimp only
  rw [h2]
  dsimp only
  rw [dif_pos h3]
end Od
set_option Elab.async false
set_option linter.all false
set_option autoImplicit false
set_option maxRecDepth 100000
/-! M2: what is asked: a net, a start, ends. -/
namespace Od
open PySem
def intsOf (d : PyData) : List Int := match seqOf d with
  | some xs => xs.map intOf
  | none => []
def natOf (d : PyData) : Nat := (intOf d).toNat
def natsOf (d : PyData) : List Nat := match seqOf d with
  | some xs => xs.map natOf
  | none => []
/-- nets of at most 1000 arcs -/
def netSmall (d : PyData) : Prop := ∀ n as, netOf d = some (n, as) → as.length ≤ 1000
theorem natOf_D (n : Nat) : natOf (natD n) = n := by simp [natOf, natD, intOf]
def askD (d st e : PyData) : Except PyData (Nat × List Arc × Nat × List Nat) := match netOf d with
  | none => .error d
  | some (n, as) => match endsOf (n : Int) st e with
    | .error x => .error x
    | .ok es => .ok (n, as, natOf st, es)
/-- a value held as a flow to the ends -/
def isToB (n : Nat) (as : List Arc) (s : Nat) (es : List Nat) (v : PyData) : Bool := match loadOf as v with
  | some l => fitsB n as (s :: es) l && es.all fun u => decide (0 ≤ (surplus n as l).getD u 0)
  | none => false
def surpsAt (n : Nat) (as : List Arc) (l : List Int) (es : List Nat) : List Int := es.map fun u => (surplus n as l).getD u 0
def mapX {α β : Type} (f : α → β) : Except PyData α → Except PyData β
  | .ok a => .ok (f a)
  | .error x => .error x
def endsFitD (d st e v : PyData) : Except PyData PyData := mapX (fun q => .bool (isToB q.1 q.2.1 q.2.2.1 q.2.2.2 v)) (askD d st e)
def broughtD (d st e v : PyData) : Except PyData PyData := match askD d st e with
  | .error x => .error x
  | .ok q => if isToB q.1 q.2.1 q.2.2.1 q.2.2.2 v then .ok (loadD (surpsAt q.1 q.2.1 (intsOf v) q.2.2.2)) else .error v
def flowsD (d st e : PyData) : Except PyData PyData := mapX (fun q => .tuple ((flowsOf q.1 q.2.1 q.2.2.1 q.2.2.2).map flowD)) (askD d st e)
/-- how much the k-th flow brings to its ends -/
def mostK (n : Nat) (as : List Arc) (s : Nat) (es : List Nat) (k : Nat) : Option Int := (flowK n as s es (k + 1)).map fun l => ((surpsAt n as l es).take (k + 1)).sum
def mostD (d st e : PyData) : Except PyData PyData := mapX (fun q => .tuple ((List.range q.2.2.2.length).map fun k => capD (mostK q.1 q.2.1 q.2.2.1 q.2.2.2 k))) (askD d st e)
def soonestD (d st e : PyData) : Except PyData PyData := mapX (fun q => flowD (flowK q.1 q.2.1 q.2.2.1 q.2.2.2 q.2.2.2.length)) (askD d st e)
/-- what was asked is in order -/
structure Good (n : Nat) (as : List Arc) (s : Nat) (es : List Nat) : Prop where
  ok : okArcs n as
  caps : ∀ a ∈ as, ∀ c, a.c = some c → 0 ≤ c
  sn : s < n
  en : ∀ u ∈ es, u < n ∧ u ≠ s
  nd : es.Nodup
theorem keysOf_mem (ns : List Int) : ∀ x, x ∈ keysOf ns ↔ x ∈ ns := by
  have key : ∀ (ns acc : List Int) (x : Int), x ∈ ns.foldl (fun acc n => if n ∈ acc then acc else acc ++ [n]) acc ↔ x ∈ acc ∨ x ∈ ns := by
    intro ns
    induction ns with
    | nil => intro acc x; simp
    | cons n ns ih =>
      intro acc x
      rw [List.foldl_cons, ih]
      by_cases h : n ∈ acc
      · rw [if_pos h, List.mem_cons]
        constructor
        · rintro (z | z)
          · exact .inl z
          · exact .inr (.inr z)
        · rintro (z | z | z)
          · exact .inl z
          · rw [z]; exact .inl h
          · exact .inr z
      · rw [if_neg h, List.mem_append, List.mem_singleton, List.mem_cons, or_assoc]
  intro x
  have := key ns [] x
  simpa [keysOf] using this
theorem keysOf_nd : ∀ (ns : List Int), (keysOf ns).length = ns.length → ns.Nodup := by
  have key : ∀ (r ns : List Int), ns = r.reverse → ((keysOf ns).length ≤ ns.length ∧ ((keysOf ns).length = ns.length → ns.Nodup)) := by
    intro r
    induction r with
    | nil =>
      intro ns e
      subst e
      exact ⟨Nat.le_refl _, fun _ => List.nodup_nil⟩
    | cons x r ih =>
      intro ns e
      rw [List.reverse_cons] at e
      subst e
      obtain ⟨h1, h2⟩ := ih r.reverse rfl
      rw [keysOf_snoc]
      by_cases h : x ∈ keysOf r.reverse
      · rw [if_pos h, List.length_append, List.length_singleton]
        exact ⟨by omega, fun z => by omega⟩
      · rw [if_neg h, List.length_append, List.length_append, List.length_singleton]
        refine ⟨by omega, fun z => ?_⟩
        have h' : x ∉ r.reverse := fun m => h ((keysOf_mem _ x).mpr m)
        refine List.nodup_append.mpr ⟨h2 (by omega), by simp, fun a ha b hb => ?_⟩
        have : b = x := by simpa using hb
        rw [this]
        rintro rfl
        exact h' ha
  intro ns
  exact (key ns.reverse ns (List.reverse_reverse ns).symm).2
theorem endsOf_ok {m : Int} {st e : PyData} {es : List Nat} (h : endsOf m st e = .ok es) : isBelow st m = true ∧ seqOf e = some (natsD es) ∧ es.Nodup ∧ ∀ u ∈ es, (u : Int) < m ∧ (u : Int) ≠ intOf st := by
  unfold endsOf at h
  split at h
  · rename_i hb
    refine ⟨hb, ?_⟩
    cases hs : seqOf e with
    | none => rw [hs] at h; cases h
    | some xs =>
      rw [hs] at h
      dsimp only at h
      split at h
      · rename_i hc
        cases h
        obtain ⟨h1, h2⟩ := Bool.and_eq_true_iff.mp hc
        have hall : ∀ x ∈ xs, ∃ j : Int, x = .int j ∧ 0 ≤ j ∧ j < m ∧ j ≠ intOf st := fun x hx => by
          have q := List.all_eq_true.mp h1 x hx
          unfold isEndD at q
          obtain ⟨q1, q2⟩ := Bool.and_eq_true_iff.mp q
          obtain ⟨j, rfl, a, b⟩ := isBelow_int q1
          exact ⟨j, rfl, a, b, of_decide_eq_false ((Bool.not_eq_true' _).mp q2)⟩
        have e1 : natsD (xs.map fun d => (intOf d).toNat) = xs := by
          unfold natsD
          rw [List.map_map]
          refine (List.map_congr_left fun x hx => ?_).trans (List.map_id xs)
          obtain ⟨j, rfl, hj, _⟩ := hall x hx
          show PyData.int ((j.toNat : Nat) : Int) = .int j
          rw [Int.toNat_of_nonneg hj]
        refine ⟨by rw [e1], ?_, fun u hu => ?_⟩
        · have nd := keysOf_nd _ ((of_decide_eq_true h2).trans (List.length_map (f := intOf) (as := xs)).symm)
          have e2 : xs.map intOf = (xs.map fun d => (intOf d).toNat).map fun k : Nat => (k : Int) := by
            rw [List.map_map]
            refine List.map_congr_left fun x hx => ?_
            obtain ⟨j, rfl, hj, _⟩ := hall x hx
            show j = ((j.toNat : Nat) : Int)
            rw [Int.toNat_of_nonneg hj]
          rw [e2] at nd
          exact nodup_of_map nd
        · obtain ⟨x, hx, rfl⟩ := List.mem_map.mp hu
          obtain ⟨j, rfl, hj, hj2, hj3⟩ := hall x hx
          show ((j.toNat : Nat) : Int) < m ∧ ((j.toNat : Nat) : Int) ≠ _
          rw [Int.toNat_of_nonneg hj]
          exact ⟨hj2, hj3⟩
      · cases h
  · cases h
where
  nodup_of_map {α β : Type} {f : α → β} : ∀ {l : List α}, (l.map f).Nodup → l.Nodup
    | [], _ => List.nodup_nil
    | a :: l, h => by
      obtain ⟨h1, h2⟩ := List.nodup_cons.mp h
      exact List.nodup_cons.mpr ⟨fun m => h1 (List.mem_map.mpr ⟨a, m, rfl⟩), nodup_of_map h2⟩
theorem netOf_ok {d : PyData} {n : Nat} {as : List Arc} (h : netOf d = some (n, as)) : okArcs n as ∧ 0 < n ∧ ∀ a ∈ as, ∀ c, a.c = some c → 0 ≤ c := by
  unfold netOf at h
  cases hs : seqOf d with
  | none => rw [hs] at h; cases h
  | some xs =>
    rw [hs] at h
    match xs, h with
    | [a, b], h =>
      dsimp only at h
      cases hb : seqOf b with
      | none => rw [hb] at h; cases h
      | some ys =>
        rw [hb] at h
        dsimp only at h
        split at h
        · rename_i hc
          cases h
          simp only [Bool.and_eq_true] at hc
          obtain ⟨⟨h1, h2⟩, h3⟩ := hc
          obtain ⟨i, rfl, hi, hi2⟩ := isBelow_int h1
          have hi0 : i ≠ 0 := of_decide_eq_false ((Bool.not_eq_true' _).mp h2 : decide (intOf (.int i) = 0) = false)
          refine ⟨⟨by show i.toNat ≤ 2000; omega, fun x hx => ?_⟩, by show 0 < i.toNat; omega, fun x hx c hc => ?_⟩
          · obtain ⟨y, hy, rfl⟩ := List.mem_map.mp hx
            have q := List.all_eq_true.mp h3 y hy
            unfold isArcD at q
            unfold arcOf
            cases hsy : seqOf y with
            | none => rw [hsy] at q; cases q
            | some us =>
              rw [hsy] at q
              match us, q with
              | [p, r, t], q =>
                simp only [Bool.and_eq_true] at q
                obtain ⟨j, rfl, hj, hj2⟩ := isBelow_int q.1
                obtain ⟨k, rfl, hk, hk2⟩ := isBelow_int q.2.1
                have hj2 : j < i := hj2
                have hk2 : k < i := hk2
                refine ⟨?_, ?_⟩
                · show j.toNat < i.toNat
                  omega
                · show k.toNat < i.toNat
                  omega
          · obtain ⟨y, hy, rfl⟩ := List.mem_map.mp hx
            have q := List.all_eq_true.mp h3 y hy
            unfold isArcD at q
            unfold arcOf at hc
            cases hsy : seqOf y with
            | none => rw [hsy] at q; cases q
            | some us =>
              rw [hsy] at q hc
              match us, q, hc with
              | [p, r, t], q, hc =>
                simp only [Bool.and_eq_true, Bool.or_eq_true] at q
                rcases q.2.2 with q | q
                · have hc : capOf t = some c := hc
                  cases t with
                  | none => simp [capOf] at hc
                  | _ => cases q
                · obtain ⟨k, rfl, hk⟩ := isNum_int q
                  cases hc
                  exact hk
        · cases h
theorem askD_ok {d st e : PyData} {n : Nat} {as : List Arc} {s : Nat} {es : List Nat} (h : askD d st e = .ok (n, as, s, es)) :
    netOf d = some (n, as) ∧ endsOf (n : Int) st e = .ok es ∧ st = natD s ∧ seqOf e = some (natsD es) ∧ Good n as s es := by
  unfold askD at h
  cases hn : netOf d with
  | none => rw [hn] at h; cases h
  | some p =>
    obtain ⟨n', as'⟩ := p
    rw [hn] at h
    dsimp only at h
    cases he : endsOf (n' : Int) st e with
    | error x => rw [he] at h; cases h
    | ok es' =>
      rw [he] at h
      cases h
      obtain ⟨h1, h2, h3, h4⟩ := endsOf_ok he
      obtain ⟨k1, k2, k3⟩ := netOf_ok hn
      obtain ⟨i, rfl, hi, hi2⟩ := isBelow_int h1
      refine ⟨rfl, he, ?_, h2, k1, k3, ?_, fun u hu => ?_, h3⟩
      · unfold natD natOf intOf
        rw [Int.toNat_of_nonneg hi]
      · show i.toNat < n
        omega
      · obtain ⟨a, b⟩ := h4 u hu
        have b : (u : Int) ≠ i := b
        refine ⟨by omega, ?_⟩
        show u ≠ i.toNat
        omega
theorem askD_net {d st e : PyData} (h : netOf d = none) : askD d st e = .error d := by
  unfold askD
  rw [h]
theorem askD_ends {d st e x : PyData} {n : Nat} {as : List Arc} (h : netOf d = some (n, as)) (h2 : endsOf (n : Int) st e = .error x) : askD d st e = .error x := by
  unfold askD
  rw [h]
  dsimp only
  rw [h2]
theorem askD_is {d st e : PyData} {n : Nat} {as : List Arc} {es : List Nat} (h : netOf d = some (n, as)) (h2 : endsOf (n : Int) st e = .ok es) : askD d st e = .ok (n, as, natOf st, es) := by
  unfold askD
  rw [h]
  dsimp only
  rw [h2]
/-! ### the leading, by its turns -/
theorem led_ind (LS : LedStep) {n : Nat} {as : List Arc} {s : Nat} {gs : List Nat} (ok : okArcs n as) (hs : s < n) (C : List Int → Prop)
    (step : ∀ (l : List Int) (g : Nat) (r : List Nat) (x : Int), okLoad as l → C l → someOf n as s gs l = g :: r → leastLeft as l (traced as (comeBy n as l s) g) = some x → C (gone l (traced as (comeBy n as l s) g) x)) :
    ∀ (m : Nat) (l : List Int), mu n as s l = m → okLoad as l → C l → ∀ l', led n as s gs l = some l' → okLoad as l' ∧ C l' ∧ someOf n as s gs l' = [] := by
  intro m
  induction m using Nat.strongRecOn with
  | _ m ih =>
    intro l hm okl hC l' h
    cases hso : someOf n as s gs l with
    | nil =>
      rw [led_nil hso] at h
      cases h
      exact ⟨okl, hC, hso⟩
    | cons g r =>
      cases hll : leastLeft as l (traced as (comeBy n as l s) g) with
      | none => rw [led_none hso hll] at h; cases h
      | some x =>
        obtain ⟨hmu, okl2⟩ := LS n as s gs l g r x ok okl hs hso hll
        rw [led_more hso hll hmu] at h
        exact ih _ (by rw [← hm]; exact hmu) _ rfl okl2 (step l g r x okl hC hso hll) l' h
theorem zero_ok {n : Nat} {as : List Arc} (caps : ∀ a ∈ as, ∀ c, a.c = some c → 0 ≤ c) : okLoad as (List.replicate as.length 0) := by
  refine ⟨(List.length_replicate ..).symm, fun i hi => ?_⟩
  have e : (List.replicate as.length (0 : Int)).getD i 0 = 0 := by
    rw [List.getD_eq_getElem?_getD, List.getElem?_replicate]
    split <;> rfl
  rw [e]
  exact ⟨Int.le_refl _, fun c hc => caps _ (getD_mem hi) c hc⟩
theorem flowK_ok (LS : LedStep) {n : Nat} {as : List Arc} {s : Nat} {es : List Nat} (G : Good n as s es) : ∀ (k : Nat) (l : List Int), flowK n as s es k = some l → okLoad as l
  | 0, l, h => by
    cases h
    exact zero_ok (n := n) G.caps
  | k + 1, l, h => by
    have h : (flowK n as s es k).bind (fun l => led n as s (es.take (k + 1)) l) = some l := h
    cases hk : flowK n as s es k with
    | none => rw [hk] at h; cases h
    | some l0 =>
      rw [hk] at h
      exact (led_ind LS G.ok G.sn (fun _ => True) (fun _ _ _ _ _ _ _ _ => trivial) _ l0 rfl (flowK_ok LS G k l0 hk) trivial l h).1
theorem intOf_D (l : List Int) : (intsD l).map intOf = l := by
  unfold intsD
  rw [List.map_map]
  exact (List.map_congr_left fun x _ => rfl).trans (List.map_id l)
theorem zip_all {as : List Arc} {l : List Int} (h : okLoad as l) : (List.zipWith (fun a x => leCap (intOf x) a.c) as (intsD l)).all id = true := by
  rw [List.all_eq_true]
  intro b hb
  obtain ⟨i, hi⟩ := List.getElem?_of_mem hb
  rw [List.getElem?_zipWith] at hi
  cases ha : as[i]? with
  | none => rw [ha] at hi; simp at hi
  | some a =>
    unfold intsD at hi
    rw [ha, List.getElem?_map] at hi
    cases hl : l[i]? with
    | none => rw [hl] at hi; simp at hi
    | some x =>
      rw [hl] at hi
      have hi : leCap x a.c = b := Option.some.inj hi
      obtain ⟨_, hc⟩ := h.2 i (List.getElem?_eq_some_iff.mp ha).1
      have ea : as.getD i default = a := by rw [List.getD_eq_getElem?_getD, ha]; rfl
      have el : l.getD i 0 = x := by rw [List.getD_eq_getElem?_getD, hl]; rfl
      rw [ea, el] at hc
      show b = true
      rw [← hi]
      cases hac : a.c with
      | none => rfl
      | some c => exact decide_eq_true (hc c hac)
theorem loadOf_ok {as : List Arc} {l : List Int} (h : okLoad as l) : loadOf as (loadD l) = some l := by
  show (if decide ((intsD l).length = as.length) && (intsD l).all isNumber && (List.zipWith (fun a x => leCap (intOf x) a.c) as (intsD l)).all id then some ((intsD l).map intOf) else none) = _
  rw [zip_all h, intOf_D]
  have e1 : decide ((intsD l).length = as.length) = true := decide_eq_true (by unfold intsD; rw [List.length_map]; exact h.1.symm)
  have e2 : (intsD l).all isNumber = true := by
    rw [List.all_eq_true]
    intro x hx
    obtain ⟨y, hy, rfl⟩ := List.mem_map.mp hx
    obtain ⟨i, hi⟩ := List.getElem?_of_mem hy
    have hil := (List.getElem?_eq_some_iff.mp hi).1
    obtain ⟨h0, _⟩ := h.2 i (by have := h.1; omega)
    have el : l.getD i 0 = y := by rw [List.getD_eq_getElem?_getD, hi]; rfl
    rw [el] at h0
    exact decide_eq_true h0
  rw [e1, e2]
  rfl
/-- a flow to the ends -/
def isTo (n : Nat) (as : List Arc) (s : Nat) (es : List Nat) (l : List Int) : Prop := fitsB n as (s :: es) l = true ∧ ∀ u ∈ es, 0 ≤ (surplus n as l).getD u 0
theorem isToB_ok {n : Nat} {as : List Arc} {s : Nat} {es : List Nat} {l : List Int} (h : okLoad as l) (t : isTo n as s es l) : isToB n as s es (loadD l) = true := by
  unfold isToB
  rw [loadOf_ok h]
  dsimp only
  rw [t.1, Bool.true_and, List.all_eq_true]
  exact fun u hu => decide_eq_true (t.2 u hu)
/-- the flows are flows to the ends -/
def FlowFit : Prop := ∀ (n : Nat) (as : List Arc) (s : Nat) (es : List Nat) (k : Nat) (l : List Int), Good n as s es → k ≤ es.length → flowK n as s es k = some l → isTo n as s es l
end Od
set_option Elab.async false
set_option linter.all false
set_option autoImplicit false
set_option maxRecDepth 100000
/-! M3: what the law computes. -/
namespace Od
open PySem
def moreL (as : List Arc) (l : List Int) (v : Nat) : Int :=
  (((List.range l.length).filter fun i => decide ((as.getD i default).h = v)).map fun i => l.getD i 0).sum - (((List.range l.length).filter fun i => decide ((as.getD i default).t = v)).map fun i => l.getD i 0).sum
def outs (as : List Arc) (lot : List Nat) : List Arc := as.filter fun a => decide (a.t ∈ lot) && !decide (a.h ∈ lot)
def worthL (as : List Arc) (lot : List Nat) : Option Int := if (outs as lot).any (fun a => a.c.isNone) then none else some ((outs as lot).map fun a => a.c.getD 0).sum
def lotsK (s : Nat) (es : List Nat) : Nat → List (List Nat)
  | 0 => [[]]
  | v + 1 => (if v = s then [] else lotsK s es v) ++ (if v ∈ es then [] else (lotsK s es v).map fun lot => lot ++ [v])
def bestL (ws : List (Option Int)) : Option Int := if (ws.filterMap id).isEmpty then none else some (minOf (ws.filterMap id))
def leastK (n : Nat) (as : List Arc) (s : Nat) (es : List Nat) (k : Nat) : Option Int := bestL ((lotsK s (es.take (k + 1)) n).map (worthL as))
def others (n s : Nat) : List Nat := (List.range n).filter fun v => !decide (v = s)
/-- the law's own word for a flow to the ends -/
def isToL (n : Nat) (as : List Arc) (s : Nat) (es : List Nat) (v : PyData) : Bool := match loadOf as v with
  | some l => (others n s).all fun u => if u ∈ es then decide (0 ≤ moreL as l u) else decide (moreL as l u = 0)
  | none => false
theorem lotsK_len (s : Nat) (es : List Nat) : ∀ v, (lotsK s es v).length ≤ 2 ^ v
  | 0 => Nat.le_refl _
  | v + 1 => by
    have h := lotsK_len s es v
    show ((if v = s then [] else lotsK s es v) ++ (if v ∈ es then [] else (lotsK s es v).map fun lot => lot ++ [v])).length ≤ _
    rw [List.length_append, Nat.pow_succ]
    split <;> split <;> simp <;> omega
theorem lotsK_lot (s : Nat) (es : List Nat) : ∀ v, ∀ lot ∈ lotsK s es v, lot.length ≤ v
  | 0, lot, h => by
    rw [List.mem_singleton.mp h]
    exact Nat.le_refl _
  | v + 1, lot, h => by
    have ih := lotsK_lot s es v
    rcases List.mem_append.mp (show lot ∈ (if v = s then [] else lotsK s es v) ++ (if v ∈ es then [] else (lotsK s es v).map fun lot => lot ++ [v]) from h) with h | h
    · split at h
      · cases h
      · exact Nat.le_succ_of_le (ih lot h)
    · split at h
      · cases h
      · obtain ⟨l0, h0, rfl⟩ := List.mem_map.mp h
        have := ih l0 h0
        rw [List.length_append, List.length_singleton]
        omega
def isFlat : PyData → Bool
  | .none => true
  | .bool _ => true
  | .int _ => true
  | _ => false
theorem canLay_flat {ds : List PyData} (h : ∀ d ∈ ds, isFlat d = true) : PyData.canLayAll0 ds = true := by
  induction ds with
  | nil => simp [PyData.canLayAll0]
  | cons d ds ih =>
    have h1 := h d (List.mem_cons_self ..)
    have h2 := ih fun x hx => h x (List.mem_cons_of_mem _ hx)
    cases d <;> first | (simp [PyData.canLayAll0, PyData.canLay0, h2]; done) | cases h1
theorem depth_flat {ds : List PyData} (h : ∀ d ∈ ds, isFlat d = true) : PyData.depthAll ds ≤ 1 := by
  induction ds with
  | nil => simp [PyData.depthAll]
  | cons d ds ih =>
    have h1 := h d (List.mem_cons_self ..)
    have h2 := ih fun x hx => h x (List.mem_cons_of_mem _ hx)
    cases d <;> first | (simp [PyData.depthAll, PyData.depth]; omega) | cases h1
theorem shaped_flat {ds : List PyData} (h : ∀ d ∈ ds, isFlat d = true) : SeqAt.shaped (.list ds) = true := by
  have h1 := canLay_flat h
  have h2 := depth_flat h
  unfold SeqAt.shaped
  simp only [PyData.canLay0, PyData.depth, h1]
  simp
  omega
theorem eqv_nil (ds : List PyData) : PyData.eqv (.list ds) (.list []) = ds.isEmpty := by
  cases ds with
  | nil => simp [PyData.eqv, PyData.eqvAll]
  | cons d ds => simp [PyData.eqv, PyData.eqvAll]
end Od
set_option Elab.async false
set_option linter.all false
set_option autoImplicit false
set_option maxRecDepth 100000
set_option maxHeartbeats 4000000
/-! W2: nets, ends, loads. -/
namespace Od
open PySem PySem.Spec L2
/-! ### check_net -/
def checkD (d : PyData) : Except PyData PyData := match netOf d with
  | some (n, as) => .ok (netD n as)
  | none => .error d
theorem isInt_i {i : Int} : isInt (.int i) := ⟨i, rfl⟩
theorem isSeqD_no {d : PyData} (h : seqOf d = none) : isSeqD d = false := by cases d <;> first | rfl | cases h
theorem decEq {a b : Int} : (!decide (a = b)) = true ↔ a ≠ b := by simp
theorem arc_is {m : Int} {d : PyData} (h : isArcD m d = true) : ∃ xs, seqOf d = some xs ∧ .tuple xs = arcD (arcOf d) ∧ xs.length = 3 := by
  unfold isArcD at h
  cases hs : seqOf d with
  | none => rw [hs] at h; cases h
  | some xs =>
    rw [hs] at h
    match xs, h with
    | [a, b, c], h =>
      refine ⟨_, rfl, ?_, rfl⟩
      simp only [Bool.and_eq_true, Bool.or_eq_true] at h
      obtain ⟨ha, hb, hc⟩ := h
      obtain ⟨i, rfl, hi, _⟩ := isBelow_int ha
      obtain ⟨j, rfl, hj, _⟩ := isBelow_int hb
      unfold arcOf arcD natD
      rw [hs]
      dsimp only [intOf]
      rw [Int.toNat_of_nonneg hi, Int.toNat_of_nonneg hj]
      rcases hc with hc | hc
      · cases c <;> first | rfl | cases hc
      · obtain ⟨k, rfl, _⟩ := isNum_int hc
        rfl
section
variable {P : Program} {w : World} {K : PySem.W.Frag} {mg : Str → Option Value} {base : Heap} {C fI O : Addr}
abbrev HasX (P : Program) (w : World) (K : PySem.W.Frag) (mg : Str → Option Value) (base : Heap) (x : Str) (k : Nat) (ps : List Str) (sp : Sp) : Prop := Has P w K mg base x (L2.CX P w) k ps sp
abbrev s_check_net : Stmt := topS 13
abbrev N_check_net : List Str := ["value", "arc"]
theorem sc_check_net : FnScope N_check_net ["value"] (defScope s_check_net) := ⟨rfl, rfl, rfl, by decide +kernel, rfl, by decide +kernel, by decide +kernel⟩
theorem h_check_net (B : Bl mg) (R : RefT P K mg C fI O) (T : TopF K mg "check_net" s_check_net) (h_is_sequence : Has P w K mg base "is_sequence" CX0 1 ["value"] (spB1 isSeqD))
    (h_is_below : Has P w K mg base "is_below" CX0 3 ["value", "most"] (sp2 (fun _ m => isInt m) fun d m => .bool (isBelow d (intOf m))))
    (h_is_arc : Has P w K mg base "is_arc" CX0 4 ["many", "value"] (sp2 (fun m _ => isInt m) fun m d => .bool (isArcD (intOf m) d))) :
    HasX P w K mg base "check_net" 5 ["value"] (sX1 C (fun _ => True) checkD) := by
  obtain ⟨tm, hm2⟩ := B.most
  have h_most := hm2
  obtain ⟨f, fd, hm, F⟩ := T
  refine ⟨f, fd, hm, F.kp, F.binds (ps := ["value"]) fun _ _ _ _ _ _ us hl => match us, hl with | [_], _ => rfl, F.okX sc_check_net (fun vs H Q E h => lenX1 h) (fun cdv A outer s H vs Q E hr h => ?_)⟩
  have nd := sc_check_net.nd
  have hu := hu_of hr
  obtain ⟨G, ds, gh, ra, ⟨d, rfl, _⟩, kO, kE⟩ := h
  refine ⟨_, (pss_cons (ps_if (PW.pt (pw_or (pt_not (pt_val (pe_callH h_is_sequence (hr.mono (by decide)) (pa_cons (pv 0) pa_nil)))) (pw_or (pt_cmpR op_ne (pe_callB (klen (K := K)) (by rfl) B.len (by decide +kernel) (pa_cons (pv 0) pa_nil)) pe_int (nomark _)) (pw_or1 (pt_not (pt_val (pe_callH h_is_sequence (hr.mono (by decide)) (pa_cons (pe_ix (kix (K := K)) (pv 0) pe_int (fun _ _ => rfl)) pa_nil)))))))) (pss_one (ps_refused rfl R hr (takes_of rfl rfl rfl rfl) (pa_cons (pv 0) pa_nil))) pss_nil)
    (pss_cons (ps_if (PW.pt (pw_or (pt_not (pt_val (pe_callH h_is_below (hr.mono (by decide)) (pa_cons (pe_ix (kix (K := K)) (pv 0) pe_int (fun _ _ => rfl)) (pa_cons (pe_op op_add (pe_glob (v := .int (2000)) (by rfl) h_most ⟨_, rfl⟩) pe_int) pa_nil))))) (pw_or1 (pt_cmpR op_eq (pe_ix (kix (K := K)) (pv 0) pe_int (fun _ _ => rfl)) pe_int (nomark _))))) (pss_one (ps_refused rfl R hr (takes_of rfl rfl rfl rfl) (pa_cons (pv 0) pa_nil))) pss_nil)
    (pss_cons (ps_if (pt_not (pt_val (pe_callB (kall (K := K)) (by rfl) B.all (by decide +kernel) (pa_cons (pe_lc (own := [("arc", 1)]) rfl nd (kseq (K := K) (pe_ix (kix (K := K)) (pv 0) pe_int (fun _ _ => rfl))) (blkOk_by (N := N_check_net) (sc := defScope s_check_net) (by decide +kernel)) (fun _ _ _ _ _ => (pg_name (i := 1) nd rfl (by first | exact Or.inl rfl | exact Or.inr rfl))) (fun _ _ _ _ _ => pts_nil) (fun _ _ _ _ _ => (pe_callH h_is_arc (hr.mono (by decide)) (pa_cons (pe_ix (kix (K := K)) (pv 0) pe_int (fun _ _ => rfl)) (pa_cons (pv 1) pa_nil))))) pa_nil)))) (pss_one (ps_refused rfl R hr (takes_of rfl rfl rfl rfl) (pa_cons (pv 0) pa_nil))) pss_nil)
    (pss_one (ps_ret (pe_tup (pa_cons (pe_ix (kix (K := K)) (pv 0) pe_int (fun _ _ => rfl)) (pa_cons (pe_callTy (ktup (K := K)) (by rfl) B.tuple (by decide +kernel) (pa_cons (pe_lc (own := [("arc", 1)]) rfl nd (kseq (K := K) (pe_ix (kix (K := K)) (pv 0) pe_int (fun _ _ => rfl))) (blkOk_by (N := N_check_net) (sc := defScope s_check_net) (by decide +kernel)) (fun _ _ _ _ _ => (pg_name (i := 1) nd rfl (by first | exact Or.inl rfl | exact Or.inr rfl))) (fun _ _ _ _ _ => pts_nil) (fun _ _ _ _ _ => (pe_callTy (ktup (K := K)) (by rfl) B.tuple (by decide +kernel) (pa_cons (pv 1) pa_nil)))) pa_nil)) pa_nil)))))))), ?_⟩
  have A0 := at_start (N := N_check_net) gh ra (Nat.le_of_ble_eq_true rfl)
  have bad : ∀ (e : checkD d = .error d) (G1 H1 : Hp) (σ1 : L2.St) (δ1 : List Sl) (M1 : Mem) (D : Ends) (t : TA), At ⟨[], G, H, G⟩ δ1 M1 G1 H1 σ1 → Ga δ1 M1 t [d] → tRaiseRef C (fun cls d _ H => E cls d H) t D σ1 H1 := fun e G1 H1 σ1 δ1 M1 D t A1 g =>
    e_raise A1 g fun G' H' v dx A' r hx => kE d e G' H' v dx A'.ev r hx
  cases hs : seqOf d with
  | none =>
    have hq : isSeqD d = false := by cases d <;> first | rfl | cases hs
    have e : checkD d = .error d := by unfold checkD netOf; rw [hs]
    exact s_ifq (b := true) A0 ((gt_or (gt_not (gt_b (g_c1 (ga_v rfl) trivial))) (b := true) fun z => absurd z (by rw [hq]; decide)).cast (by rw [hq]; rfl)) (fun _ G1 H1 A1 => bad e _ _ _ _ _ _ _ A1 (ga_v rfl)) fun z => nomatch z
  | some xs =>
    have hq : isSeqD d = true := by cases d <;> first | rfl | cases hs
    have t1 : ∀ (a b : PyData), xs = [a, b] → Gt [.dat d, .any] [] (tOr (tNot (tB (tCall (spB1 isSeqD) [] E0 (tCons (tVar 0) tNil)))) (tOr (tTest (tOp rNe (tCB (kLen K) (tCons (tVar 0) tNil)) (tC (.int 2)))) (tNot (tB (tCall (spB1 isSeqD) [] E0 (tCons (tOp (rIx K) (tVar 0) (tC (.int 1))) tNil)))))) (!isSeqD d || (!decide ((xs.length : Int) = 2) || !isSeqD b)) := fun a b e => gt_or (gt_not (gt_b (g_c1 (ga_v (a := d) rfl) trivial))) fun z => gt_or (gt_test (g_neI (g_len (ga_v rfl) hs) g_int)) fun z => gt_not (gt_b (g_c1 (ga_cons (g_ix (n := 1) (g_var rfl) g_int hs (by rw [e]; rfl)) ga_nil) trivial))
    by_cases hl : xs.length = 2
    · match xs, hl with
      | [a, b], _ =>
        have hle : (!decide ((([a, b] : List PyData).length : Int) = 2)) = false := by rfl
        cases hb : seqOf b with
        | none =>
          have e : checkD d = .error d := by unfold checkD netOf; rw [hs]; dsimp only; rw [hb]
          refine s_ifq (b := true) A0 ((t1 a b rfl).cast ?_) (fun _ G1 H1 A1 => bad e _ _ _ _ _ _ _ A1 (ga_v rfl)) fun z => nomatch z
          rw [hq, isSeqD_no hb, hle]
          rfl
        | some ys =>
          have hq2 : isSeqD b = true := by cases b <;> first | rfl | cases hb
          refine s_ifq (b := false) A0 ((t1 a b rfl).cast (by rw [hq, hq2, hle]; rfl)) (fun z => nomatch z) fun _ G1 H1 A1 => ?_
          have v0 : Gv [.dat d, .any] [] (tOp (rIx K) (tVar 0) (tC (.int 0))) a := g_ix (n := 0) (g_var rfl) g_int hs rfl
          have v1 : Gv [.dat d, .any] [] (tOp (rIx K) (tVar 0) (tC (.int 1))) b := g_ix (n := 1) (g_var rfl) g_int hs rfl
          refine s_ifq (b := !(isBelow a 2001 && !decide (intOf a = 0))) A1 ((gt_or (gt_not (gt_b (g_c2 (ga_cons v0 (ga_cons (g_op0 g_int g_int) ga_nil)) ⟨2001, rfl⟩))) (b := decide (intOf a = 0)) fun z => ?_).cast ?_) (fun z G2 H2 A2 => bad ?_ _ _ _ _ _ _ _ A2 (ga_v rfl)) fun z G2 H2 A2 => ?_
          · have z3 : (!isBelow a 2001) = false := z
            obtain ⟨i, rfl, _⟩ := isBelow_int (d := a) (m := 2001) (by simpa using z3)
            exact gt_test (g_eqI v0 g_int)
          · show (!isBelow a 2001 || decide (intOf a = 0)) = _
            cases isBelow a 2001 <;> simp
          · unfold checkD netOf
            rw [hs]
            dsimp only
            rw [hb]
            dsimp only
            have z' : (isBelow a 2001 && !decide (intOf a = 0)) = false := (Bool.not_eq_true' _).mp z
            rw [z', Bool.false_and]
            rfl
          have z' : (isBelow a 2001 && !decide (intOf a = 0)) = true := (Bool.not_eq_false' _).mp z
          obtain ⟨zb, z0⟩ := Bool.and_eq_true_iff.mp z'
          obtain ⟨i, rfl, hi, hi2⟩ := isBelow_int zb
          have ysl : ys.length ≤ 100000 := A2.itemLen (i := 0) (n := 1) rfl hs rfl hb
          have v0 : Gv [.dat d, .any] [] (tOp (rIx K) (tVar 0) (tC (.int 0))) (.int i) := v0
          have nar : netOf d = if ys.all (isArcD i) then some (i.toNat, ys.map arcOf) else none := by
            unfold netOf
            rw [hs]
            dsimp only
            rw [hb]
            dsimp only
            rw [z', Bool.true_and]
            rfl
          refine s_ifq (b := !(ys.all (isArcD i))) A2 (gt_not (gt_b (g_allMap (isArcD i) (δ' := fun y => [.dat d, .dat y]) (gi_seq v1 hb) ysl (fun x y _ => gg_name) (fun x y _ => g_c2 (ga_cons (g_ix (n := 0) (g_var rfl) g_int hs rfl) (ga_v rfl)) isInt_i)))) (fun z G3 H3 A3 => bad ?_ _ _ _ _ _ _ _ A3 (ga_v rfl)) fun z G3 H3 A3 => ?_
          · have z2 : ys.all (isArcD i) = false := by simpa using z
            unfold checkD
            rw [nar, z2]
            rfl
          have z2 : ys.all (isArcD i) = true := by simpa using z
          have e : checkD d = .ok (netD i.toNat (ys.map arcOf)) := by
            unfold checkD
            rw [nar, z2]
            rfl
          have hall : ∀ y ∈ ys, isArcD i y = true := List.all_eq_true.mp z2
          refine s_ret (d := netD i.toNat (ys.map arcOf)) A3 ((g_tup (ga_cons v0 (ga_cons (g_tupOf (ds := ys.map fun y => arcD (arcOf y)) (ga_cons (g_map (fun y => arcD (arcOf y)) (δ' := fun y => [.dat d, .dat y]) (gi_seq v1 hb) ysl (fun x y _ => gg_name) (fun x y hy => ?_)) ga_nil) rfl) ga_nil)) (by show 2 ≤ 100000; decide)).cast ?_) fun G' H' v A' r => kO _ e G' H' v A'.ev r
          · obtain ⟨us, hu, he, _⟩ := arc_is (hall y hy)
            rw [← he]
            exact g_tupOf (ga_v rfl) hu
          · unfold netD arcsD natD
            rw [Int.toNat_of_nonneg hi, List.map_map]
            rfl
    · have e : checkD d = .error d := by
        unfold checkD netOf
        rw [hs]
        match xs, hl with
        | [], _ => rfl
        | [_], _ => rfl
        | [_, _], h => exact absurd rfl h
        | _ :: _ :: _ :: _, _ => rfl
      have hle : (!decide ((xs.length : Int) = 2)) = true := by
        rw [decide_eq_false (by omega)]
        rfl
      refine s_ifq (b := true) A0 ((gt_or (b := true) (gt_not (gt_b (g_c1 (ga_v (a := d) rfl) trivial))) fun z => (gt_or (b := false) (gt_test (g_neI (g_len (ga_v rfl) hs) g_int)) fun z => absurd z (by rw [hle]; decide)).cast (by rw [hle]; rfl)).cast (by rw [hq]; rfl)) (fun _ G1 H1 A1 => bad e _ _ _ _ _ _ _ A1 (ga_v rfl)) fun z => nomatch z
end
end Od
set_option Elab.async false
set_option linter.all false
set_option autoImplicit false
set_option maxRecDepth 100000
set_option maxHeartbeats 4000000
/-! W3: need_node, need_ends, loads, surplus, fits. -/
namespace Od
open PySem PySem.Spec L2
def arcsOfD (d : PyData) : List Arc := match seqOf d with
  | some xs => xs.map arcOf
  | none => []
theorem capOf_D (c : Option Int) : capOf (capD c) = c := by cases c <;> rfl
theorem intOf_natD (n : Nat) : intOf (natD n) = n := rfl
theorem arcOf_D (a : Arc) : arcOf (arcD a) = a := by
  unfold arcOf arcD
  show (⟨(intOf (natD a.t)).toNat, (intOf (natD a.h)).toNat, capOf (capD a.c)⟩ : Arc) = a
  rw [capOf_D, intOf_natD, intOf_natD, Int.toNat_natCast, Int.toNat_natCast]
theorem arcsOfD_D (as : List Arc) : arcsOfD (arcsD as) = as := by
  show (as.map arcD).map arcOf = as
  rw [List.map_map]
  have : arcOf ∘ arcD = id := funext arcOf_D
  rw [this, List.map_id]
theorem ints_of {xs : List PyData} (h : ∀ x ∈ xs, ∃ i, x = .int i) : intsD (xs.map intOf) = xs := by
  unfold intsD
  rw [List.map_map]
  refine (List.map_congr_left fun x hx => ?_).trans (List.map_id xs)
  obtain ⟨i, rfl⟩ := h x hx
  rfl
theorem intsOf_D (l : List Int) : (intsD l).map intOf = l := by
  unfold intsD
  rw [List.map_map]
  exact (List.map_congr_left fun x _ => rfl).trans (List.map_id l)
theorem natsOf_D (l : List Nat) : (natsD l).map natOf = l := by
  unfold natsD
  rw [List.map_map]
  exact (List.map_congr_left fun x _ => natOf_D x).trans (List.map_id l)
def okNet (n : Nat) (as : List Arc) : Prop := n ≤ 2000 ∧ as.length ≤ 1000 ∧ ∀ a ∈ as, a.t < n ∧ a.h < n ∧ ∀ c, a.c = some c → 0 ≤ c
def needNodeD (m v : PyData) : Except PyData PyData := if isBelow v (intOf m) then .ok v else .error v
def needEndsD (m s e : PyData) : Except PyData PyData := match endsOf (intOf m) s e with
  | .ok l => .ok (.tuple (natsD l))
  | .error x => .error x
def isArcs (d : PyData) : Prop := ∃ as : List Arc, d = arcsD as
def needLoadD (a v : PyData) : Except PyData PyData := match loadOf (arcsOfD a) v with
  | some l => .ok (loadD l)
  | none => .error v
section
variable {P : Program} {w : World} {K : PySem.W.Frag} {mg : Str → Option Value} {base : Heap} {C fI O : Addr}
abbrev HBelow (P : Program) (w : World) (K : PySem.W.Frag) (mg : Str → Option Value) (base : Heap) : Prop := Has P w K mg base "is_below" CX0 3 ["value", "most"] (sp2 (fun _ m => isInt m) fun d m => .bool (isBelow d (intOf m)))
abbrev HSeq (P : Program) (w : World) (K : PySem.W.Frag) (mg : Str → Option Value) (base : Heap) : Prop := Has P w K mg base "is_sequence" CX0 1 ["value"] (spB1 isSeqD)
abbrev HNumber (P : Program) (w : World) (K : PySem.W.Frag) (mg : Str → Option Value) (base : Heap) : Prop := Has P w K mg base "is_number" CX0 2 ["value"] (spB1 isNumber)
abbrev HCheck (P : Program) (w : World) (K : PySem.W.Frag) (mg : Str → Option Value) (base : Heap) (C : Addr) : Prop := HasX P w K mg base "check_net" 5 ["value"] (sX1 C (fun _ => True) checkD)
abbrev s_need_node : Stmt := topS 14
abbrev N_need_node : List Str := ["many", "value"]
theorem sc_need_node : FnScope N_need_node ["many", "value"] (defScope s_need_node) := ⟨rfl, rfl, rfl, by decide +kernel, rfl, by decide +kernel, by decide +kernel⟩
abbrev HNode (P : Program) (w : World) (K : PySem.W.Frag) (mg : Str → Option Value) (base : Heap) (C : Addr) : Prop := HasX P w K mg base "need_node" 4 ["many", "value"] (sX2 C (fun m _ => isInt m) needNodeD)
theorem h_need_node (B : Bl mg) (R : RefT P K mg C fI O) (T : TopF K mg "need_node" s_need_node) (h_is_below : HBelow P w K mg base) : HNode P w K mg base C := by
  obtain ⟨f, fd, hm, F⟩ := T
  refine ⟨f, fd, hm, F.kp, F.binds (ps := ["many", "value"]) fun _ _ _ _ _ _ us hl => match us, hl with | [_, _], _ => rfl, F.okX sc_need_node (fun vs H Q E h => lenX2 h) (fun cdv A outer s H vs Q E hr h => ?_)⟩
  have nd := sc_need_node.nd
  have hu := hu_of hr
  obtain ⟨G, ds, gh, ra, ⟨m, v, rfl, ⟨i, rfl⟩⟩, kO, kE⟩ := h
  refine ⟨_, (pss_cons (ps_if (pt_not (pt_val (pe_callH h_is_below (hr.mono (by decide)) (pa_cons (pv 1) (pa_cons (pv 0) pa_nil))))) (pss_one (ps_refused rfl R hr (takes_of rfl rfl rfl rfl) (pa_cons (pv 1) pa_nil))) pss_nil)
    (pss_one (ps_ret (pv 1)))), ?_⟩
  have A0 := at_start (N := N_need_node) gh ra (Nat.le_of_ble_eq_true rfl)
  refine s_ifq A0 (gt_not (gt_b (g_c2 (ga_v2 rfl rfl) isInt_i))) (fun z G1 H1 A1 => ?_) fun z G1 H1 A1 => ?_
  · have z2 : isBelow v i = false := (Bool.not_eq_true' _).mp z
    exact e_raise A1 (ga_v rfl) fun G' H' v' dx A' r hx => kE v (by show (if isBelow v i = true then _ else _) = _; rw [z2]; rfl) G' H' v' dx A'.ev r hx
  · have z2 : isBelow v i = true := (Bool.not_eq_false' _).mp z
    exact s_ret A1 (g_var (d := v) rfl) fun G' H' v' A' r => kO v (by show (if isBelow v i = true then _ else _) = _; rw [z2]; rfl) G' H' v' A'.ev r
abbrev s_need_ends : Stmt := topS 15
abbrev N_need_ends : List Str := ["many", "start", "ends", "node"]
theorem sc_need_ends : FnScope N_need_ends ["many", "start", "ends"] (defScope s_need_ends) := ⟨rfl, rfl, rfl, by decide +kernel, rfl, by decide +kernel, by decide +kernel⟩
abbrev HEnds (P : Program) (w : World) (K : PySem.W.Frag) (mg : Str → Option Value) (base : Heap) (C : Addr) : Prop := HasX P w K mg base "need_ends" 5 ["many", "start", "ends"] (sX3 C (fun m _ _ => isInt m) needEndsD)
theorem h_need_ends (B : Bl mg) (R : RefT P K mg C fI O) (T : TopF K mg "need_ends" s_need_ends) (h_is_below : HBelow P w K mg base) (h_is_sequence : HSeq P w K mg base) (h_need_node : HNode P w K mg base C) : HEnds P w K mg base C := by
  obtain ⟨f, fd, hm, F⟩ := T
  refine ⟨f, fd, hm, F.kp, F.binds (ps := ["many", "start", "ends"]) fun _ _ _ _ _ _ us hl => match us, hl with | [_, _, _], _ => rfl, F.okX sc_need_ends (fun vs H Q E h => lenX3 h) (fun cdv A outer s H vs Q E hr h => ?_)⟩
  have nd := sc_need_ends.nd
  have hu := hu_of hr
  obtain ⟨G, ds, gh, ra, ⟨_, sd, e, rfl, ⟨i, rfl⟩⟩, kO, kE⟩ := h
  refine ⟨_, (pss_cons (ps_expr (pe_callHX h_need_node (hr.mono (by decide)) (takes_of rfl rfl rfl rfl) (pa_cons (pv 0) (pa_cons (pv 1) pa_nil))))
    (pss_cons (ps_if (PW.pt (pw_or (pt_not (pt_val (pe_callH h_is_sequence (hr.mono (by decide)) (pa_cons (pv 2) pa_nil)))) (pw_or1 (pt_not (pt_val (pe_callB (kall (K := K)) (by rfl) B.all (by decide +kernel) (pa_cons (pe_lc (own := [("node", 3)]) rfl nd (kseq (K := K) (pv 2)) (blkOk_by (N := N_need_ends) (sc := defScope s_need_ends) (by decide +kernel)) (fun _ _ _ _ _ => (pg_name (i := 3) nd rfl (by first | exact Or.inl rfl | exact Or.inr rfl))) (fun _ _ _ _ _ => pts_nil) (fun _ _ _ _ _ => (pe_and (pe_callH h_is_below (hr.mono (by decide)) (pa_cons (pv 3) (pa_cons (pv 0) pa_nil))) (pe_one (pe_cmpR op_ne (pv 3) (pv 1) (nomark _)))))) pa_nil))))))) (pss_one (ps_refused rfl R hr (takes_of rfl rfl rfl rfl) (pa_cons (pv 2) pa_nil))) pss_nil)
    (pss_cons (ps_if (pt_cmpR op_ne (pe_callB call_lenD (by rfl) B.len (by decide +kernel) (pa_cons (pe_dc (own := [("node", 3)]) rfl nd (kseq (K := K) (pv 2)) (blkOk_by (N := N_need_ends) (sc := defScope s_need_ends) (by decide +kernel)) (fun _ _ _ _ _ => (pg_name (i := 3) nd rfl (by first | exact Or.inl rfl | exact Or.inr rfl))) (fun _ _ _ _ _ => pts_nil) (fun _ _ _ _ _ => (pv 3)) (fun _ _ _ _ _ => pe_bl)) pa_nil)) (pe_callB (klen (K := K)) (by rfl) B.len (by decide +kernel) (pa_cons (pv 2) pa_nil)) (nomark _)) (pss_one (ps_refused rfl R hr (takes_of rfl rfl rfl rfl) (pa_cons (pv 2) pa_nil))) pss_nil)
    (pss_one (ps_ret (pe_callTy (ktup (K := K)) (by rfl) B.tuple (by decide +kernel) (pa_cons (pv 2) pa_nil))))))), ?_⟩
  have A0 := at_start (N := N_need_ends) gh ra (Nat.le_of_ble_eq_true rfl)
  have hnd : needEndsD (.int i) sd e = match endsOf i sd e with | .ok l => .ok (.tuple (natsD l)) | .error x => .error x := rfl
  cases hb : isBelow sd i with
  | false =>
    have er : needEndsD (.int i) sd e = .error sd := by
      rw [hnd]; unfold endsOf; rw [hb]; rfl
    exact e_cX2 A0 (ga_v2 rfl rfl) isInt_i (r := sd) (by show (if isBelow sd i = true then _ else _) = _; rw [hb]; rfl) fun G' H' v' dx A' r hx => kE sd er G' H' v' dx A'.ev r hx
  | true =>
    obtain ⟨s0, rfl, hs0, hs1⟩ := isBelow_int hb
    refine s_dropq A0 (g_cX2 (r := .int s0) (ga_v2 rfl rfl) isInt_i (by show (if isBelow (.int s0) i = true then _ else _) = _; rw [hb]; rfl)) fun G1 H1 A1 => ?_
    have bad : ∀ (er : needEndsD (.int i) (.int s0) e = .error e) (G1 H1 : Hp) (σ1 : L2.St) (δ1 : List Sl) (M1 : Mem) (D : Ends) (t : TA), At ⟨[], G, H, G⟩ δ1 M1 G1 H1 σ1 → Ga δ1 M1 t [e] → tRaiseRef C (fun cls d _ H => E cls d H) t D σ1 H1 := fun er G1 H1 σ1 δ1 M1 D t A1 g =>
      e_raise A1 g fun G' H' v dx A' r hx => kE e er G' H' v dx A'.ev r hx
    have hends : endsOf i (.int s0) e = match seqOf e with
      | some xs => if xs.all (isEndD i (.int s0)) && decide ((keysOf (xs.map intOf)).length = xs.length) then .ok (xs.map fun d => (intOf d).toNat) else .error e
      | none => .error e := by unfold endsOf; rw [hb]; rfl
    cases hs : seqOf e with
    | none =>
      have er : needEndsD (.int i) (.int s0) e = .error e := by rw [hnd, hends, hs]
      exact s_ifq (b := true) A1 (Gt.cast (gt_or (a := !isSeqD e) (gt_not (gt_b (g_c1 (ga_v rfl) trivial))) (b := true) fun z => absurd z (by rw [isSeqD_no hs]; decide)) (by rw [isSeqD_no hs]; rfl)) (fun _ G2 H2 A2 => bad er _ _ _ _ _ _ _ A2 (by exact ga_v rfl)) fun z => nomatch z
    | some xs =>
      have hq : isSeqD e = true := by cases e <;> first | rfl | cases hs
      have xl : xs.length ≤ 100000 := A1.seqLen (i := 2) rfl hs
      rw [hs] at hends
      dsimp only at hends
      refine s_ifq (b := !(xs.all (isEndD i (.int s0)))) A1 (Gt.cast (gt_or (a := !isSeqD e) (b := !(xs.all (isEndD i (.int s0)))) (gt_not (gt_b (g_c1 (ga_v rfl) trivial))) fun _ => gt_not (gt_b (g_allMap (isEndD i (.int s0)) (δ' := fun y => [.dat (.int i), .dat (.int s0), .dat e, .dat y]) (gi_seq (g_var rfl) hs) xl (fun x y _ => gg_name) (fun x y _ => Gv.cast (da := .bool (isBelow y (intOf (.int i)) && !decide (intOf y = intOf (.int s0)))) (g_and (g_c2 (ga_v2 rfl rfl) isInt_i) fun z => ?_) rfl)))) (by rw [hq]; rfl)) (fun z G2 H2 A2 => bad ?_ _ _ _ _ _ _ _ A2 (by exact ga_v rfl)) fun z G2 H2 A2 => ?_
      · obtain ⟨j, rfl, _⟩ := isBelow_int (d := y) (m := i) z
        exact g_neI (g_var rfl) (g_var rfl)
      · have z2 : xs.all (isEndD i (.int s0)) = false := by simpa using z
        rw [hnd, hends, z2]
        rfl
      have z2 : xs.all (isEndD i (.int s0)) = true := by simpa using z
      have hall : ∀ x ∈ xs, isEndD i (.int s0) x = true := List.all_eq_true.mp z2
      have hint : ∀ x ∈ xs, ∃ j, x = PyData.int j := fun x hx => by
        have q := hall x hx
        unfold isEndD at q
        obtain ⟨j, rfl, _⟩ := isBelow_int (Bool.and_eq_true_iff.mp q).1
        exact ⟨j, rfl⟩
      have exs : (xs.map intOf).map PyData.int = xs := ints_of hint
      refine s_ifq A2 (gt_test (g_neI (g_lenDc (ns := xs.map intOf) (by rw [exs]; exact gi_seq (g_var rfl) hs) (by rw [List.length_map]; exact xl) (Nat.lt_of_lt_of_le (Nat.lt_succ_self 3) (Nat.le_refl 4))) (g_len (ga_v rfl) hs))) (fun z G3 H3 A3 => bad ?_ _ _ _ _ _ _ _ A3 (by exact ga_v rfl)) fun z G3 H3 A3 => ?_
      · have z3 : decide ((keysOf (xs.map intOf)).length = xs.length) = false := by
          rw [Bool.not_eq_true'] at z
          have := of_decide_eq_false z
          exact decide_eq_false (by omega)
        rw [hnd, hends, z2, z3]
        rfl
      have z3 : decide ((keysOf (xs.map intOf)).length = xs.length) = true := by
        rw [Bool.not_eq_false'] at z
        have := of_decide_eq_true z
        exact decide_eq_true (by omega)
      refine s_ret A3 (g_tupOf (ga_v rfl) hs) fun G' H' v' A' r => kO (.tuple xs) ?_ G' H' v' A'.ev r
      show needEndsD (.int i) (.int s0) e = _
      rw [hnd, hends, z2, z3]
      show Except.ok (PyData.tuple (natsD (xs.map fun d => (intOf d).toNat))) = _
      unfold natsD natD
      rw [List.map_map]
      have e3 : (xs.map ((fun n : Nat => PyData.int (n : Int)) ∘ fun d => (intOf d).toNat)) = xs := by
        refine (List.map_congr_left fun x hx => ?_).trans (List.map_id xs)
        have q := hall x hx
        unfold isEndD at q
        obtain ⟨j, rfl, hj, _⟩ := isBelow_int (Bool.and_eq_true_iff.mp q).1
        show PyData.int ((j.toNat : Nat) : Int) = .int j
        rw [Int.toNat_of_nonneg hj]
      rw [e3]
end
end Od
set_option Elab.async false
set_option linter.all false
set_option autoImplicit false
set_option maxRecDepth 100000
set_option maxHeartbeats 4000000
/-! W4: are_borne, need_load, surplus, no_flow, fits. -/
namespace Od
open PySem PySem.Spec L2
def borneP : PyData → Bool
  | .tuple [a, x] => leCap (intOf x) (arcOf a).c
  | _ => false
theorem borne_all (as : List Arc) : ∀ xs : List PyData, (zipD (as.map arcD) xs).all borneP = (List.zipWith (fun a x => leCap (intOf x) a.c) as xs).all id := by
  induction as with
  | nil => intro xs; rfl
  | cons a as ih =>
    intro xs
    cases xs with
    | nil => rfl
    | cons x xs =>
      show (borneP (.tuple [arcD a, x]) && (zipD (as.map arcD) xs).all borneP) = (leCap (intOf x) a.c && _)
      rw [ih]
      show (leCap (intOf x) (arcOf (arcD a)).c && _) = _
      rw [arcOf_D]
theorem zipD_mem {ds es : List PyData} {d : PyData} (h : d ∈ zipD ds es) : ∃ a b, a ∈ ds ∧ b ∈ es ∧ d = .tuple [a, b] := by
  obtain ⟨i, hi⟩ := List.getElem?_of_mem h
  obtain ⟨a, b, h1, h2, rfl⟩ := zipD_get hi
  exact ⟨a, b, List.mem_of_getElem? h1, List.mem_of_getElem? h2, rfl⟩
theorem loadOf_eq {as : List Arc} {v : PyData} {xs : List PyData} (hs : seqOf v = some xs) : loadOf as v = if decide (xs.length = as.length) && xs.all isNumber && (List.zipWith (fun a x => leCap (intOf x) a.c) as xs).all id then some (xs.map intOf) else none := by
  unfold loadOf
  rw [hs]
theorem loadOf_none {as : List Arc} {v : PyData} (hs : seqOf v = none) : loadOf as v = none := by
  unfold loadOf
  rw [hs]
section
variable {P : Program} {w : World} {K : PySem.W.Frag} {mg : Str → Option Value} {base : Heap} {C fI O : Addr}
abbrev s_are_borne : Stmt := topS 16
abbrev N_are_borne : List Str := ["arcs", "value", "one", "arc"]
theorem sc_are_borne : FnScope N_are_borne ["arcs", "value"] (defScope s_are_borne) := ⟨rfl, rfl, rfl, by decide +kernel, rfl, by decide +kernel, by decide +kernel⟩
abbrev HBorne (P : Program) (w : World) (K : PySem.W.Frag) (mg : Str → Option Value) (base : Heap) : Prop := Has P w K mg base "are_borne" CX0 4 ["arcs", "value"] (sp2 (fun a _ => isArcs a) fun a v => .bool (loadOf (arcsOfD a) v).isSome)
theorem h_are_borne (B : Bl mg) (T : TopF K mg "are_borne" s_are_borne) (h_is_number : HNumber P w K mg base) (h_is_sequence : HSeq P w K mg base) : HBorne P w K mg base := by
  obtain ⟨f, fd, hm, F⟩ := T
  refine ⟨f, fd, hm, F.kp, F.binds (ps := ["arcs", "value"]) fun _ _ _ _ _ _ us hl => match us, hl with | [_, _], _ => rfl, F.ok sc_are_borne (fun vs H Q E h => len2 h) (fun cdv A outer s H vs Q E hr h => ?_)⟩
  have nd := sc_are_borne.nd
  have hu := hu_of hr
  obtain ⟨G, ds, gh, ra, ⟨_, v, rfl, ⟨as, rfl⟩⟩, k⟩ := h
  refine ⟨_, (pss_cons (ps_if (PW.pt (pw_or (pt_not (pt_val (pe_callH h_is_sequence (hr.mono (by decide)) (pa_cons (pv 1) pa_nil)))) (pw_or (pt_cmpR op_ne (pe_callB (klen (K := K)) (by rfl) B.len (by decide +kernel) (pa_cons (pv 1) pa_nil)) (pe_callB (klen (K := K)) (by rfl) B.len (by decide +kernel) (pa_cons (pv 0) pa_nil)) (nomark _)) (pw_or1 (pt_not (pt_val (pe_callB (kall (K := K)) (by rfl) B.all (by decide +kernel) (pa_cons (pe_lc (own := [("one", 2)]) rfl nd (kseq (K := K) (pv 1)) (blkOk_by (N := N_are_borne) (sc := defScope s_are_borne) (by decide +kernel)) (fun _ _ _ _ _ => (pg_name (i := 2) nd rfl (by first | exact Or.inl rfl | exact Or.inr rfl))) (fun _ _ _ _ _ => pts_nil) (fun _ _ _ _ _ => (pe_callH h_is_number (hr.mono (by decide)) (pa_cons (pv 2) pa_nil)))) pa_nil)))))))) (pss_one (ps_ret pe_bl)) pss_nil)
    (pss_one (ps_ret (pe_callB (kall (K := K)) (by rfl) B.all (by decide +kernel) (pa_cons (pe_lc (own := [("arc", 3), ("one", 2)]) rfl nd (kzip (K := K) (by rfl) B.zip (pa_cons (pv 0) (pa_cons (pv 1) pa_nil))) (blkOk_by (N := N_are_borne) (sc := defScope s_are_borne) (by decide +kernel)) (fun _ _ _ _ _ => (ktg (K := K) (n := 2) (pgs_cons (pg_name (i := 3) nd rfl (by first | exact Or.inl rfl | exact Or.inr rfl)) (pgs_cons (pg_name (i := 2) nd rfl (by first | exact Or.inl rfl | exact Or.inr rfl)) pgs_nil)))) (fun _ _ _ _ _ => pts_nil) (fun _ _ _ _ _ => (pe_or (pe_cmp (pc_isN (pe_ix (kix (K := K)) (pv 3) pe_int (fun _ _ => rfl))) rfl) (pe_one (pe_cmpR op_le (pv 2) (pe_ix (kix (K := K)) (pv 3) pe_int (fun _ _ => rfl)) (nomark _)))))) pa_nil))))), ?_⟩
  have A0 := at_start (N := N_are_borne) gh ra (Nat.le_of_ble_eq_true rfl)
  have k' : ∀ b, (loadOf as v).isSome = b → ∀ G' H' u, Ev [] G H G' H' → Rep G' u (.bool b) → Q u H' := fun b e G' H' u ev r => k G' H' u ev (by show Rep G' u (.bool (loadOf (arcsOfD (arcsD as)) v).isSome); rw [arcsOfD_D, e]; exact r)
  have la : Gv [.dat (arcsD as), .dat v, .any, .any] [] (tCB (kLen K) (tCons (tVar 0) tNil)) (.int as.length) := Gv.cast (g_len (ga_v rfl) rfl) (by rw [List.length_map])
  cases hs : seqOf v with
  | none =>
    exact s_ifq (b := true) A0 (Gt.cast (gt_or (a := !isSeqD v) (gt_not (gt_b (g_c1 (ga_v rfl) trivial))) (b := true) fun z => absurd z (by rw [isSeqD_no hs]; decide)) (by rw [isSeqD_no hs]; rfl)) (fun _ G1 H1 A1 => s_ret A1 g_bl fun G' H' u A' r => k' false (by rw [loadOf_none hs]; rfl) G' H' u A'.ev r) fun z => nomatch z
  | some xs =>
    have hq : isSeqD v = true := by cases v <;> first | rfl | cases hs
    have xl : xs.length ≤ 100000 := A0.seqLen (i := 1) rfl hs
    refine s_ifq (b := !(decide (xs.length = as.length) && xs.all isNumber)) A0 (Gt.cast (gt_or (a := !isSeqD v) (b := !decide ((xs.length : Int) = (as.length : Int)) || !(xs.all isNumber)) (gt_not (gt_b (g_c1 (ga_v rfl) trivial))) fun _ => gt_or (gt_test (g_neI (g_len (ga_v rfl) hs) la)) fun _ => gt_not (gt_b (g_allMap isNumber (δ' := fun y => [.dat (arcsD as), .dat v, .dat y, .any]) (gi_seq (g_var rfl) hs) xl (fun x y _ => gg_name) (fun x y _ => g_c1 (ga_v rfl) trivial)))) ?_) (fun z G1 H1 A1 => s_ret A1 g_bl fun G' H' u A' r => k' false ?_ G' H' u A'.ev r) fun z G1 H1 A1 => ?_
    · rw [hq, decN, Bool.not_and]
      rfl
    · rw [loadOf_eq hs]
      have z2 : (decide (xs.length = as.length) && xs.all isNumber) = false := (Bool.not_eq_true' _).mp z
      rw [z2, Bool.false_and]
      rfl
    · have z2 : (decide (xs.length = as.length) && xs.all isNumber) = true := (Bool.not_eq_false' _).mp z
      obtain ⟨zl, zn⟩ := Bool.and_eq_true_iff.mp z2
      have hl : xs.length = as.length := of_decide_eq_true zl
      have zl2 : (zipD (as.map arcD) xs).length ≤ 100000 := by
        unfold zipD
        rw [List.length_zipWith]
        omega
      refine s_ret A1 (Gv.cast (g_allMap borneP (δ' := fun | .tuple [a, x] => [.dat (arcsD as), .dat v, .dat x, .dat a] | _ => []) (gi_zipQ (ga_v2 rfl rfl) hs (by rw [List.length_map]; omega)) zl2 (fun x y hy => ?_) (fun x y hy => ?_)) (d := .bool ((List.zipWith (fun a x => leCap (intOf x) a.c) as xs).all id)) (by rw [borne_all])) fun G' H' u A' r => k' _ ?_ G' H' u A'.ev r
      · obtain ⟨a, b, ha, hb, rfl⟩ := zipD_mem hy
        exact gg_tup (ggs_cons gg_name (ggs_cons gg_name ggs_nil)) rfl
      · obtain ⟨a, b, ha, hb, rfl⟩ := zipD_mem hy
        obtain ⟨ar, _, rfl⟩ := List.mem_map.mp ha
        obtain ⟨i, rfl, _⟩ := isNum_int (List.all_eq_true.mp zn _ hb)
        have v2 : Gv [.dat (arcsD as), .dat v, .dat (.int i), .dat (arcD ar)] [x] (tOp (rIx K) (tVar 3) (tC (.int 2))) (capD ar.c) := g_ix (n := 2) (g_var rfl) g_int rfl rfl
        refine Gv.cast (da := .bool (isNone (capD ar.c) || leCap i ar.c)) (g_or (g_isN v2) fun z => ?_) ?_
        · cases hc : ar.c with
          | none => rw [hc] at z; cases z
          | some c =>
            rw [hc] at v2
            exact g_opB (g_var rfl) v2
        · show PyData.bool _ = .bool (leCap i (arcOf (arcD ar)).c)
          rw [arcOf_D]
          cases ar.c <;> rfl
      · rw [loadOf_eq hs, zl, zn]
        cases (List.zipWith (fun a x => leCap (intOf x) a.c) as xs).all id <;> rfl
abbrev s_need_load : Stmt := topS 17
abbrev N_need_load : List Str := ["arcs", "value"]
theorem sc_need_load : FnScope N_need_load ["arcs", "value"] (defScope s_need_load) := ⟨rfl, rfl, rfl, by decide +kernel, rfl, by decide +kernel, by decide +kernel⟩
abbrev HLoad (P : Program) (w : World) (K : PySem.W.Frag) (mg : Str → Option Value) (base : Heap) (C : Addr) : Prop := HasX P w K mg base "need_load" 5 ["arcs", "value"] (sX2 C (fun a _ => isArcs a) needLoadD)
theorem h_need_load (B : Bl mg) (R : RefT P K mg C fI O) (T : TopF K mg "need_load" s_need_load) (h_are_borne : HBorne P w K mg base) : HLoad P w K mg base C := by
  obtain ⟨f, fd, hm, F⟩ := T
  refine ⟨f, fd, hm, F.kp, F.binds (ps := ["arcs", "value"]) fun _ _ _ _ _ _ us hl => match us, hl with | [_, _], _ => rfl, F.okX sc_need_load (fun vs H Q E h => lenX2 h) (fun cdv A outer s H vs Q E hr h => ?_)⟩
  have nd := sc_need_load.nd
  have hu := hu_of hr
  obtain ⟨G, ds, gh, ra, ⟨_, v, rfl, ⟨as, rfl⟩⟩, kO, kE⟩ := h
  refine ⟨_, (pss_cons (ps_if (pt_not (pt_val (pe_callH h_are_borne (hr.mono (by decide)) (pa_cons (pv 0) (pa_cons (pv 1) pa_nil))))) (pss_one (ps_refused rfl R hr (takes_of rfl rfl rfl rfl) (pa_cons (pv 1) pa_nil))) pss_nil)
    (pss_one (ps_ret (pe_callTy (ktup (K := K)) (by rfl) B.tuple (by decide +kernel) (pa_cons (pv 1) pa_nil))))), ?_⟩
  have A0 := at_start (N := N_need_load) gh ra (Nat.le_of_ble_eq_true rfl)
  have e0 : needLoadD (arcsD as) v = match loadOf as v with | some l => .ok (loadD l) | none => .error v := by unfold needLoadD; rw [arcsOfD_D] <;> rfl
  refine s_ifq A0 (gt_not (gt_b (g_c2 (ga_v2 rfl rfl) ⟨as, rfl⟩))) (fun z G1 H1 A1 => ?_) fun z G1 H1 A1 => ?_
  · have z1 : (loadOf (arcsOfD (arcsD as)) v).isSome = false := (Bool.not_eq_true' _).mp z
    rw [arcsOfD_D] at z1
    have z2 : loadOf as v = none := by
      cases h : loadOf as v with
      | none => rfl
      | some l => rw [h] at z1; cases z1
    exact e_raise A1 (by exact ga_v rfl) fun G' H' v' dx A' r hx => kE v (by show needLoadD (arcsD as) v = _; rw [e0, z2]) G' H' v' dx A'.ev r hx
  · have z1 : (loadOf (arcsOfD (arcsD as)) v).isSome = true := (Bool.not_eq_false' _).mp z
    rw [arcsOfD_D] at z1
    obtain ⟨l, z2⟩ := Option.isSome_iff_exists.mp z1
    cases hs : seqOf v with
    | none => rw [loadOf_none hs] at z2; cases z2
    | some xs =>
      refine s_ret A1 (g_tupOf (ga_v rfl) hs) fun G' H' v' A' r => kO (.tuple xs) ?_ G' H' v' A'.ev r
      show needLoadD (arcsD as) v = _
      rw [e0, z2]
      rw [loadOf_eq hs] at z2
      split at z2
      · rename_i hc
        cases z2
        simp only [Bool.and_eq_true] at hc
        have hi : ∀ x ∈ xs, ∃ i, x = PyData.int i := fun x hx => by
          obtain ⟨i, rfl, _⟩ := isNum_int (List.all_eq_true.mp hc.1.2 _ hx)
          exact ⟨i, rfl⟩
        show Except.ok (PyData.tuple (intsD (xs.map intOf))) = _
        rw [ints_of hi]
      · cases z2
end
end Od
set_option Elab.async false
set_option linter.all false
set_option autoImplicit false
set_option maxRecDepth 100000
set_option maxHeartbeats 4000000
/-! W5: surplus, no_flow, fits. -/
namespace Od
open PySem PySem.Spec L2
theorem intsD_get {l : List Int} {i : Nat} (h : i < l.length) : (intsD l)[i]? = some (.int (l.getD i 0)) := by
  unfold intsD
  rw [List.getElem?_map, List.getElem?_eq_getElem h]
  show some (PyData.int l[i]) = _
  rw [List.getD_eq_getElem?_getD, List.getElem?_eq_getElem h]
  rfl
theorem intsD_set (l : List Int) (i : Nat) (x : Int) : (intsD l).set i (.int x) = intsD (l.set i x) := by
  unfold intsD
  rw [List.map_set]
theorem intsD_len (l : List Int) : (intsD l).length = l.length := List.length_map _
theorem natsD_len (l : List Nat) : (natsD l).length = l.length := List.length_map _
theorem surp1_len (f : List Int) (a : Arc) (x : Int) : (surp1 f a x).length = f.length := by
  unfold surp1
  rw [List.length_set, List.length_set]
theorem surpF_len (ps : List (Arc × Int)) : ∀ f : List Int, (ps.foldl (fun f p => surp1 f p.1 p.2) f).length = f.length := by
  induction ps with
  | nil => intro f; rfl
  | cons p ps ih => intro f; rw [List.foldl_cons, ih, surp1_len]
theorem surplus_len (n : Nat) (as : List Arc) (l : List Int) : (surplus n as l).length = n := by
  unfold surplus
  rw [surpF_len, List.length_replicate]
def surpK (n : Nat) (as : List Arc) (l : List Int) (k : Nat) : List Int := ((as.zip l).take k).foldl (fun f p => surp1 f p.1 p.2) (List.replicate n 0)
theorem surpK_len (n : Nat) (as : List Arc) (l : List Int) (k : Nat) : (surpK n as l k).length = n := by
  unfold surpK
  rw [surpF_len, List.length_replicate]
theorem surpK_snoc {n : Nat} {as : List Arc} {l : List Int} {k : Nat} {a : Arc} {x : Int} (h1 : as[k]? = some a) (h2 : l[k]? = some x) : surpK n as l (k + 1) = surp1 (surpK n as l k) a x := by
  unfold surpK
  have h : (as.zip l)[k]? = some (a, x) := by rw [List.getElem?_zip_eq_some]; exact ⟨h1, h2⟩
  rw [take_snoc h, List.foldl_append]
  rfl
theorem surpK_all {n : Nat} {as : List Arc} {l : List Int} (h : as.length = l.length) : surpK n as l as.length = surplus n as l := by
  unfold surpK surplus
  rw [List.take_of_length_le (by rw [List.length_zip]; omega)]
def isSurp (m a l : PyData) : Prop := ∃ (n : Nat) (as : List Arc) (ls : List Int), m = natD n ∧ a = arcsD as ∧ seqOf l = some (intsD ls) ∧ as.length = ls.length ∧ okArcs n as
def surpD (m a l : PyData) : PyData := loadD (surplus (natOf m) (arcsOfD a) (intsOf l))
theorem surpD_eq {n : Nat} {as : List Arc} {ls : List Int} {l : PyData} (h : seqOf l = some (intsD ls)) : surpD (natD n) (arcsD as) l = loadD (surplus n as ls) := by
  unfold surpD intsOf
  rw [natOf_D, arcsOfD_D, h]
  dsimp only
  rw [intsOf_D]
theorem flat_zero (n : Nat) : (List.replicate n [PyData.int 0]).flatten = intsD (List.replicate n 0) := by
  induction n with
  | zero => rfl
  | succ n ih =>
    rw [List.replicate_succ, List.flatten_cons, ih]
    rfl
theorem zip_get {as : List Arc} {ls : List Int} {i : Nat} {d : PyData} (h : (zipD (as.map arcD) (intsD ls))[i]? = some d) : ∃ a x, as[i]? = some a ∧ ls[i]? = some x ∧ d = .tuple [arcD a, .int x] := by
  obtain ⟨a0, b0, h1, h2, rfl⟩ := zipD_get h
  rw [List.getElem?_map] at h1
  unfold intsD at h2
  rw [List.getElem?_map] at h2
  obtain ⟨a, ha, rfl⟩ := Option.map_eq_some_iff.mp h1
  obtain ⟨x, hx, rfl⟩ := Option.map_eq_some_iff.mp h2
  exact ⟨a, x, ha, hx, rfl⟩
def noFlowD (d : PyData) : Except PyData PyData := match netOf d with
  | some (_, as) => .ok (loadD (List.replicate as.length 0))
  | none => .error d
def isFits (m a e _v : PyData) : Prop := ∃ (n : Nat) (as : List Arc) (es : List Nat), m = natD n ∧ a = arcsD as ∧ e = .tuple (natsD es) ∧ okArcs n as
def fitsD (m a e v : PyData) : PyData := match loadOf (arcsOfD a) v with
  | some l => .bool (fitsB (natOf m) (arcsOfD a) (natsOf e) l)
  | none => .bool false
theorem loadOf_seq {as : List Arc} {v : PyData} {l : List Int} (h : loadOf as v = some l) : seqOf v = some (intsD l) ∧ as.length = l.length := by
  cases hs : seqOf v with
  | none => rw [loadOf_none hs] at h; cases h
  | some xs =>
    rw [loadOf_eq hs] at h
    split at h
    · rename_i hc
      cases h
      simp only [Bool.and_eq_true] at hc
      refine ⟨?_, ?_⟩
      · rw [ints_of fun x hx => ?_]
        obtain ⟨i, rfl, _⟩ := isNum_int (List.all_eq_true.mp hc.1.2 _ hx)
        exact ⟨i, rfl⟩
      · rw [List.length_map]
        exact (of_decide_eq_true hc.1.1).symm
    · cases h
section
variable {P : Program} {w : World} {K : PySem.W.Frag} {mg : Str → Option Value} {base : Heap} {C fI O : Addr}
abbrev s_surplus : Stmt := topS 18
abbrev N_surplus : List Str := ["many", "arcs", "load", "found", "arc", "one"]
theorem sc_surplus : FnScope N_surplus ["many", "arcs", "load"] (defScope s_surplus) := ⟨rfl, rfl, rfl, by decide +kernel, rfl, by decide +kernel, by decide +kernel⟩
abbrev HSurp (P : Program) (w : World) (K : PySem.W.Frag) (mg : Str → Option Value) (base : Heap) : Prop := Has P w K mg base "surplus" CX0 1 ["many", "arcs", "load"] (sp3 isSurp surpD)
theorem h_surplus (B : Bl mg) (T : TopF K mg "surplus" s_surplus) : HSurp P w K mg base := by
  obtain ⟨f, fd, hm, F⟩ := T
  refine ⟨f, fd, hm, F.kp, F.binds (ps := ["many", "arcs", "load"]) fun _ _ _ _ _ _ us hl => match us, hl with | [_, _, _], _ => rfl, F.ok sc_surplus (fun vs H Q E h => len3 h) (fun cdv A outer s H vs Q E hr h => ?_)⟩
  have nd := sc_surplus.nd
  have hu := hu_of hr
  obtain ⟨G, ds, gh, ra, ⟨_, _, ld, rfl, ⟨n, as, ls, rfl, rfl, hls, hll, hn, hok⟩⟩, k⟩ := h
  refine ⟨_, (pss_cons (ps_set (i := 3) nd rfl (by first | exact Or.inl rfl | exact Or.inr rfl) (pe_op op_rep (pe_lst (pa_cons pe_int pa_nil)) (pv 0)))
    (pss_cons (ps_for PassesOwn.never rfl (kzip (K := K) (by rfl) B.zip (pa_cons (pv 1) (pa_cons (pv 2) pa_nil))) (ktg (K := K) (n := 2) (pgs_cons (pg_name (i := 4) nd rfl (by first | exact Or.inl rfl | exact Or.inr rfl)) (pgs_cons (pg_name (i := 5) nd rfl (by first | exact Or.inl rfl | exact Or.inr rfl)) pgs_nil)))
      (pss_cons (ps_augS (pv 3) (pe_ix (kix (K := K)) (pv 4) pe_int (fun _ _ => rfl)) (kget (K := K)) (pv 5) ip_sub set_list)
    (pss_one (ps_augS (pv 3) (pe_ix (kix (K := K)) (pv 4) pe_int (fun _ _ => rfl)) (kget (K := K)) (pv 5) ip_add set_list))))
    (pss_one (ps_ret (pe_callTy (ktup (K := K)) (by rfl) B.tuple (by decide +kernel) (pa_cons (pv 3) pa_nil)))))), ?_⟩
  have A0 := at_start (N := N_surplus) gh ra (Nat.le_of_ble_eq_true rfl)
  refine s_setFq A0 (Gf.cast (gf_rep (n := n) (g_lst (ga_cons g_int ga_nil) (by show 1 ≤ 100000; decide)) (g_var rfl) (by show 1 * n ≤ 100000; omega) (by omega)) (flat_zero n)) fun p G1 H1 σ1 h0 A1 => ?_
  refine s_forq (fun j δ' M' => ∃ s4 s5, δ' = [.dat (natD n), .dat (arcsD as), .dat ld, .val (.ref p), s4, s5] ∧ M' = [(p, .lst (intsD (surpK n as ls j)))]) A1 (gi_zipQ (ga_v2 rfl rfl) hls (by rw [List.length_map, intsD_len]; exact hll)) ⟨_, _, rfl, rfl⟩ ?_ ?_
  · rintro c' i d δ' M' G2 H2 σ2 v e1 e2 e3 hd ⟨s4, s5, rfl, rfl⟩ A2 rv
    obtain ⟨a, x, ha, hx, rfl⟩ := zip_get hd
    obtain ⟨hat, hah⟩ := hok a (List.mem_of_getElem? ha)
    refine gg_tup (ggs_cons gg_name (ggs_cons gg_name ggs_nil)) rfl c' G2 H2 σ2 v _ A2 rv fun G3 H3 σ3 A3 _ _ _ => ?_
    refine s_augItemq (k := 0) (n := a.t) A3 rfl rfl (g_ix (n := 0) (g_var (d := arcD a) rfl) g_int rfl rfl) (intsD_get (by rw [surpK_len]; exact hat)) (g_var rfl) fun G4 H4 A4 => ?_
    rw [intsD_set] at A4
    refine s_augItem (k := 0) (n := a.h) A4 rfl rfl (g_ix (n := 1) (g_var (d := arcD a) rfl) g_int rfl rfl) (intsD_get (by rw [List.length_set, surpK_len]; exact hah)) (g_var rfl) fun G5 H5 A5 => ?_
    rw [intsD_set] at A5
    exact ⟨_, _, G5, ⟨_, _, rfl, by rw [surpK_snoc ha hx]; rfl⟩, A5⟩
  · rintro δ' M' G2 H2 σ2 ⟨s4, s5, rfl, rfl⟩ A2
    have hz : (zipD (as.map arcD) (intsD ls)).length = as.length := by
      unfold zipD
      rw [List.length_zipWith, List.length_map, intsD_len]
      omega
    rw [hz, surpK_all hll] at A2
    exact s_ret A2 (g_tupOwn (k := 0) rfl rfl) fun G' H' v A' r => k G' H' v A'.ev (by show Rep G' v (surpD _ _ _); rw [surpD_eq hls]; exact r)
abbrev s_no_flow : Stmt := topS 19
abbrev N_no_flow : List Str := ["net"]
theorem sc_no_flow : FnScope N_no_flow ["net"] (defScope s_no_flow) := ⟨rfl, rfl, rfl, by decide +kernel, rfl, by decide +kernel, by decide +kernel⟩
abbrev HNoFlow (P : Program) (w : World) (K : PySem.W.Frag) (mg : Str → Option Value) (base : Heap) (C : Addr) : Prop := HasX P w K mg base "no_flow" 6 ["net"] (sX1 C netSmall noFlowD)
theorem h_no_flow (B : Bl mg) (R : RefT P K mg C fI O) (T : TopF K mg "no_flow" s_no_flow) (h_check_net : HCheck P w K mg base C) : HNoFlow P w K mg base C := by
  obtain ⟨f, fd, hm, F⟩ := T
  refine ⟨f, fd, hm, F.kp, F.binds (ps := ["net"]) fun _ _ _ _ _ _ us hl => match us, hl with | [_], _ => rfl, F.okX sc_no_flow (fun vs H Q E h => lenX1 h) (fun cdv A outer s H vs Q E hr h => ?_)⟩
  have nd := sc_no_flow.nd
  have hu := hu_of hr
  obtain ⟨G, ds, gh, ra, ⟨d, rfl, hsm⟩, kO, kE⟩ := h
  refine ⟨_, (pss_one (ps_ret (pe_op (krep1 (K := K)) (pe_tup (pa_cons pe_int pa_nil)) (pe_callB (klen (K := K)) (by rfl) B.len (by decide +kernel) (pa_cons (pe_ix (kix (K := K)) (pe_callHX h_check_net (hr.mono (by decide)) (takes_of rfl rfl rfl rfl) (pa_cons (pv 0) pa_nil)) pe_int (fun _ _ => rfl)) pa_nil))))), ?_⟩
  have A0 := at_start (N := N_no_flow) gh ra (Nat.le_of_ble_eq_true rfl)
  have e0 : ∀ x, noFlowD d = x → (fun | [a] => noFlowD a | _ => Except.ok PyData.none : List PyData → Except PyData PyData) [d] = x := fun x e => e
  cases hn : netOf d with
  | none =>
    have ec : checkD d = .error d := by unfold checkD; rw [hn]
    have en : noFlowD d = .error d := by unfold noFlowD; rw [hn]
    refine e_ret (e_op A0 (g_tup (ga_cons g_int ga_nil) (by show 1 ≤ 100000; decide)) fun G1 H1 v1 A1 r1 => e_cb (e_cons (e_op1 ?_)))
    exact e_cX1 A1 (ga_v rfl) trivial ec fun G' H' v' dx A' r hx => kE d (e0 _ en) G' H' v' dx A'.ev r hx
  | some p =>
    obtain ⟨n, as⟩ := p
    have ec : checkD d = .ok (netD n as) := by unfold checkD; rw [hn]
    have en : noFlowD d = .ok (loadD (List.replicate as.length 0)) := by unfold noFlowD; rw [hn]
    have hl := hsm n as hn
    refine s_ret A0 (g_rep1 (n := as.length) (g_tup (ga_cons g_int ga_nil) (by show 1 ≤ 100000; decide)) (Gv.cast (g_len (ga_cons (g_ix (n := 1) (g_cX1 (ga_v rfl) trivial ec) g_int rfl rfl) ga_nil) rfl) (by rw [List.length_map])) hl) fun G' H' v A' r => kO _ (e0 _ en) G' H' v A'.ev ?_
    rw [← rep_int]
    exact r
where
  rep_int {n : Nat} : PyData.tuple (List.replicate n (.int 0)) = loadD (List.replicate n 0) := by
    unfold loadD intsD
    rw [List.map_replicate]
abbrev s_fits : Stmt := topS 20
abbrev N_fits : List Str := ["many", "arcs", "ends", "value", "found", "node"]
theorem sc_fits : FnScope N_fits ["many", "arcs", "ends", "value"] (defScope s_fits) := ⟨rfl, rfl, rfl, by decide +kernel, rfl, by decide +kernel, by decide +kernel⟩
abbrev HFits (P : Program) (w : World) (K : PySem.W.Frag) (mg : Str → Option Value) (base : Heap) : Prop := Has P w K mg base "fits" CX0 5 ["many", "arcs", "ends", "value"] (sp4 isFits fitsD)
theorem h_fits (B : Bl mg) (T : TopF K mg "fits" s_fits) (h_are_borne : HBorne P w K mg base) (h_surplus : HSurp P w K mg base) : HFits P w K mg base := by
  obtain ⟨f, fd, hm, F⟩ := T
  refine ⟨f, fd, hm, F.kp, F.binds (ps := ["many", "arcs", "ends", "value"]) fun _ _ _ _ _ _ us hl => match us, hl with | [_, _, _, _], _ => rfl, F.ok sc_fits (fun vs H Q E h => len4 h) (fun cdv A outer s H vs Q E hr h => ?_)⟩
  have nd := sc_fits.nd
  have hu := hu_of hr
  obtain ⟨G, ds, gh, ra, ⟨_, _, _, v, rfl, ⟨n, as, es, rfl, rfl, rfl, hn, hok⟩⟩, k⟩ := h
  refine ⟨_, (pss_cons (ps_if (pt_not (pt_val (pe_callH h_are_borne (hr.mono (by decide)) (pa_cons (pv 1) (pa_cons (pv 3) pa_nil))))) (pss_one (ps_ret pe_bl)) pss_nil)
    (pss_cons (ps_set (i := 4) nd rfl (by first | exact Or.inl rfl | exact Or.inr rfl) (pe_callH h_surplus (hr.mono (by decide)) (pa_cons (pv 0) (pa_cons (pv 1) (pa_cons (pv 3) pa_nil)))))
    (pss_one (ps_ret (pe_callB (kall (K := K)) (by rfl) B.all (by decide +kernel) (pa_cons (pe_lc (own := [("node", 5)]) rfl nd (pi_range1 (by rfl) B.range (pa_cons (pv 0) pa_nil)) (blkOk_by (N := N_fits) (sc := defScope s_fits) (by decide +kernel)) (fun _ _ _ _ _ => (pg_name (i := 5) nd rfl (by first | exact Or.inl rfl | exact Or.inr rfl))) (fun _ _ _ _ _ => pts_nil) (fun _ _ _ _ _ => (pe_or (pe_cmpR op_eq (pe_ix (kix (K := K)) (pv 4) (pv 5) (fun _ _ => rfl)) pe_int (nomark _)) (pe_one (pe_cmpR (kin (K := K)) (pv 5) (pv 2) (by with_unfolding_all rfl)))))) pa_nil)))))), ?_⟩
  have A0 := at_start (N := N_fits) gh ra (Nat.le_of_ble_eq_true rfl)
  have e0 : fitsD (natD n) (arcsD as) (.tuple (natsD es)) v = match loadOf as v with | some l => .bool (fitsB n as es l) | none => .bool false := by
    unfold fitsD
    rw [arcsOfD_D, natOf_D]
    show (match loadOf as v with | some l => PyData.bool (fitsB n as ((natsD es).map natOf) l) | none => .bool false) = _
    rw [natsOf_D]
  have k' : ∀ b, fitsD (natD n) (arcsD as) (.tuple (natsD es)) v = b → ∀ G' H' u, Ev [] G H G' H' → Rep G' u b → Q u H' := fun b e G' H' u ev r => k G' H' u ev (by show Rep G' u (fitsD _ _ _ _); rw [e]; exact r)
  refine s_ifq A0 (gt_not (gt_b (g_c2 (ga_v2 rfl rfl) ⟨as, rfl⟩))) (fun z G1 H1 A1 => ?_) fun z G1 H1 A1 => ?_
  · have z1 : (loadOf (arcsOfD (arcsD as)) v).isSome = false := (Bool.not_eq_true' _).mp z
    rw [arcsOfD_D] at z1
    refine s_ret A1 g_bl fun G' H' u A' r => k' _ ?_ G' H' u A'.ev r
    rw [e0]
    cases h : loadOf as v with
    | none => rfl
    | some l => rw [h] at z1; cases z1
  · have z1 : (loadOf (arcsOfD (arcsD as)) v).isSome = true := (Bool.not_eq_false' _).mp z
    rw [arcsOfD_D] at z1
    obtain ⟨l, z2⟩ := Option.isSome_iff_exists.mp z1
    obtain ⟨hs, hl⟩ := loadOf_seq z2
    refine s_setq A1 (Gv.cast (g_c3 (ga_v3 rfl rfl rfl) ⟨n, as, l, rfl, rfl, hs, hl, hn, hok⟩) (surpD_eq hs)) fun G2 H2 σ2 A2 => ?_
    refine s_ret A2 (Gv.cast (g_allMap (fun d => decide ((surplus n as l).getD (natOf d) 0 = 0) || decide (natOf d ∈ es)) (δ' := fun y => [.dat (natD n), .dat (arcsD as), .dat (.tuple (natsD es)), .dat v, .dat (loadD (surplus n as l)), .dat y]) (gi_range (n := n) (ga_v rfl) (by omega)) (by rw [rangeD_len]; omega) (fun x y _ => gg_name) (fun x y hy => ?_)) (d := .bool (fitsB n as es l)) ?_) fun G' H' u A' r => k' _ (by rw [e0, z2]) G' H' u A'.ev r
    · obtain ⟨j, hj, rfl⟩ := List.mem_map.mp hy
      have hjn : j < n := List.mem_range.mp hj
      refine Gv.cast (da := .bool (decide ((surplus n as l).getD j 0 = 0) || decide ((j : Int) ∈ es.map fun m : Nat => (m : Int)))) (g_or (g_eqI (g_ix (n := j) (g_var rfl) (g_var rfl) rfl (intsD_get (by rw [surplus_len]; exact hjn))) g_int) fun _ => g_inI (ns := es.map fun m : Nat => (m : Int)) (g_var rfl) (g_var rfl) ?_) ?_
      · show some (natsD es) = some _
        rw [List.map_map]
        rfl
      · show PyData.bool _ = PyData.bool _
        rw [show natOf (PyData.int (j : Int)) = j from natOf_D j]
        congr 2
        rw [Bool.eq_iff_iff]
        simp only [decide_eq_true_eq, List.mem_map]
        constructor
        · rintro ⟨m, hm, e⟩
          have : m = j := by omega
          rw [← this]; exact hm
        · intro h
          exact ⟨j, h, rfl⟩
    · unfold fitsB rangeD
      rw [List.all_map]
      congr 2
end
end Od
set_option Elab.async false
set_option linter.all false
set_option autoImplicit false
set_option maxRecDepth 100000
set_option maxHeartbeats 4000000
/-! W6: left_of, can_go, side_of, least_left, gone. -/
namespace Od
open PySem PySem.Spec L2
def stepOf (a w : PyData) : Step := ⟨natOf a, decide (intOf w = 1)⟩
def stepOfD (d : PyData) : Step := match seqOf d with
  | some [a, w] => stepOf a w
  | _ => ⟨0, false⟩
theorem stepOf_D (s : Step) : stepOf (natD s.at_) (.int (wayI s.w)) = s := by
  unfold stepOf
  rw [natOf_D]
  obtain ⟨i, w⟩ := s
  cases w <;> rfl
theorem stepOfD_D (s : Step) : stepOfD (stepD s) = s := stepOf_D s
def isLeft (a l i w : PyData) : Prop := ∃ (as : List Arc) (ls : List Int) (s : Step), a = arcsD as ∧ l = loadD ls ∧ as.length = ls.length ∧ i = natD s.at_ ∧ w = .int (wayI s.w) ∧ s.at_ < as.length
def leftD (a l i w : PyData) : PyData := capD (leftOf (arcsOfD a) (intsOf l) (stepOf i w))
def canD (a l i w : PyData) : PyData := .bool (canGo (arcsOfD a) (intsOf l) (stepOf i w))
theorem intsOf_load (ls : List Int) : intsOf (loadD ls) = ls := by
  show (intsD ls).map intOf = ls
  exact intsOf_D ls
theorem leftD_eq (as : List Arc) (ls : List Int) (s : Step) : leftD (arcsD as) (loadD ls) (natD s.at_) (.int (wayI s.w)) = capD (leftOf as ls s) := by
  unfold leftD
  rw [arcsOfD_D, intsOf_load, stepOf_D]
theorem canD_eq (as : List Arc) (ls : List Int) (s : Step) : canD (arcsD as) (loadD ls) (natD s.at_) (.int (wayI s.w)) = .bool (canGo as ls s) := by
  unfold canD
  rw [arcsOfD_D, intsOf_load, stepOf_D]
theorem arcs_get {as : List Arc} {i : Nat} (h : i < as.length) : (as.map arcD)[i]? = some (arcD (as.getD i default)) := by
  rw [List.getElem?_map, List.getElem?_eq_getElem h, List.getD_eq_getElem?_getD, List.getElem?_eq_getElem h]
  rfl
theorem way_back (w : Bool) : decide (wayI w = -1) = !w := by cases w <;> rfl
theorem way_forth (w : Bool) : decide (wayI w = 1) = w := by cases w <;> rfl
def isSide (a s : PyData) : Prop := ∃ (as : List Arc) (st : Step), a = arcsD as ∧ s = stepD st ∧ st.at_ < as.length
def sideD (a s : PyData) : PyData := .tuple [natD (sideOf (arcsOfD a) (stepOfD s)).1, natD (sideOf (arcsOfD a) (stepOfD s)).2]
theorem sideD_eq (as : List Arc) (st : Step) : sideD (arcsD as) (stepD st) = .tuple [natD (sideOf as st).1, natD (sideOf as st).2] := by
  unfold sideD
  rw [arcsOfD_D, stepOfD_D]
def stepsOf (d : PyData) : List Step := match seqOf d with
  | some xs => xs.map stepOfD
  | none => []
def stepsD (ss : List Step) : PyData := .tuple (ss.map stepD)
theorem stepsOf_D (ss : List Step) : stepsOf (stepsD ss) = ss := by
  show (ss.map stepD).map stepOfD = ss
  rw [List.map_map]
  exact (List.map_congr_left fun s _ => stepOfD_D s).trans (List.map_id ss)
def isLeast (a l s : PyData) : Prop := ∃ (as : List Arc) (ls : List Int) (ss : List Step), a = arcsD as ∧ l = loadD ls ∧ as.length = ls.length ∧ s = stepsD ss ∧ ∀ st ∈ ss, st.at_ < as.length
def leastD (a l s : PyData) : PyData := capD (leastLeft (arcsOfD a) (intsOf l) (stepsOf s))
theorem leastD_eq (as : List Arc) (ls : List Int) (ss : List Step) : leastD (arcsD as) (loadD ls) (stepsD ss) = capD (leastLeft as ls ss) := by
  unfold leastD
  rw [arcsOfD_D, intsOf_load, stepsOf_D]
theorem known_map (as : List Arc) (ls : List Int) (ss : List Step) : ((ss.map fun s => capD (leftOf as ls s)).filter fun d => !isNone d) = intsD (knownOf as ls ss) := by
  induction ss with
  | nil => rfl
  | cons s ss ih =>
    rw [List.map_cons]
    unfold knownOf
    rw [List.filterMap_cons]
    cases h : leftOf as ls s with
    | none =>
      rw [List.filter_cons_of_neg (by intro z; cases z)]
      exact ih
    | some x =>
      rw [List.filter_cons_of_pos (by rfl)]
      show PyData.int x :: _ = PyData.int x :: _
      rw [ih]
      rfl
theorem minOf_in : ∀ {l : List Int}, l ≠ [] → minOf l ∈ l ∧ ∀ y ∈ l, minOf l ≤ y
  | [], h => absurd rfl h
  | [x], _ => ⟨List.mem_singleton_self _, fun y hy => by rw [List.mem_singleton.mp hy]; exact Int.le_refl _⟩
  | x :: y :: r, _ => by
    obtain ⟨h1, h2⟩ := minOf_in (l := y :: r) (by simp)
    show min x (minOf (y :: r)) ∈ _ ∧ ∀ z ∈ _, min x (minOf (y :: r)) ≤ z
    refine ⟨?_, fun z hz => ?_⟩
    · by_cases h : x ≤ minOf (y :: r)
      · rw [Int.min_eq_left h]; exact List.mem_cons_self ..
      · rw [Int.min_eq_right (by omega)]; exact List.mem_cons_of_mem _ h1
    · rcases List.mem_cons.mp hz with rfl | hz
      · exact Int.min_le_left _ _
      · exact Int.le_trans (Int.min_le_right _ _) (h2 z hz)
def isGone (l s m : PyData) : Prop := ∃ (ls : List Int) (ss : List Step), l = loadD ls ∧ s = stepsD ss ∧ isInt m ∧ ls.length ≤ 1000 ∧ ∀ st ∈ ss, st.at_ < ls.length
def goneD (l s m : PyData) : PyData := loadD (gone (intsOf l) (stepsOf s) (intOf m))
theorem gone_len (l : List Int) (ss : List Step) (x : Int) : (gone l ss x).length = l.length := by
  unfold gone
  induction ss generalizing l with
  | nil => rfl
  | cons s ss ih => rw [List.foldl_cons, ih, List.length_set]
theorem gone_snoc {l : List Int} {ss : List Step} {x : Int} {k : Nat} {s : Step} (h : ss[k]? = some s) : gone l (ss.take (k + 1)) x = (gone l (ss.take k) x).set s.at_ ((gone l (ss.take k) x).getD s.at_ 0 + wayI s.w * x) := by
  unfold gone
  rw [take_snoc h, List.foldl_append]
  rfl
section
variable {P : Program} {w : World} {K : PySem.W.Frag} {mg : Str → Option Value} {base : Heap} {C fI O : Addr}
abbrev s_left_of : Stmt := topS 21
abbrev N_left_of : List Str := ["arcs", "load", "at", "way"]
theorem sc_left_of : FnScope N_left_of ["arcs", "load", "at", "way"] (defScope s_left_of) := ⟨rfl, rfl, rfl, by decide +kernel, rfl, by decide +kernel, by decide +kernel⟩
abbrev HLeft (P : Program) (w : World) (K : PySem.W.Frag) (mg : Str → Option Value) (base : Heap) : Prop := Has P w K mg base "left_of" CX0 1 ["arcs", "load", "at", "way"] (sp4 isLeft leftD)
theorem h_left_of (B : Bl mg) (T : TopF K mg "left_of" s_left_of) : HLeft P w K mg base := by
  obtain ⟨tb, h_back⟩ := B.back
  obtain ⟨f, fd, hm, F⟩ := T
  refine ⟨f, fd, hm, F.kp, F.binds (ps := ["arcs", "load", "at", "way"]) fun _ _ _ _ _ _ us hl => match us, hl with | [_, _, _, _], _ => rfl, F.ok sc_left_of (fun vs H Q E h => len4 h) (fun cdv A outer s H vs Q E hr h => ?_)⟩
  have nd := sc_left_of.nd
  have hu := hu_of hr
  obtain ⟨G, ds, gh, ra, ⟨_, _, _, _, rfl, ⟨as, ls, s, rfl, rfl, hl, rfl, rfl, hs⟩⟩, k⟩ := h
  refine ⟨_, (pss_cons (ps_if (pt_cmpR op_eq (pv 3) (pe_glob (v := .int (-1)) (by rfl) h_back ⟨_, rfl⟩) (nomark _)) (pss_one (ps_ret (pe_ix (kix (K := K)) (pv 1) (pv 2) (fun _ _ => rfl)))) pss_nil)
    (pss_one (ps_ret (pe_ifExp (pt_cmp (pc_isN (pe_ix (kix (K := K)) (pe_ix (kix (K := K)) (pv 0) (pv 2) (fun _ _ => rfl)) pe_int (fun _ _ => rfl))) rfl) pe_non (pe_op op_sub (pe_ix (kix (K := K)) (pe_ix (kix (K := K)) (pv 0) (pv 2) (fun _ _ => rfl)) pe_int (fun _ _ => rfl)) (pe_ix (kix (K := K)) (pv 1) (pv 2) (fun _ _ => rfl))))))), ?_⟩
  have A0 := at_start (N := N_left_of) gh ra (Nat.le_of_ble_eq_true rfl)
  have k' : ∀ b, capD (leftOf as ls s) = b → ∀ G' H' u, Ev [] G H G' H' → Rep G' u b → Q u H' := fun b e G' H' u ev r => k G' H' u ev (by show Rep G' u (leftD _ _ _ _); rw [leftD_eq, e]; exact r)
  have va : Gv [.dat (arcsD as), .dat (loadD ls), .dat (natD s.at_), .dat (.int (wayI s.w))] [] (tOp (rIx K) (tOp (rIx K) (tVar 0) (tVar 2)) (tC (.int 2))) (capD (as.getD s.at_ default).c) := g_ix (n := 2) (g_ix (n := s.at_) (g_var rfl) (g_var rfl) rfl (arcs_get hs)) g_int rfl rfl
  have vl : Gv [.dat (arcsD as), .dat (loadD ls), .dat (natD s.at_), .dat (.int (wayI s.w))] [] (tOp (rIx K) (tVar 1) (tVar 2)) (.int (ls.getD s.at_ 0)) := g_ix (n := s.at_) (g_var rfl) (g_var rfl) rfl (intsD_get (by omega))
  refine s_ifq A0 (gt_test (g_eqI (g_var rfl) g_int)) (fun z G1 H1 A1 => ?_) fun z G1 H1 A1 => ?_
  · rw [way_back] at z
    refine s_ret A1 vl fun G' H' u A' r => k' _ ?_ G' H' u A'.ev r
    unfold leftOf
    have hw : s.w = false := (Bool.not_eq_true' _).mp z
    rw [hw]
    rfl
  · rw [way_back] at z
    have hw : s.w = true := (Bool.not_eq_false' _).mp z
    refine s_ret A1 (g_if (gt_b (g_isN va)) (fun z => ?_) fun z => ?_) fun G' H' u A' r => k' _ rfl G' H' u A'.ev r
    · cases hc : (as.getD s.at_ default).c with
      | none =>
        have e : leftOf as ls s = none := by unfold leftOf; rw [hw, hc]; rfl
        rw [e]
        exact g_non
      | some c => rw [hc] at z; cases z
    · cases hc : (as.getD s.at_ default).c with
      | none => rw [hc] at z; cases z
      | some c =>
        have e : leftOf as ls s = some (c - ls.getD s.at_ 0) := by unfold leftOf; rw [hw, hc]; rfl
        rw [e]
        rw [hc] at va
        exact g_op0 va vl
abbrev s_can_go : Stmt := topS 22
abbrev N_can_go : List Str := ["arcs", "load", "at", "way"]
theorem sc_can_go : FnScope N_can_go ["arcs", "load", "at", "way"] (defScope s_can_go) := ⟨rfl, rfl, rfl, by decide +kernel, rfl, by decide +kernel, by decide +kernel⟩
abbrev HCan (P : Program) (w : World) (K : PySem.W.Frag) (mg : Str → Option Value) (base : Heap) : Prop := Has P w K mg base "can_go" CX0 2 ["arcs", "load", "at", "way"] (sp4 isLeft canD)
theorem h_can_go (B : Bl mg) (T : TopF K mg "can_go" s_can_go) (h_left_of : HLeft P w K mg base) : HCan P w K mg base := by
  obtain ⟨f, fd, hm, F⟩ := T
  refine ⟨f, fd, hm, F.kp, F.binds (ps := ["arcs", "load", "at", "way"]) fun _ _ _ _ _ _ us hl => match us, hl with | [_, _, _, _], _ => rfl, F.ok sc_can_go (fun vs H Q E h => len4 h) (fun cdv A outer s H vs Q E hr h => ?_)⟩
  have nd := sc_can_go.nd
  have hu := hu_of hr
  obtain ⟨G, ds, gh, ra, ⟨_, _, _, _, rfl, ⟨as, ls, s, rfl, rfl, hl, rfl, rfl, hs⟩⟩, k⟩ := h
  refine ⟨_, (pss_one (ps_ret (pe_cmpR op_ne (pe_callH h_left_of (hr.mono (by decide)) (pa_cons (pv 0) (pa_cons (pv 1) (pa_cons (pv 2) (pa_cons (pv 3) pa_nil))))) pe_int (nomark _)))), ?_⟩
  have A0 := at_start (N := N_can_go) gh ra (Nat.le_of_ble_eq_true rfl)
  have v : Gv [.dat (arcsD as), .dat (loadD ls), .dat (natD s.at_), .dat (.int (wayI s.w))] [] (tCall (sp4 isLeft leftD) [] E0 (tCons (tVar 0) (tCons (tVar 1) (tCons (tVar 2) (tCons (tVar 3) tNil))))) (capD (leftOf as ls s)) := Gv.cast (g_c4 (ga_v4 rfl rfl rfl rfl) ⟨as, ls, s, rfl, rfl, hl, rfl, rfl, hs⟩) (leftD_eq as ls s)
  refine s_ret (d := .bool (canGo as ls s)) A0 ?_ fun G' H' u A' r => k G' H' u A'.ev (by show Rep G' u (canD _ _ _ _); rw [canD_eq]; exact r)
  unfold canGo
  cases h : leftOf as ls s with
  | none =>
    rw [h] at v
    exact g_ne v g_int rfl rfl rfl
  | some x =>
    rw [h] at v
    refine Gv.cast (g_neI v g_int) ?_
    congr 2
    simp
abbrev s_side_of : Stmt := topS 23
abbrev N_side_of : List Str := ["arcs", "step", "tail", "head", "most"]
theorem sc_side_of : FnScope N_side_of ["arcs", "step"] (defScope s_side_of) := ⟨rfl, rfl, rfl, by decide +kernel, rfl, by decide +kernel, by decide +kernel⟩
abbrev HSide (P : Program) (w : World) (K : PySem.W.Frag) (mg : Str → Option Value) (base : Heap) : Prop := Has P w K mg base "side_of" CX0 1 ["arcs", "step"] (sp2 isSide sideD)
theorem h_side_of (B : Bl mg) (T : TopF K mg "side_of" s_side_of) : HSide P w K mg base := by
  obtain ⟨tf, h_forth⟩ := B.forth
  obtain ⟨f, fd, hm, F⟩ := T
  refine ⟨f, fd, hm, F.kp, F.binds (ps := ["arcs", "step"]) fun _ _ _ _ _ _ us hl => match us, hl with | [_, _], _ => rfl, F.ok sc_side_of (fun vs H Q E h => len2 h) (fun cdv A outer s H vs Q E hr h => ?_)⟩
  have nd := sc_side_of.nd
  have hu := hu_of hr
  obtain ⟨G, ds, gh, ra, ⟨_, _, rfl, ⟨as, s, rfl, rfl, hs⟩⟩, k⟩ := h
  refine ⟨_, (pss_cons (ps_asg (pe_ix (kix (K := K)) (pv 0) (pe_ix (kix (K := K)) (pv 1) pe_int (fun _ _ => rfl)) (fun _ _ => rfl)) (ktg (K := K) (n := 3) (pgs_cons (pg_name (i := 2) nd rfl (by first | exact Or.inl rfl | exact Or.inr rfl)) (pgs_cons (pg_name (i := 3) nd rfl (by first | exact Or.inl rfl | exact Or.inr rfl)) (pgs_cons (pg_name (i := 4) nd rfl (by first | exact Or.inl rfl | exact Or.inr rfl)) pgs_nil)))))
    (pss_one (ps_ret (pe_ifExp (pt_cmpR op_eq (pe_ix (kix (K := K)) (pv 1) pe_int (fun _ _ => rfl)) (pe_glob (v := .int (1)) (by rfl) h_forth ⟨_, rfl⟩) (nomark _)) (pe_tup (pa_cons (pv 2) (pa_cons (pv 3) pa_nil))) (pe_tup (pa_cons (pv 3) (pa_cons (pv 2) pa_nil))))))), ?_⟩
  have A0 := at_start (N := N_side_of) gh ra (Nat.le_of_ble_eq_true rfl)
  refine s_asgq A0 (g_ix (n := s.at_) (g_var rfl) (g_ix (n := 0) (g_var rfl) g_int rfl rfl) rfl (arcs_get hs)) (gg_tup (ggs_cons gg_name (ggs_cons gg_name (ggs_cons gg_name ggs_nil))) rfl) fun G1 H1 σ1 A1 => ?_
  refine s_ret (d := .tuple [natD (sideOf as s).1, natD (sideOf as s).2]) A1 (g_if (gt_test (g_eqI (g_ix (n := 1) (g_var (d := stepD s) rfl) g_int rfl rfl) g_int)) (fun z => ?_) fun z => ?_) fun G' H' u A' r => k G' H' u A'.ev (by show Rep G' u (sideD _ _); rw [sideD_eq]; exact r)
  · rw [way_forth] at z
    refine Gv.cast (g_tup (ga_v2 rfl rfl) (by show 2 ≤ 100000; decide)) ?_
    unfold sideOf
    rw [z]
    rfl
  · rw [way_forth] at z
    refine Gv.cast (g_tup (ga_v2 rfl rfl) (by show 2 ≤ 100000; decide)) ?_
    unfold sideOf
    rw [z]
    rfl
abbrev s_least_left : Stmt := topS 28
abbrev N_least_left : List Str := ["arcs", "load", "steps", "found", "at", "way", "known", "one"]
theorem sc_least_left : FnScope N_least_left ["arcs", "load", "steps"] (defScope s_least_left) := ⟨rfl, rfl, rfl, by decide +kernel, rfl, by decide +kernel, by decide +kernel⟩
abbrev HLeast (P : Program) (w : World) (K : PySem.W.Frag) (mg : Str → Option Value) (base : Heap) : Prop := Has P w K mg base "least_left" CX0 2 ["arcs", "load", "steps"] (sp3 isLeast leastD)
theorem h_least_left (B : Bl mg) (T : TopF K mg "least_left" s_least_left) (h_left_of : HLeft P w K mg base) : HLeast P w K mg base := by
  obtain ⟨f, fd, hm, F⟩ := T
  refine ⟨f, fd, hm, F.kp, F.binds (ps := ["arcs", "load", "steps"]) fun _ _ _ _ _ _ us hl => match us, hl with | [_, _, _], _ => rfl, F.ok sc_least_left (fun vs H Q E h => len3 h) (fun cdv A outer s H vs Q E hr h => ?_)⟩
  have nd := sc_least_left.nd
  have hu := hu_of hr
  obtain ⟨G, ds, gh, ra, ⟨_, _, _, rfl, ⟨as, ls, ss, rfl, rfl, hl, rfl, hs⟩⟩, k⟩ := h
  refine ⟨_, (pss_cons (ps_setLcQ (i := 3) (own := [("at", 4), ("way", 5)]) rfl nd (kseq (K := K) (pv 2)) (blkOk_by (N := N_least_left) (sc := defScope s_least_left) (by decide +kernel)) (fun _ _ _ _ _ => (ktg (K := K) (n := 2) (pgs_cons (pg_name (i := 4) nd rfl (by first | exact Or.inl rfl | exact Or.inr rfl)) (pgs_cons (pg_name (i := 5) nd rfl (by first | exact Or.inl rfl | exact Or.inr rfl)) pgs_nil)))) (fun _ _ _ _ _ => pts_nil) (fun _ _ _ _ _ => (pe_callH h_left_of (hr.mono (by decide)) (pa_cons (pv 0) (pa_cons (pv 1) (pa_cons (pv 4) (pa_cons (pv 5) pa_nil)))))))
    (pss_cons (ps_setLcQ (i := 6) (own := [("one", 7)]) rfl nd (kseq (K := K) (pv 3)) (blkOk_by (N := N_least_left) (sc := defScope s_least_left) (by decide +kernel)) (fun _ _ _ _ _ => (pg_name (i := 7) nd rfl (by first | exact Or.inl rfl | exact Or.inr rfl))) (fun _ _ _ _ _ => (pts_one (pt_cmp (pc_notN (pv 7)) rfl))) (fun _ _ _ _ _ => (pv 7)))
    (pss_one (ps_ret (pe_ifExp (pt_cmpR op_gt (pe_callB (klen (K := K)) (by rfl) B.len (by decide +kernel) (pa_cons (pv 6) pa_nil)) pe_int (nomark _)) (pe_callB (kmin (K := K)) (by rfl) B.min (by decide +kernel) (pa_cons (pv 6) pa_nil)) pe_non))))), ?_⟩
  have A0 := at_start (N := N_least_left) gh ra (Nat.le_of_ble_eq_true rfl)
  have zl : ss.length ≤ 100000 := by
    have := A0.seqLen (i := 2) (d := stepsD ss) rfl rfl
    rw [List.length_map] at this
    exact this
  refine s_setq A0 (Gv.cast (g_map (ds := ss.map stepD) (fun d => capD (leftOf as ls (stepOfD d))) (δ' := fun y => [.dat (arcsD as), .dat (loadD ls), .dat (stepsD ss), .any, .dat (natD (stepOfD y).at_), .dat (.int (wayI (stepOfD y).w)), .any, .any]) (gi_seq (g_var rfl) rfl) (by rw [List.length_map]; exact zl) (fun x y hy => ?_) (fun x y hy => ?_)) (d := .list (ss.map fun s => capD (leftOf as ls s))) ?_) fun G1 H1 σ1 A1 => ?_
  · obtain ⟨s, _, rfl⟩ := List.mem_map.mp hy
    rw [stepOfD_D]
    exact gg_tup (ggs_cons gg_name (ggs_cons gg_name ggs_nil)) rfl
  · obtain ⟨s, hs1, rfl⟩ := List.mem_map.mp hy
    rw [stepOfD_D]
    exact Gv.cast (g_c4 (ga_v4 rfl rfl rfl rfl) ⟨as, ls, s, rfl, rfl, hl, rfl, rfl, hs s hs1⟩) (leftD_eq as ls s)
  · rw [List.map_map]
    congr 1
    exact List.map_congr_left fun s _ => by show capD (leftOf as ls (stepOfD (stepD s))) = _; rw [stepOfD_D]
  have kl : (knownOf as ls ss).length ≤ 100000 := Nat.le_trans (List.length_filterMap_le _ _) zl
  refine s_setq A1 (Gv.cast (g_lc (ds := ss.map fun s => capD (leftOf as ls s)) (fun d => !isNone d) id (δ' := fun y => [.dat (arcsD as), .dat (loadD ls), .dat (stepsD ss), .dat (.list (ss.map fun s => capD (leftOf as ls s))), .any, .any, .any, .dat y]) (gi_seq (g_var rfl) rfl) (by rw [List.length_map]; exact zl) (fun x y hy => gg_name) (fun x y hy => gt_b (g_notN (g_var rfl))) (fun x y hy _ => g_var rfl)) (d := .list (intsD (knownOf as ls ss))) (by rw [List.map_id, known_map])) fun G2 H2 σ2 A2 => ?_
  refine s_ret (d := capD (leastLeft as ls ss)) A2 (g_if (gt_test (g_opB (g_len (ga_v rfl) rfl) g_int)) (fun z => ?_) fun z => ?_) fun G' H' u A' r => k G' H' u A'.ev (by show Rep G' u (leastD _ _ _); rw [leastD_eq]; exact r)
  · have hne : knownOf as ls ss ≠ [] := fun e => by
      rw [e] at z
      cases z
    obtain ⟨m1, m2⟩ := minOf_in hne
    unfold leastLeft
    have he : (knownOf as ls ss).isEmpty = false := by
      cases h : knownOf as ls ss with
      | nil => exact absurd h hne
      | cons a b => rfl
    rw [he]
    exact g_min (ns := knownOf as ls ss) (ga_v rfl) (List.length_pos_iff.mpr hne) m1 m2
  · have he : knownOf as ls ss = [] := by
      cases h : knownOf as ls ss with
      | nil => rfl
      | cons a b =>
        rw [h] at z
        have z2 : decide ((0 : Int) < ((intsD (a :: b)).length : Int)) = false := z
        have z3 := of_decide_eq_false z2
        rw [intsD_len, List.length_cons] at z3
        omega
    unfold leastLeft
    rw [he]
    exact g_non
abbrev s_gone : Stmt := topS 29
abbrev N_gone : List Str := ["load", "steps", "many", "found", "at", "way"]
theorem sc_gone : FnScope N_gone ["load", "steps", "many"] (defScope s_gone) := ⟨rfl, rfl, rfl, by decide +kernel, rfl, by decide +kernel, by decide +kernel⟩
abbrev HGone (P : Program) (w : World) (K : PySem.W.Frag) (mg : Str → Option Value) (base : Heap) : Prop := Has P w K mg base "gone" CX0 1 ["load", "steps", "many"] (sp3 isGone goneD)
theorem h_gone (B : Bl mg) (T : TopF K mg "gone" s_gone) : HGone P w K mg base := by
  obtain ⟨f, fd, hm, F⟩ := T
  refine ⟨f, fd, hm, F.kp, F.binds (ps := ["load", "steps", "many"]) fun _ _ _ _ _ _ us hl => match us, hl with | [_, _, _], _ => rfl, F.ok sc_gone (fun vs H Q E h => len3 h) (fun cdv A outer s H vs Q E hr h => ?_)⟩
  have nd := sc_gone.nd
  have hu := hu_of hr
  obtain ⟨G, ds, gh, ra, ⟨_, _, _, rfl, ⟨ls, ss, rfl, rfl, ⟨m, rfl⟩, hl, hs⟩⟩, k⟩ := h
  refine ⟨_, (pss_cons (ps_set (i := 3) nd rfl (by first | exact Or.inl rfl | exact Or.inr rfl) (pe_callTy (klst (K := K)) (by rfl) B.list (by decide +kernel) (pa_cons (pv 0) pa_nil)))
    (pss_cons (ps_for PassesOwn.never rfl (kseq (K := K) (pv 1)) (ktg (K := K) (n := 2) (pgs_cons (pg_name (i := 4) nd rfl (by first | exact Or.inl rfl | exact Or.inr rfl)) (pgs_cons (pg_name (i := 5) nd rfl (by first | exact Or.inl rfl | exact Or.inr rfl)) pgs_nil)))
      (pss_one (ps_augS (pv 3) (pv 4) (kget (K := K)) (pe_op op_mul (pv 5) (pv 2)) ip_add set_list)))
    (pss_one (ps_ret (pe_callTy (ktup (K := K)) (by rfl) B.tuple (by decide +kernel) (pa_cons (pv 3) pa_nil)))))), ?_⟩
  have A0 := at_start (N := N_gone) gh ra (Nat.le_of_ble_eq_true rfl)
  refine s_setFq A0 (gf_lstOf (ds := intsD ls) (ga_v rfl) rfl) fun p G1 H1 σ1 h0 A1 => ?_
  refine s_forq (ds := ss.map stepD) (fun j δ' M' => ∃ s4 s5, δ' = [.dat (loadD ls), .dat (stepsD ss), .dat (.int m), .val (.ref p), s4, s5] ∧ M' = [(p, .lst (intsD (gone ls (ss.take j) m)))]) A1 (gi_seq (g_var rfl) rfl) ⟨_, _, rfl, rfl⟩ ?_ ?_
  · rintro c' i d δ' M' G2 H2 σ2 v e1 e2 e3 hd ⟨s4, s5, rfl, rfl⟩ A2 rv
    rw [List.getElem?_map] at hd
    obtain ⟨s, hs1, rfl⟩ := Option.map_eq_some_iff.mp hd
    have hat := hs s (List.mem_of_getElem? hs1)
    refine gg_tup (ggs_cons gg_name (ggs_cons gg_name ggs_nil)) rfl c' G2 H2 σ2 v _ A2 rv fun G3 H3 σ3 A3 _ _ _ => ?_
    refine s_augItem (k := 0) (n := s.at_) A3 rfl rfl (g_var rfl) (intsD_get (by rw [gone_len]; exact hat)) (g_opC (g_var rfl) (g_var rfl) (.inl (by cases s.w <;> decide))) fun G4 H4 A4 => ?_
    rw [intsD_set] at A4
    exact ⟨_, _, G4, ⟨_, _, rfl, by rw [gone_snoc hs1]; rfl⟩, A4⟩
  · rintro δ' M' G2 H2 σ2 ⟨s4, s5, rfl, rfl⟩ A2
    rw [List.length_map, List.take_length] at A2
    exact s_ret A2 (g_tupOwn (k := 0) rfl rfl) fun G' H' v A' r => k G' H' v A'.ev (by
      show Rep G' v (goneD _ _ _)
      unfold goneD
      rw [intsOf_load, stepsOf_D]
      exact r)
end
end Od
set_option Elab.async false
set_option linter.all false
set_option autoImplicit false
set_option maxRecDepth 100000
set_option maxHeartbeats 4000000
/-! W7: own lists of own lists; leads_of. -/
namespace Od
open PySem PySem.Spec L2
section
variable {c : Ct} {δ : List Sl} {M M' : Mem} {K : PySem.W.Frag} {ta tb te te0 : TE} {t : TA} {d : PyData} {ds : List PyData} {G H : Hp} {σ : L2.St} {D : Ends} {w : TS} {Q : VK}
theorem At.perm (A : At c δ M G H σ) (h : M'.Perm M) : At c δ M' G H σ := A.forgetM (fun x hx => h.mem_iff.mp hx) ((h.map _).nodup_iff.mpr A.nd)
/-- [[] for _ in range(n)] -/
theorem lc_rows {n j : Nat} (A : At c δ M G H σ) (hn : n ≤ 100000) (ha : Ga δ M t [.int (n : Nat)])
    (k : ∀ (Dp : Addr) (ps : List Addr) (G' H' : Hp), ps.length = n → c.H0 Dp = none → At c δ ((Dp, .raw (.lst (ps.map V.ref))) :: (ps.map (fun p => (p, MO.lst [])) ++ M)) G' H' σ → Q (.ref Dp) H') : tLc (iRng1 t) (gName j) tYes (tLst tNil) [j] σ H Q :=
  gi_range ha hn c G H σ _ A fun G0 H0 J A0 s0 wk => fun Dp nD => by
    refine ⟨fun i m H' => m = n - i ∧ i ≤ n ∧ ∃ (ps : List Addr) (G' : Hp), ps.length = i ∧ At c δ ((Dp, .raw (.lst (ps.map V.ref))) :: (ps.map (fun p => (p, MO.lst [])) ++ M)) G' H' σ ∧ Same G0 G', ⟨n, rfl, Nat.zero_le _, [], G0, rfl, A0.lay (o := .raw (.lst [])) (u := .lst []) nD rfl, .refl _⟩, ?_⟩
    rintro i m H' ⟨rfl, hil, ps, G', hps, A', s'⟩
    by_cases hlt : i < n
    · have hd : (rangeD n)[i]? = some (.int (i : Nat)) := by
        unfold rangeD
        rw [List.getElem?_map, List.getElem?_range hlt]
        rfl
      obtain ⟨go, yl⟩ := (wk i G' H' s' A'.gh).1 _ hd
      refine .inr ⟨go, fun H'' => ∃ (ps : List Addr) (G'' : Hp), ps.length = i + 1 ∧ At c δ ((Dp, .raw (.lst (ps.map V.ref))) :: (ps.map (fun p => (p, MO.lst [])) ++ M)) G'' H'' σ ∧ Same G0 G'', fun H'' hN => ⟨n - (i + 1), by omega, rfl, hlt, hN⟩, fun x H1 hy => ?_⟩
      obtain ⟨G1, e1, r1⟩ := yl x H1 hy
      have A1 := A'.ext e1
      refine ⟨wipe_set1, ?_⟩
      unfold tYes
      refine (if_pos rfl).mpr ⟨Nat.zero_le _, fun p hp => ?_⟩
      have A2 := A1.lay (o := .lst []) (u := .lst []) hp ⟨[], rfl, .nil, Nat.zero_le _⟩
      have hDm := (A2.mem Dp _ (List.mem_cons_of_mem _ (List.mem_cons_self ..))).2.2
      obtain ⟨u, hu, rfl⟩ := hDm
      refine ⟨ps.map V.ref, hu, by rw [List.length_map, hps]; exact lim_lt (by omega), ps ++ [p], G1, by rw [List.length_append, hps]; rfl, ?_, s'.trans e1.gg⟩
      have A3 := A2.write (k := 1) (o' := .raw (.lst (ps.map V.ref ++ [V.ref p]))) (u := .lst (ps.map V.ref ++ [V.ref p])) rfl rfl
      refine A3.perm ?_
      rw [List.map_append, List.map_append]
      show List.Perm ((Dp, _) :: ((ps.map (fun p => (p, MO.lst [])) ++ [(p, MO.lst [])]) ++ M)) ((p, MO.lst []) :: (Dp, _) :: (ps.map (fun p => (p, MO.lst [])) ++ M))
      refine List.Perm.trans (List.Perm.cons _ ?_) (List.Perm.swap _ _ _)
      rw [List.append_assoc]
      exact List.perm_middle
    · have ei : i = n := by omega
      subst ei
      exact .inl ⟨(wk _ G' H' s' A'.gh).2 (rangeD_len _).symm, k Dp ps G' H' hps (A0.fresh nD).1 A'⟩
/-- [te for v in xs], xs an own list of values -/
theorem lc_raw {Dp : Addr} {xs : List V} {i j : Nat} (f : Nat → PyData) (hi : δ[i]? = some (.val (.ref Dp))) (hm : (Dp, MO.raw (.lst xs)) ∈ M) (hl : xs.length ≤ 100000) (hj : j < δ.length)
    (he : ∀ n v x, xs[n]? = some v → Gv ((wipeS δ [j]).set j (.val v)) (x :: M) te (f n)) : Gv δ M (tLc (iSeq K (tVar i)) (gName j) tYes te [j]) (.list ((List.range xs.length).map f)) := fun c G H σ Q A k => by
  obtain ⟨_, _, u0, hu0, rfl⟩ := A.mem Dp _ hm
  refine .inl ⟨_, A.sl i _ hi, Dp, rfl, ⟨xs, SqL.of hu0⟩, fun R nD => ?_⟩
  refine ⟨fun n m H' => m = xs.length - n ∧ n ≤ xs.length ∧ ∃ G', At c δ ((R, .lst ((List.range n).map f)) :: M) G' H' σ ∧ Same G G', ⟨xs.length, rfl, Nat.zero_le _, G, A.lay nD ⟨[], rfl, .nil, by simp⟩, .refl _⟩, ?_⟩
  rintro n m H' ⟨rfl, hnl, G', A', s'⟩
  obtain ⟨_, _, u, hu, rfl⟩ := A'.mem Dp _ (List.mem_cons_of_mem _ hm)
  have hq : SqL K H' Dp xs := SqL.of hu
  by_cases hlt : n < xs.length
  · have hv : xs[n]? = some xs[n] := List.getElem?_eq_getElem hlt
    refine .inr ⟨⟨xs, xs[n], hq, hv⟩, fun H'' => ∃ G'', At c δ ((R, .lst ((List.range (n + 1)).map f)) :: M) G'' H'' σ ∧ Same G G'', fun H'' hN => ⟨xs.length - (n + 1), by omega, rfl, hlt, hN⟩, fun x H1 hy => ?_⟩
    obtain ⟨rfl, hall⟩ := hy
    have := getElem?_idx (hall xs hq) hv
    subst this
    refine ⟨wipe_set1, ?_⟩
    unfold tYes
    refine (if_pos rfl).mpr ?_
    have A2 := (A'.wipe [j]).set (i := j) (s := .val xs[n]) (v := xs[n]) rfl
    refine he n _ _ hv c G' _ _ _ A2 fun G3 H3 y A3 s3 r3 => ?_
    obtain ⟨hg4, hs4, u4, hu4, ys, rfl, ra, hl4⟩ := A3.mem R _ (List.mem_cons_self ..)
    refine ⟨ys, hu4, by rw [ra.length, List.length_map, List.length_range]; exact lim_lt (by omega), G3, ?_, s'.trans s3⟩
    have B := A3.write (k := 0) (o' := .lst ((List.range (n + 1)).map f)) (u := .lst (ys ++ [y])) rfl ⟨_, rfl, by rw [List.range_succ, List.map_append]; exact ra.append (.one r3), by rw [List.length_map, List.length_range]; omega⟩
    exact B.slots A (s'.trans s3)
  · have ei : n = xs.length := by omega
    subst ei
    refine .inl ⟨⟨xs, hq, Nat.le_refl _⟩, ?_⟩
    obtain ⟨ys, hx, B, sB, rB⟩ := A'.freeze (k := 0) rfl (A.fresh nD).1
    exact k _ _ _ B (s'.trans sB) rB
theorem gx_raw {Dp : Addr} {xs : List V} {i n : Nat} {v : V} (hi : δ[i]? = some (.val (.ref Dp))) (hm : (Dp, MO.raw (.lst xs)) ∈ M) (hb : Gv δ M tb (.int (n : Nat))) (h : xs[n]? = some v) : Gx δ M (tOp (rIx K) (tVar i) tb) v := fun c G H σ Q A k => by
  refine ⟨_, A.sl i _ hi, hb c G H σ _ A fun G1 H1 w A1 s1 r1 => ?_⟩
  obtain ⟨_, _, u1, hu1, rfl⟩ := A1.mem Dp _ hm
  rw [r1.intV]
  exact .inl ⟨Dp, xs, _, v, rfl, rfl, SqL.of hu1, atI_nat h, k G1 H1 A1 s1⟩
theorem s_appendX {k : Nat} {p : Addr} (A : At c δ M G H σ) (g0 : Gx δ M te0 (.ref p)) (hk : M[k]? = some (p, .lst ds)) (g : Gv δ M te d) (hl : ds.length < 100000)
    (kk : ∀ G' H', At c δ (M.set k (p, .lst (ds ++ [d]))) G' H' σ → D.nx σ H') : tDrop (tBM K "list" rAppend te0 (tCons te tNil)) D σ H :=
  g0 c G H σ _ A fun G0 H0 A0 s0 => by
    obtain ⟨_, _, u, hu, xs, rfl, _, _⟩ := A0.mem p _ (List.mem_of_getElem? hk)
    refine ⟨.inl ⟨rfl, xs, SqL.of hu⟩, g c G0 H0 σ _ A0 fun G1 H1 v A1 _ r1 => ?_⟩
    obtain ⟨_, _, u1, hu1, ys, rfl, ra, z⟩ := A1.mem p _ (List.mem_of_getElem? hk)
    refine ⟨p, ys, v, rfl, rfl, hu1, by rw [ra.length]; exact lim_lt (by omega), ?_⟩
    exact kk _ _ (A1.write hk ⟨_, rfl, ra.append (.one r1), by rw [List.length_append, List.length_singleton]; omega⟩)
end
end Od
set_option Elab.async false
set_option linter.all false
set_option autoImplicit false
set_option maxRecDepth 100000
set_option maxHeartbeats 4000000
/-! W8: leads_of. -/
namespace Od
open PySem PySem.Spec L2
def isLeads (m a : PyData) : Prop := ∃ (n : Nat) (as : List Arc), m = natD n ∧ a = arcsD as ∧ okArcs n as ∧ as.length ≤ 1000
def leadsFD (m a : PyData) : PyData := leadsD (leadsOf (natOf m) (arcsOfD a))
def rowsM (ps : List Addr) (rows : List (List Lead)) : Mem := List.zipWith (fun p r => (p, MO.lst (r.map leadD))) ps rows
theorem rowsM_nil (ps : List Addr) : ps.map (fun p => (p, MO.lst [])) = rowsM ps (List.replicate ps.length []) := by
  unfold rowsM
  induction ps with
  | nil => rfl
  | cons p ps ih =>
    rw [List.map_cons, List.length_cons, List.replicate_succ, List.zipWith_cons_cons, ih]
    rfl
theorem rowsM_get {ps : List Addr} {rows : List (List Lead)} {i : Nat} {p : Addr} {r : List Lead} (h1 : ps[i]? = some p) (h2 : rows[i]? = some r) : (rowsM ps rows)[i]? = some (p, .lst (r.map leadD)) := by
  unfold rowsM
  rw [List.getElem?_zipWith, h1, h2]
theorem rowsM_set : ∀ {ps : List Addr} {rows : List (List Lead)} {i : Nat} {p : Addr} {r : List Lead}, ps[i]? = some p → (rowsM ps rows).set i (p, .lst (r.map leadD)) = rowsM ps (rows.set i r)
  | [], _, i, p, r, h => by cases h
  | _ :: _, [], i, p, r, h => by cases i <;> rfl
  | q :: ps, x :: rows, 0, p, r, h => by
    cases h
    rfl
  | q :: ps, x :: rows, i + 1, p, r, h => by
    show _ :: (rowsM ps rows).set i _ = _ :: rowsM ps (rows.set i r)
    rw [rowsM_set (ps := ps) (rows := rows) (i := i) (p := p) (r := r) (show ps[i]? = some p from h)]
theorem addLead_row (f : List (List Lead)) (v : Nat) (x : Lead) (w : Nat) : ((addLead f v x).getD w []).length ≤ (f.getD w []).length + 1 := by
  unfold addLead
  rw [List.getD_eq_getElem?_getD, List.getD_eq_getElem?_getD, List.getD_eq_getElem?_getD]
  by_cases h : v = w
  · subst h
    by_cases hl : v < f.length
    · rw [List.getElem?_set_self hl]
      show (_ ++ [x]).length ≤ _
      rw [List.length_append]
      exact Nat.le_refl _
    · rw [List.getElem?_eq_none (by rw [List.length_set]; omega)]
      exact Nat.zero_le _
  · rw [List.getElem?_set_ne h]
    omega
theorem leadsK_row (n : Nat) (as : List Arc) (w : Nat) : ∀ k, ((leadsK n as k).getD w []).length ≤ 2 * k
  | 0 => by
    show ((List.replicate n []).getD w []).length ≤ 0
    rw [List.getD_eq_getElem?_getD, List.getElem?_replicate]
    split <;> exact Nat.le_refl _
  | k + 1 => by
    have h0 := leadsK_row n as w k
    show ((addLead (addLead _ _ _) _ _).getD w []).length ≤ _
    have h1 := addLead_row (addLead (leadsK n as k) (as.getD k default).t ⟨⟨k, true⟩, (as.getD k default).h⟩) (as.getD k default).h ⟨⟨k, false⟩, (as.getD k default).t⟩ w
    have h2 := addLead_row (leadsK n as k) (as.getD k default).t ⟨⟨k, true⟩, (as.getD k default).h⟩ w
    omega
theorem row_get {f : List (List Lead)} {v : Nat} (h : v < f.length) : f[v]? = some (f.getD v []) := by
  rw [List.getD_eq_getElem?_getD, List.getElem?_eq_getElem h]
  rfl
section
variable {P : Program} {w : World} {K : PySem.W.Frag} {mg : Str → Option Value} {base : Heap} {C fI O : Addr}
abbrev s_leads_of : Stmt := topS 24
abbrev N_leads_of : List Str := ["many", "arcs", "found", "_", "at", "tail", "head", "most", "row"]
theorem sc_leads_of : FnScope N_leads_of ["many", "arcs"] (defScope s_leads_of) := ⟨rfl, rfl, rfl, by decide +kernel, rfl, by decide +kernel, by decide +kernel⟩
abbrev HLeads (P : Program) (w : World) (K : PySem.W.Frag) (mg : Str → Option Value) (base : Heap) : Prop := Has P w K mg base "leads_of" CX0 1 ["many", "arcs"] (sp2 isLeads leadsFD)
theorem h_leads_of (B : Bl mg) (T : TopF K mg "leads_of" s_leads_of) : HLeads P w K mg base := by
  obtain ⟨tf, h_forth⟩ := B.forth
  obtain ⟨tb, h_back⟩ := B.back
  obtain ⟨f, fd, hm, F⟩ := T
  refine ⟨f, fd, hm, F.kp, F.binds (ps := ["many", "arcs"]) fun _ _ _ _ _ _ us hl => match us, hl with | [_, _], _ => rfl, F.ok sc_leads_of (fun vs H Q E h => len2 h) (fun cdv A outer s H vs Q E hr h => ?_)⟩
  have nd := sc_leads_of.nd
  have hu := hu_of hr
  obtain ⟨G, ds, gh, ra, ⟨_, _, rfl, ⟨n, as, rfl, rfl, ⟨hn, hok⟩, hal⟩⟩, k⟩ := h
  refine ⟨_, (pss_cons (ps_setLcQ (i := 2) (own := [("_", 3)]) rfl nd (pi_range1 (by rfl) B.range (pa_cons (pv 0) pa_nil)) (blkOk_by (N := N_leads_of) (sc := defScope s_leads_of) (by decide +kernel)) (fun _ _ _ _ _ => (pg_name (i := 3) nd rfl (by first | exact Or.inl rfl | exact Or.inr rfl))) (fun _ _ _ _ _ => pts_nil) (fun _ _ _ _ _ => (pe_lst pa_nil)))
    (pss_cons (ps_for PassesOwn.never rfl (kenum (K := K) (by rfl) B.enum (pa_cons (pv 1) pa_nil)) (ktg (K := K) (n := 2) (pgs_cons (pg_name (i := 4) nd rfl (by first | exact Or.inl rfl | exact Or.inr rfl)) (pgs_cons (ktg (K := K) (n := 3) (pgs_cons (pg_name (i := 5) nd rfl (by first | exact Or.inl rfl | exact Or.inr rfl)) (pgs_cons (pg_name (i := 6) nd rfl (by first | exact Or.inl rfl | exact Or.inr rfl)) (pgs_cons (pg_name (i := 7) nd rfl (by first | exact Or.inl rfl | exact Or.inr rfl)) pgs_nil)))) pgs_nil)))
      (pss_cons (ps_expr (pe_bm PySem.F.plainAttrs_list PySem.F.slot_list_append PySem.F.type_list_append mt_append (pe_ix (kix (K := K)) (pv 2) (pv 5) (fun _ _ => rfl)) (pa_cons (pe_tup (pa_cons (pv 4) (pa_cons (pe_glob (v := .int (1)) (by rfl) h_forth ⟨_, rfl⟩) (pa_cons (pv 6) pa_nil)))) pa_nil)))
    (pss_one (ps_expr (pe_bm PySem.F.plainAttrs_list PySem.F.slot_list_append PySem.F.type_list_append mt_append (pe_ix (kix (K := K)) (pv 2) (pv 6) (fun _ _ => rfl)) (pa_cons (pe_tup (pa_cons (pv 4) (pa_cons (pe_glob (v := .int (-1)) (by rfl) h_back ⟨_, rfl⟩) (pa_cons (pv 5) pa_nil)))) pa_nil))))))
    (pss_one (ps_ret (pe_callTy (ktup (K := K)) (by rfl) B.tuple (by decide +kernel) (pa_cons (pe_lc (own := [("row", 8)]) rfl nd (kseq (K := K) (pv 2)) (blkOk_by (N := N_leads_of) (sc := defScope s_leads_of) (by decide +kernel)) (fun _ _ _ _ _ => (pg_name (i := 8) nd rfl (by first | exact Or.inl rfl | exact Or.inr rfl))) (fun _ _ _ _ _ => pts_nil) (fun _ _ _ _ _ => (pe_callTy (ktup (K := K)) (by rfl) B.tuple (by decide +kernel) (pa_cons (pv 8) pa_nil)))) pa_nil)))))), ?_⟩
  have A0 := at_start (N := N_leads_of) gh ra (Nat.le_of_ble_eq_true rfl)
  refine e_asgq (lc_rows (n := n) A0 (by omega) (ga_v rfl) fun Dp ps G1 H1 hps h0 A1 => ?_)
  have A2 := A1.set (i := 2) (s := .val (.ref Dp)) (v := .ref Dp) rfl
  rw [List.append_nil, rowsM_nil, hps] at A2
  have hpl : ∀ v, v < n → ∃ p, ps[v]? = some p := fun v hv => ⟨_, List.getElem?_eq_getElem (by rw [hps]; exact hv)⟩
  refine s_forq (ds := enumD (as.map arcD)) (fun j δ' M' => ∃ s3 s4 s5 s6 s7, δ' = [.dat (natD n), .dat (arcsD as), .val (.ref Dp), s3, s4, s5, s6, s7, .any] ∧ M' = (Dp, .raw (.lst (ps.map V.ref))) :: rowsM ps (leadsK n as j)) A2 (gi_enumT (ga_v rfl)) ⟨_, _, _, _, _, rfl, rfl⟩ ?_ ?_
  · rintro c' i d δ' M' G2 H2 σ2 v e1 e2 e3 hd ⟨s3, s4, s5, s6, s7, rfl, rfl⟩ A3 rv
    unfold enumD at hd
    rw [List.getElem?_mapIdx, List.getElem?_map] at hd
    cases hai : as[i]? with
    | none => rw [hai] at hd; cases hd
    | some a =>
      rw [hai] at hd
      cases hd
      obtain ⟨hat, hah⟩ := hok a (List.mem_of_getElem? hai)
      have hil : i < 1000 := Nat.lt_of_lt_of_le (List.getElem?_eq_some_iff.mp hai).1 hal
      have hga : as.getD i default = a := by rw [List.getD_eq_getElem?_getD, hai]; rfl
      obtain ⟨pt, hpt⟩ := hpl _ hat
      obtain ⟨ph, hph⟩ := hpl _ hah
      have lr := leadsK_len n as i
      refine gg_tup (ggs_cons gg_name (ggs_cons (gg_tup (ggs_cons gg_name (ggs_cons gg_name (ggs_cons gg_name ggs_nil))) rfl) ggs_nil)) rfl c' G2 H2 σ2 v _ A3 rv fun G3 H3 σ3 A4 _ _ _ => ?_
      refine s_appendX (k := a.t + 1) A4 (gx_raw (xs := ps.map V.ref) (n := a.t) rfl (List.mem_cons_self ..) (g_var rfl) (by rw [List.getElem?_map, hpt]; rfl)) (rowsM_get hpt (row_get (by rw [lr]; exact hat))) (g_tup (ga_cons (g_var rfl) (ga_cons g_int (ga_cons (g_var rfl) ga_nil))) (by show 3 ≤ 100000; decide)) (by rw [List.length_map]; have := leadsK_row n as a.t i; omega) fun G4 H4 A5 => ?_
      have q1 : (((Dp, MO.raw (.lst (ps.map V.ref))) :: rowsM ps (leadsK n as i)).set (a.t + 1) (pt, .lst (((leadsK n as i).getD a.t []).map leadD ++ [.tuple [.int (i : Nat), .int 1, natD a.h]]))) = (Dp, MO.raw (.lst (ps.map V.ref))) :: rowsM ps (addLead (leadsK n as i) a.t ⟨⟨i, true⟩, a.h⟩) := by
        show _ :: (rowsM ps (leadsK n as i)).set a.t _ = _
        rw [show ((leadsK n as i).getD a.t []).map leadD ++ [PyData.tuple [.int (i : Nat), .int 1, natD a.h]] = ((leadsK n as i).getD a.t [] ++ [(⟨⟨i, true⟩, a.h⟩ : Lead)]).map leadD from by rw [List.map_append]; rfl, rowsM_set hpt]
        rfl
      rw [q1] at A5
      have lr2 := addLead_len (leadsK n as i) a.t ⟨⟨i, true⟩, a.h⟩
      refine s_appendX (k := a.h + 1) A5 (gx_raw (xs := ps.map V.ref) (n := a.h) rfl (List.mem_cons_self ..) (g_var rfl) (by rw [List.getElem?_map, hph]; rfl)) (rowsM_get hph (row_get (by rw [lr2, lr]; exact hah))) (g_tup (ga_cons (g_var rfl) (ga_cons g_int (ga_cons (g_var rfl) ga_nil))) (by show 3 ≤ 100000; decide)) (by rw [List.length_map]; have := leadsK_row n as a.h i; have := addLead_row (leadsK n as i) a.t ⟨⟨i, true⟩, a.h⟩ a.h; omega) fun G5 H5 A6 => ?_
      refine ⟨_, _, G5, ⟨_, _, _, _, _, rfl, ?_⟩, A6⟩
      show _ :: (rowsM ps (addLead (leadsK n as i) a.t ⟨⟨i, true⟩, a.h⟩)).set a.h _ = _
      rw [show ((addLead (leadsK n as i) a.t ⟨⟨i, true⟩, a.h⟩).getD a.h []).map leadD ++ [PyData.tuple [.int (i : Nat), .int (-1), natD a.t]] = ((addLead (leadsK n as i) a.t ⟨⟨i, true⟩, a.h⟩).getD a.h [] ++ [(⟨⟨i, false⟩, a.t⟩ : Lead)]).map leadD from by rw [List.map_append]; rfl, rowsM_set hph]
      show _ = _ :: rowsM ps (leads1 (leadsK n as i) i (as.getD i default))
      rw [hga]
      rfl
  · rintro δ' M' G2 H2 σ2 ⟨s3, s4, s5, s6, s7, rfl, rfl⟩ A3
    have hz : (enumD (as.map arcD)).length = as.length := by
      unfold enumD
      rw [List.length_mapIdx, List.length_map]
    rw [hz] at A3
    have lr := leadsK_len n as as.length
    have fin : (List.range (ps.map V.ref).length).map (fun v => PyData.tuple (((leadsOf n as).getD v []).map leadD)) = (leadsOf n as).map fun row => .tuple (row.map leadD) := by
      refine List.ext_getElem? fun v => ?_
      rw [List.getElem?_map, List.getElem?_map, List.length_map, hps]
      by_cases hv : v < n
      · rw [List.getElem?_range hv, row_get (by show v < (leadsK n as as.length).length; rw [lr]; exact hv)]
        rfl
      · rw [List.getElem?_eq_none (by rw [List.length_range]; omega), List.getElem?_eq_none (by show (leadsK n as as.length).length ≤ v; rw [lr]; omega)]
        rfl
    refine s_ret A3 (Gv.cast (g_tupOf (ga_cons (lc_raw (xs := ps.map V.ref) (fun v => .tuple (((leadsOf n as).getD v []).map leadD)) rfl (List.mem_cons_self ..) (by rw [List.length_map, hps]; omega) (by show 8 < 9; decide) fun v u x hu => ?_) ga_nil) rfl) (d := leadsD (leadsOf n as)) (by rw [fin]; rfl)) fun G' H' u A' r => k G' H' u A'.ev (by
      show Rep G' u (leadsD (leadsOf (natOf (natD n)) (arcsOfD (arcsD as))))
      rw [natOf_D, arcsOfD_D]
      exact r)
    rw [List.getElem?_map] at hu
    obtain ⟨pv, hpv, rfl⟩ := Option.map_eq_some_iff.mp hu
    have hvn : v < n := by
      have := (List.getElem?_eq_some_iff.mp hpv).1
      omega
    exact g_tupOwn (k := v + 2) rfl (rowsM_get hpv (row_get (by rw [lr]; exact hvn)))
end
end Od
set_option Elab.async false
set_option linter.all false
set_option autoImplicit false
set_option maxRecDepth 100000
set_option maxHeartbeats 4000000
/-! W9: come_by, traced, reached. -/
namespace Od
open PySem PySem.Spec L2
def foundK (f : Found) : List (Int × PyData) := f.map fun p => ((p.1 : Int), optD (p.2.map stepD))
theorem foundK_lookup (f : Found) (v : Nat) : (foundK f).lookup (v : Int) = (f.lookup v).map fun o => optD (o.map stepD) := by
  unfold foundK
  induction f with
  | nil => rfl
  | cons p f ih =>
    by_cases h : v = p.1
    · subst h
      simp [List.lookup]
    · have e : (v == p.1) = false := by simpa using h
      have e2 : ((v : Int) == (p.1 : Int)) = false := by
        have : ¬ (v : Int) = (p.1 : Int) := by omega
        simpa using this
      simp only [List.map_cons, List.lookup, e, e2]
      exact ih
theorem foundK_snoc (f : Found) (v : Nat) (o : Option Step) : foundK (f ++ [(v, o)]) = foundK f ++ [((v : Int), optD (o.map stepD))] := by
  unfold foundK
  rw [List.map_append]
  rfl
theorem foundK_len (f : Found) : (foundK f).length = f.length := List.length_map _
theorem keys_snoc (f : Found) (v : Nat) (o : Option Step) : natsD (keys (f ++ [(v, o)])) = natsD (keys f) ++ [natD v] := by
  unfold natsD keys
  rw [List.map_append, List.map_append]
  rfl
theorem keysD_len (f : Found) : (natsD (keys f)).length = f.length := by
  unfold natsD keys
  rw [List.length_map, List.length_map]
/-- the search's question -/
structure Ask (n : Nat) (as : List Arc) (l : List Int) (s : Nat) : Prop where
  ok : okArcs n as
  al : as.length ≤ 1000
  ll : as.length = l.length
  sn : s < n
def spCome : Sp := fun vs H Q _ => ∃ (G : Hp) (n : Nat) (as : List Arc) (l : List Int) (s : Nat), Same G H ∧ RepA G vs [leadsD (leadsOf n as), arcsD as, loadD l, natD s] ∧ Ask n as l s ∧
  ∀ (p : Addr) (G' H' : Hp) (u : HO), H p = none → G' p = none → Ev [] G H G' H' → H' p = some u → MOk G' (.dct (foundK (comeBy n as l s))) u → Q (.ref p) H'
theorem lenC {vs : List V} {H : Hp} {Q : VK} {E : XK} (h : spCome vs H Q E) : vs.length = 4 := by
  obtain ⟨G, n, as, l, s, _, ra, _⟩ := h
  exact ra.length
def spTrace : Sp := fun vs H Q _ => ∃ (G : Hp) (va vn : V) (p : Addr) (as : List Arc) (f : Found) (v : Nat) (u : HO), vs = [va, .ref p, vn] ∧ Same G H ∧ Rep G va (arcsD as) ∧ Rep G vn (natD v) ∧ G p = none ∧ H p = some u ∧ MOk G (.dct (foundK f)) u ∧
  (keys f).Nodup ∧ treeF as f ∧ v ∈ keys f ∧ f.length ≤ 100000 ∧ ∀ (G' H' : Hp) (v' : V), Ev [] G H G' H' → Rep G' v' (stepsD (traced as f v)) → Q v' H'
section
variable {c : Ct} {δ : List Sl} {M : Mem} {K : PySem.W.Frag} {t : TA} {G H : Hp} {σ : L2.St} {Q : VK} {E : XK}
theorem e_come {n : Nat} {as : List Arc} {l : List Int} {s : Nat} (A : At c δ M G H σ) (h : Ga δ M t [leadsD (leadsOf n as), arcsD as, loadD l, natD s]) (a : Ask n as l s)
    (k : ∀ p G' H', c.H0 p = none → At c δ ((p, .dct (foundK (comeBy n as l s))) :: M) G' H' σ → Q (.ref p) H') : tCall spCome [] E t σ H Q :=
  h c G H σ _ A fun G1 H1 vs A1 s1 r1 => by
    rw [List.append_nil]
    exact ⟨G1, n, as, l, s, A1.gh, r1, a, fun p G' H' u hn hg ev hp ok => k p G' H' (A1.fresh hn).1 (A1.got ev hn hg hp ok)⟩
theorem g_trace {as : List Arc} {f : Found} {v i j : Nat} {p : Addr} {tn : TE} (h1 : δ[i]? = some (.dat (arcsD as))) (h2 : δ[j]? = some (.val (.ref p))) (hm : (p, MO.dct (foundK f)) ∈ M) (h3 : Gv δ M tn (natD v)) (nd : (keys f).Nodup) (tr : treeF as f) (hv : v ∈ keys f) (hl : f.length ≤ 100000) :
    Gv δ M (tCall spTrace [] E (tCons (tVar i) (tCons (tVar j) (tCons tn tNil)))) (stepsD (traced as f v)) := fun c G H σ Q A k => by
  obtain ⟨va, hva, ra⟩ := A.sl i _ h1
  refine ⟨va, hva, V.ref p, A.sl j _ h2, h3 c G H σ _ A fun G1 H1 vn A1 s1 r1 => ?_⟩
  obtain ⟨hg, _, u, hu, ok⟩ := A1.mem p _ hm
  show spTrace ([va, V.ref p, vn] ++ []) H1 Q E
  rw [List.append_nil]
  exact ⟨G1, va, vn, p, as, f, v, u, rfl, A1.gh, ra.up s1, r1, hg, hu, ok, nd, tr, hv, hl, fun G' H' v' ev r => k G' H' v' (A1.ext ev) (s1.trans ev.gg) r⟩
end
section
variable {P : Program} {w : World} {K : PySem.W.Frag} {mg : Str → Option Value} {base : Heap} {C fI O : Addr}
abbrev s_come_by : Stmt := topS 25
abbrev N_come_by : List Str := ["leads", "arcs", "load", "start", "found", "line", "here", "at", "way", "there"]
theorem sc_come_by : FnScope N_come_by ["leads", "arcs", "load", "start"] (defScope s_come_by) := ⟨rfl, rfl, rfl, by decide +kernel, rfl, by decide +kernel, by decide +kernel⟩
abbrev HCome (P : Program) (w : World) (K : PySem.W.Frag) (mg : Str → Option Value) (base : Heap) : Prop := Has P w K mg base "come_by" CX0 3 ["leads", "arcs", "load", "start"] spCome
theorem h_come_by (B : Bl mg) (T : TopF K mg "come_by" s_come_by) (h_can_go : HCan P w K mg base) : HCome P w K mg base := by
  obtain ⟨f, fd, hm, F⟩ := T
  refine ⟨f, fd, hm, F.kp, F.binds (ps := ["leads", "arcs", "load", "start"]) fun _ _ _ _ _ _ us hl => match us, hl with | [_, _, _, _], _ => rfl, F.ok sc_come_by (fun vs H Q E h => lenC h) (fun cdv A outer s H vs Q E hr h => ?_)⟩
  have nd := sc_come_by.nd
  have hu := hu_of hr
  obtain ⟨G, n, as, l, s, gh, ra, ⟨ok, hal, hll, hsn⟩, k⟩ := h
  refine ⟨_, (pss_cons (ps_par3 (i := 4) (j := 5) (l := 6) (by rfl) nd rfl rfl rfl (by decide) (by decide) (by decide) rfl rfl rfl (pa_cons (pe_disp (pps_cons (pv 3) pe_non pps_nil) (by rfl) (by rfl) (by simp) (by decide)) (pa_cons (pe_lst (pa_cons (pv 3) pa_nil)) (pa_cons pe_int pa_nil))) (by rfl))
    (pss_cons (ps_while PassesOwn.never (pt_cmpR op_lt (pv 6) (pe_callB (klen (K := K)) (by rfl) B.len (by decide +kernel) (pa_cons (pv 5) pa_nil)) (nomark _))
      (pss_cons (ps_for PassesOwn.never rfl (kseq (K := K) (pe_ix (kix (K := K)) (pv 0) (pe_ix (kix (K := K)) (pv 5) (pv 6) (fun _ _ => rfl)) (fun _ _ => rfl))) (ktg (K := K) (n := 3) (pgs_cons (pg_name (i := 7) nd rfl (by first | exact Or.inl rfl | exact Or.inr rfl)) (pgs_cons (pg_name (i := 8) nd rfl (by first | exact Or.inl rfl | exact Or.inr rfl)) (pgs_cons (pg_name (i := 9) nd rfl (by first | exact Or.inl rfl | exact Or.inr rfl)) pgs_nil))))
      (pss_one (ps_if (PW.pt (pw_and (pt_cmp (pc_dnotin hu (pv 9) (pv 4))) (pw_and1 (pt_val (pe_callH h_can_go (hr.mono (by decide)) (pa_cons (pv 1) (pa_cons (pv 2) (pa_cons (pv 7) (pa_cons (pv 8) pa_nil))))))))) (pss_cons (ps_dput hu (pv 4) (pv 9) (pe_tup (pa_cons (pv 7) (pa_cons (pv 8) pa_nil))) rfl)
    (pss_one (ps_expr (pe_bm PySem.F.plainAttrs_list PySem.F.slot_list_append PySem.F.type_list_append mt_append (pv 5) (pa_cons (pv 9) pa_nil))))) pss_nil)))
    (pss_one (ps_aug (i := 6) nd rfl (by first | exact Or.inl rfl | exact Or.inr rfl) pe_int ip_add))))
    (pss_one (ps_ret (pv 4))))), ?_⟩
  have A0 := at_start (N := N_come_by) gh ra (Nat.le_of_ble_eq_true rfl)
  -- the three names
  refine fun pf hpf => ?_
  have Bf := A0.lay (o := .dct []) (u := .dK []) hpf ⟨[], rfl, .nil, Nat.zero_le _⟩
  obtain ⟨sv, hsv, rs⟩ := Bf.sl 3 (.dat (natD s)) rfl
  refine ⟨sv, hsv, upd_same, [(.inl (s : Int), .non)], by rw [rs.intV]; rfl, by show 1 ≤ 15; decide, ?_⟩
  have A1 := Bf.write (k := 0) (o' := .dct (foundK [(s, none)])) (u := .dK (mergeK [] [(.inl (s : Int), .non)])) rfl ⟨_, rfl, .cons .non .nil, by show 1 ≤ 100000; decide⟩
  refine e_cons (gf_lst (ds := [natD s]) (by exact ga_v rfl) (by show 1 ≤ 100000; decide) _ _ _ _ _ A1 fun pl G2 H2 h0l A2 _ => ⟨_, _, _, rfl, ?_⟩)
  have A3 := ((A2.set (i := 4) (s := .val (.ref pf)) rfl).set (i := 5) (s := .val (.ref pl)) rfl).set (i := 6) (s := .dat (.int ((0 : Nat) : Int))) ⟨_, rfl, .int _⟩
  have h0f : H pf = none := hpf
  have bg := fun i => bfs_good ok (l := l) hsn i
  refine s_seq (s_while (fun m δ' M' => ∃ i s7 s8 s9, m = n - i ∧ i ≤ (bfsN (leadsOf n as) as l s i).length ∧ δ' = [.dat (leadsD (leadsOf n as)), .dat (arcsD as), .dat (loadD l), .dat (natD s), .val (.ref pf), .val (.ref pl), .dat (.int (i : Nat)), s7, s8, s9] ∧
    M' = [(pl, .lst (natsD (keys (bfsN (leadsOf n as) as l s i)))), (pf, .dct (foundK (bfsN (leadsOf n as) as l s i)))]) A3 (m := n) ⟨0, _, _, _, rfl, Nat.zero_le _, rfl, rfl⟩ ?_ ?_)
  · rintro m δ' M' G3 H3 σ3 ⟨i, s7, s8, s9, rfl, hil, rfl, rfl⟩ A4
    refine gt_test (g_opB (g_var rfl) (g_lenOwn (k := 0) rfl rfl)) _ _ _ _ _ A4 fun G4 H4 A5 _ => ?_
    rw [keysD_len]
    have hfl := goodF_len (bg i)
    by_cases hlt : i < (bfsN (leadsOf n as) as l s i).length
    · rw [decide_eq_true (by omega : ((i : Nat) : Int) < ((bfsN (leadsOf n as) as l s i).length : Int)), if_pos rfl]
      obtain ⟨p, hp⟩ : ∃ p, (bfsN (leadsOf n as) as l s i)[i]? = some p := ⟨_, List.getElem?_eq_getElem hlt⟩
      have hpn : p.1 < n := (bg i).2 _ (List.mem_map.mpr ⟨p, List.mem_of_getElem? hp, rfl⟩)
      have hrow : (leadsOf n as)[p.1]? = some ((leadsOf n as).getD p.1 []) := row_get (by show p.1 < (leadsK n as as.length).length; rw [leadsK_len]; exact hpn)
      have hkey : (natsD (keys (bfsN (leadsOf n as) as l s i)))[i]? = some (natD p.1) := by
        unfold natsD keys
        rw [List.getElem?_map, List.getElem?_map, hp]
        rfl
      refine s_forq (ds := ((leadsOf n as).getD p.1 []).map leadD) (fun j δ' M' => ∃ s7 s8 s9, δ' = [.dat (leadsD (leadsOf n as)), .dat (arcsD as), .dat (loadD l), .dat (natD s), .val (.ref pf), .val (.ref pl), .dat (.int (i : Nat)), s7, s8, s9] ∧
        M' = [(pl, .lst (natsD (keys ((((leadsOf n as).getD p.1 []).take j).foldl (see as l) (bfsN (leadsOf n as) as l s i))))), (pf, .dct (foundK ((((leadsOf n as).getD p.1 []).take j).foldl (see as l) (bfsN (leadsOf n as) as l s i))))]) A5
        (gi_seq (g_ix (n := p.1) (g_var (d := leadsD (leadsOf n as)) rfl) (g_own (k := 0) rfl rfl i hkey (g_var rfl)) rfl (by rw [List.getElem?_map, hrow]; rfl)) rfl) ⟨_, _, _, rfl, rfl⟩ ?_ ?_
      · rintro c' j d δ' M' G5 H5 σ5 v e1 e2 e3 hd ⟨t7, t8, t9, rfl, rfl⟩ A6 rv
        rw [List.getElem?_map] at hd
        obtain ⟨x, hx, rfl⟩ := Option.map_eq_some_iff.mp hd
        have hxm := List.mem_of_getElem? hx
        obtain ⟨hxs, _⟩ := leads_side hxm
        have hxl := leads_lt ok hxm
        generalize hf : (((leadsOf n as).getD p.1 []).take j).foldl (see as l) (bfsN (leadsOf n as) as l s i) = f at A6
        have hfg : goodF n f := by
          rw [← hf]
          exact fold_good (bg i) fun y hy => leads_lt ok (List.mem_of_mem_take hy)
        have hflen := goodF_len hfg
        have hn2 := ok.1
        have tk : (((leadsOf n as).getD p.1 []).take (j + 1)).foldl (see as l) (bfsN (leadsOf n as) as l s i) = see as l f x := by
          rw [take_snoc hx, List.foldl_append, hf]
          rfl
        refine gg_tup (ggs_cons gg_name (ggs_cons gg_name (ggs_cons gg_name ggs_nil))) rfl c' G5 H5 σ5 v _ A6 rv fun G6 H6 σ6 A7 _ _ _ => ?_
        have lk := foundK_lookup f x.there
        have can : ∀ δ (M : Mem), δ[1]? = some (.dat (arcsD as)) → δ[2]? = some (.dat (loadD l)) → δ[7]? = some (.dat (natD x.st.at_)) → δ[8]? = some (.dat (.int (wayI x.st.w))) → Gv δ M (tCall (sp4 isLeft canD) [] E0 (tCons (tVar 1) (tCons (tVar 2) (tCons (tVar 7) (tCons (tVar 8) tNil))))) (.bool (canGo as l x.st)) := fun δ M q1 q2 q3 q4 => Gv.cast (g_c4 (ga_v4 q1 q2 q3 q4) ⟨as, l, x.st, rfl, rfl, hll, rfl, rfl, hxs⟩) (canD_eq as l x.st)
        refine s_if A7 (gt_and (gt_b (g_dnotin (n := (x.there : Int)) rfl (List.mem_cons_of_mem _ (List.mem_cons_self ..)) (.inl rfl) (g_var rfl))) fun _ => gt_b (can _ _ rfl rfl rfl rfl)) (fun z G7 H7 A8 => ?_) fun z G7 H7 A8 => ?_
        · rw [lk] at z
          have z2 : ((f.lookup x.there).isNone && canGo as l x.st) = true := by
            cases h : f.lookup x.there with
            | none => rw [h] at z; exact z
            | some o => rw [h] at z; cases z
          have hno : f.lookup x.there = none := Option.isNone_iff_eq_none.mp (Bool.and_eq_true_iff.mp z2).1
          have es : see as l f x = f ++ [(x.there, some x.st)] := by unfold see; rw [if_pos z2]
          refine s_dputq (k := 1) A8 rfl rfl (g_tup (ga_v2 rfl rfl) (by show 2 ≤ 100000; decide)) (g_var (d := natD x.there) rfl) (by rw [lk, hno]; rfl) (by rw [foundK_len]; omega) fun G8 H8 A9 => ?_
          refine s_append (k := 0) A9 rfl rfl (g_var (d := natD x.there) rfl) (by rw [keysD_len]; omega) fun G9 H9 A10 => ?_
          refine ⟨_, _, G9, ⟨_, _, _, rfl, ?_⟩, A10⟩
          rw [tk, es, keys_snoc, foundK_snoc]
          rfl
        · rw [lk] at z
          have z2 : ((f.lookup x.there).isNone && canGo as l x.st) = false := by
            cases h : f.lookup x.there with
            | none => rw [h] at z; exact z
            | some o => rfl
          have es : see as l f x = f := by unfold see; rw [z2]; rfl
          refine ⟨_, _, G7, ⟨_, _, _, rfl, ?_⟩, A8⟩
          rw [tk, es]
      · rintro δ' M' G5 H5 σ5 ⟨t7, t8, t9, rfl, rfl⟩ A6
        rw [List.length_map, List.take_length] at A6
        have en : bfsN (leadsOf n as) as l s (i + 1) = ((leadsOf n as).getD p.1 []).foldl (see as l) (bfsN (leadsOf n as) as l s i) := bfs_succ hp
        refine s_aug A6 (x := (i : Int)) rfl g_int fun G6 H6 σ6 A7 => ?_
        refine ⟨n - (i + 1), by omega, _, _, G6, ⟨i + 1, _, _, _, rfl, ?_, rfl, ?_⟩, A7⟩
        · rw [en]
          exact Nat.le_trans hlt (fold_len _ _)
        · rw [en]
    · have ei : i = (bfsN (leadsOf n as) as l s i).length := by omega
      rw [decide_eq_false (by omega : ¬ ((i : Nat) : Int) < ((bfsN (leadsOf n as) as l s i).length : Int)), if_neg Bool.false_ne_true]
      have en : comeBy n as l s = bfsN (leadsOf n as) as l s i := bfs_stop (by omega) n (by omega)
      refine ⟨_, A5.sl 4 _ rfl, ?_⟩
      obtain ⟨hg, _, u, hu, okm⟩ := A5.mem pf _ (List.mem_cons_of_mem _ (List.mem_cons_self ..))
      exact k pf G4 H4 u hpf hg A5.ev hu (by rw [en]; exact okm)
  · rintro σ H Q Q' h ⟨v, h1, w, h2, p, ys, h3, h4, i, j, h5, h6, b, h7, q⟩
    exact ⟨v, h1, w, h2, p, ys, h3, h4, i, j, h5, h6, b, h7, h b _ q⟩
end
end Od
set_option Elab.async false
set_option linter.all false
set_option autoImplicit false
set_option maxRecDepth 100000
set_option maxHeartbeats 4000000
/-! W10: traced, reached. -/
namespace Od
open PySem PySem.Spec L2
theorem lenT {vs : List V} {H : Hp} {Q : VK} {E : XK} (h : spTrace vs H Q E) : vs.length = 3 := by
  obtain ⟨G, va, vn, p, as, f, v, u, rfl, _⟩ := h
  rfl
/-- ints in order -/
def ins (x : Int) : List Int → List Int
  | [] => [x]
  | y :: r => if x ≤ y then x :: y :: r else y :: ins x r
def sortI : List Int → List Int
  | [] => []
  | x :: r => ins x (sortI r)
theorem ins_perm (x : Int) : ∀ l : List Int, (ins x l).Perm (x :: l)
  | [] => .refl _
  | y :: r => by
    unfold ins
    split
    · exact .refl _
    · exact ((ins_perm x r).cons y).trans (.swap _ _ _)
theorem sortI_perm : ∀ l : List Int, (sortI l).Perm l
  | [] => .refl _
  | x :: r => (ins_perm x _).trans ((sortI_perm r).cons x)
theorem ins_pw (x : Int) : ∀ l : List Int, l.Pairwise (· ≤ ·) → (ins x l).Pairwise (· ≤ ·)
  | [], _ => List.pairwise_singleton _ _
  | y :: r, h => by
    obtain ⟨h1, h2⟩ := List.pairwise_cons.mp h
    unfold ins
    split
    · rename_i hx
      refine List.pairwise_cons.mpr ⟨fun z hz => ?_, h⟩
      rcases List.mem_cons.mp hz with rfl | hz
      · exact hx
      · exact Int.le_trans hx (h1 z hz)
    · rename_i hx
      refine List.pairwise_cons.mpr ⟨fun z hz => ?_, ins_pw x r h2⟩
      rcases List.mem_cons.mp ((ins_perm x r).mem_iff.mp hz) with rfl | hz
      · omega
      · exact h1 z hz
theorem sortI_pw : ∀ l : List Int, (sortI l).Pairwise (· ≤ ·)
  | [] => .nil
  | x :: r => ins_pw x _ (sortI_pw r)
theorem sorted_one : ∀ {a b : List Int}, a.Perm b → a.Pairwise (· ≤ ·) → b.Pairwise (· ≤ ·) → a = b
  | [], b, p, _, _ => (List.nil_perm.mp p).symm
  | x :: a, [], p, _, _ => absurd p.length_eq (by simp)
  | x :: a, y :: b, p, ha, hb => by
    obtain ⟨ha1, ha2⟩ := List.pairwise_cons.mp ha
    obtain ⟨hb1, hb2⟩ := List.pairwise_cons.mp hb
    have e : x = y := by
      have h1 : x ∈ y :: b := p.mem_iff.mp (List.mem_cons_self ..)
      have h2 : y ∈ x :: a := p.mem_iff.mpr (List.mem_cons_self ..)
      rcases List.mem_cons.mp h1 with h1 | h1
      · exact h1
      · rcases List.mem_cons.mp h2 with h2 | h2
        · exact h2.symm
        · exact Int.le_antisymm (ha1 _ h2) (hb1 _ h1)
    subst e
    rw [sorted_one (p.cons_inv) ha2 hb2]
def keysI (f : Found) : List Int := (keys f).map fun v : Nat => (v : Int)
theorem foundK_keys (f : Found) : (foundK f).map (·.1) = keysI f := by
  unfold foundK keysI keys
  rw [List.map_map, List.map_map]
  rfl
def reachedL (n : Nat) (as : List Arc) (l : List Int) (s : Nat) : List Int := sortI (keysI (comeBy n as l s))
def reachedD (d fl st : PyData) : Except PyData PyData := match netOf d with
  | none => .error d
  | some (n, as) => match loadOf as fl with
    | none => .error fl
    | some l => if isBelow st (n : Int) then .ok (loadD (reachedL n as l (natOf st))) else .error st
section
variable {P : Program} {w : World} {K : PySem.W.Frag} {mg : Str → Option Value} {base : Heap} {C fI O : Addr}
abbrev s_traced : Stmt := topS 26
abbrev N_traced : List Str := ["arcs", "found", "node", "steps", "here"]
theorem sc_traced : FnScope N_traced ["arcs", "found", "node"] (defScope s_traced) := ⟨rfl, rfl, rfl, by decide +kernel, rfl, by decide +kernel, by decide +kernel⟩
abbrev HTraced (P : Program) (w : World) (K : PySem.W.Frag) (mg : Str → Option Value) (base : Heap) : Prop := Has P w K mg base "traced" CX0 2 ["arcs", "found", "node"] spTrace
theorem h_traced (B : Bl mg) (T : TopF K mg "traced" s_traced) (h_side_of : HSide P w K mg base) : HTraced P w K mg base := by
  obtain ⟨f, fd, hm, F⟩ := T
  refine ⟨f, fd, hm, F.kp, F.binds (ps := ["arcs", "found", "node"]) fun _ _ _ _ _ _ us hl => match us, hl with | [_, _, _], _ => rfl, F.ok sc_traced (fun vs H Q E h => lenT h) (fun cdv A outer s H vs Q E hr h => ?_)⟩
  have nd := sc_traced.nd
  have hu := hu_of hr
  obtain ⟨G, va, vn, pf, as, f, v, u, rfl, gh, ra, rn, hg, hpu, okm, nd2, tr, hv, hl, k⟩ := h
  refine ⟨_, (pss_cons (ps_par (i := 3) (j := 4) (by rfl) nd rfl rfl (by decide) rfl rfl (pa_cons (pe_lst pa_nil) (pa_cons (pv 2) pa_nil)) (by rfl))
    (pss_cons (ps_while PassesOwn.never (pt_cmp (pc_notN (pe_dget hu (pv 1) (pv 4) (fun _ _ => rfl))) rfl)
      (pss_cons (ps_expr (pe_bm PySem.F.plainAttrs_list PySem.F.slot_list_append PySem.F.type_list_append mt_append (pv 3) (pa_cons (pe_dget hu (pv 1) (pv 4) (fun _ _ => rfl)) pa_nil)))
    (pss_one (ps_set (i := 4) nd rfl (by first | exact Or.inl rfl | exact Or.inr rfl) (pe_ix (kix (K := K)) (pe_callH h_side_of (hr.mono (by decide)) (pa_cons (pv 0) (pa_cons (pe_dget hu (pv 1) (pv 4) (fun _ _ => rfl)) pa_nil))) pe_int (fun _ _ => rfl))))))
    (pss_one (ps_ret (pe_callTy (ktup (K := K)) (by rfl) B.tuple (by decide +kernel) (pa_cons (krev (K := K) (pv 3)) pa_nil)))))), ?_⟩
  have A0 := at_startG (N := N_traced) (ss := [.dat (arcsD as), .val (.ref pf), .dat (natD v)]) (S := []) (M := [(pf, .rd (foundK f))]) gh (.dat ra (.val (.dat rn .nil))) (Nat.le_of_ble_eq_true rfl) (fun p o h => by
    cases List.mem_singleton.mp h
    exact ⟨hg, .inr rfl, u, hpu, okm⟩) (by simp) (fun p h => by cases h)
  refine s_parFq A0 (gf_lst ga_nil (Nat.zero_le _)) (fun x => g_var rfl) fun ps G1 H1 σ1 h0 A1 => ?_
  obtain ⟨i0, o0, hi0⟩ : ∃ (i : Nat) (o : Option Step), f[i]? = some (v, o) := by
    obtain ⟨⟨v', o⟩, hm, rfl⟩ := List.mem_map.mp hv
    obtain ⟨i, hi⟩ := List.getElem?_of_mem hm
    exact ⟨i, o, hi⟩
  have look : ∀ (i v : Nat) (o : Option Step), f[i]? = some (v, o) → (foundK f).lookup (v : Int) = some (optD (o.map stepD)) := fun i v o h => by rw [foundK_lookup, lookup_at nd2 h]; rfl
  refine s_whileq (fun m δ' M' => ∃ (w : Nat) (o : Option Step) (acc : List Step), f[m]? = some (w, o) ∧ trace as f (m + 1) w ++ acc.reverse = traced as f v ∧ acc.length + m < f.length ∧ δ' = [.dat (arcsD as), .val (.ref pf), .dat (natD v), .val (.ref ps), .dat (natD w)] ∧
    M' = [(ps, .lst (acc.map stepD)), (pf, .rd (foundK f))]) A1 (m := i0) ⟨v, o0, [], hi0, ?_, ?_, rfl, rfl⟩ ?_ ?_
  · rw [List.reverse_nil, List.append_nil]
    exact (trace_fuel nd2 tr i0 v o0 hi0 f.length (List.getElem?_eq_some_iff.mp hi0).1).symm
  · have := (List.getElem?_eq_some_iff.mp hi0).1
    show 0 + i0 < f.length
    omega
  · rintro m δ' M' G2 H2 σ2 ⟨w1, o, acc, hm, hacc, hal, rfl, rfl⟩ A2
    have hmd : (pf, MO.rd (foundK f)) ∈ [(ps, MO.lst (acc.map stepD)), (pf, .rd (foundK f))] := List.mem_cons_of_mem _ (List.mem_cons_self ..)
    refine gt_b (g_notN (g_dget (n := (w1 : Int)) rfl hmd (.inr rfl) (g_var (d := natD w1) rfl) (look m w1 o hm))) _ _ _ _ _ A2 fun G3 H3 A3 _ => ?_
    cases o with
    | none =>
      rw [if_neg (by decide)]
      have e0 : trace as f (m + 1) w1 = [] := by
        show (match f.lookup w1 with | some (some st) => _ | _ => []) = []
        rw [lookup_at nd2 hm]
      rw [e0, List.nil_append] at hacc
      refine s_ret (d := stepsD (traced as f v)) A3 (g_tupOf (ds := (traced as f v).map stepD) (ga_cons (Gv.cast (d := .list ((traced as f v).map stepD)) (g_revOwn (k := 0) rfl rfl) (by rw [← hacc, List.map_reverse])) ga_nil) rfl) fun G' H' v' A' r => k G' H' v' A'.ev r
    | some st =>
      rw [if_pos (by rfl)]
      obtain ⟨hst, hsv, j, o', hj, hfj⟩ := tr m w1 st hm
      have e1 : trace as f (m + 1) w1 = trace as f (j + 1) (sideOf as st).1 ++ [st] := by
        show (match f.lookup w1 with | some (some st) => trace as f m (sideOf as st).1 ++ [st] | _ => []) = _
        rw [lookup_at nd2 hm]
        show trace as f m (sideOf as st).1 ++ [st] = _
        rw [trace_fuel nd2 tr j _ _ hfj m hj]
      have hz := A3
      refine s_appendq (k := 0) A3 rfl rfl (g_dget (n := (w1 : Int)) rfl hmd (.inr rfl) (g_var (d := natD w1) rfl) (look m w1 _ hm)) (by rw [List.length_map]; omega) fun G4 H4 A4 => ?_
      have hmd2 : (pf, MO.rd (foundK f)) ∈ [(ps, MO.lst (acc.map stepD ++ [optD (some (stepD st))])), (pf, .rd (foundK f))] := List.mem_cons_of_mem _ (List.mem_cons_self ..)
      refine s_set A4 (g_ix (n := 0) (d := natD (sideOf as st).1) (Gv.cast (g_c2 (ga_cons (g_var rfl) (ga_cons (g_dget (n := (w1 : Int)) rfl hmd2 (.inr rfl) (g_var (d := natD w1) rfl) (look m w1 _ hm)) ga_nil)) ⟨as, st, rfl, rfl, hst⟩) (sideD_eq as st)) g_int rfl rfl) fun G5 H5 σ5 A5 => ?_
      refine ⟨j, hj, _, _, G5, ⟨(sideOf as st).1, o', acc ++ [st], hfj, ?_, ?_, rfl, ?_⟩, A5⟩
      · rw [← hacc, e1, List.reverse_append]
        simp
      · rw [List.length_append, List.length_singleton]
        omega
      · rw [List.map_append]
        rfl
  · rintro σ H Q Q' h ⟨v1, h1, v2, h2, a, x, h3, h4, q⟩
    obtain ⟨b, h5, q⟩ := q
    exact ⟨v1, h1, v2, h2, a, x, h3, h4, b, h5, h b _ q⟩
abbrev s_reached : Stmt := topS 27
abbrev N_reached : List Str := ["net", "flow", "start", "many", "arcs", "load"]
theorem sc_reached : FnScope N_reached ["net", "flow", "start"] (defScope s_reached) := ⟨rfl, rfl, rfl, by decide +kernel, rfl, by decide +kernel, by decide +kernel⟩
abbrev HReached (P : Program) (w : World) (K : PySem.W.Frag) (mg : Str → Option Value) (base : Heap) (C : Addr) : Prop := HasX P w K mg base "reached" 6 ["net", "flow", "start"] (sX3 C (fun d _ _ => netSmall d) reachedD)
theorem h_reached (B : Bl mg) (R : RefT P K mg C fI O) (T : TopF K mg "reached" s_reached) (h_check_net : HCheck P w K mg base C) (h_need_load : HLoad P w K mg base C) (h_need_node : HNode P w K mg base C) (h_come_by : HCome P w K mg base) (h_leads_of : HLeads P w K mg base) : HReached P w K mg base C := by
  obtain ⟨f, fd, hm, F⟩ := T
  refine ⟨f, fd, hm, F.kp, F.binds (ps := ["net", "flow", "start"]) fun _ _ _ _ _ _ us hl => match us, hl with | [_, _, _], _ => rfl, F.okX sc_reached (fun vs H Q E h => lenX3 h) (fun cdv A outer s H vs Q E hr h => ?_)⟩
  have nd := sc_reached.nd
  have hu := hu_of hr
  obtain ⟨G, ds, gh, ra, ⟨d, fl, st, rfl, hsm⟩, kO, kE⟩ := h
  refine ⟨_, (pss_cons (ps_asg (pe_callHX h_check_net (hr.mono (by decide)) (takes_of rfl rfl rfl rfl) (pa_cons (pv 0) pa_nil)) (ktg (K := K) (n := 2) (pgs_cons (pg_name (i := 3) nd rfl (by first | exact Or.inl rfl | exact Or.inr rfl)) (pgs_cons (pg_name (i := 4) nd rfl (by first | exact Or.inl rfl | exact Or.inr rfl)) pgs_nil))))
    (pss_cons (ps_set (i := 5) nd rfl (by first | exact Or.inl rfl | exact Or.inr rfl) (pe_callHX h_need_load (hr.mono (by decide)) (takes_of rfl rfl rfl rfl) (pa_cons (pv 4) (pa_cons (pv 1) pa_nil))))
    (pss_cons (ps_expr (pe_callHX h_need_node (hr.mono (by decide)) (takes_of rfl rfl rfl rfl) (pa_cons (pv 3) (pa_cons (pv 2) pa_nil))))
    (pss_one (ps_ret (pe_callTy (ktup (K := K)) (by rfl) B.tuple (by decide +kernel) (pa_cons (pe_callB (ksorted (K := K)) (by rfl) B.sorted (by decide +kernel) (pa_cons (pe_callTy (call_list_dK rfl) (by rfl) B.list (by decide +kernel) (pa_cons (pe_callH h_come_by (hr.mono (by decide)) (pa_cons (pe_callH h_leads_of (hr.mono (by decide)) (pa_cons (pv 3) (pa_cons (pv 4) pa_nil))) (pa_cons (pv 4) (pa_cons (pv 5) (pa_cons (pv 2) pa_nil))))) pa_nil)) pa_nil)) pa_nil))))))), ?_⟩
  have A0 := at_start (N := N_reached) gh ra (Nat.le_of_ble_eq_true rfl)
  cases hn : netOf d with
  | none =>
    have ec : checkD d = .error d := by unfold checkD; rw [hn]
    have en : reachedD d fl st = .error d := by unfold reachedD; rw [hn]
    exact e_asgq (e_cX1 A0 (ga_v rfl) trivial ec fun G' H' v' dx A' r hx => kE d en G' H' v' dx A'.ev r hx)
  | some p =>
    obtain ⟨n, as⟩ := p
    have ec : checkD d = .ok (netD n as) := by unfold checkD; rw [hn]
    have hal := hsm n as hn
    obtain ⟨oka, hn0, _⟩ := netOf_ok hn
    refine s_asgq A0 (g_cX1 (ga_v rfl) trivial ec) (gg_tup (ggs_cons gg_name (ggs_cons gg_name ggs_nil)) rfl) fun G1 H1 σ1 A1 => ?_
    have el0 : needLoadD (arcsD as) fl = match loadOf as fl with | some l => .ok (loadD l) | none => .error fl := by unfold needLoadD; rw [arcsOfD_D] <;> rfl
    cases hl : loadOf as fl with
    | none =>
      have el : needLoadD (arcsD as) fl = .error fl := by rw [el0, hl]
      have en : reachedD d fl st = .error fl := by unfold reachedD; rw [hn]; dsimp only; rw [hl]
      exact e_asgq (e_cX2 A1 (ga_v2 rfl rfl) ⟨as, rfl⟩ el fun G' H' v' dx A' r hx => kE fl en G' H' v' dx A'.ev r hx)
    | some l =>
      have el : needLoadD (arcsD as) fl = .ok (loadD l) := by rw [el0, hl]
      obtain ⟨_, hll⟩ := loadOf_seq hl
      refine s_setq A1 (g_cX2 (ga_v2 rfl rfl) ⟨as, rfl⟩ el) fun G2 H2 σ2 A2 => ?_
      cases hb : isBelow st (n : Int) with
      | false =>
        have es : needNodeD (natD n) st = .error st := by unfold needNodeD natD; show (if isBelow st (n : Int) = true then _ else _) = _; rw [hb]; rfl
        have en : reachedD d fl st = .error st := by
          unfold reachedD; rw [hn]; dsimp only; rw [hl]; dsimp only; rw [hb]; rfl
        exact e_dropq (e_cX2 A2 (ga_v2 rfl rfl) isInt_i es fun G' H' v' dx A' r hx => kE st en G' H' v' dx A'.ev r hx)
      | true =>
        have es : needNodeD (natD n) st = .ok st := by unfold needNodeD natD; show (if isBelow st (n : Int) = true then _ else _) = _; rw [hb]; rfl
        obtain ⟨s, rfl, hs0, hs1⟩ := isBelow_int hb
        have hsn : PyData.int s = natD s.toNat := by unfold natD; rw [Int.toNat_of_nonneg hs0]
        have en : reachedD d fl (.int s) = .ok (loadD (reachedL n as l s.toNat)) := by
          unfold reachedD; rw [hn]; dsimp only; rw [hl]; dsimp only; rw [hb]; rfl
        refine s_dropq A2 (g_cX2 (ga_v2 rfl rfl) isInt_i es) fun G3 H3 A3 => ?_
        refine e_ret (e_cb (e_cons (e_cb (e_cons (e_cb (e_cons (e_come (n := n) (as := as) (l := l) (s := s.toNat) A3 (ga_cons (Gv.cast (g_c2 (ga_v2 rfl rfl) ⟨n, as, rfl, rfl, oka, hal⟩) ?_) (ga_cons (g_var rfl) (ga_cons (g_var rfl) (ga_cons (Gv.cast (g_var (d := .int s) rfl) hsn) ga_nil)))) ⟨oka, hal, hll, by omega⟩ fun p G4 H4 h0 A4 => ?_)))))))
        · unfold leadsFD
          rw [natOf_D, arcsOfD_D]
        · obtain ⟨xs, hx, rx, hz⟩ := dict_at A4 (List.mem_cons_self ..) (.inl rfl)
          refine ⟨p, xs, rfl, hx, fun q hq => ?_⟩
          rw [rx.keys, foundK_keys]
          have kz : ((keysI (comeBy n as l s.toNat)).map PyData.int).length ≤ 100000 := by
            rw [foundK_len] at hz
            unfold keysI keys
            rw [List.length_map, List.length_map, List.length_map]
            exact hz
          obtain ⟨A5, s5, r5⟩ := at_newL A4 hq kz (RepA.ints (keysI (comeBy n as l s.toNat)))
          refine ⟨q, keysI (comeBy n as l s.toNat), rfl, SqL.of upd_same, fun ms q2 hp ho hq2 => ?_⟩
          have em : ms = reachedL n as l s.toNat := sorted_one (hp.trans (sortI_perm _).symm) ho (sortI_pw _)
          have mz : (ms.map PyData.int).length ≤ 100000 := by
            rw [List.length_map, hp.length_eq]
            rw [List.length_map] at kz
            exact kz
          obtain ⟨A6, s6, r6⟩ := at_newL A5 hq2 mz (RepA.ints ms)
          refine ⟨q2, ms.map V.int, rfl, .inl ⟨SqL.of upd_same, fun q3 hq3 => ?_⟩⟩
          obtain ⟨A7, s7, r7⟩ := at_newT A6 hq3 mz (RepA.ints ms)
          exact kO _ en _ _ _ A7.ev (by rw [← em]; exact r7)
end
end Od
set_option Elab.async false
set_option linter.all false
set_option autoImplicit false
set_option maxRecDepth 100000
set_option maxHeartbeats 4000000
/-! W11: led_by. -/
namespace Od
open PySem PySem.Spec L2
def sp5 (P : PyData → PyData → PyData → PyData → PyData → Prop) (f : PyData → PyData → PyData → PyData → PyData → PyData) : Sp := spD (fun ds => ∃ a b c d e, ds = [a, b, c, d, e] ∧ P a b c d e) (fun | [a, b, c, d, e] => f a b c d e | _ => .none)
theorem g_c5 {δ : List Sl} {M : Mem} {t : TA} {E : XK} {P : PyData → PyData → PyData → PyData → PyData → Prop} {f : PyData → PyData → PyData → PyData → PyData → PyData} {a b c d e : PyData} (h : Ga δ M t [a, b, c, d, e]) (p : P a b c d e) : Gv δ M (tCall (sp5 P f) [] E t) (f a b c d e) := g_call h ⟨a, b, c, d, e, rfl, p⟩
theorem len5 {P : PyData → PyData → PyData → PyData → PyData → Prop} {f : PyData → PyData → PyData → PyData → PyData → PyData} {vs : List V} {H : Hp} {Q : VK} {E : XK} (h : sp5 P f vs H Q E) : vs.length = 5 := by
  obtain ⟨G, ds, _, ra, ⟨_, _, _, _, _, rfl, _⟩, _⟩ := h
  exact ra.length
def isLed (m a st g fl : PyData) : Prop := ∃ (n : Nat) (as : List Arc) (s : Nat) (gs : List Nat) (l : List Int), m = natD n ∧ a = arcsD as ∧ st = natD s ∧ g = .tuple (natsD gs) ∧ fl = loadD l ∧ okArcs n as ∧ as.length ≤ 1000 ∧ s < n ∧ okLoad as l
def ledD (m a st g fl : PyData) : PyData := flowD (led (natOf m) (arcsOfD a) (natOf st) (natsOf g) (intsOf fl))
theorem ledD_eq (n : Nat) (as : List Arc) (s : Nat) (gs : List Nat) (l : List Int) : ledD (natD n) (arcsD as) (natD s) (.tuple (natsD gs)) (loadD l) = flowD (led n as s gs l) := by
  unfold ledD
  rw [natOf_D, arcsOfD_D, natOf_D, intsOf_load]
  show flowD (led n as s ((natsD gs).map natOf) l) = _
  rw [natsOf_D]
theorem some_filter (n : Nat) (as : List Arc) (s : Nat) (gs : List Nat) (l : List Int) : (natsD gs).filter (fun d => ((comeBy n as l s).lookup (natOf d)).isSome) = natsD (someOf n as s gs l) := by
  unfold someOf natsD
  induction gs with
  | nil => rfl
  | cons g gs ih =>
    rw [List.map_cons, List.filter_cons, List.filter_cons, natOf_D]
    split
    · rw [ih]; rfl
    · exact ih
section
variable {P : Program} {w : World} {K : PySem.W.Frag} {mg : Str → Option Value} {base : Heap} {C fI O : Addr}
abbrev s_led_by : Stmt := topS 30
abbrev N_led_by : List Str := ["many", "arcs", "start", "goals", "flow", "leads", "told", "found", "some", "node", "steps", "often"]
theorem sc_led_by : FnScope N_led_by ["many", "arcs", "start", "goals", "flow"] (defScope s_led_by) := ⟨rfl, rfl, rfl, by decide +kernel, rfl, by decide +kernel, by decide +kernel⟩
abbrev HLed (P : Program) (w : World) (K : PySem.W.Frag) (mg : Str → Option Value) (base : Heap) : Prop := Has P w K mg base "led_by" CX0 4 ["many", "arcs", "start", "goals", "flow"] (sp5 isLed ledD)
theorem h_led_by (LS : LedStep) (B : Bl mg) (T : TopF K mg "led_by" s_led_by) (h_leads_of : HLeads P w K mg base) (h_come_by : HCome P w K mg base) (h_traced : HTraced P w K mg base) (h_least_left : HLeast P w K mg base) (h_gone : HGone P w K mg base) : HLed P w K mg base := by
  obtain ⟨f, fd, hm, F⟩ := T
  refine ⟨f, fd, hm, F.kp, F.binds (ps := ["many", "arcs", "start", "goals", "flow"]) fun _ _ _ _ _ _ us hl => match us, hl with | [_, _, _, _, _], _ => rfl, F.ok sc_led_by (fun vs H Q E h => len5 h) (fun cdv A outer s H vs Q E hr h => ?_)⟩
  have nd := sc_led_by.nd
  have hu := hu_of hr
  obtain ⟨G, ds, gh, ra, ⟨_, _, _, _, _, rfl, ⟨n, as, s, gs, l0, rfl, rfl, rfl, rfl, rfl, ok, hal, hsn, okl⟩⟩, k⟩ := h
  refine ⟨_, (pss_cons (ps_par (i := 5) (j := 6) (by rfl) nd rfl rfl (by decide) rfl rfl (pa_cons (pe_callH h_leads_of (hr.mono (by decide)) (pa_cons (pv 0) (pa_cons (pv 1) pa_nil))) (pa_cons (pe_callTy (ktup (K := K)) (by rfl) B.tuple (by decide +kernel) (pa_cons (pv 4) pa_nil)) pa_nil)) (by rfl))
    (pss_cons (ps_set (i := 7) nd rfl (by first | exact Or.inl rfl | exact Or.inr rfl) (pe_callH h_come_by (hr.mono (by decide)) (pa_cons (pv 5) (pa_cons (pv 1) (pa_cons (pv 6) (pa_cons (pv 2) pa_nil))))))
    (pss_cons (ps_setLcQ (i := 8) (own := [("node", 9)]) rfl nd (kseq (K := K) (pv 3)) (blkOk_by (N := N_led_by) (sc := defScope s_led_by) (by decide +kernel)) (fun _ _ _ _ _ => (pg_name (i := 9) nd rfl (by first | exact Or.inl rfl | exact Or.inr rfl))) (fun _ _ _ _ _ => (pts_one (pt_cmp (pc_din hu (pv 9) (pv 7))))) (fun _ _ _ _ _ => (pv 9)))
    (pss_cons (ps_while PassesOwn.never (pt_cmpR op_gt (pe_callB (klen (K := K)) (by rfl) B.len (by decide +kernel) (pa_cons (pv 8) pa_nil)) pe_int (nomark _))
      (pss_cons (ps_set (i := 10) nd rfl (by first | exact Or.inl rfl | exact Or.inr rfl) (pe_callH h_traced (hr.mono (by decide)) (pa_cons (pv 1) (pa_cons (pv 7) (pa_cons (pe_ix (kix (K := K)) (pv 8) pe_int (fun _ _ => rfl)) pa_nil)))))
    (pss_cons (ps_set (i := 11) nd rfl (by first | exact Or.inl rfl | exact Or.inr rfl) (pe_callH h_least_left (hr.mono (by decide)) (pa_cons (pv 1) (pa_cons (pv 6) (pa_cons (pv 10) pa_nil)))))
    (pss_cons (ps_if (pt_cmp (pc_isN (pv 11)) rfl) (pss_one (ps_ret pe_non)) pss_nil)
    (pss_cons (ps_set (i := 6) nd rfl (by first | exact Or.inl rfl | exact Or.inr rfl) (pe_callH h_gone (hr.mono (by decide)) (pa_cons (pv 6) (pa_cons (pv 10) (pa_cons (pv 11) pa_nil)))))
    (pss_cons (ps_set (i := 7) nd rfl (by first | exact Or.inl rfl | exact Or.inr rfl) (pe_callH h_come_by (hr.mono (by decide)) (pa_cons (pv 5) (pa_cons (pv 1) (pa_cons (pv 6) (pa_cons (pv 2) pa_nil))))))
    (pss_one (ps_setLcQ (i := 8) (own := [("node", 9)]) rfl nd (kseq (K := K) (pv 3)) (blkOk_by (N := N_led_by) (sc := defScope s_led_by) (by decide +kernel)) (fun _ _ _ _ _ => (pg_name (i := 9) nd rfl (by first | exact Or.inl rfl | exact Or.inr rfl))) (fun _ _ _ _ _ => (pts_one (pt_cmp (pc_din hu (pv 9) (pv 7))))) (fun _ _ _ _ _ => (pv 9))))))))))
    (pss_one (ps_ret (pv 6))))))), ?_⟩
  have A0 := at_start (N := N_led_by) gh ra (Nat.le_of_ble_eq_true rfl)
  have k' : ∀ b, flowD (led n as s gs l0) = b → ∀ G' H' u, Ev [] G H G' H' → Rep G' u b → Q u H' := fun b e G' H' u ev r => k G' H' u ev (by show Rep G' u (ledD _ _ _ _ _); rw [ledD_eq, e]; exact r)
  have hgl : gs.length ≤ 100000 := by
    have := A0.seqLen (i := 3) (d := .tuple (natsD gs)) rfl rfl
    rw [natsD_len] at this
    exact this
  refine s_parq A0 (Gv.cast (g_c2 (ga_v2 rfl rfl) ⟨n, as, rfl, rfl, ok, hal⟩) (d := leadsD (leadsOf n as)) ?_) (g_tupOf (ds := intsD l0) (ga_v rfl) rfl) fun G1 H1 σ1 A1 => ?_
  · unfold leadsFD
    rw [natOf_D, arcsOfD_D]
  have hn2 := ok.1
  refine e_asgq (e_come (n := n) (as := as) (l := l0) (s := s) A1 (ga_v4 rfl rfl rfl rfl) ⟨ok, hal, okl.1, hsn⟩ fun pf G2 H2 h0 A2 => ?_)
  have A3 := A2.set (i := 7) (s := .val (.ref pf)) (v := .ref pf) rfl
  -- the search's answer, asked for the goals
  have ask : ∀ (l : List Int) (q : Addr) (δ : List Sl) (s9 : Sl), δ.length = 12 → δ[3]? = some (.dat (.tuple (natsD gs))) → δ[7]? = some (.val (.ref q)) → Gv δ [(q, .dct (foundK (comeBy n as l s)))] (tLc (iSeq K (tVar 3)) (gName 9) (tB (tDIn (tVar 9) (tVar 7))) (tVar 9) [9]) (.list (natsD (someOf n as s gs l))) := fun l q δ s9 hd h3 h7 => by
    refine Gv.cast (g_lc (ds := natsD gs) (fun d => ((comeBy n as l s).lookup (natOf d)).isSome) id (δ' := fun y => (wipeS δ [9]).set 9 (.dat y)) (gi_seq (g_var h3) rfl) (by rw [natsD_len]; exact hgl) (fun x y hy => gg_name) (fun x y hy => ?_) (fun x y hy _ => g_var ?_)) (by rw [List.map_id, some_filter])
    · obtain ⟨v, hv, rfl⟩ := List.mem_map.mp hy
      refine Gt.cast (gt_b (g_din (n := (v : Int)) (p := q) ?_ (List.mem_cons_of_mem _ (List.mem_cons_self ..)) (.inl rfl) (g_var (d := natD v) ?_))) ?_
      · show ((δ.set 9 .any).set 9 _)[7]? = _
        rw [List.getElem?_set_ne (by decide), List.getElem?_set_ne (by decide)]
        exact h7
      · show ((δ.set 9 .any).set 9 _)[9]? = _
        rw [List.getElem?_set_self (by rw [List.length_set, hd]; decide)]
      · rw [foundK_lookup, natOf_D]
        cases (comeBy n as l s).lookup v <;> rfl
    · show ((δ.set 9 .any).set 9 _)[9]? = _
      rw [List.getElem?_set_self (by rw [List.length_set, hd]; decide)]
      rfl
  refine s_setq A3 (ask l0 pf _ .any rfl rfl rfl) fun G3 H3 σ3 A4 => ?_
  refine s_whileq (fun m δ' M' => ∃ (l : List Int) (q : Addr) (s10 s11 : Sl), m = mu n as s l ∧ okLoad as l ∧ led n as s gs l0 = led n as s gs l ∧
    δ' = [.dat (natD n), .dat (arcsD as), .dat (natD s), .dat (.tuple (natsD gs)), .dat (loadD l0), .dat (leadsD (leadsOf n as)), .dat (loadD l), .val (.ref q), .dat (.list (natsD (someOf n as s gs l))), .any, s10, s11] ∧
    M' = [(q, .dct (foundK (comeBy n as l s)))]) A4 (m := mu n as s l0) ⟨l0, pf, _, _, rfl, okl, rfl, rfl, rfl⟩ ?_ ?_
  · rintro m δ' M' G4 H4 σ4 ⟨l, q, s10, s11, rfl, okl2, hled, rfl, rfl⟩ A5
    refine gt_test (g_opB (g_len (ga_v rfl) rfl) g_int) _ _ _ _ _ A5 fun G5 H5 A6 _ => ?_
    rw [natsD_len]
    cases hso : someOf n as s gs l with
    | nil =>
      rw [if_neg (by simp)]
      rw [led_nil hso] at hled
      exact s_ret A6 (g_var rfl) fun G' H' v A' r => k' (loadD l) (by rw [hled]; rfl) G' H' v A'.ev r
    | cons g r =>
      rw [if_pos (by simp)]
      have hgood := bfs_good ok (l := l) hsn n
      have htree := bfs_tree (n := n) (as := as) (l := l) (s := s) n
      have hgk : g ∈ keys (comeBy n as l s) := by
        have : g ∈ someOf n as s gs l := by rw [hso]; exact List.mem_cons_self ..
        unfold someOf at this
        have q2 := (List.mem_filter.mp this).2
        refine Classical.byContradiction fun z => ?_
        rw [lookup_none.mpr z] at q2
        cases q2
      have hcl := goodF_len hgood
      rw [hso] at A6
      refine s_setq A6 (g_trace (as := as) (f := comeBy n as l s) (v := g) rfl rfl (List.mem_cons_self ..) (g_ix (n := 0) (g_var rfl) g_int rfl rfl) hgood.1 htree hgk (by show (bfsN (leadsOf n as) as l s n).length ≤ 100000; omega)) fun G6 H6 σ6 A7 => ?_
      have hst : ∀ st ∈ traced as (comeBy n as l s) g, st.at_ < as.length := fun st h => trace_ok htree _ _ st h
      refine s_setq A7 (Gv.cast (g_c3 (ga_v3 rfl rfl rfl) ⟨as, l, traced as (comeBy n as l s) g, rfl, rfl, okl2.1, rfl, hst⟩) (leastD_eq _ _ _)) fun G7 H7 σ7 A8 => ?_
      cases hll : leastLeft as l (traced as (comeBy n as l s) g) with
      | none =>
        rw [hll] at A8
        rw [led_none hso hll] at hled
        exact s_ifq (b := true) A8 (Gt.cast (gt_b (g_isN (g_var (d := capD none) rfl))) rfl) (fun _ G8 H8 A9 => s_ret A9 g_non fun G' H' v A' r => k' .none (by rw [hled]; rfl) G' H' v A'.ev r) fun z => nomatch z
      | some x =>
        rw [hll] at A8
        obtain ⟨hmu, okl3⟩ := LS n as s gs l g r x ok okl2 hsn hso hll
        rw [led_more hso hll hmu] at hled
        refine s_ifq (b := false) A8 (Gt.cast (gt_b (g_isN (g_var (d := capD (some x)) rfl))) rfl) (fun z => nomatch z) fun _ G8 H8 A9 => ?_
        refine s_setq A9 (Gv.cast (d := loadD (gone l (traced as (comeBy n as l s) g) x)) (g_c3 (ga_v3 rfl rfl rfl) ⟨l, traced as (comeBy n as l s) g, rfl, rfl, ⟨x, rfl⟩, by have := okl2.1; omega, fun st h => by have := okl2.1; have := hst st h; omega⟩) ?_) fun G9 H9 σ9 A10 => ?_
        · unfold goneD
          rw [intsOf_load, stepsOf_D]
          rfl
        refine e_asgq (e_come (n := n) (as := as) (l := gone l (traced as (comeBy n as l s) g) x) (s := s) A10 (ga_v4 rfl rfl rfl rfl) ⟨ok, hal, okl3.1, hsn⟩ fun q2 G10 H10 h0 A11 => ?_)
        have A12 := (A11.perm (List.Perm.swap _ _ _)).tail.set (i := 7) (s := .val (.ref q2)) (v := .ref q2) rfl
        refine s_set A12 (ask _ q2 _ .any rfl rfl rfl) fun G11 H11 σ11 A13 => ?_
        exact ⟨_, hmu, _, _, G11, ⟨_, q2, _, _, rfl, okl3, hled, rfl, rfl⟩, A13⟩
  · rintro σ H Q Q' h ⟨v1, h1, p, ys, h2, h3, i, j, h4, h5, b, h6, q⟩
    exact ⟨v1, h1, p, ys, h2, h3, i, j, h4, h5, b, h6, h b _ q⟩
end
end Od
set_option Elab.async false
set_option linter.all false
set_option autoImplicit false
set_option maxRecDepth 100000
set_option maxHeartbeats 4000000
/-! W12: ends_fit, brought, flows_by_end, most_to, soonest_to, walls. -/
namespace Od
open PySem PySem.Spec L2
theorem mapX_err {α : Type} {f : α → PyData} {r : Except PyData α} {x : PyData} (h : r = .error x) : mapX f r = .error x := by rw [h]; rfl
theorem mapX_ok {α : Type} {f : α → PyData} {r : Except PyData α} {x : α} (h : r = .ok x) : mapX f r = .ok (f x) := by rw [h]; rfl
theorem needEnds_ok {n : Nat} {st e : PyData} {es : List Nat} (h : endsOf (n : Int) st e = .ok es) : needEndsD (natD n) st e = .ok (.tuple (natsD es)) := by
  unfold needEndsD
  rw [intOf_natD, h]
theorem needEnds_err {n : Nat} {st e x : PyData} (h : endsOf (n : Int) st e = .error x) : needEndsD (natD n) st e = .error x := by
  unfold needEndsD
  rw [intOf_natD, h]
theorem natsD_get {l : List Nat} {i : Nat} {d : PyData} (h : (natsD l)[i]? = some d) : ∃ v, l[i]? = some v ∧ d = natD v := by
  unfold natsD at h
  rw [List.getElem?_map] at h
  obtain ⟨v, hv, rfl⟩ := Option.map_eq_some_iff.mp h
  exact ⟨v, hv, rfl⟩
theorem natsD_mem {l : List Nat} {d : PyData} (h : d ∈ natsD l) : ∃ v, v ∈ l ∧ d = natD v := by
  obtain ⟨v, hv, rfl⟩ := List.mem_map.mp h
  exact ⟨v, hv, rfl⟩
/-- the flow as it is led from end to end -/
theorem flowK_succ (n : Nat) (as : List Arc) (s : Nat) (es : List Nat) (k : Nat) : flowK n as s es (k + 1) = (flowK n as s es k).bind fun l => led n as s (es.take (k + 1)) l := rfl
def flowsK (n : Nat) (as : List Arc) (s : Nat) (es : List Nat) (k : Nat) : List PyData := (List.range k).map fun j => flowD (flowK n as s es (j + 1))
theorem flowsK_succ (n : Nat) (as : List Arc) (s : Nat) (es : List Nat) (k : Nat) : flowsK n as s es (k + 1) = flowsK n as s es k ++ [flowD (flowK n as s es (k + 1))] := by
  unfold flowsK
  rw [List.range_succ, List.map_append]
  rfl
theorem flowsK_all (n : Nat) (as : List Arc) (s : Nat) (es : List Nat) : flowsK n as s es es.length = (flowsOf n as s es).map flowD := by
  unfold flowsK flowsOf
  rw [List.map_map]
  rfl
theorem flowsK_len (n : Nat) (as : List Arc) (s : Nat) (es : List Nat) (k : Nat) : (flowsK n as s es k).length = k := by
  unfold flowsK
  rw [List.length_map, List.length_range]
/-- a promise, the def's own object told (keywords) -/
def HasF (P : Program) (w : World) (K : PySem.W.Frag) (mg : Str → Option Value) (base : Heap) (x : Str) (st : Stmt) (CXc : CXT) (k : Nat) (ps : List Str) (sp : Sp) : Prop :=
  ∃ f fd, mg x = some (.ref f) ∧ Fun K x x st f fd ∧ FnOk P w K mg base CXc k f fd ps sp
theorem HasF.x {P : Program} {w : World} {K : PySem.W.Frag} {mg : Str → Option Value} {base : Heap} {x : Str} {st : Stmt} {CXc : CXT} {k : Nat} {ps : List Str} {sp : Sp} (h : HasF P w K mg base x st CXc k ps sp) (hb : ∀ f fd, Fun K x x st f fd → Binds K fd ps []) : Has P w K mg base x CXc k ps sp := by
  obtain ⟨f, fd, hm, F, ok⟩ := h
  exact ⟨f, fd, hm, F.kp, hb f fd F, ok⟩
def isNet1 (d _s _e : PyData) : Prop := netSmall d
def isNet2 (d _s _e _v : PyData) : Prop := netSmall d
section
variable {P : Program} {w : World} {K : PySem.W.Frag} {mg : Str → Option Value} {base : Heap} {C fI O : Addr}
abbrev s_ends_fit : Stmt := topS 32
abbrev N_ends_fit : List Str := ["net", "start", "ends", "value", "many", "arcs", "told", "found", "node"]
theorem sc_ends_fit : FnScope N_ends_fit ["net", "start", "ends", "value"] (defScope s_ends_fit) := ⟨rfl, rfl, rfl, by decide +kernel, rfl, by decide +kernel, by decide +kernel⟩
abbrev HEndsFit (P : Program) (w : World) (K : PySem.W.Frag) (mg : Str → Option Value) (base : Heap) (C : Addr) : Prop := HasX P w K mg base "ends_fit" 6 ["net", "start", "ends", "value"] (sX4 C isNet2 endsFitD)
theorem hf_ends_fit (B : Bl mg) (R : RefT P K mg C fI O) (T : TopF K mg "ends_fit" s_ends_fit) (h_check_net : HCheck P w K mg base C) (h_need_ends : HEnds P w K mg base C) (h_fits : HFits P w K mg base) (h_surplus : HSurp P w K mg base) : HasF P w K mg base "ends_fit" s_ends_fit (L2.CX P w) 6 ["net", "start", "ends", "value"] (sX4 C isNet2 endsFitD) := by
  obtain ⟨f, fd, hm, F⟩ := T
  refine ⟨f, fd, hm, F, F.okX sc_ends_fit (fun vs H Q E h => lenX4 h) (fun cdv A outer s H vs Q E hr h => ?_)⟩
  have nd := sc_ends_fit.nd
  have hu := hu_of hr
  obtain ⟨G, ds, gh, ra, ⟨d, st, e, v, rfl, hsm⟩, kO, kE⟩ := h
  refine ⟨_, (pss_cons (ps_asg (pe_callHX h_check_net (hr.mono (by decide)) (takes_of rfl rfl rfl rfl) (pa_cons (pv 0) pa_nil)) (ktg (K := K) (n := 2) (pgs_cons (pg_name (i := 4) nd rfl (by first | exact Or.inl rfl | exact Or.inr rfl)) (pgs_cons (pg_name (i := 5) nd rfl (by first | exact Or.inl rfl | exact Or.inr rfl)) pgs_nil))))
    (pss_cons (ps_set (i := 6) nd rfl (by first | exact Or.inl rfl | exact Or.inr rfl) (pe_callHX h_need_ends (hr.mono (by decide)) (takes_of rfl rfl rfl rfl) (pa_cons (pv 4) (pa_cons (pv 1) (pa_cons (pv 2) pa_nil)))))
    (pss_cons (ps_if (pt_not (pt_val (pe_callH h_fits (hr.mono (by decide)) (pa_cons (pv 4) (pa_cons (pv 5) (pa_cons (pe_op (kcatT (K := K)) (pe_tup (pa_cons (pv 1) pa_nil)) (pv 6)) (pa_cons (pv 3) pa_nil))))))) (pss_one (ps_ret pe_bl)) pss_nil)
    (pss_cons (ps_set (i := 7) nd rfl (by first | exact Or.inl rfl | exact Or.inr rfl) (pe_callH h_surplus (hr.mono (by decide)) (pa_cons (pv 4) (pa_cons (pv 5) (pa_cons (pv 3) pa_nil)))))
    (pss_one (ps_ret (pe_callB (kall (K := K)) (by rfl) B.all (by decide +kernel) (pa_cons (pe_lc (own := [("node", 8)]) rfl nd (kseq (K := K) (pv 6)) (blkOk_by (N := N_ends_fit) (sc := defScope s_ends_fit) (by decide +kernel)) (fun _ _ _ _ _ => (pg_name (i := 8) nd rfl (by first | exact Or.inl rfl | exact Or.inr rfl))) (fun _ _ _ _ _ => pts_nil) (fun _ _ _ _ _ => (pe_cmpR op_ge (pe_ix (kix (K := K)) (pv 7) (pv 8) (fun _ _ => rfl)) pe_int (nomark _)))) pa_nil)))))))), ?_⟩
  have A0 := at_start (N := N_ends_fit) gh ra (Nat.le_of_ble_eq_true rfl)
  cases hn : netOf d with
  | none =>
    have ec : checkD d = .error d := by unfold checkD; rw [hn]
    exact e_asgq (e_cX1 A0 (ga_v rfl) trivial ec fun G' H' v' dx A' r hx => kE d (mapX_err (askD_net hn)) G' H' v' dx A'.ev r hx)
  | some p =>
    obtain ⟨n, as⟩ := p
    have ec : checkD d = .ok (netD n as) := by unfold checkD; rw [hn]
    refine s_asgq A0 (g_cX1 (ga_v rfl) trivial ec) (gg_tup (ggs_cons gg_name (ggs_cons gg_name ggs_nil)) rfl) fun G1 H1 σ1 A1 => ?_
    cases he : endsOf (n : Int) st e with
    | error x => exact e_asgq (e_cX3 A1 (ga_v3 rfl rfl rfl) isInt_i (needEnds_err he) fun G' H' v' dx A' r hx => kE x (mapX_err (askD_ends hn he)) G' H' v' dx A'.ev r hx)
    | ok es =>
      have ha := askD_is hn he
      obtain ⟨_, _, hst, hse, Gd⟩ := askD_ok ha
      generalize natOf st = s at ha hst Gd
      subst hst
      refine s_setq A1 (g_cX3 (ga_v3 rfl rfl rfl) isInt_i (needEnds_ok he)) fun G2 H2 σ2 A2 => ?_
      have eb : endsFitD d (natD s) e v = .ok (.bool (isToB n as s es v)) := mapX_ok ha
      have k' : ∀ b, isToB n as s es v = b → ∀ G' H' u, Ev [] G H G' H' → Rep G' u (.bool b) → Q u H' := fun b q G' H' u ev r => kO (.bool b) (by show endsFitD _ _ _ _ = _; rw [eb, q]) G' H' u ev r
      have gf : Gv ([.dat d, .dat (natD s), .dat e, .dat v, .dat (natD n), .dat (arcsD as), .dat (.tuple (natsD es)), .any, .any] : List Sl) [] (tCall (sp4 isFits fitsD) [] E0 (tCons (tVar 4) (tCons (tVar 5) (tCons (tOp (rCatA K) (tTup (tCons (tVar 1) tNil)) (tVar 6)) (tCons (tVar 3) tNil))))) (fitsD (natD n) (arcsD as) (.tuple (natsD (s :: es))) v) :=
        g_c4 (ga_cons (g_var rfl) (ga_cons (g_var rfl) (ga_cons (Gv.cast (g_catT (g_tup (ga_v (a := natD s) rfl) (by show 1 ≤ 100000; decide)) (g_var (d := .tuple (natsD es)) rfl) (by have := A2.seqLen (i := 6) (d := .tuple (natsD es)) rfl rfl; have := nodup_lt n es Gd.nd (fun u hu => (Gd.en u hu).1); have := Gd.ok.1; rw [natsD_len]; show 1 + _ ≤ _; omega)) (rfl : PyData.tuple ([natD s] ++ natsD es) = .tuple (natsD (s :: es)))) (ga_cons (g_var rfl) ga_nil)))) ⟨n, as, s :: es, rfl, rfl, rfl, Gd.ok⟩
      have ef : fitsD (natD n) (arcsD as) (.tuple (natsD (s :: es))) v = .bool (match loadOf as v with | some l => fitsB n as (s :: es) l | none => false) := by
        unfold fitsD
        rw [arcsOfD_D, natOf_D]
        show (match loadOf as v with | some l => PyData.bool (fitsB n as ((natsD (s :: es)).map natOf) l) | none => .bool false) = _
        rw [natsOf_D]
        cases loadOf as v <;> rfl
      rw [ef] at gf
      refine s_ifq A2 (gt_not (gt_b gf)) (fun z G3 H3 A3 => ?_) fun z G3 H3 A3 => ?_
      · have z' := (Bool.not_eq_true' _).mp z
        refine s_ret A3 g_bl fun G' H' u A' r => k' false ?_ G' H' u A'.ev r
        unfold isToB
        cases hl : loadOf as v with
        | none => rfl
        | some l =>
          rw [hl] at z'
          dsimp only at z'
          dsimp only
          rw [z']
          rfl
      · have z' := (Bool.not_eq_false' _).mp z
        cases hl : loadOf as v with
        | none => rw [hl] at z'; cases z'
        | some l =>
          rw [hl] at z'
          dsimp only at z'
          obtain ⟨hs, hll⟩ := loadOf_seq hl
          refine s_setq A3 (Gv.cast (g_c3 (ga_v3 rfl rfl rfl) ⟨n, as, l, rfl, rfl, hs, hll, Gd.ok⟩) (surpD_eq hs)) fun G4 H4 σ4 A4 => ?_
          refine s_ret (d := .bool (isToB n as s es v)) A4 (Gv.cast (g_allMap (fun y => decide (0 ≤ (surplus n as l).getD (natOf y) 0)) (δ' := fun y => [.dat d, .dat (natD s), .dat e, .dat v, .dat (natD n), .dat (arcsD as), .dat (.tuple (natsD es)), .dat (loadD (surplus n as l)), .dat y]) (gi_seq (g_var (d := .tuple (natsD es)) rfl) rfl) (A4.seqLen (i := 6) (d := .tuple (natsD es)) rfl rfl) (fun x y _ => gg_name) (fun x y hy => ?_)) ?_) fun G' H' u A' r => k' _ rfl G' H' u A'.ev r
          · obtain ⟨u, hu, rfl⟩ := natsD_mem hy
            rw [natOf_D]
            exact g_opB (g_ix (n := u) (g_var rfl) (g_var rfl) rfl (intsD_get (by rw [surplus_len]; exact (Gd.en u hu).1))) g_int
          · unfold isToB
            rw [hl]
            dsimp only
            rw [z', Bool.true_and]
            unfold natsD
            rw [List.all_map]
            congr 2
theorem h_ends_fit (B : Bl mg) (R : RefT P K mg C fI O) (T : TopF K mg "ends_fit" s_ends_fit) (h_check_net : HCheck P w K mg base C) (h_need_ends : HEnds P w K mg base C) (h_fits : HFits P w K mg base) (h_surplus : HSurp P w K mg base) : HEndsFit P w K mg base C := (hf_ends_fit B R T h_check_net h_need_ends h_fits h_surplus).x fun f fd F => F.binds (ps := ["net", "start", "ends", "value"]) fun _ _ _ _ _ _ us hl => match us, hl with | [_, _, _, _], _ => rfl
abbrev s_brought : Stmt := topS 33
abbrev N_brought : List Str := ["net", "start", "ends", "flow", "many", "arcs", "found", "node"]
theorem sc_brought : FnScope N_brought ["net", "start", "ends", "flow"] (defScope s_brought) := ⟨rfl, rfl, rfl, by decide +kernel, rfl, by decide +kernel, by decide +kernel⟩
abbrev HBrought (P : Program) (w : World) (K : PySem.W.Frag) (mg : Str → Option Value) (base : Heap) (C : Addr) : Prop := HasX P w K mg base "brought" 7 ["net", "start", "ends", "flow"] (sX4 C isNet2 broughtD)
theorem hf_brought (B : Bl mg) (R : RefT P K mg C fI O) (T : TopF K mg "brought" s_brought) (h_ends_fit : HEndsFit P w K mg base C) (h_check_net : HCheck P w K mg base C) (h_surplus : HSurp P w K mg base) : HasF P w K mg base "brought" s_brought (L2.CX P w) 7 ["net", "start", "ends", "flow"] (sX4 C isNet2 broughtD) := by
  obtain ⟨f, fd, hm, F⟩ := T
  refine ⟨f, fd, hm, F, F.okX sc_brought (fun vs H Q E h => lenX4 h) (fun cdv A outer s H vs Q E hr h => ?_)⟩
  have nd := sc_brought.nd
  have hu := hu_of hr
  obtain ⟨G, ds, gh, ra, ⟨d, st, e, v, rfl, hsm⟩, kO, kE⟩ := h
  refine ⟨_, (pss_cons (ps_if (pt_not (pt_val (pe_callHX h_ends_fit (hr.mono (by decide)) (takes_of rfl rfl rfl rfl) (pa_cons (pv 0) (pa_cons (pv 1) (pa_cons (pv 2) (pa_cons (pv 3) pa_nil))))))) (pss_one (ps_refused rfl R hr (takes_of rfl rfl rfl rfl) (pa_cons (pv 3) pa_nil))) pss_nil)
    (pss_cons (ps_asg (pe_callHX h_check_net (hr.mono (by decide)) (takes_of rfl rfl rfl rfl) (pa_cons (pv 0) pa_nil)) (ktg (K := K) (n := 2) (pgs_cons (pg_name (i := 4) nd rfl (by first | exact Or.inl rfl | exact Or.inr rfl)) (pgs_cons (pg_name (i := 5) nd rfl (by first | exact Or.inl rfl | exact Or.inr rfl)) pgs_nil))))
    (pss_cons (ps_set (i := 6) nd rfl (by first | exact Or.inl rfl | exact Or.inr rfl) (pe_callH h_surplus (hr.mono (by decide)) (pa_cons (pv 4) (pa_cons (pv 5) (pa_cons (pv 3) pa_nil)))))
    (pss_one (ps_ret (pe_callTy (ktup (K := K)) (by rfl) B.tuple (by decide +kernel) (pa_cons (pe_lc (own := [("node", 7)]) rfl nd (kseq (K := K) (pv 2)) (blkOk_by (N := N_brought) (sc := defScope s_brought) (by decide +kernel)) (fun _ _ _ _ _ => (pg_name (i := 7) nd rfl (by first | exact Or.inl rfl | exact Or.inr rfl))) (fun _ _ _ _ _ => pts_nil) (fun _ _ _ _ _ => (pe_ix (kix (K := K)) (pv 6) (pv 7) (fun _ _ => rfl)))) pa_nil))))))), ?_⟩
  have A0 := at_start (N := N_brought) gh ra (Nat.le_of_ble_eq_true rfl)
  cases ha : askD d st e with
  | error x =>
    have eb : broughtD d st e v = .error x := by unfold broughtD; rw [ha]
    have ee : endsFitD d st e v = .error x := mapX_err ha
    exact e_cX4 A0 (ga_v4 rfl rfl rfl rfl) hsm ee fun G' H' v' dx A' r hx => kE x eb G' H' v' dx A'.ev r hx
  | ok q =>
    obtain ⟨n, as, s, es⟩ := q
    obtain ⟨hn, he, hst, hse, Gd⟩ := askD_ok ha
    have ee : endsFitD d st e v = .ok (.bool (isToB n as s es v)) := mapX_ok ha
    have eb : broughtD d st e v = if isToB n as s es v then .ok (loadD (surpsAt n as (intsOf v) es)) else .error v := by unfold broughtD; rw [ha]
    refine s_ifq A0 (gt_not (gt_b (g_cX4 (ga_v4 rfl rfl rfl rfl) hsm ee))) (fun z G1 H1 A1 => ?_) fun z G1 H1 A1 => ?_
    · have z' := (Bool.not_eq_true' _).mp z
      exact e_raise A1 (by exact ga_v rfl) fun G' H' v' dx A' r hx => kE v (by show broughtD _ _ _ _ = _; rw [eb, z']; rfl) G' H' v' dx A'.ev r hx
    · have z' := (Bool.not_eq_false' _).mp z
      have ec : checkD d = .ok (netD n as) := by unfold checkD; rw [hn]
      refine s_asgq A1 (g_cX1 (ga_v rfl) trivial ec) (gg_tup (ggs_cons gg_name (ggs_cons gg_name ggs_nil)) rfl) fun G2 H2 σ2 A2 => ?_
      have hz := z'
      unfold isToB at hz
      cases hl : loadOf as v with
      | none => rw [hl] at hz; cases hz
      | some l =>
        obtain ⟨hs, hll⟩ := loadOf_seq hl
        have hiv : intsOf v = l := by
          unfold intsOf
          rw [hs]
          exact intsOf_D l
        refine s_setq A2 (Gv.cast (g_c3 (ga_v3 rfl rfl rfl) ⟨n, as, l, rfl, rfl, hs, hll, Gd.ok⟩) (surpD_eq hs)) fun G3 H3 σ3 A3 => ?_
        refine s_ret A3 (g_tupOf (ds := intsD (surpsAt n as l es)) (ga_cons (Gv.cast (d := .list (intsD (surpsAt n as l es))) (g_map (ds := natsD es) (fun y => .int ((surplus n as l).getD (natOf y) 0)) (δ' := fun y => [.dat d, .dat st, .dat e, .dat v, .dat (natD n), .dat (arcsD as), .dat (loadD (surplus n as l)), .dat y]) (gi_seq (g_var (d := e) rfl) hse) (A3.seqLen (i := 2) (d := e) rfl hse) (fun x y _ => gg_name) (fun x y hy => ?_)) ?_) ga_nil) rfl) fun G' H' u A' r => kO (.tuple (intsD (surpsAt n as l es))) ?_ G' H' u A'.ev r
        · obtain ⟨u, hu, rfl⟩ := natsD_mem hy
          rw [natOf_D]
          exact g_ix (n := u) (g_var rfl) (g_var rfl) rfl (intsD_get (by rw [surplus_len]; exact (Gd.en u hu).1))
        · unfold surpsAt intsD natsD
          rw [List.map_map, List.map_map]
          congr 1
        · show broughtD _ _ _ _ = _
          rw [eb, z', hiv]
          rfl
theorem h_brought (B : Bl mg) (R : RefT P K mg C fI O) (T : TopF K mg "brought" s_brought) (h_ends_fit : HEndsFit P w K mg base C) (h_check_net : HCheck P w K mg base C) (h_surplus : HSurp P w K mg base) : HBrought P w K mg base C := (hf_brought B R T h_ends_fit h_check_net h_surplus).x fun f fd F => F.binds (ps := ["net", "start", "ends", "flow"]) fun _ _ _ _ _ _ us hl => match us, hl with | [_, _, _, _], _ => rfl
abbrev s_flows_by_end : Stmt := topS 34
abbrev N_flows_by_end : List Str := ["net", "start", "ends", "many", "arcs", "told", "found", "flow", "at"]
theorem sc_flows_by_end : FnScope N_flows_by_end ["net", "start", "ends"] (defScope s_flows_by_end) := ⟨rfl, rfl, rfl, by decide +kernel, rfl, by decide +kernel, by decide +kernel⟩
abbrev HFlows (P : Program) (w : World) (K : PySem.W.Frag) (mg : Str → Option Value) (base : Heap) (C : Addr) : Prop := HasX P w K mg base "flows_by_end" 7 ["net", "start", "ends"] (sX3 C isNet1 flowsD)
theorem h_flows_by_end (LS : LedStep) (B : Bl mg) (R : RefT P K mg C fI O) (T : TopF K mg "flows_by_end" s_flows_by_end) (h_check_net : HCheck P w K mg base C) (h_need_ends : HEnds P w K mg base C) (h_no_flow : HNoFlow P w K mg base C) (h_led_by : HLed P w K mg base) : HFlows P w K mg base C := by
  obtain ⟨f, fd, hm, F⟩ := T
  refine ⟨f, fd, hm, F.kp, F.binds (ps := ["net", "start", "ends"]) fun _ _ _ _ _ _ us hl => match us, hl with | [_, _, _], _ => rfl, F.okX sc_flows_by_end (fun vs H Q E h => lenX3 h) (fun cdv A outer s H vs Q E hr h => ?_)⟩
  have nd := sc_flows_by_end.nd
  have hu := hu_of hr
  obtain ⟨G, ds, gh, ra, ⟨d, st, e, rfl, hsm⟩, kO, kE⟩ := h
  refine ⟨_, (pss_cons (ps_asg (pe_callHX h_check_net (hr.mono (by decide)) (takes_of rfl rfl rfl rfl) (pa_cons (pv 0) pa_nil)) (ktg (K := K) (n := 2) (pgs_cons (pg_name (i := 3) nd rfl (by first | exact Or.inl rfl | exact Or.inr rfl)) (pgs_cons (pg_name (i := 4) nd rfl (by first | exact Or.inl rfl | exact Or.inr rfl)) pgs_nil))))
    (pss_cons (ps_set (i := 5) nd rfl (by first | exact Or.inl rfl | exact Or.inr rfl) (pe_callHX h_need_ends (hr.mono (by decide)) (takes_of rfl rfl rfl rfl) (pa_cons (pv 3) (pa_cons (pv 1) (pa_cons (pv 2) pa_nil)))))
    (pss_cons (ps_par (i := 6) (j := 7) (by rfl) nd rfl rfl (by decide) rfl rfl (pa_cons (pe_lst pa_nil) (pa_cons (pe_callHX h_no_flow (hr.mono (by decide)) (takes_of rfl rfl rfl rfl) (pa_cons (pv 0) pa_nil)) pa_nil)) (by rfl))
    (pss_cons (ps_for (passes_of rfl) rfl (pi_range1 (by rfl) B.range (pa_cons (pe_callB (klen (K := K)) (by rfl) B.len (by decide +kernel) (pa_cons (pv 5) pa_nil)) pa_nil)) (pg_name (i := 8) nd rfl (by first | exact Or.inl rfl | exact Or.inr rfl))
      (pss_cons (ps_set (i := 7) nd rfl (by first | exact Or.inl rfl | exact Or.inr rfl) (pe_ifExp (pt_cmp (pc_isN (pv 7)) rfl) pe_non (pe_callH h_led_by (hr.mono (by decide)) (pa_cons (pv 3) (pa_cons (pv 4) (pa_cons (pv 1) (pa_cons (pe_slice (kslT (K := K)) (pv 5) po_none (po_some (pe_op op_add (pv 8) pe_int))) (pa_cons (pv 7) pa_nil))))))))
    (pss_one (ps_expr (pe_bm PySem.F.plainAttrs_list PySem.F.slot_list_append PySem.F.type_list_append mt_append (pv 6) (pa_cons (pv 7) pa_nil))))))
    (pss_one (ps_ret (pe_callTy (ktup (K := K)) (by rfl) B.tuple (by decide +kernel) (pa_cons (pv 6) pa_nil)))))))), ?_⟩
  have A0 := at_start (N := N_flows_by_end) gh ra (Nat.le_of_ble_eq_true rfl)
  cases hn : netOf d with
  | none =>
    have ec : checkD d = .error d := by unfold checkD; rw [hn]
    exact e_asgq (e_cX1 A0 (ga_v rfl) trivial ec fun G' H' v' dx A' r hx => kE d (mapX_err (askD_net hn)) G' H' v' dx A'.ev r hx)
  | some p =>
    obtain ⟨n, as⟩ := p
    have ec : checkD d = .ok (netD n as) := by unfold checkD; rw [hn]
    have hal := hsm n as hn
    refine s_asgq A0 (g_cX1 (ga_v rfl) trivial ec) (gg_tup (ggs_cons gg_name (ggs_cons gg_name ggs_nil)) rfl) fun G1 H1 σ1 A1 => ?_
    cases he : endsOf (n : Int) st e with
    | error x => exact e_asgq (e_cX3 A1 (ga_v3 rfl rfl rfl) isInt_i (needEnds_err he) fun G' H' v' dx A' r hx => kE x (mapX_err (askD_ends hn he)) G' H' v' dx A'.ev r hx)
    | ok es =>
      have ha := askD_is hn he
      obtain ⟨_, _, hst, hse, Gd⟩ := askD_ok ha
      generalize natOf st = s at ha hst Gd
      subst hst
      have hen := nodup_lt n es Gd.nd (fun u hu => (Gd.en u hu).1)
      have hn2 := Gd.ok.1
      refine s_setq A1 (g_cX3 (ga_v3 rfl rfl rfl) isInt_i (needEnds_ok he)) fun G2 H2 σ2 A2 => ?_
      have enf : noFlowD d = .ok (loadD (List.replicate as.length 0)) := by unfold noFlowD; rw [hn]
      refine s_parFq A2 (gf_lst ga_nil (Nat.zero_le _)) (fun x => g_cX1 (ga_v rfl) hsm enf) fun p G3 H3 σ3 h0 A3 => ?_
      refine s_forq (ds := rangeD es.length) (fun j δ' M' => ∃ s8, δ' = [.dat d, .dat (natD s), .dat e, .dat (natD n), .dat (arcsD as), .dat (.tuple (natsD es)), .val (.ref p), .dat (flowD (flowK n as s es j)), s8] ∧ M' = [(p, .lst (flowsK n as s es j))]) A3 (gi_range (n := es.length) (ga_cons (Gv.cast (g_len (ga_v (a := .tuple (natsD es)) rfl) rfl) (by rw [natsD_len])) ga_nil) (by omega)) ⟨_, rfl, rfl⟩ ?_ ?_
      · rintro c' j dj δ' M' G4 H4 σ4 v e1 e2 e3 hd ⟨s8, rfl, rfl⟩ A4 rv
        obtain ⟨hj, rfl⟩ := rangeD_get hd
        refine gg_name c' G4 H4 σ4 v _ A4 rv fun G5 H5 σ5 A5 _ _ _ => ?_
        refine s_setq (d := flowD (flowK n as s es (j + 1))) A5 ?_ fun G6 H6 σ6 A6 => ?_
        · cases hk : flowK n as s es j with
          | none =>
            have hk1 : flowK n as s es (j + 1) = none := by rw [flowK_succ, hk]; rfl
            rw [hk1]
            exact g_if (b := true) (Gt.cast (gt_b (g_isN (g_var (d := flowD none) rfl))) rfl) (fun _ => g_non) fun z => nomatch z
          | some l =>
            have hk1 : flowK n as s es (j + 1) = led n as s (es.take (j + 1)) l := by rw [flowK_succ, hk]; rfl
            rw [hk1]
            refine g_if (b := false) (Gt.cast (gt_b (g_isN (g_var (d := flowD (some l)) rfl))) rfl) (fun z => nomatch z) fun _ => ?_
            refine Gv.cast (g_c5 (ga_cons (g_var rfl) (ga_cons (g_var rfl) (ga_cons (g_var rfl) (ga_cons (Gv.cast (g_slTupTo (n := j + 1) (ds := natsD es) (g_var rfl) (Gv.cast (g_op0 (g_var (d := .int (j : Nat)) rfl) g_int) (by show PyData.int ((j : Int) + 1) = .int ((j + 1 : Nat) : Int); rw [Int.natCast_add]; rfl))) (by show _ = PyData.tuple (natsD (es.take (j + 1))); unfold natsD; rw [List.map_take])) (ga_cons (g_var (d := loadD l) rfl) ga_nil))))) ⟨n, as, s, es.take (j + 1), l, rfl, rfl, rfl, rfl, rfl, Gd.ok, hal, Gd.sn, flowK_ok LS Gd j l hk⟩) (ledD_eq _ _ _ _ _)
        · refine s_append (k := 0) A6 rfl rfl (g_var (d := flowD (flowK n as s es (j + 1))) rfl) (by rw [flowsK_len]; omega) fun G7 H7 A7 => ?_
          exact ⟨_, _, G7, ⟨_, rfl, by rw [flowsK_succ]; rfl⟩, A7⟩
      · rintro δ' M' G4 H4 σ4 ⟨s8, rfl, rfl⟩ A4
        rw [rangeD_len, flowsK_all] at A4
        exact s_ret A4 (g_tupOwn (k := 0) rfl rfl) fun G' H' u A' r => kO _ (mapX_ok ha) G' H' u A'.ev r
end
end Od
set_option Elab.async false
set_option linter.all false
set_option autoImplicit false
set_option maxRecDepth 100000
set_option maxHeartbeats 4000000
/-! W13: most_to, soonest_to, walls. -/
namespace Od
open PySem PySem.Spec L2
theorem e_forEnum {K : PySem.W.Frag} {te : TE} {g : TG} {tb : TS} {w : TS} {D : Ends} {σ : L2.St} {H : Hp} (h : ∀ Q, te σ H Q) : tSeq (tFor (iEnumT K (tCons te tNil)) g tb) w D σ H := h _
theorem ask_sm {d st e : PyData} {n : Nat} {as : List Arc} {s : Nat} {es : List Nat} (h : askD d st e = .ok (n, as, s, es)) (hs : netSmall d) : as.length ≤ 1000 := hs n as (askD_ok h).1
def mostL (n : Nat) (as : List Arc) (s : Nat) (es : List Nat) (k : Nat) : List PyData := (List.range k).map fun j => capD (mostK n as s es j)
theorem mostL_succ (n : Nat) (as : List Arc) (s : Nat) (es : List Nat) (k : Nat) : mostL n as s es (k + 1) = mostL n as s es k ++ [capD (mostK n as s es k)] := by
  unfold mostL
  rw [List.range_succ, List.map_append]
  rfl
theorem mostL_len (n : Nat) (as : List Arc) (s : Nat) (es : List Nat) (k : Nat) : (mostL n as s es k).length = k := by
  unfold mostL
  rw [List.length_map, List.length_range]
def wallD (n : Nat) (as : List Arc) (s : Nat) : Option (List Int) → PyData
  | none => .none
  | some l => loadD (reachedL n as l s)
def wallsD (d st e : PyData) : Except PyData PyData := mapX (fun q => .tuple ((flowsOf q.1 q.2.1 q.2.2.1 q.2.2.2).map (wallD q.1 q.2.1 q.2.2.1))) (askD d st e)
def loadOfD (d : PyData) : Option (List Int) := match seqOf d with
  | some xs => some (xs.map intOf)
  | none => none
theorem loadOfD_D (o : Option (List Int)) : loadOfD (flowD o) = o := by
  cases o with
  | none => rfl
  | some l =>
    show some ((intsD l).map intOf) = some l
    rw [intsOf_D]
/-- sum of a tuple -/
theorem g_sumT {δ : List Sl} {M : Mem} {K : PySem.W.Frag} {ns : List Int} {t : TA} (h : Ga δ M t [.tuple (ns.map PyData.int)]) : Gv δ M (tCB (rSumT K) t) (.int ns.sum) := fun c G H σ Q A k =>
  h.one A fun G1 H1 v A1 s1 r1 => by
    cases r1 with
    | @tup a xs es e z ra =>
      have q := ra.of_ints
      subst q
      exact ⟨a, ns, rfl, SqT.of (A1.gh _ _ e), k G1 H1 _ A1 s1 (.int _)⟩
section
variable {P : Program} {w : World} {K : PySem.W.Frag} {mg : Str → Option Value} {base : Heap} {C fI O : Addr}
abbrev s_most_to : Stmt := topS 35
abbrev N_most_to : List Str := ["net", "start", "ends", "found", "at", "flow"]
theorem sc_most_to : FnScope N_most_to ["net", "start", "ends"] (defScope s_most_to) := ⟨rfl, rfl, rfl, by decide +kernel, rfl, by decide +kernel, by decide +kernel⟩
abbrev HMost (P : Program) (w : World) (K : PySem.W.Frag) (mg : Str → Option Value) (base : Heap) (C : Addr) : Prop := HasX P w K mg base "most_to" 8 ["net", "start", "ends"] (sX3 C isNet1 mostD)
theorem hf_most_to (LS : LedStep) (FF : FlowFit) (B : Bl mg) (R : RefT P K mg C fI O) (T : TopF K mg "most_to" s_most_to) (h_flows_by_end : HFlows P w K mg base C) (h_brought : HBrought P w K mg base C) : HasF P w K mg base "most_to" s_most_to (L2.CX P w) 8 ["net", "start", "ends"] (sX3 C isNet1 mostD) := by
  obtain ⟨f, fd, hm, F⟩ := T
  refine ⟨f, fd, hm, F, F.okX sc_most_to (fun vs H Q E h => lenX3 h) (fun cdv A outer s H vs Q E hr h => ?_)⟩
  have nd := sc_most_to.nd
  have hu := hu_of hr
  obtain ⟨G, ds, gh, ra, ⟨d, st, e, rfl, hsm⟩, kO, kE⟩ := h
  refine ⟨_, (pss_cons (ps_set (i := 3) nd rfl (by first | exact Or.inl rfl | exact Or.inr rfl) (pe_lst pa_nil))
    (pss_cons (ps_for (passes_of rfl) rfl (kenum (K := K) (by rfl) B.enum (pa_cons (pe_callHX h_flows_by_end (hr.mono (by decide)) (takes_of rfl rfl rfl rfl) (pa_cons (pv 0) (pa_cons (pv 1) (pa_cons (pv 2) pa_nil)))) pa_nil)) (ktg (K := K) (n := 2) (pgs_cons (pg_name (i := 4) nd rfl (by first | exact Or.inl rfl | exact Or.inr rfl)) (pgs_cons (pg_name (i := 5) nd rfl (by first | exact Or.inl rfl | exact Or.inr rfl)) pgs_nil)))
      (pss_one (ps_expr (pe_bm PySem.F.plainAttrs_list PySem.F.slot_list_append PySem.F.type_list_append mt_append (pv 3) (pa_cons (pe_ifExp (pt_cmp (pc_isN (pv 5)) rfl) pe_non (pe_callB (ksumT (K := K)) (by rfl) B.sum (by decide +kernel) (pa_cons (pe_slice (kslT (K := K)) (pe_callHX h_brought (hr.mono (by decide)) (takes_of rfl rfl rfl rfl) (pa_cons (pv 0) (pa_cons (pv 1) (pa_cons (pv 2) (pa_cons (pv 5) pa_nil))))) po_none (po_some (pe_op op_add (pv 4) pe_int))) pa_nil))) pa_nil)))))
    (pss_one (ps_ret (pe_callTy (ktup (K := K)) (by rfl) B.tuple (by decide +kernel) (pa_cons (pv 3) pa_nil)))))), ?_⟩
  have A0 := at_start (N := N_most_to) gh ra (Nat.le_of_ble_eq_true rfl)
  refine s_setFq A0 (gf_lst ga_nil (Nat.zero_le _)) fun p G1 H1 σ1 h0 A1 => ?_
  cases ha : askD d st e with
  | error x =>
    exact e_forEnum fun Q' => e_cX3 A1 (ga_v3 rfl rfl rfl) hsm (mapX_err ha) fun G' H' v' dx A' r hx => kE x (mapX_err ha) G' H' v' dx A'.ev r hx
  | ok q =>
    obtain ⟨n, as, s, es⟩ := q
    obtain ⟨hn, he, hst, hse, Gd⟩ := askD_ok ha
    have hen := nodup_lt n es Gd.nd (fun u hu => (Gd.en u hu).1)
    have hn2 := Gd.ok.1
    refine s_forq (ds := enumD ((flowsOf n as s es).map flowD)) (fun j δ' M' => ∃ s4 s5, δ' = [.dat d, .dat st, .dat e, .val (.ref p), s4, s5] ∧ M' = [(p, .lst (mostL n as s es j))]) A1 (gi_enumT (ga_cons (g_cX3 (ga_v3 rfl rfl rfl) hsm (mapX_ok ha)) ga_nil)) ⟨_, _, rfl, rfl⟩ ?_ ?_
    · rintro c' j dj δ' M' G4 H4 σ4 v e1 e2 e3 hd ⟨s4, s5, rfl, rfl⟩ A4 rv
      unfold enumD flowsOf at hd
      rw [List.map_map, List.getElem?_mapIdx, List.getElem?_map] at hd
      have hj : j < es.length := by
        refine Classical.byContradiction fun z => ?_
        rw [List.getElem?_eq_none (by rw [List.length_range]; omega)] at hd
        cases hd
      rw [List.getElem?_range hj] at hd
      cases hd
      refine gg_tup (ggs_cons gg_name (ggs_cons gg_name ggs_nil)) rfl c' G4 H4 σ4 v _ A4 rv fun G5 H5 σ5 A5 _ _ _ => ?_
      refine s_append (k := 0) (d := capD (mostK n as s es j)) A5 rfl rfl ?_ (by rw [mostL_len]; omega) fun G7 H7 A7 => ⟨_, _, G7, ⟨_, _, rfl, by rw [mostL_succ]; rfl⟩, A7⟩
      cases hk : flowK n as s es (j + 1) with
      | none =>
        have hm : mostK n as s es j = none := by unfold mostK; rw [hk]; rfl
        rw [hm]
        refine g_if (b := true) (Gt.cast (gt_b (g_isN (g_var (d := flowD none) ?_))) rfl) (fun _ => g_non) fun z => nomatch z
        show some (Sl.dat (flowD (flowK n as s es (j + 1)))) = _
        rw [hk]
      | some l =>
        have okl := flowK_ok LS Gd (j + 1) l hk
        have hm : mostK n as s es j = some ((surpsAt n as l es).take (j + 1)).sum := by unfold mostK; rw [hk]; rfl
        have hb : broughtD d st e (loadD l) = .ok (loadD (surpsAt n as l es)) := by
          unfold broughtD
          rw [ha]
          dsimp only
          rw [isToB_ok okl (FF n as s es (j + 1) l Gd (by omega) hk), intsOf_load]
          rfl
        have hv : ([Sl.dat d, Sl.dat st, Sl.dat e, Sl.val (V.ref p), Sl.dat (PyData.int (j : Nat)), Sl.dat (flowD (flowK n as s es (j + 1)))] : List Sl)[5]? = some (.dat (flowD (some l))) := by rw [hk]; rfl
        rw [hm]
        refine g_if (b := false) (Gt.cast (gt_b (g_isN (g_var (d := flowD (some l)) hv))) rfl) (fun z => nomatch z) fun _ => ?_
        refine g_sumT (ns := (surpsAt n as l es).take (j + 1)) (ga_cons (Gv.cast (g_slTupTo (n := j + 1) (ds := intsD (surpsAt n as l es)) (g_cX4 (ga_v4 rfl rfl rfl hv) hsm hb) (Gv.cast (g_op0 (g_var (d := .int (j : Nat)) rfl) g_int) (by show PyData.int ((j : Int) + 1) = .int ((j + 1 : Nat) : Int); rw [Int.natCast_add]; rfl))) ?_) ga_nil)
        unfold intsD
        rw [List.map_take]
    · rintro δ' M' G4 H4 σ4 ⟨s4, s5, rfl, rfl⟩ A4
      have hz : (enumD ((flowsOf n as s es).map flowD)).length = es.length := by
        unfold enumD flowsOf
        rw [List.length_mapIdx, List.length_map, List.length_map, List.length_range]
      rw [hz] at A4
      exact s_ret A4 (g_tupOwn (k := 0) rfl rfl) fun G' H' u A' r => kO _ (mapX_ok ha) G' H' u A'.ev r
theorem h_most_to (LS : LedStep) (FF : FlowFit) (B : Bl mg) (R : RefT P K mg C fI O) (T : TopF K mg "most_to" s_most_to) (h_flows_by_end : HFlows P w K mg base C) (h_brought : HBrought P w K mg base C) : HMost P w K mg base C := (hf_most_to LS FF B R T h_flows_by_end h_brought).x fun f fd F => F.binds (ps := ["net", "start", "ends"]) fun _ _ _ _ _ _ us hl => match us, hl with | [_, _, _], _ => rfl
abbrev s_soonest_to : Stmt := topS 36
abbrev N_soonest_to : List Str := ["net", "start", "ends", "found"]
theorem sc_soonest_to : FnScope N_soonest_to ["net", "start", "ends"] (defScope s_soonest_to) := ⟨rfl, rfl, rfl, by decide +kernel, rfl, by decide +kernel, by decide +kernel⟩
abbrev HSoon (P : Program) (w : World) (K : PySem.W.Frag) (mg : Str → Option Value) (base : Heap) (C : Addr) : Prop := HasX P w K mg base "soonest_to" 8 ["net", "start", "ends"] (sX3 C isNet1 soonestD)
theorem hf_soonest_to (B : Bl mg) (R : RefT P K mg C fI O) (T : TopF K mg "soonest_to" s_soonest_to) (h_no_flow : HNoFlow P w K mg base C) (h_flows_by_end : HFlows P w K mg base C) : HasF P w K mg base "soonest_to" s_soonest_to (L2.CX P w) 8 ["net", "start", "ends"] (sX3 C isNet1 soonestD) := by
  obtain ⟨f, fd, hm, F⟩ := T
  refine ⟨f, fd, hm, F, F.okX sc_soonest_to (fun vs H Q E h => lenX3 h) (fun cdv A outer s H vs Q E hr h => ?_)⟩
  have nd := sc_soonest_to.nd
  have hu := hu_of hr
  obtain ⟨G, ds, gh, ra, ⟨d, st, e, rfl, hsm⟩, kO, kE⟩ := h
  refine ⟨_, (pss_cons (ps_set (i := 3) nd rfl (by first | exact Or.inl rfl | exact Or.inr rfl) (pe_op (kcatT (K := K)) (pe_tup (pa_cons (pe_callHX h_no_flow (hr.mono (by decide)) (takes_of rfl rfl rfl rfl) (pa_cons (pv 0) pa_nil)) pa_nil)) (pe_callHX h_flows_by_end (hr.mono (by decide)) (takes_of rfl rfl rfl rfl) (pa_cons (pv 0) (pa_cons (pv 1) (pa_cons (pv 2) pa_nil))))))
    (pss_one (ps_ret (pe_ix (kix (K := K)) (pv 3) (pe_un un_neg pe_int) (fun _ _ => rfl))))), ?_⟩
  have A0 := at_start (N := N_soonest_to) gh ra (Nat.le_of_ble_eq_true rfl)
  cases hn : netOf d with
  | none =>
    have enf : noFlowD d = .error d := by unfold noFlowD; rw [hn]
    exact e_asgq (e_op1 (e_tup (e_cX1 A0 (ga_v rfl) hsm enf fun G' H' v' dx A' r hx => kE d (mapX_err (askD_net hn)) G' H' v' dx A'.ev r hx)))
  | some p =>
    obtain ⟨n, as⟩ := p
    have enf : noFlowD d = .ok (loadD (List.replicate as.length 0)) := by unfold noFlowD; rw [hn]
    have g1 : ∀ (δ : List Sl) (M : Mem), δ[0]? = some (.dat d) → Gv δ M (tTup (tCons (tCallS (sX1 C netSmall noFlowD) (WE fun cls d x H => E cls d H) (tCons (tVar 0) tNil)) tNil)) (.tuple [loadD (List.replicate as.length 0)]) := fun δ M h => g_tup (ga_cons (g_cX1 (ga_v h) hsm enf) ga_nil) (by show 1 ≤ 100000; decide)
    cases ha : askD d st e with
    | error x => exact e_asgq (e_op A0 (g1 _ _ rfl) fun G1 H1 v1 A1 r1 => e_cX3 A1 (ga_v3 rfl rfl rfl) hsm (mapX_err ha) fun G' H' v' dx A' r hx => kE x (mapX_err ha) G' H' v' dx A'.ev r hx)
    | ok q =>
      obtain ⟨n', as', s, es⟩ := q
      obtain ⟨hn', he, hst, hse, Gd⟩ := askD_ok ha
      rw [hn] at hn'
      cases hn'
      have hen := nodup_lt n es Gd.nd (fun u hu => (Gd.en u hu).1)
      have hn2 := Gd.ok.1
      have hfl : ((flowsOf n as s es).map flowD).length = es.length := by
        unfold flowsOf
        rw [List.length_map, List.length_map, List.length_range]
      refine s_setq A0 (g_catT (g1 _ _ rfl) (g_cX3 (ga_v3 rfl rfl rfl) hsm (mapX_ok ha)) (by rw [hfl]; show 1 + _ ≤ _; omega)) fun G1 H1 σ1 A1 => ?_
      have hlast : ∃ pre, [loadD (List.replicate as.length 0)] ++ (flowsOf n as s es).map flowD = pre ++ [flowD (flowK n as s es es.length)] := by
        unfold flowsOf
        cases hl : es.length with
        | zero => exact ⟨[], rfl⟩
        | succ k =>
          refine ⟨[loadD (List.replicate as.length 0)] ++ ((List.range k).map fun k => flowK n as s es (k + 1)).map flowD, ?_⟩
          rw [List.range_succ, List.map_append, List.map_append, List.append_assoc]
          rfl
      obtain ⟨pre, hpre⟩ := hlast
      rw [hpre] at A1
      exact s_ret A1 (g_ixLast (ds := pre) (g_var (d := .tuple (pre ++ [flowD (flowK n as s es es.length)])) rfl) (g_un g_int) rfl) fun G' H' u A' r => kO _ (mapX_ok ha) G' H' u A'.ev r
theorem h_soonest_to (B : Bl mg) (R : RefT P K mg C fI O) (T : TopF K mg "soonest_to" s_soonest_to) (h_no_flow : HNoFlow P w K mg base C) (h_flows_by_end : HFlows P w K mg base C) : HSoon P w K mg base C := (hf_soonest_to B R T h_no_flow h_flows_by_end).x fun f fd F => F.binds (ps := ["net", "start", "ends"]) fun _ _ _ _ _ _ us hl => match us, hl with | [_, _, _], _ => rfl
abbrev s_walls : Stmt := topS 37
abbrev N_walls : List Str := ["net", "start", "ends", "found", "flow"]
theorem sc_walls : FnScope N_walls ["net", "start", "ends"] (defScope s_walls) := ⟨rfl, rfl, rfl, by decide +kernel, rfl, by decide +kernel, by decide +kernel⟩
abbrev HWalls (P : Program) (w : World) (K : PySem.W.Frag) (mg : Str → Option Value) (base : Heap) (C : Addr) : Prop := HasX P w K mg base "walls" 8 ["net", "start", "ends"] (sX3 C isNet1 wallsD)
theorem h_walls (LS : LedStep) (B : Bl mg) (R : RefT P K mg C fI O) (T : TopF K mg "walls" s_walls) (h_flows_by_end : HFlows P w K mg base C) (h_reached : HReached P w K mg base C) : HWalls P w K mg base C := by
  obtain ⟨f, fd, hm, F⟩ := T
  refine ⟨f, fd, hm, F.kp, F.binds (ps := ["net", "start", "ends"]) fun _ _ _ _ _ _ us hl => match us, hl with | [_, _, _], _ => rfl, F.okX sc_walls (fun vs H Q E h => lenX3 h) (fun cdv A outer s H vs Q E hr h => ?_)⟩
  have nd := sc_walls.nd
  have hu := hu_of hr
  obtain ⟨G, ds, gh, ra, ⟨d, st, e, rfl, hsm⟩, kO, kE⟩ := h
  refine ⟨_, (pss_cons (ps_set (i := 3) nd rfl (by first | exact Or.inl rfl | exact Or.inr rfl) (pe_callHX h_flows_by_end (hr.mono (by decide)) (takes_of rfl rfl rfl rfl) (pa_cons (pv 0) (pa_cons (pv 1) (pa_cons (pv 2) pa_nil)))))
    (pss_one (ps_ret (pe_callTy (ktup (K := K)) (by rfl) B.tuple (by decide +kernel) (pa_cons (pe_lc (own := [("flow", 4)]) rfl nd (kseq (K := K) (pv 3)) (blkOk_by (N := N_walls) (sc := defScope s_walls) (by decide +kernel)) (fun _ _ _ _ _ => (pg_name (i := 4) nd rfl (by first | exact Or.inl rfl | exact Or.inr rfl))) (fun _ _ _ _ _ => pts_nil) (fun _ _ _ _ _ => (pe_ifExp (pt_cmp (pc_isN (pv 4)) rfl) pe_non (pe_callHL h_reached (hr.mono (by decide)) (pa_cons (pv 0) (pa_cons (pv 4) (pa_cons (pv 1) pa_nil))))))) pa_nil))))), ?_⟩
  have A0 := at_start (N := N_walls) gh ra (Nat.le_of_ble_eq_true rfl)
  cases ha : askD d st e with
  | error x => exact e_asgq (e_cX3 A0 (ga_v3 rfl rfl rfl) hsm (mapX_err ha) fun G' H' v' dx A' r hx => kE x (mapX_err ha) G' H' v' dx A'.ev r hx)
  | ok q =>
    obtain ⟨n, as, s, es⟩ := q
    obtain ⟨hn, he, hst, hse, Gd⟩ := askD_ok ha
    subst hst
    refine s_setq A0 (g_cX3 (ga_v3 rfl rfl rfl) hsm (mapX_ok ha)) fun G1 H1 σ1 A1 => ?_
    refine s_ret A1 (g_tupOf (ds := (flowsOf n as s es).map (wallD n as s)) (ga_cons (Gv.cast (d := .list ((flowsOf n as s es).map (wallD n as s))) (g_map (ds := (flowsOf n as s es).map flowD) (fun y => wallD n as s (loadOfD y)) (δ' := fun y => [.dat d, .dat (natD s), .dat e, .dat (.tuple ((flowsOf n as s es).map flowD)), .dat y]) (gi_seq (g_var (d := .tuple ((flowsOf n as s es).map flowD)) rfl) rfl) (A1.seqLen (i := 3) (d := .tuple ((flowsOf n as s es).map flowD)) rfl rfl) (fun x y _ => gg_name) (fun x y hy => ?_)) ?_) ga_nil) rfl) fun G' H' u A' r => kO _ (mapX_ok ha) G' H' u A'.ev r
    · obtain ⟨o, ho, rfl⟩ := List.mem_map.mp hy
      rw [loadOfD_D]
      unfold flowsOf at ho
      obtain ⟨k, _, rfl⟩ := List.mem_map.mp ho
      cases hk : flowK n as s es (k + 1) with
      | none => exact g_if (b := true) (Gt.cast (gt_b (g_isN (g_var (d := flowD none) rfl))) rfl) (fun _ => g_non) fun z => nomatch z
      | some l =>
        have okl := flowK_ok LS Gd (k + 1) l hk
        refine g_if (b := false) (Gt.cast (gt_b (g_isN (g_var (d := flowD (some l)) rfl))) rfl) (fun z => nomatch z) fun _ => ?_
        refine g_cL3 (ga_v3 (b := loadD l) rfl rfl rfl) hsm ?_
        unfold reachedD
        rw [hn]
        dsimp only
        rw [loadOf_ok okl]
        dsimp only
        have hb : isBelow (natD s) (n : Int) = true := by
          show (decide (0 ≤ (s : Int)) && decide ((s : Int) < (n : Int))) = true
          have := Gd.sn
          rw [decide_eq_true (by omega), decide_eq_true (by omega)]
          rfl
        rw [hb, natOf_D]
        rfl
    · rw [List.map_map]
      congr 1
      exact List.map_congr_left fun o _ => by show wallD n as s (loadOfD (flowD o)) = _; rw [loadOfD_D]
end
end Od
set_option Elab.async false
set_option linter.all false
set_option autoImplicit false
set_option maxRecDepth 100000
set_option maxHeartbeats 4000000
/-! W14: the law's words for nets and loads: more, is_load, worth. -/
namespace Od
open PySem PySem.Spec L2
section
variable {δ : List Sl} {M : Mem} {K : PySem.W.Frag} {ta tb : TE} {ds : List PyData}
/-- xs == [], xs != [] -/
theorem g_eqNil (ha : Gv δ M ta (.list ds)) (h : ∀ d ∈ ds, isFlat d = true) : Gv δ M (tOp (rEqD K) ta (tLst tNil)) (.bool ds.isEmpty) :=
  Gv.cast (g_eqD ha (g_lst ga_nil (Nat.zero_le _)) (shaped_flat h) (shaped_flat (by intro d hd; cases hd))) (by rw [eqv_nil])
theorem g_neNil (ha : Gv δ M ta (.list ds)) (h : ∀ d ∈ ds, isFlat d = true) : Gv δ M (tOp (rNeD K) ta (tLst tNil)) (.bool (!ds.isEmpty)) :=
  Gv.cast (g_neD ha (g_lst ga_nil (Nat.zero_le _)) (shaped_flat h) (shaped_flat (by intro d hd; cases hd))) (by rw [eqv_nil])
end
def isMore (nt ld v : PyData) : Prop := ∃ (n : Nat) (as : List Arc) (l : List Int) (u : Nat), nt = netD n as ∧ seqOf ld = some (intsD l) ∧ as.length = l.length ∧ v = natD u
def arcsOfNet (d : PyData) : List Arc := match seqOf d with
  | some [_, b] => arcsOfD b
  | _ => []
def nodesOfNet (d : PyData) : Nat := match seqOf d with
  | some [a, _] => natOf a
  | _ => 0
theorem arcsOfNet_D (n : Nat) (as : List Arc) : arcsOfNet (netD n as) = as := arcsOfD_D as
theorem nodesOfNet_D (n : Nat) (as : List Arc) : nodesOfNet (netD n as) = n := natOf_D n
def moreD (nt ld v : PyData) : PyData := .int (moreL (arcsOfNet nt) (intsOf ld) (natOf v))
theorem moreD_eq {n : Nat} {as : List Arc} {l : List Int} {ld : PyData} {u : Nat} (h : seqOf ld = some (intsD l)) : moreD (netD n as) ld (natD u) = .int (moreL as l u) := by
  unfold moreD intsOf
  rw [arcsOfNet_D, natOf_D, h]
  dsimp only
  rw [intsOf_D]
theorem range_filter_map (m : Nat) (p : Nat → Bool) (f : Nat → PyData) (p' : PyData → Bool) (f' : PyData → PyData) (hp : ∀ i, p' (natD i) = p i) (hf : ∀ i, f' (natD i) = f i) : ((rangeD m).filter p').map f' = ((List.range m).filter p).map f := by
  unfold rangeD
  rw [List.filter_map, List.map_map]
  have e1 : p' ∘ (fun i : Nat => PyData.int (i : Nat)) = p := funext hp
  rw [e1]
  exact List.map_congr_left fun i _ => hf i
def isNet (nt _v : PyData) : Prop := ∃ (n : Nat) (as : List Arc), nt = netD n as
def flatSeq (v : PyData) : Prop := ∀ xs, seqOf v = some xs → ∀ x ∈ xs, isFlat x = true
def isLoadD (nt v : PyData) : PyData := .bool (loadOf (arcsOfNet nt) v).isSome
def isWorth (nt lt : PyData) : Prop := ∃ (n : Nat) (as : List Arc) (lot : List Nat), nt = netD n as ∧ seqOf lt = some (natsD lot)
def worthD (nt lt : PyData) : PyData := capD (worthL (arcsOfNet nt) (natsOf lt))
theorem worthD_eq {n : Nat} {as : List Arc} {lot : List Nat} {lt : PyData} (h : seqOf lt = some (natsD lot)) : worthD (netD n as) lt = capD (worthL as lot) := by
  unfold worthD natsOf
  rw [arcsOfNet_D, h]
  dsimp only
  rw [natsOf_D]
theorem mem_nats {v : Nat} {l : List Nat} : decide ((v : Int) ∈ l.map fun m : Nat => (m : Int)) = decide (v ∈ l) := by
  rw [Bool.eq_iff_iff]
  simp only [decide_eq_true_eq, List.mem_map]
  constructor
  · rintro ⟨m, hm, e⟩
    have : m = v := by omega
    rw [← this]; exact hm
  · intro h
    exact ⟨v, h, rfl⟩
theorem nats_ints (l : List Nat) : natsD l = (l.map fun m : Nat => (m : Int)).map PyData.int := by
  unfold natsD
  rw [List.map_map]
  rfl
/-- v in lot -/
theorem g_inN {δ : List Sl} {M : Mem} {K : PySem.W.Frag} {ta tb : TE} {v : Nat} {l : List Nat} {db : PyData} (ha : Gv δ M ta (natD v)) (hb : Gv δ M tb db) (hq : seqOf db = some (natsD l)) : Gv δ M (tOp (rIn K false) ta tb) (.bool (decide (v ∈ l))) :=
  Gv.cast (g_inI (n := (v : Int)) (ns := l.map fun m : Nat => (m : Int)) ha hb (by rw [hq, nats_ints])) (by rw [mem_nats])
theorem g_notinN {δ : List Sl} {M : Mem} {K : PySem.W.Frag} {ta tb : TE} {v : Nat} {l : List Nat} {db : PyData} (ha : Gv δ M ta (natD v)) (hb : Gv δ M tb db) (hq : seqOf db = some (natsD l)) : Gv δ M (tOp (rIn K true) ta tb) (.bool (!decide (v ∈ l))) :=
  Gv.cast (g_notinI (n := (v : Int)) (ns := l.map fun m : Nat => (m : Int)) ha hb (by rw [hq, nats_ints])) (by rw [mem_nats])
theorem g_eqN {δ : List Sl} {M : Mem} {ta tb : TE} {v u : Nat} (ha : Gv δ M ta (natD v)) (hb : Gv δ M tb (natD u)) : Gv δ M (tOp rEq ta tb) (.bool (decide (v = u))) :=
  Gv.cast (g_eqI ha hb) (by congr 1; rw [Bool.eq_iff_iff]; simp only [decide_eq_true_eq]; omega)
theorem g_neN {δ : List Sl} {M : Mem} {ta tb : TE} {v u : Nat} (ha : Gv δ M ta (natD v)) (hb : Gv δ M tb (natD u)) : Gv δ M (tOp rNe ta tb) (.bool (!decide (v = u))) :=
  Gv.cast (g_neI ha hb) (by congr 2; rw [Bool.eq_iff_iff]; simp only [decide_eq_true_eq]; omega)
theorem inV_none (cs : List (Option Int)) : inV .non (cs.map fun o => match o with | none => V.non | some c => .int c) = cs.any fun o => o.isNone := by
  unfold inV
  rw [List.any_map]
  congr 1
  funext o
  cases o <;> rfl
theorem caps_fl (cs : List (Option Int)) : flAll (cs.map capD) = some (cs.map fun o => match o with | none => V.non | some c => .int c) := by
  unfold flAll
  induction cs with
  | nil => rfl
  | cons c cs ih =>
    rw [List.map_cons, List.mapM_cons, ih]
    cases c <;> rfl
theorem caps_flat (cs : List (Option Int)) : (cs.map fun o => match o with | none => V.non | some c => .int c).all flatV = true := by
  rw [List.all_map, List.all_eq_true]
  intro o _
  cases o <;> rfl
/-- None in xs -/
theorem g_noneIn {δ : List Sl} {M : Mem} {K : PySem.W.Frag} {ta tb : TE} {cs : List (Option Int)} {db : PyData} (ha : Gv δ M ta .none) (hb : Gv δ M tb db) (hq : seqOf db = some (cs.map capD)) : Gv δ M (tOp (rIn K false) ta tb) (.bool (cs.any fun o => o.isNone)) :=
  Gv.cast (g_in ha hb hq rfl (caps_fl cs) rfl (caps_flat cs)) (by rw [inV_none])
theorem outs_map (as : List Arc) (p : PyData → Bool) (lot : List Nat) (hp : ∀ a, p (arcD a) = (decide (a.t ∈ lot) && !decide (a.h ∈ lot))) (f : PyData → PyData) (hf : ∀ a, f (arcD a) = capD a.c) : ((as.map arcD).filter p).map f = ((outs as lot).map fun a => a.c).map capD := by
  unfold outs
  rw [List.filter_map, List.map_map, List.map_map]
  have e1 : p ∘ arcD = fun a => decide (a.t ∈ lot) && !decide (a.h ∈ lot) := funext hp
  rw [e1]
  exact List.map_congr_left fun a _ => hf a
section
variable {P : Program} {w : World} {K : PySem.W.Frag} {mg : Str → Option Value} {base : Heap} {C fI O : Addr}
abbrev s__law_more : Stmt := topS 45
abbrev N__law_more : List Str := ["_law_net_here", "_law_load", "_law_node", "_law_some", "_law_at"]
theorem sc__law_more : FnScope N__law_more ["_law_net_here", "_law_load", "_law_node"] (defScope s__law_more) := ⟨rfl, rfl, rfl, by decide +kernel, rfl, by decide +kernel, by decide +kernel⟩
abbrev HMore (P : Program) (w : World) (K : PySem.W.Frag) (mg : Str → Option Value) (base : Heap) : Prop := Has P w K mg base "_law_more" CX0 1 ["_law_net_here", "_law_load", "_law_node"] (sp3 isMore moreD)
theorem h__law_more (B : Bl mg) (T : TopF K mg "_law_more" s__law_more) : HMore P w K mg base := by
  obtain ⟨f, fd, hm, F⟩ := T
  refine ⟨f, fd, hm, F.kp, F.binds (ps := ["_law_net_here", "_law_load", "_law_node"]) fun _ _ _ _ _ _ us hl => match us, hl with | [_, _, _], _ => rfl, F.ok sc__law_more (fun vs H Q E h => len3 h) (fun cdv A outer s H vs Q E hr h => ?_)⟩
  have nd := sc__law_more.nd
  have hu := hu_of hr
  obtain ⟨G, ds, gh, ra, ⟨_, ld, _, rfl, ⟨n, as, l, u, rfl, hs, hl, rfl⟩⟩, k⟩ := h
  refine ⟨_, (pss_cons (ps_setLcQ (i := 3) (own := [("_law_at", 4)]) rfl nd (pi_range1 (by rfl) B.range (pa_cons (pe_callB (klen (K := K)) (by rfl) B.len (by decide +kernel) (pa_cons (pv 1) pa_nil)) pa_nil)) (blkOk_by (N := N__law_more) (sc := defScope s__law_more) (by decide +kernel)) (fun _ _ _ _ _ => (pg_name (i := 4) nd rfl (by first | exact Or.inl rfl | exact Or.inr rfl))) (fun _ _ _ _ _ => (pts_one (pt_cmpR op_eq (pe_ix (kix (K := K)) (pe_ix (kix (K := K)) (pe_ix (kix (K := K)) (pv 0) pe_int (fun _ _ => rfl)) (pv 4) (fun _ _ => rfl)) pe_int (fun _ _ => rfl)) (pv 2) (nomark _)))) (fun _ _ _ _ _ => (pe_ix (kix (K := K)) (pv 1) (pv 4) (fun _ _ => rfl))))
    (pss_one (ps_ret (pe_op op_sub (pe_callB (ksum (K := K)) (by rfl) B.sum (by decide +kernel) (pa_cons (pv 3) pa_nil)) (pe_callB (ksum (K := K)) (by rfl) B.sum (by decide +kernel) (pa_cons (pe_lc (own := [("_law_at", 4)]) rfl nd (pi_range1 (by rfl) B.range (pa_cons (pe_callB (klen (K := K)) (by rfl) B.len (by decide +kernel) (pa_cons (pv 1) pa_nil)) pa_nil)) (blkOk_by (N := N__law_more) (sc := defScope s__law_more) (by decide +kernel)) (fun _ _ _ _ _ => (pg_name (i := 4) nd rfl (by first | exact Or.inl rfl | exact Or.inr rfl))) (fun _ _ _ _ _ => (pts_one (pt_cmpR op_eq (pe_ix (kix (K := K)) (pe_ix (kix (K := K)) (pe_ix (kix (K := K)) (pv 0) pe_int (fun _ _ => rfl)) (pv 4) (fun _ _ => rfl)) pe_int (fun _ _ => rfl)) (pv 2) (nomark _)))) (fun _ _ _ _ _ => (pe_ix (kix (K := K)) (pv 1) (pv 4) (fun _ _ => rfl)))) pa_nil)))))), ?_⟩
  have A0 := at_start (N := N__law_more) gh ra (Nat.le_of_ble_eq_true rfl)
  have hll : l.length ≤ 100000 := by
    have := A0.seqLen (i := 1) (d := ld) rfl hs
    rw [intsD_len] at this
    exact this
  have rng : ∀ (δ : List Sl) (M : Mem), δ[1]? = some (.dat ld) → Gi δ M (iRng1 (tCons (tCB (kLen K) (tCons (tVar 1) tNil)) tNil)) (rangeD l.length) := fun δ M h => gi_range (n := l.length) (ga_cons (Gv.cast (g_len (ga_v h) hs) (by rw [intsD_len])) ga_nil) hll
  have arc : ∀ (δ : List Sl) (M : Mem) (i : Nat) (y : PyData), i < l.length → δ[0]? = some (.dat (netD n as)) → δ[4]? = some (.dat (natD i)) → Gv δ M (tOp (rIx K) (tOp (rIx K) (tVar 0) (tC (.int 1))) (tVar 4)) (arcD (as.getD i default)) := fun δ M i y hi h0 h4 => g_ix (n := i) (g_ix (n := 1) (d := arcsD as) (g_var h0) g_int rfl rfl) (g_var h4) rfl (arcs_get (by omega))
  have lc : ∀ (δ : List Sl) (M : Mem) (j : Int) (f : Arc → Nat), δ.length = 5 → δ[0]? = some (.dat (netD n as)) → δ[1]? = some (.dat ld) → δ[2]? = some (.dat (natD u)) → (∀ (δ : List Sl) (M : Mem) (i : Nat), i < l.length → δ[0]? = some (.dat (netD n as)) → δ[4]? = some (.dat (natD i)) → Gv δ M (tOp (rIx K) (tOp (rIx K) (tOp (rIx K) (tVar 0) (tC (.int 1))) (tVar 4)) (tC (.int j))) (natD (f (as.getD i default)))) →
      Gv δ M (tLc (iRng1 (tCons (tCB (kLen K) (tCons (tVar 1) tNil)) tNil)) (gName 4) (tTest (tOp rEq (tOp (rIx K) (tOp (rIx K) (tOp (rIx K) (tVar 0) (tC (.int 1))) (tVar 4)) (tC (.int j))) (tVar 2))) (tOp (rIx K) (tVar 1) (tVar 4)) [4]) (.list (intsD (((List.range l.length).filter fun i => decide (f (as.getD i default) = u)).map fun i => l.getD i 0))) := fun δ M j f hd h0 h1 h2 harc => by
    have s0 : ∀ y : PyData, ((wipeS δ [4]).set 4 (.dat y))[0]? = some (.dat (netD n as)) := fun y => by
      show ((δ.set 4 .any).set 4 _)[0]? = _
      rw [List.getElem?_set_ne (by decide), List.getElem?_set_ne (by decide)]; exact h0
    have s1 : ∀ y : PyData, ((wipeS δ [4]).set 4 (.dat y))[1]? = some (.dat ld) := fun y => by
      show ((δ.set 4 .any).set 4 _)[1]? = _
      rw [List.getElem?_set_ne (by decide), List.getElem?_set_ne (by decide)]; exact h1
    have s2 : ∀ y : PyData, ((wipeS δ [4]).set 4 (.dat y))[2]? = some (.dat (natD u)) := fun y => by
      show ((δ.set 4 .any).set 4 _)[2]? = _
      rw [List.getElem?_set_ne (by decide), List.getElem?_set_ne (by decide)]; exact h2
    have s4 : ∀ y : PyData, ((wipeS δ [4]).set 4 (.dat y))[4]? = some (.dat y) := fun y => by
      show ((δ.set 4 .any).set 4 _)[4]? = _
      rw [List.getElem?_set_self (by rw [List.length_set, hd]; decide)]
    refine Gv.cast (g_lc (fun y => decide (f (as.getD (natOf y) default) = u)) (fun y => .int (l.getD (natOf y) 0)) (δ' := fun y => (wipeS δ [4]).set 4 (.dat y)) (rng δ M h1) (by rw [rangeD_len]; exact hll) (fun x y _ => gg_name) (fun x y hy => ?_) (fun x y hy _ => ?_)) ?_
    · obtain ⟨i, hi, rfl⟩ := List.mem_map.mp hy
      rw [show natOf (PyData.int (i : Nat)) = i from natOf_D i]
      exact gt_test (g_eqN (harc _ _ i (List.mem_range.mp hi) (s0 _) (s4 _)) (g_var (s2 _)))
    · obtain ⟨i, hi, rfl⟩ := List.mem_map.mp hy
      rw [show natOf (PyData.int (i : Nat)) = i from natOf_D i]
      exact g_ix (n := i) (g_var (s1 _)) (g_var (s4 _)) hs (intsD_get (List.mem_range.mp hi))
    · rw [range_filter_map l.length (fun i => decide (f (as.getD i default) = u)) (fun i => .int (l.getD i 0)) _ _ (fun i => by rw [natOf_D]) (fun i => by rw [natOf_D])]
      unfold intsD
      rw [List.map_map]
      rfl
  refine s_setq A0 (lc _ _ 1 (fun a => a.h) rfl rfl rfl rfl fun δ M i hi h0 h4 => g_ix (n := 1) (arc δ M i .none hi h0 h4) g_int rfl rfl) fun G1 H1 σ1 A1 => ?_
  refine s_ret A1 (g_op0 (g_sum (ga_v rfl)) (g_sum (ga_cons (lc _ _ 0 (fun a => a.t) rfl rfl rfl rfl fun δ M i hi h0 h4 => g_ix (n := 0) (arc δ M i .none hi h0 h4) g_int rfl rfl) ga_nil))) fun G' H' v A' r => k G' H' v A'.ev (by
    show Rep G' v (moreD _ _ _)
    rw [moreD_eq hs]
    exact r)
end
end Od
set_option Elab.async false
set_option linter.all false
set_option autoImplicit false
set_option maxRecDepth 100000
set_option maxHeartbeats 4000000
/-! W15: is_load, worth, lots, best, is_to, most. -/
namespace Od
open PySem PySem.Spec L2
def isLots (nt st e : PyData) : Prop := ∃ (n : Nat) (as : List Arc) (s : Nat) (es : List Nat), nt = netD n as ∧ st = natD s ∧ seqOf e = some (natsD es) ∧ n ≤ 6
def lotD (as : List Arc) (lot : List Nat) : PyData := .tuple [capD (worthL as lot), .list (natsD lot)]
def lotsD (nt st e : PyData) : PyData := .list ((lotsK (natOf st) (natsOf e) (nodesOfNet nt)).map (lotD (arcsOfNet nt)))
def isBest (d : PyData) : Prop := ∃ (as : List Arc) (lots : List (List Nat)), d = .list (lots.map (lotD as))
def bestD (d : PyData) : PyData := match seqOf d with
  | some xs => capD (bestL (xs.map fun x => match seqOf x with | some (c :: _) => capOf c | _ => none))
  | none => .none
theorem bestD_eq (as : List Arc) (lots : List (List Nat)) : bestD (.list (lots.map (lotD as))) = capD (bestL (lots.map (worthL as))) := by
  show capD (bestL ((lots.map (lotD as)).map _)) = _
  rw [List.map_map]
  congr 2
  exact List.map_congr_left fun lot _ => capOf_D _
def isIsTo (nt st e v : PyData) : Prop := ∃ (n : Nat) (as : List Arc) (s : Nat) (es : List Nat), nt = netD n as ∧ st = natD s ∧ seqOf e = some (natsD es) ∧ n ≤ 2000 ∧ flatSeq v
def isToD (nt st e v : PyData) : PyData := .bool (isToL (nodesOfNet nt) (arcsOfNet nt) (natOf st) (natsOf e) v)
def isMost (nt st e : PyData) : Prop := ∃ (n : Nat) (as : List Arc) (s : Nat) (es : List Nat), nt = netD n as ∧ st = natD s ∧ e = .list (natsD es) ∧ n ≤ 6
def lawMostD (nt st e : PyData) : PyData := .list ((List.range (natsOf e).length).map fun k => capD (leastK (nodesOfNet nt) (arcsOfNet nt) (natOf st) (natsOf e) k))
theorem natsOf_seq {e : PyData} {es : List Nat} (h : seqOf e = some (natsD es)) : natsOf e = es := by
  unfold natsOf
  rw [h]
  dsimp only
  rw [natsOf_D]
def notNum (d : PyData) : Bool := !isI d || (isB d || (match d with | .int i => decide (i < 0) | _ => false))
theorem notNum_eq (d : PyData) : notNum d = !isNumber d := by
  cases d with
  | int i =>
    show (false || (false || decide (i < 0))) = !decide (0 ≤ i)
    by_cases h : i < 0
    · rw [decide_eq_true h, decide_eq_false (by omega)]; rfl
    · rw [decide_eq_false h, decide_eq_true (by omega)]; rfl
  | _ => rfl
theorem filter_none {α : Type} {l : List α} {p : α → Bool} : (l.filter p).isEmpty = l.all fun x => !p x := by
  induction l with
  | nil => rfl
  | cons x l ih =>
    rw [List.filter_cons, List.all_cons]
    cases p x with
    | true => rfl
    | false => exact ih
theorem zip_range (as : List Arc) (xs : List PyData) (h : xs.length = as.length) : (List.zipWith (fun a x => leCap (intOf x) a.c) as xs).all id = (List.range as.length).all fun i => leCap (intOf (xs.getD i .none)) (as.getD i default).c := by
  rw [Bool.eq_iff_iff, List.all_eq_true, List.all_eq_true]
  constructor
  · intro H i hi
    have hi := List.mem_range.mp hi
    have hx : xs[i]? = some (xs.getD i .none) := by rw [List.getD_eq_getElem?_getD, List.getElem?_eq_getElem (by omega)]; rfl
    have ha : as[i]? = some (as.getD i default) := by rw [List.getD_eq_getElem?_getD, List.getElem?_eq_getElem hi]; rfl
    exact H (leCap (intOf (xs.getD i .none)) (as.getD i default).c) (List.mem_of_getElem? (i := i) (by rw [List.getElem?_zipWith, ha, hx]))
  · intro H b hb
    obtain ⟨i, hi⟩ := List.getElem?_of_mem hb
    rw [List.getElem?_zipWith] at hi
    cases ha : as[i]? with
    | none => rw [ha] at hi; simp at hi
    | some a =>
      cases hx : xs[i]? with
      | none => rw [ha, hx] at hi; simp at hi
      | some x =>
        rw [ha, hx] at hi
        have hi : leCap (intOf x) a.c = b := Option.some.inj hi
        have := H i (List.mem_range.mpr (List.getElem?_eq_some_iff.mp ha).1)
        rw [List.getD_eq_getElem?_getD, List.getD_eq_getElem?_getD, hx, ha] at this
        rw [← hi]
        exact this
section
variable {P : Program} {w : World} {K : PySem.W.Frag} {mg : Str → Option Value} {base : Heap} {C fI O : Addr}
abbrev s__law_is_load : Stmt := topS 46
abbrev N__law_is_load : List Str := ["_law_net_here", "_law_value_here", "_law_arcs", "_law_one", "_law_at"]
theorem sc__law_is_load : FnScope N__law_is_load ["_law_net_here", "_law_value_here"] (defScope s__law_is_load) := ⟨rfl, rfl, rfl, by decide +kernel, rfl, by decide +kernel, by decide +kernel⟩
abbrev HIsLoad (P : Program) (w : World) (K : PySem.W.Frag) (mg : Str → Option Value) (base : Heap) : Prop := Has P w K mg base "_law_is_load" CX0 1 ["_law_net_here", "_law_value_here"] (sp2 (fun nt v => isNet nt v ∧ flatSeq v) isLoadD)
theorem h__law_is_load (B : Bl mg) (T : TopF K mg "_law_is_load" s__law_is_load) : HIsLoad P w K mg base := by
  obtain ⟨f, fd, hm, F⟩ := T
  refine ⟨f, fd, hm, F.kp, F.binds (ps := ["_law_net_here", "_law_value_here"]) fun _ _ _ _ _ _ us hl => match us, hl with | [_, _], _ => rfl, F.ok sc__law_is_load (fun vs H Q E h => len2 h) (fun cdv A outer s H vs Q E hr h => ?_)⟩
  have nd := sc__law_is_load.nd
  have hu := hu_of hr
  obtain ⟨G, ds, gh, ra, ⟨_, v, rfl, ⟨⟨n, as, rfl⟩, hfl⟩⟩, k⟩ := h
  refine ⟨_, (pss_cons (ps_set (i := 2) nd rfl (by first | exact Or.inl rfl | exact Or.inr rfl) (pe_ix (kix (K := K)) (pv 0) pe_int (fun _ _ => rfl)))
    (pss_cons (ps_if (PW.pt (pw_or (pt_not (pt_val (pe_callB (kisiT (K := K)) (by rfl) B.isi (by decide +kernel) (pa_cons (pv 1) (pa_cons (pe_tup (pa_cons (pe_bltn (v := .ty "list") (by rfl) B.list (by decide +kernel) rfl) (pa_cons (pe_bltn (v := .ty "tuple") (by rfl) B.tuple (by decide +kernel) rfl) pa_nil))) pa_nil))))) (pw_or1 (pt_cmpR op_ne (pe_callB (klen (K := K)) (by rfl) B.len (by decide +kernel) (pa_cons (pv 1) pa_nil)) (pe_callB (klen (K := K)) (by rfl) B.len (by decide +kernel) (pa_cons (pv 2) pa_nil)) (nomark _))))) (pss_one (ps_ret pe_bl)) pss_nil)
    (pss_cons (ps_if (pt_cmpR (kne hr.units (K := K)) (pe_lc (own := [("_law_one", 3)]) rfl nd (kseq (K := K) (pv 1)) (blkOk_by (N := N__law_is_load) (sc := defScope s__law_is_load) (by decide +kernel)) (fun _ _ _ _ _ => (pg_name (i := 3) nd rfl (by first | exact Or.inl rfl | exact Or.inr rfl))) (fun _ _ _ _ _ => (pts_one (PW.pt (pw_or (pt_not (pt_val (pe_callB (kisi (K := K)) (by rfl) B.isi (by decide +kernel) (pa_cons (pv 3) (pa_cons (pe_bltn (v := .ty "int") (by rfl) B.int (by decide +kernel) rfl) pa_nil))))) (pw_or (pt_val (pe_callB (kisi (K := K)) (by rfl) B.isi (by decide +kernel) (pa_cons (pv 3) (pa_cons (pe_bltn (v := .ty "bool") (by rfl) B.bool (by decide +kernel) rfl) pa_nil)))) (pw_or1 (pt_cmpR op_lt (pv 3) pe_int (nomark _)))))))) (fun _ _ _ _ _ => (pv 3))) (pe_lst pa_nil) (nomark _)) (pss_one (ps_ret pe_bl)) pss_nil)
    (pss_one (ps_ret (pe_cmpR (keq hr.units (K := K)) (pe_lc (own := [("_law_at", 4)]) rfl nd (pi_range1 (by rfl) B.range (pa_cons (pe_callB (klen (K := K)) (by rfl) B.len (by decide +kernel) (pa_cons (pv 2) pa_nil)) pa_nil)) (blkOk_by (N := N__law_is_load) (sc := defScope s__law_is_load) (by decide +kernel)) (fun _ _ _ _ _ => (pg_name (i := 4) nd rfl (by first | exact Or.inl rfl | exact Or.inr rfl))) (fun _ _ _ _ _ => (pts_one (PW.pt (pw_and (pt_cmp (pc_notN (pe_ix (kix (K := K)) (pe_ix (kix (K := K)) (pv 2) (pv 4) (fun _ _ => rfl)) pe_int (fun _ _ => rfl))) rfl) (pw_and1 (pt_cmpR op_gt (pe_ix (kix (K := K)) (pv 1) (pv 4) (fun _ _ => rfl)) (pe_ix (kix (K := K)) (pe_ix (kix (K := K)) (pv 2) (pv 4) (fun _ _ => rfl)) pe_int (fun _ _ => rfl)) (nomark _))))))) (fun _ _ _ _ _ => (pv 4))) (pe_lst pa_nil) (nomark _))))))), ?_⟩
  have A0 := at_start (N := N__law_is_load) gh ra (Nat.le_of_ble_eq_true rfl)
  have k' : ∀ b, (loadOf as v).isSome = b → ∀ G' H' u, Ev [] G H G' H' → Rep G' u (.bool b) → Q u H' := fun b e G' H' u ev r => k G' H' u ev (by show Rep G' u (.bool (loadOf (arcsOfNet (netD n as)) v).isSome); rw [arcsOfNet_D, e]; exact r)
  refine s_setq A0 (g_ix (n := 1) (d := arcsD as) (g_var (d := netD n as) rfl) g_int rfl rfl) fun G1 H1 σ1 A1 => ?_
  have la : ∀ M, Gv [.dat (netD n as), .dat v, .dat (arcsD as), .any, .any] M (tCB (kLen K) (tCons (tVar 2) tNil)) (.int as.length) := fun M => Gv.cast (g_len (ga_v (a := arcsD as) rfl) rfl) (by rw [List.length_map])
  cases hs : seqOf v with
  | none =>
    exact s_ifq (b := true) A1 (Gt.cast (gt_or (a := !isSeqD v) (gt_not (gt_b (Gv.cast (g_isiT (g_var rfl) (kit_L v) (kit_T v)) (d := .bool (isSeqD v)) (by cases v <;> rfl)))) (b := true) fun z => absurd z (by rw [isSeqD_no hs]; decide)) (by rw [isSeqD_no hs]; rfl)) (fun _ G2 H2 A2 => s_ret A2 g_bl fun G' H' u A' r => k' false (by rw [loadOf_none hs]; rfl) G' H' u A'.ev r) fun z => nomatch z
  | some xs =>
    have hq : isSeqD v = true := by cases v <;> first | rfl | cases hs
    have xl : xs.length ≤ 100000 := A1.seqLen (i := 1) (d := v) rfl hs
    refine s_ifq (b := !decide (xs.length = as.length)) A1 (Gt.cast (gt_or (a := !isSeqD v) (b := !decide ((xs.length : Int) = (as.length : Int))) (gt_not (gt_b (Gv.cast (g_isiT (g_var rfl) (kit_L v) (kit_T v)) (d := .bool (isSeqD v)) (by cases v <;> rfl)))) fun _ => gt_test (g_neI (g_len (ga_v rfl) hs) (la _))) (by rw [hq, decN]; rfl)) (fun z G2 H2 A2 => s_ret A2 g_bl fun G' H' u A' r => k' false ?_ G' H' u A'.ev r) fun z G2 H2 A2 => ?_
    · rw [loadOf_eq hs, (Bool.not_eq_true' _).mp z]
      rfl
    · have hl : xs.length = as.length := of_decide_eq_true ((Bool.not_eq_false' _).mp z)
      have zl := (Bool.not_eq_false' _).mp z
      refine s_ifq (b := !(xs.all isNumber)) A2 (Gt.cast (gt_test (g_neNil (ds := (xs.filter notNum).map id) (g_lc notNum id (δ' := fun y => [.dat (netD n as), .dat v, .dat (arcsD as), .dat y, .any]) (gi_seq (g_var (d := v) rfl) hs) xl (fun x y _ => gg_name) (fun x y _ => ?_) (fun x y _ _ => g_var rfl)) ?_)) ?_) (fun z2 G3 H3 A3 => s_ret A3 g_bl fun G' H' u A' r => k' false ?_ G' H' u A'.ev r) fun z2 G3 H3 A3 => ?_
      · refine gt_or (gt_not (gt_b (g_isi (g_var rfl) (kit_I y)))) fun z3 => gt_or (gt_b (g_isi (g_var rfl) (kit_B y))) fun z4 => ?_
        cases y with
        | int i => exact gt_test (g_opB (g_var rfl) g_int)
        | bool _ => cases z4
        | _ => cases z3
      · intro x hx
        rw [List.map_id] at hx
        exact hfl xs hs x (List.mem_filter.mp hx).1
      · rw [List.map_id, filter_none]
        congr 1
        congr 1
        funext x
        rw [notNum_eq, Bool.not_not]
      · rw [loadOf_eq hs, (Bool.not_eq_true' _).mp z2, Bool.and_false]
        rfl
      · have hn := (Bool.not_eq_false' _).mp z2
        have hint : ∀ i, i < xs.length → ∃ j : Int, xs[i]? = some (.int j) := fun i hi => by
          obtain ⟨j, e, _⟩ := isNum_int (List.all_eq_true.mp hn _ (List.getElem_mem hi))
          exact ⟨j, by rw [List.getElem?_eq_getElem hi, e]⟩
        have cap : ∀ (M : Mem) (i : Nat), i < as.length → Gv [.dat (netD n as), .dat v, .dat (arcsD as), .any, .dat (natD i)] M (tOp (rIx K) (tOp (rIx K) (tVar 2) (tVar 4)) (tC (.int 2))) (capD (as.getD i default).c) := fun M i hi => g_ix (n := 2) (g_ix (n := i) (d := arcD (as.getD i default)) (g_var (d := arcsD as) rfl) (g_var rfl) rfl (arcs_get hi)) g_int rfl rfl
        refine s_ret A3 (Gv.cast (g_eqNil (ds := ((rangeD as.length).filter fun y => !leCap (intOf (xs.getD (natOf y) .none)) (as.getD (natOf y) default).c).map id) (g_lc (fun y => !leCap (intOf (xs.getD (natOf y) .none)) (as.getD (natOf y) default).c) id (δ' := fun y => [.dat (netD n as), .dat v, .dat (arcsD as), .any, .dat y]) (gi_range (n := as.length) (ga_cons (la _) ga_nil) (by omega)) (by rw [rangeD_len]; omega) (fun x y _ => gg_name) (fun x y hy => ?_) (fun x y _ _ => g_var rfl)) ?_) ?_) fun G' H' u A' r => k' _ rfl G' H' u A'.ev r
        · obtain ⟨i, hi, rfl⟩ := List.mem_map.mp hy
          have hi := List.mem_range.mp hi
          rw [show natOf (PyData.int (i : Nat)) = i from natOf_D i]
          obtain ⟨j, hj⟩ := hint i (by omega)
          have ej : xs.getD i .none = .int j := by rw [List.getD_eq_getElem?_getD, hj]; rfl
          rw [ej]
          have cp := cap [x] i hi
          cases hc : (as.getD i default).c with
          | none =>
            rw [hc] at cp
            refine Gt.cast (gt_and (a := false) (b := true) (Gt.cast (gt_b (g_notN cp)) rfl) fun z => nomatch z) rfl
          | some c =>
            rw [hc] at cp
            refine Gt.cast (gt_and (a := true) (Gt.cast (gt_b (g_notN cp)) rfl) fun _ => gt_test (g_opB (g_ix (n := i) (g_var (d := v) rfl) (g_var (d := natD i) rfl) hs hj) cp)) ?_
            show (true && decide (c < j)) = !decide (j ≤ c)
            by_cases h : c < j
            · rw [decide_eq_true h, decide_eq_false (by omega)]; rfl
            · rw [decide_eq_false h, decide_eq_true (by omega)]; rfl
        · intro x hx
          rw [List.map_id] at hx
          obtain ⟨i, _, rfl⟩ := List.mem_map.mp (List.mem_filter.mp hx).1
          rfl
        · rw [List.map_id, filter_none, loadOf_eq hs, zl, hn]
          show PyData.bool _ = PyData.bool (if (true && true && (List.zipWith (fun a x => leCap (intOf x) a.c) as xs).all id) = true then some (xs.map intOf) else none).isSome
          rw [zip_range as xs hl]
          have e : ((rangeD as.length).all fun x => !!leCap (intOf (xs.getD (natOf x) .none)) (as.getD (natOf x) default).c) = (List.range as.length).all fun i => leCap (intOf (xs.getD i .none)) (as.getD i default).c := by
            unfold rangeD
            rw [List.all_map]
            congr 1
            funext i
            show (!!leCap (intOf (xs.getD (natOf (natD i)) .none)) (as.getD (natOf (natD i)) default).c) = _
            rw [natOf_D, Bool.not_not]
          rw [e]
          cases (List.range as.length).all fun i => leCap (intOf (xs.getD i .none)) (as.getD i default).c <;> rfl
abbrev s__law_worth : Stmt := topS 47
abbrev N__law_worth : List Str := ["_law_net_here", "_law_lot", "_law_some", "_law_arc"]
theorem sc__law_worth : FnScope N__law_worth ["_law_net_here", "_law_lot"] (defScope s__law_worth) := ⟨rfl, rfl, rfl, by decide +kernel, rfl, by decide +kernel, by decide +kernel⟩
abbrev HWorth (P : Program) (w : World) (K : PySem.W.Frag) (mg : Str → Option Value) (base : Heap) : Prop := Has P w K mg base "_law_worth" CX0 1 ["_law_net_here", "_law_lot"] (sp2 isWorth worthD)
theorem h__law_worth (B : Bl mg) (T : TopF K mg "_law_worth" s__law_worth) : HWorth P w K mg base := by
  obtain ⟨f, fd, hm, F⟩ := T
  refine ⟨f, fd, hm, F.kp, F.binds (ps := ["_law_net_here", "_law_lot"]) fun _ _ _ _ _ _ us hl => match us, hl with | [_, _], _ => rfl, F.ok sc__law_worth (fun vs H Q E h => len2 h) (fun cdv A outer s H vs Q E hr h => ?_)⟩
  have nd := sc__law_worth.nd
  have hu := hu_of hr
  obtain ⟨G, ds, gh, ra, ⟨_, lt, rfl, ⟨n, as, lot, rfl, hs⟩⟩, k⟩ := h
  refine ⟨_, (pss_cons (ps_setLcQ (i := 2) (own := [("_law_arc", 3)]) rfl nd (kseq (K := K) (pe_ix (kix (K := K)) (pv 0) pe_int (fun _ _ => rfl))) (blkOk_by (N := N__law_worth) (sc := defScope s__law_worth) (by decide +kernel)) (fun _ _ _ _ _ => (pg_name (i := 3) nd rfl (by first | exact Or.inl rfl | exact Or.inr rfl))) (fun _ _ _ _ _ => (pts_one (PW.pt (pw_and (pt_cmpR (kin (K := K)) (pe_ix (kix (K := K)) (pv 3) pe_int (fun _ _ => rfl)) (pv 1) (by with_unfolding_all rfl)) (pw_and1 (pt_cmpR (knotin (K := K)) (pe_ix (kix (K := K)) (pv 3) pe_int (fun _ _ => rfl)) (pv 1) (by with_unfolding_all rfl))))))) (fun _ _ _ _ _ => (pe_ix (kix (K := K)) (pv 3) pe_int (fun _ _ => rfl))))
    (pss_one (ps_ret (pe_ifExp (pt_cmpR (kin (K := K)) pe_non (pv 2) (by with_unfolding_all rfl)) pe_non (pe_callB (ksum (K := K)) (by rfl) B.sum (by decide +kernel) (pa_cons (pv 2) pa_nil)))))), ?_⟩
  have A0 := at_start (N := N__law_worth) gh ra (Nat.le_of_ble_eq_true rfl)
  have al : as.length ≤ 100000 := by
    have := A0.itemLen (i := 0) (n := 1) (d := netD n as) (b := arcsD as) rfl rfl rfl rfl
    rw [List.length_map] at this
    exact this
  refine s_setq A0 (Gv.cast (d := .list (((outs as lot).map fun a => a.c).map capD)) (g_lc (ds := as.map arcD) (fun y => decide ((arcOf y).t ∈ lot) && !decide ((arcOf y).h ∈ lot)) (fun y => capD (arcOf y).c) (δ' := fun y => [.dat (netD n as), .dat lt, .any, .dat y]) (gi_seq (g_ix (n := 1) (d := arcsD as) (g_var rfl) g_int rfl rfl) rfl) (by rw [List.length_map]; exact al) (fun x y _ => gg_name) (fun x y hy => ?_) (fun x y hy _ => ?_)) ?_) fun G1 H1 σ1 A1 => ?_
  · obtain ⟨a, _, rfl⟩ := List.mem_map.mp hy
    rw [arcOf_D]
    exact gt_and (gt_b (g_inN (g_ix (n := 0) (g_var (d := arcD a) rfl) g_int rfl rfl) (g_var rfl) hs)) fun _ => gt_b (g_notinN (g_ix (n := 1) (g_var (d := arcD a) rfl) g_int rfl rfl) (g_var rfl) hs)
  · obtain ⟨a, _, rfl⟩ := List.mem_map.mp hy
    rw [arcOf_D]
    exact g_ix (n := 2) (g_var (d := arcD a) rfl) g_int rfl rfl
  · rw [outs_map as _ lot (fun a => by rw [arcOf_D]) _ fun a => by rw [arcOf_D]]
  refine s_ret (d := capD (worthL as lot)) A1 ?_ fun G' H' u A' r => k G' H' u A'.ev (by show Rep G' u (worthD _ _); rw [worthD_eq hs]; exact r)
  have e : (((outs as lot).map fun a => a.c).any fun o => o.isNone) = (outs as lot).any fun a => a.c.isNone := by rw [List.any_map]; rfl
  unfold worthL
  rw [← e]
  refine g_if (gt_b (g_noneIn g_non (g_var rfl) rfl)) (fun z => ?_) fun z => ?_
  · rw [z]
    exact g_non
  · rw [z]
    refine Gv.cast (g_sum (ns := (outs as lot).map fun a => a.c.getD 0) (ga_cons (Gv.cast (g_var (d := .list (((outs as lot).map fun a => a.c).map capD)) rfl) ?_) ga_nil)) rfl
    congr 1
    rw [List.map_map, List.map_map]
    refine List.map_congr_left fun a ha => ?_
    rw [List.any_map] at z
    have := List.any_eq_false.mp z a ha
    show capD a.c = .int (a.c.getD 0)
    cases hc : a.c with
    | none => exact absurd (show ((fun o : Option Int => o.isNone) ∘ fun a : Arc => a.c) a = true by show a.c.isNone = true; rw [hc]; rfl) this
    | some c => rfl
end
end Od
set_option Elab.async false
set_option linter.all false
set_option autoImplicit false
set_option maxRecDepth 100000
set_option maxHeartbeats 4000000
/-! W16: lots, best, is_to, most. -/
namespace Od
open PySem PySem.Spec L2
def lotsL (f : List (List Nat)) : PyData := .list (f.map fun lot => .list (natsD lot))
theorem lotsK_succ (s : Nat) (es : List Nat) (v : Nat) : lotsK s es (v + 1) = (if v = s then [] else lotsK s es v) ++ (if v ∈ es then [] else (lotsK s es v).map fun lot => lot ++ [v]) := rfl
theorem natsOf_list (l : List Nat) : natsOf (.list (natsD l)) = l := natsOf_seq rfl
theorem flat_caps {ds : List PyData} {cs : List (Option Int)} (h : ds = cs.map capD) : ∀ d ∈ ds, isFlat d = true := by
  subst h
  intro d hd
  obtain ⟨c, _, rfl⟩ := List.mem_map.mp hd
  cases c <;> rfl
theorem flatD_ints (l : List Int) : ∀ d ∈ intsD l, isFlat d = true := by
  intro d hd
  obtain ⟨c, _, rfl⟩ := List.mem_map.mp hd
  rfl
theorem flatD_nats (l : List Nat) : ∀ d ∈ natsD l, isFlat d = true := by
  intro d hd
  obtain ⟨c, _, rfl⟩ := List.mem_map.mp hd
  rfl
def bestP (y : PyData) : Bool := match seqOf y with
  | some (c :: _) => !isNone c
  | _ => false
def bestF (y : PyData) : PyData := match seqOf y with
  | some (c :: _) => c
  | _ => .none
theorem best_known (as : List Arc) : ∀ lots : List (List Nat), ((lots.map (lotD as)).filter bestP).map bestF = intsD ((lots.map (worthL as)).filterMap id)
  | [] => rfl
  | lot :: lots => by
    rw [List.map_cons, List.map_cons, List.filterMap_cons]
    cases h : worthL as lot with
    | none =>
      rw [List.filter_cons_of_neg (show ¬ bestP (lotD as lot) = true by
        show ¬ (!isNone (capD (worthL as lot))) = true
        rw [h]
        decide)]
      exact best_known as lots
    | some x =>
      rw [List.filter_cons_of_pos (show bestP (lotD as lot) = true by
        show (!isNone (capD (worthL as lot))) = true
        rw [h]
        rfl), List.map_cons, best_known as lots]
      show capD (worthL as lot) :: _ = _
      rw [h]
      rfl
theorem known_best (ws : List (Option Int)) : ((ws.map capD).filter fun d => !isNone d) = intsD (ws.filterMap id) := by
  induction ws with
  | nil => rfl
  | cons w ws ih =>
    cases w with
    | none => exact ih
    | some x =>
      rw [List.map_cons, List.filter_cons_of_pos (by rfl), ih]
      rfl
section
variable {P : Program} {w : World} {K : PySem.W.Frag} {mg : Str → Option Value} {base : Heap} {C fI O : Addr}
abbrev s__law_lots : Stmt := topS 48
abbrev N__law_lots : List Str := ["_law_net_here", "_law_start_here", "_law_ends_here", "_law_found", "_law_node", "_law_with_it", "_law_lot"]
theorem sc__law_lots : FnScope N__law_lots ["_law_net_here", "_law_start_here", "_law_ends_here"] (defScope s__law_lots) := ⟨rfl, rfl, rfl, by decide +kernel, rfl, by decide +kernel, by decide +kernel⟩
abbrev HLots (P : Program) (w : World) (K : PySem.W.Frag) (mg : Str → Option Value) (base : Heap) : Prop := Has P w K mg base "_law_lots" CX0 2 ["_law_net_here", "_law_start_here", "_law_ends_here"] (sp3 isLots lotsD)
theorem h__law_lots (B : Bl mg) (T : TopF K mg "_law_lots" s__law_lots) (h__law_worth : HWorth P w K mg base) : HLots P w K mg base := by
  obtain ⟨f, fd, hm, F⟩ := T
  refine ⟨f, fd, hm, F.kp, F.binds (ps := ["_law_net_here", "_law_start_here", "_law_ends_here"]) fun _ _ _ _ _ _ us hl => match us, hl with | [_, _, _], _ => rfl, F.ok sc__law_lots (fun vs H Q E h => len3 h) (fun cdv A outer s H vs Q E hr h => ?_)⟩
  have nd := sc__law_lots.nd
  have hu := hu_of hr
  obtain ⟨G, ds, gh, ra, ⟨_, _, e, rfl, ⟨n, as, s, es, rfl, rfl, hs, hn⟩⟩, k⟩ := h
  refine ⟨_, (pss_cons (ps_set (i := 3) nd rfl (by first | exact Or.inl rfl | exact Or.inr rfl) (pe_lst (pa_cons (pe_lst pa_nil) pa_nil)))
    (pss_cons (ps_for PassesOwn.never rfl (pi_range1 (by rfl) B.range (pa_cons (pe_ix (kix (K := K)) (pv 0) pe_int (fun _ _ => rfl)) pa_nil)) (pg_name (i := 4) nd rfl (by first | exact Or.inl rfl | exact Or.inr rfl))
      (pss_cons (ps_set (i := 5) nd rfl (by first | exact Or.inl rfl | exact Or.inr rfl) (pe_ifExp (pt_cmpR (knotin (K := K)) (pv 4) (pv 2) (by with_unfolding_all rfl)) (pe_lc (own := [("_law_lot", 6)]) rfl nd (kseq (K := K) (pv 3)) (blkOk_by (N := N__law_lots) (sc := defScope s__law_lots) (by decide +kernel)) (fun _ _ _ _ _ => (pg_name (i := 6) nd rfl (by first | exact Or.inl rfl | exact Or.inr rfl))) (fun _ _ _ _ _ => pts_nil) (fun _ _ _ _ _ => (pe_op op_cat (pv 6) (pe_lst (pa_cons (pv 4) pa_nil))))) (pe_lst pa_nil)))
    (pss_one (ps_set (i := 3) nd rfl (by first | exact Or.inl rfl | exact Or.inr rfl) (pe_op op_cat (pe_ifExp (pt_cmpR op_ne (pv 4) (pv 1) (nomark _)) (pv 3) (pe_lst pa_nil)) (pv 5))))))
    (pss_one (ps_ret (pe_lc (own := [("_law_lot", 6)]) rfl nd (kseq (K := K) (pv 3)) (blkOk_by (N := N__law_lots) (sc := defScope s__law_lots) (by decide +kernel)) (fun _ _ _ _ _ => (pg_name (i := 6) nd rfl (by first | exact Or.inl rfl | exact Or.inr rfl))) (fun _ _ _ _ _ => pts_nil) (fun _ _ _ _ _ => (pe_tup (pa_cons (pe_callH h__law_worth (hr.mono (by decide)) (pa_cons (pv 0) (pa_cons (pv 6) pa_nil))) (pa_cons (pv 6) pa_nil))))))))), ?_⟩
  have A0 := at_start (N := N__law_lots) gh ra (Nat.le_of_ble_eq_true rfl)
  have pw : ∀ v, v ≤ 6 → 2 ^ v ≤ 64 := fun v hv => Nat.pow_le_pow_right (n := 2) (by decide) hv
  refine s_setq A0 (g_lst (ds := [.list []]) (ga_cons (g_lst ga_nil (Nat.zero_le _)) ga_nil) (by show 1 ≤ 100000; decide)) fun G1 H1 σ1 A1 => ?_
  refine s_forq (ds := rangeD n) (fun j δ' M' => ∃ s4 s5, δ' = [.dat (netD n as), .dat (natD s), .dat e, .dat (lotsL (lotsK s es j)), s4, s5, .any] ∧ M' = []) A1 (gi_range (n := n) (ga_cons (g_ix (n := 0) (d := natD n) (g_var (d := netD n as) rfl) g_int rfl rfl) ga_nil) (by omega)) ⟨_, _, rfl, rfl⟩ ?_ ?_
  · rintro c' j dj δ' M' G2 H2 σ2 v e1 e2 e3 hd ⟨s4, s5, rfl, rfl⟩ A2 rv
    obtain ⟨hj, rfl⟩ := rangeD_get hd
    have hl := lotsK_len s es j
    have hp := pw j (by omega)
    refine gg_name c' G2 H2 σ2 v _ A2 rv fun G3 H3 σ3 A3 _ _ _ => ?_
    refine s_setq (d := lotsL (if j ∈ es then [] else (lotsK s es j).map fun lot => lot ++ [j])) A3 (g_if (gt_test (g_notinN (v := j) (l := es) (g_var rfl) (g_var rfl) hs)) (fun z => ?_) fun z => ?_) fun G4 H4 σ4 A4 => ?_
    · have z' : ¬ j ∈ es := of_decide_eq_false ((Bool.not_eq_true' _).mp z)
      rw [if_neg z']
      refine Gv.cast (g_map (ds := (lotsK s es j).map fun lot => .list (natsD lot)) (fun y => .list (natsD (natsOf y ++ [j]))) (δ' := fun y => [.dat (netD n as), .dat (natD s), .dat e, .dat (lotsL (lotsK s es j)), .dat (natD j), s5, .dat y]) (gi_seq (g_var (d := lotsL (lotsK s es j)) rfl) rfl) (by rw [List.length_map]; omega) (fun x y _ => gg_name) (fun x y hy => ?_)) ?_
      · obtain ⟨lot, hlot, rfl⟩ := List.mem_map.mp hy
        have ll := lotsK_lot s es j lot hlot
        rw [natsOf_list]
        refine Gv.cast (Gf.v (gf_cat (ds := natsD lot) (es := [natD j]) (g_var rfl) (g_lst (ga_v rfl) (by show 1 ≤ 100000; decide)) (by rw [natsD_len]; show _ + 1 ≤ _; omega))) ?_
        congr 1
        unfold natsD
        rw [List.map_append]
        rfl
      · unfold lotsL
        rw [List.map_map, List.map_map]
        congr 1
        refine List.map_congr_left fun lot _ => ?_
        show PyData.list (natsD (natsOf (.list (natsD lot)) ++ [j])) = _
        rw [natsOf_list]
        rfl
    · have z' : j ∈ es := of_decide_eq_true ((Bool.not_eq_false' _).mp z)
      rw [if_pos z']
      exact g_lst ga_nil (Nat.zero_le _)
    · have lw : (if j ∈ es then [] else (lotsK s es j).map fun lot => lot ++ [j]).length ≤ 64 := by
        split
        · exact Nat.zero_le _
        · rw [List.length_map]; omega
      have lf : (if j = s then [] else lotsK s es j).length ≤ 64 := by
        split
        · exact Nat.zero_le _
        · omega
      refine s_set A4 (Gv.cast (Gf.v (gf_cat (ds := (if j = s then [] else lotsK s es j).map fun lot => .list (natsD lot)) (es := (if j ∈ es then [] else (lotsK s es j).map fun lot => lot ++ [j]).map fun lot => .list (natsD lot)) (g_if (gt_test (g_neN (v := j) (u := s) (g_var rfl) (g_var rfl))) (fun z => ?_) fun z => ?_) (g_var rfl) (by rw [List.length_map, List.length_map]; omega))) (d := lotsL (lotsK s es (j + 1))) ?_) fun G5 H5 σ5 A5 => ⟨_, _, G5, ⟨_, _, rfl, rfl⟩, A5⟩
      · have z' : ¬ j = s := of_decide_eq_false ((Bool.not_eq_true' _).mp z)
        rw [if_neg z']
        exact g_var rfl
      · have z' : j = s := of_decide_eq_true ((Bool.not_eq_false' _).mp z)
        rw [if_pos z']
        exact g_lst ga_nil (Nat.zero_le _)
      · rw [lotsK_succ]
        unfold lotsL
        rw [List.map_append]
  · rintro δ' M' G2 H2 σ2 ⟨s4, s5, rfl, rfl⟩ A2
    rw [rangeD_len] at A2
    have hl := lotsK_len s es n
    have hp := pw n (by omega)
    refine s_ret A2 (Gv.cast (g_map (ds := (lotsK s es n).map fun lot => .list (natsD lot)) (fun y => lotD as (natsOf y)) (δ' := fun y => [.dat (netD n as), .dat (natD s), .dat e, .dat (lotsL (lotsK s es n)), s4, s5, .dat y]) (gi_seq (g_var (d := lotsL (lotsK s es n)) rfl) rfl) (by rw [List.length_map]; omega) (fun x y _ => gg_name) (fun x y hy => ?_)) (d := .list ((lotsK s es n).map (lotD as))) ?_) fun G' H' u A' r => k G' H' u A'.ev ?_
    · obtain ⟨lot, hlot, rfl⟩ := List.mem_map.mp hy
      rw [natsOf_list]
      exact g_tup (ga_cons (Gv.cast (g_c2 (ga_v2 rfl rfl) ⟨n, as, lot, rfl, rfl⟩) (worthD_eq rfl)) (ga_v rfl)) (by show 2 ≤ 100000; decide)
    · rw [List.map_map]
      congr 1
      refine List.map_congr_left fun lot _ => ?_
      show lotD as (natsOf (.list (natsD lot))) = _
      rw [natsOf_list]
    · show Rep G' u (lotsD _ _ _)
      unfold lotsD
      rw [natOf_D, natsOf_seq hs, nodesOfNet_D, arcsOfNet_D]
      exact r
abbrev s__law_best : Stmt := topS 49
abbrev N__law_best : List Str := ["_law_lots_here", "_law_known", "_law_one"]
theorem sc__law_best : FnScope N__law_best ["_law_lots_here"] (defScope s__law_best) := ⟨rfl, rfl, rfl, by decide +kernel, rfl, by decide +kernel, by decide +kernel⟩
abbrev HBest (P : Program) (w : World) (K : PySem.W.Frag) (mg : Str → Option Value) (base : Heap) : Prop := Has P w K mg base "_law_best" CX0 1 ["_law_lots_here"] (sp1 isBest bestD)
theorem h__law_best (B : Bl mg) (T : TopF K mg "_law_best" s__law_best) : HBest P w K mg base := by
  obtain ⟨f, fd, hm, F⟩ := T
  refine ⟨f, fd, hm, F.kp, F.binds (ps := ["_law_lots_here"]) fun _ _ _ _ _ _ us hl => match us, hl with | [_], _ => rfl, F.ok sc__law_best (fun vs H Q E h => len1 h) (fun cdv A outer s H vs Q E hr h => ?_)⟩
  have nd := sc__law_best.nd
  have hu := hu_of hr
  obtain ⟨G, ds, gh, ra, ⟨_, rfl, ⟨as, lots, rfl⟩⟩, k⟩ := h
  refine ⟨_, (pss_cons (ps_setLcQ (i := 1) (own := [("_law_one", 2)]) rfl nd (kseq (K := K) (pv 0)) (blkOk_by (N := N__law_best) (sc := defScope s__law_best) (by decide +kernel)) (fun _ _ _ _ _ => (pg_name (i := 2) nd rfl (by first | exact Or.inl rfl | exact Or.inr rfl))) (fun _ _ _ _ _ => (pts_one (pt_cmp (pc_notN (pe_ix (kix (K := K)) (pv 2) pe_int (fun _ _ => rfl))) rfl))) (fun _ _ _ _ _ => (pe_ix (kix (K := K)) (pv 2) pe_int (fun _ _ => rfl))))
    (pss_one (ps_ret (pe_ifExp (pt_cmpR (kne hr.units (K := K)) (pv 1) (pe_lst pa_nil) (nomark _)) (pe_callB (kmin (K := K)) (by rfl) B.min (by decide +kernel) (pa_cons (pv 1) pa_nil)) pe_non)))), ?_⟩
  have A0 := at_start (N := N__law_best) gh ra (Nat.le_of_ble_eq_true rfl)
  have ll : (lots.map (lotD as)).length ≤ 100000 := A0.seqLen (i := 0) (d := .list (lots.map (lotD as))) rfl rfl
  refine s_setq A0 (Gv.cast (d := .list (intsD ((lots.map (worthL as)).filterMap id))) (g_lc (ds := lots.map (lotD as)) bestP bestF (δ' := fun y => [.dat (.list (lots.map (lotD as))), .any, .dat y]) (gi_seq (g_var rfl) rfl) ll (fun x y _ => gg_name) (fun x y hy => ?_) (fun x y hy _ => ?_)) ?_) fun G1 H1 σ1 A1 => ?_
  · obtain ⟨lot, _, rfl⟩ := List.mem_map.mp hy
    exact gt_b (g_notN (g_ix (n := 0) (g_var (d := lotD as lot) rfl) g_int rfl rfl))
  · obtain ⟨lot, _, rfl⟩ := List.mem_map.mp hy
    exact g_ix (n := 0) (g_var (d := lotD as lot) rfl) g_int rfl rfl
  · rw [best_known]
  refine s_ret (d := capD (bestL (lots.map (worthL as)))) A1 (g_if (gt_test (g_neNil (g_var rfl) (flatD_ints _))) (fun z => ?_) fun z => ?_) fun G' H' u A' r => k G' H' u A'.ev (by show Rep G' u (bestD _); rw [bestD_eq]; exact r)
  · have hne : (lots.map (worthL as)).filterMap id ≠ [] := fun e => by
      rw [e] at z
      cases z
    obtain ⟨m1, m2⟩ := minOf_in hne
    unfold bestL
    have he : ((lots.map (worthL as)).filterMap id).isEmpty = false := by
      cases h : (lots.map (worthL as)).filterMap id with
      | nil => exact absurd h hne
      | cons a b => rfl
    rw [he]
    exact g_min (ns := (lots.map (worthL as)).filterMap id) (ga_v rfl) (List.length_pos_iff.mpr hne) m1 m2
  · have he : ((lots.map (worthL as)).filterMap id) = [] := by
      cases h : (lots.map (worthL as)).filterMap id with
      | nil => rfl
      | cons a b => rw [h] at z; cases z
    unfold bestL
    rw [he]
    exact g_non
end
end Od
set_option Elab.async false
set_option linter.all false
set_option autoImplicit false
set_option maxRecDepth 100000
set_option maxHeartbeats 4000000
/-! W17: is_to, most. -/
namespace Od
open PySem PySem.Spec L2
theorem othersD (n s : Nat) : ((rangeD n).filter fun y => !decide (natOf y = s)).map id = natsD (others n s) := by
  unfold others rangeD natsD
  rw [List.map_id, List.filter_map]
  congr 1
theorem others_mem {n s v : Nat} (h : v ∈ others n s) : v < n ∧ v ≠ s := by
  obtain ⟨h1, h2⟩ := List.mem_filter.mp h
  exact ⟨List.mem_range.mp h1, of_decide_eq_false ((Bool.not_eq_true' _).mp h2)⟩
theorem natsFilter (l : List Nat) (p : Nat → Bool) : ((natsD l).filter fun y => p (natOf y)).map id = natsD (l.filter p) := by
  unfold natsD
  rw [List.map_id, List.filter_map]
  congr 1
theorem natsD_empty (l : List Nat) : (natsD l).isEmpty = l.isEmpty := by cases l <;> rfl
theorem all_both {l : List Nat} {es : List Nat} {f : Nat → Int} : ((l.filter fun v => decide (v ∈ es) && decide (f v < 0)).isEmpty && (l.filter fun v => !decide (v ∈ es) && !decide (f v = 0)).isEmpty) = l.all fun u => if u ∈ es then decide (0 ≤ f u) else decide (f u = 0) := by
  induction l with
  | nil => rfl
  | cons v l ih =>
    rw [List.all_cons, ← ih, List.filter_cons, List.filter_cons]
    by_cases h : v ∈ es
    · rw [if_pos h, decide_eq_true h]
      by_cases h2 : f v < 0
      · rw [decide_eq_true h2, decide_eq_false (by omega : ¬ 0 ≤ f v)]
        rfl
      · rw [decide_eq_false h2, decide_eq_true (by omega : 0 ≤ f v)]
        simp
    · rw [if_neg h, decide_eq_false h]
      by_cases h2 : f v = 0
      · rw [decide_eq_true h2]
        simp
      · rw [decide_eq_false h2]
        simp
section
variable {P : Program} {w : World} {K : PySem.W.Frag} {mg : Str → Option Value} {base : Heap} {C fI O : Addr}
abbrev s__law_is_to : Stmt := topS 51
abbrev N__law_is_to : List Str := ["_law_net_here", "_law_start_here", "_law_ends_here", "_law_value_here", "_law_some", "_law_node"]
theorem sc__law_is_to : FnScope N__law_is_to ["_law_net_here", "_law_start_here", "_law_ends_here", "_law_value_here"] (defScope s__law_is_to) := ⟨rfl, rfl, rfl, by decide +kernel, rfl, by decide +kernel, by decide +kernel⟩
abbrev HIsTo (P : Program) (w : World) (K : PySem.W.Frag) (mg : Str → Option Value) (base : Heap) : Prop := Has P w K mg base "_law_is_to" CX0 2 ["_law_net_here", "_law_start_here", "_law_ends_here", "_law_value_here"] (sp4 isIsTo isToD)
theorem h__law_is_to (B : Bl mg) (T : TopF K mg "_law_is_to" s__law_is_to) (h__law_is_load : HIsLoad P w K mg base) (h__law_more : HMore P w K mg base) : HIsTo P w K mg base := by
  obtain ⟨f, fd, hm, F⟩ := T
  refine ⟨f, fd, hm, F.kp, F.binds (ps := ["_law_net_here", "_law_start_here", "_law_ends_here", "_law_value_here"]) fun _ _ _ _ _ _ us hl => match us, hl with | [_, _, _, _], _ => rfl, F.ok sc__law_is_to (fun vs H Q E h => len4 h) (fun cdv A outer s H vs Q E hr h => ?_)⟩
  have nd := sc__law_is_to.nd
  have hu := hu_of hr
  obtain ⟨G, ds, gh, ra, ⟨_, _, e, v, rfl, ⟨n, as, s, es, rfl, rfl, hs, hn, hfl⟩⟩, k⟩ := h
  refine ⟨_, (pss_cons (ps_if (pt_not (pt_val (pe_callH h__law_is_load (hr.mono (by decide)) (pa_cons (pv 0) (pa_cons (pv 3) pa_nil))))) (pss_one (ps_ret pe_bl)) pss_nil)
    (pss_cons (ps_setLcQ (i := 4) (own := [("_law_node", 5)]) rfl nd (pi_range1 (by rfl) B.range (pa_cons (pe_ix (kix (K := K)) (pv 0) pe_int (fun _ _ => rfl)) pa_nil)) (blkOk_by (N := N__law_is_to) (sc := defScope s__law_is_to) (by decide +kernel)) (fun _ _ _ _ _ => (pg_name (i := 5) nd rfl (by first | exact Or.inl rfl | exact Or.inr rfl))) (fun _ _ _ _ _ => (pts_one (pt_cmpR op_ne (pv 5) (pv 1) (nomark _)))) (fun _ _ _ _ _ => (pv 5)))
    (pss_cons (ps_if (pt_cmpR (kne hr.units (K := K)) (pe_lc (own := [("_law_node", 5)]) rfl nd (kseq (K := K) (pv 4)) (blkOk_by (N := N__law_is_to) (sc := defScope s__law_is_to) (by decide +kernel)) (fun _ _ _ _ _ => (pg_name (i := 5) nd rfl (by first | exact Or.inl rfl | exact Or.inr rfl))) (fun _ _ _ _ _ => (pts_one (PW.pt (pw_and (pt_cmpR (kin (K := K)) (pv 5) (pv 2) (by with_unfolding_all rfl)) (pw_and1 (pt_cmpR op_lt (pe_callH h__law_more (hr.mono (by decide)) (pa_cons (pv 0) (pa_cons (pv 3) (pa_cons (pv 5) pa_nil)))) pe_int (nomark _))))))) (fun _ _ _ _ _ => (pv 5))) (pe_lst pa_nil) (nomark _)) (pss_one (ps_ret pe_bl)) pss_nil)
    (pss_one (ps_ret (pe_cmpR (keq hr.units (K := K)) (pe_lc (own := [("_law_node", 5)]) rfl nd (kseq (K := K) (pv 4)) (blkOk_by (N := N__law_is_to) (sc := defScope s__law_is_to) (by decide +kernel)) (fun _ _ _ _ _ => (pg_name (i := 5) nd rfl (by first | exact Or.inl rfl | exact Or.inr rfl))) (fun _ _ _ _ _ => (pts_one (PW.pt (pw_and (pt_cmpR (knotin (K := K)) (pv 5) (pv 2) (by with_unfolding_all rfl)) (pw_and1 (pt_cmpR op_ne (pe_callH h__law_more (hr.mono (by decide)) (pa_cons (pv 0) (pa_cons (pv 3) (pa_cons (pv 5) pa_nil)))) pe_int (nomark _))))))) (fun _ _ _ _ _ => (pv 5))) (pe_lst pa_nil) (nomark _))))))), ?_⟩
  have A0 := at_start (N := N__law_is_to) gh ra (Nat.le_of_ble_eq_true rfl)
  have k' : ∀ b, isToL n as s es v = b → ∀ G' H' u, Ev [] G H G' H' → Rep G' u (.bool b) → Q u H' := fun b q G' H' u ev r => k G' H' u ev (by
    show Rep G' u (isToD _ _ _ _)
    unfold isToD
    rw [nodesOfNet_D, arcsOfNet_D, natOf_D, natsOf_seq hs, q]
    exact r)
  refine s_ifq A0 (gt_not (gt_b (g_c2 (ga_v2 rfl rfl) ⟨⟨n, as, rfl⟩, hfl⟩))) (fun z G1 H1 A1 => ?_) fun z G1 H1 A1 => ?_
  · have z1 : (loadOf (arcsOfNet (netD n as)) v).isSome = false := (Bool.not_eq_true' _).mp z
    rw [arcsOfNet_D] at z1
    refine s_ret A1 g_bl fun G' H' u A' r => k' false ?_ G' H' u A'.ev r
    unfold isToL
    cases h : loadOf as v with
    | none => rfl
    | some l => rw [h] at z1; cases z1
  · have z1 : (loadOf (arcsOfNet (netD n as)) v).isSome = true := (Bool.not_eq_false' _).mp z
    rw [arcsOfNet_D] at z1
    obtain ⟨l, z2⟩ := Option.isSome_iff_exists.mp z1
    obtain ⟨hv, hl⟩ := loadOf_seq z2
    refine s_setq A1 (Gv.cast (d := .list (natsD (others n s))) (g_lc (fun y => !decide (natOf y = s)) id (δ' := fun y => [.dat (netD n as), .dat (natD s), .dat e, .dat v, .any, .dat y]) (gi_range (n := n) (ga_cons (g_ix (n := 0) (d := natD n) (g_var (d := netD n as) rfl) g_int rfl rfl) ga_nil) (by omega)) (by rw [rangeD_len]; omega) (fun x y _ => gg_name) (fun x y hy => ?_) (fun x y _ _ => g_var rfl)) (by rw [othersD])) fun G2 H2 σ2 A2 => ?_
    · obtain ⟨i, _, rfl⟩ := List.mem_map.mp hy
      rw [show natOf (PyData.int (i : Nat)) = i from natOf_D i]
      exact gt_test (g_neN (v := i) (u := s) (g_var rfl) (g_var rfl))
    have ol : (natsD (others n s)).length ≤ 100000 := A2.seqLen (i := 4) (d := .list (natsD (others n s))) rfl rfl
    have gm : ∀ (M : Mem) (u : Nat), Gv [.dat (netD n as), .dat (natD s), .dat e, .dat v, .dat (.list (natsD (others n s))), .dat (natD u)] M (tCall (sp3 isMore moreD) [] E0 (tCons (tVar 0) (tCons (tVar 3) (tCons (tVar 5) tNil)))) (.int (moreL as l u)) := fun M u => Gv.cast (g_c3 (ga_v3 rfl rfl rfl) ⟨n, as, l, u, rfl, hv, hl, rfl⟩) (moreD_eq hv)
    have q1 : isToL n as s es v = (((others n s).filter fun v => decide (v ∈ es) && decide (moreL as l v < 0)).isEmpty && ((others n s).filter fun v => !decide (v ∈ es) && !decide (moreL as l v = 0)).isEmpty) := by
      unfold isToL
      rw [z2, all_both]
    refine s_ifq (b := !((others n s).filter fun v => decide (v ∈ es) && decide (moreL as l v < 0)).isEmpty) A2 (Gt.cast (gt_test (g_neNil (ds := natsD ((others n s).filter fun v => decide (v ∈ es) && decide (moreL as l v < 0))) (Gv.cast (g_lc (ds := natsD (others n s)) (fun y => decide (natOf y ∈ es) && decide (moreL as l (natOf y) < 0)) id (δ' := fun y => [.dat (netD n as), .dat (natD s), .dat e, .dat v, .dat (.list (natsD (others n s))), .dat y]) (gi_seq (g_var rfl) rfl) ol (fun x y _ => gg_name) (fun x y hy => ?_) (fun x y _ _ => g_var rfl)) (by rw [natsFilter (others n s) fun v => decide (v ∈ es) && decide (moreL as l v < 0)])) (flatD_nats _))) (by rw [natsD_empty])) (fun z3 G3 H3 A3 => s_ret A3 g_bl fun G' H' u A' r => k' false (by rw [q1, (Bool.not_eq_true' _).mp z3, Bool.false_and]) G' H' u A'.ev r) fun z3 G3 H3 A3 => ?_
    · obtain ⟨u, _, rfl⟩ := natsD_mem hy
      rw [natOf_D]
      exact gt_and (gt_b (g_inN (g_var rfl) (g_var rfl) hs)) fun _ => gt_test (g_opB (gm _ u) g_int)
    · have z3' := (Bool.not_eq_false' _).mp z3
      refine s_ret A3 (Gv.cast (g_eqNil (ds := natsD ((others n s).filter fun v => !decide (v ∈ es) && !decide (moreL as l v = 0))) (Gv.cast (g_lc (ds := natsD (others n s)) (fun y => !decide (natOf y ∈ es) && !decide (moreL as l (natOf y) = 0)) id (δ' := fun y => [.dat (netD n as), .dat (natD s), .dat e, .dat v, .dat (.list (natsD (others n s))), .dat y]) (gi_seq (g_var rfl) rfl) ol (fun x y _ => gg_name) (fun x y hy => ?_) (fun x y _ _ => g_var rfl)) (by rw [natsFilter (others n s) fun v => !decide (v ∈ es) && !decide (moreL as l v = 0)])) (flatD_nats _)) (by rw [natsD_empty])) fun G' H' u A' r => k' _ (by rw [q1, z3', Bool.true_and]) G' H' u A'.ev r
      obtain ⟨u, _, rfl⟩ := natsD_mem hy
      rw [natOf_D]
      exact gt_and (gt_b (g_notinN (g_var rfl) (g_var rfl) hs)) fun _ => gt_test (g_neI (gm _ u) g_int)
abbrev s__law_most : Stmt := topS 53
abbrev N__law_most : List Str := ["_law_net_here", "_law_start_here", "_law_ends_here", "_law_at"]
theorem sc__law_most : FnScope N__law_most ["_law_net_here", "_law_start_here", "_law_ends_here"] (defScope s__law_most) := ⟨rfl, rfl, rfl, by decide +kernel, rfl, by decide +kernel, by decide +kernel⟩
abbrev HLawMost (P : Program) (w : World) (K : PySem.W.Frag) (mg : Str → Option Value) (base : Heap) : Prop := Has P w K mg base "_law_most" CX0 3 ["_law_net_here", "_law_start_here", "_law_ends_here"] (sp3 isMost lawMostD)
theorem h__law_most (B : Bl mg) (T : TopF K mg "_law_most" s__law_most) (h__law_best : HBest P w K mg base) (h__law_lots : HLots P w K mg base) : HLawMost P w K mg base := by
  obtain ⟨f, fd, hm, F⟩ := T
  refine ⟨f, fd, hm, F.kp, F.binds (ps := ["_law_net_here", "_law_start_here", "_law_ends_here"]) fun _ _ _ _ _ _ us hl => match us, hl with | [_, _, _], _ => rfl, F.ok sc__law_most (fun vs H Q E h => len3 h) (fun cdv A outer s H vs Q E hr h => ?_)⟩
  have nd := sc__law_most.nd
  have hu := hu_of hr
  obtain ⟨G, ds, gh, ra, ⟨_, _, _, rfl, ⟨n, as, s, es, rfl, rfl, rfl, hn⟩⟩, k⟩ := h
  refine ⟨_, (pss_one (ps_ret (pe_lc (own := [("_law_at", 3)]) rfl nd (pi_range1 (by rfl) B.range (pa_cons (pe_callB (klen (K := K)) (by rfl) B.len (by decide +kernel) (pa_cons (pv 2) pa_nil)) pa_nil)) (blkOk_by (N := N__law_most) (sc := defScope s__law_most) (by decide +kernel)) (fun _ _ _ _ _ => (pg_name (i := 3) nd rfl (by first | exact Or.inl rfl | exact Or.inr rfl))) (fun _ _ _ _ _ => pts_nil) (fun _ _ _ _ _ => (pe_callH h__law_best (hr.mono (by decide)) (pa_cons (pe_callH h__law_lots (hr.mono (by decide)) (pa_cons (pv 0) (pa_cons (pv 1) (pa_cons (pe_slice (ksl (K := K)) (pv 2) po_none (po_some (pe_op op_add (pv 3) pe_int))) pa_nil)))) pa_nil)))))), ?_⟩
  have A0 := at_start (N := N__law_most) gh ra (Nat.le_of_ble_eq_true rfl)
  have el : es.length ≤ 100000 := by
    have := A0.seqLen (i := 2) (d := .list (natsD es)) rfl rfl
    rw [natsD_len] at this
    exact this
  refine s_ret A0 (Gv.cast (g_map (ds := rangeD es.length) (fun y => capD (leastK n as s es (natOf y))) (δ' := fun y => [.dat (netD n as), .dat (natD s), .dat (.list (natsD es)), .dat y]) (gi_range (n := es.length) (ga_cons (Gv.cast (g_len (ga_v (a := .list (natsD es)) rfl) rfl) (by rw [natsD_len])) ga_nil) el) (by rw [rangeD_len]; exact el) (fun x y _ => gg_name) (fun x y hy => ?_)) (d := .list ((List.range es.length).map fun k => capD (leastK n as s es k))) ?_) fun G' H' u A' r => k G' H' u A'.ev ?_
  · obtain ⟨i, _, rfl⟩ := List.mem_map.mp hy
    rw [show natOf (PyData.int (i : Nat)) = i from natOf_D i]
    refine Gv.cast (g_c1 (ga_cons (Gv.cast (g_c3 (ga_cons (g_var rfl) (ga_cons (g_var rfl) (ga_cons (Gv.cast (Gf.v (gf_slTo (n := i + 1) (ds := natsD es) (g_var rfl) (Gv.cast (g_op0 (g_var (d := .int (i : Nat)) rfl) g_int) (by show PyData.int ((i : Int) + 1) = .int ((i + 1 : Nat) : Int); rw [Int.natCast_add]; rfl)))) (show PyData.list ((natsD es).take (i + 1)) = .list (natsD (es.take (i + 1))) by unfold natsD; rw [List.map_take])) ga_nil))) ⟨n, as, s, es.take (i + 1), rfl, rfl, rfl, hn⟩) (d := .list ((lotsK s (es.take (i + 1)) n).map (lotD as))) ?_) ga_nil) ⟨as, _, rfl⟩) ?_
    · unfold lotsD
      rw [natOf_D, natsOf_list, nodesOfNet_D, arcsOfNet_D]
    · rw [bestD_eq]
      rfl
  · unfold rangeD
    rw [List.map_map]
    congr 1
  · show Rep G' u (lawMostD _ _ _)
    unfold lawMostD
    rw [natsOf_list, nodesOfNet_D, arcsOfNet_D, natOf_D]
    exact r
end
end Od
set_option Elab.async false
set_option linter.all false
set_option autoImplicit false
set_option maxRecDepth 100000
set_option maxHeartbeats 4000000
/-! W18: take, pick, box. -/
namespace Od
open PySem PySem.Spec L2
def isTake (m : PyData) : Prop := ∃ k : Nat, m = natD k ∧ 1 ≤ k ∧ k ≤ 1000
def takeR (m d : PyData) : Prop := ∃ j : Nat, d = natD j ∧ j < natOf m
def isPick (d : PyData) : Prop := ∃ xs, seqOf d = some xs ∧ 1 ≤ xs.length ∧ xs.length ≤ 1000
def pickR (d x : PyData) : Prop := ∃ xs, seqOf d = some xs ∧ x ∈ xs
theorem fmod_lt (i : Int) (k : Nat) (hk : 1 ≤ k) : ∃ j : Nat, i.fmod (k : Int) = (j : Int) ∧ j < k := by
  have h1 : i.fmod (k : Int) = i % (k : Int) := Int.fmod_eq_emod_of_nonneg i (by omega)
  have h2 := Int.emod_nonneg i (b := (k : Int)) (by omega)
  have h3 := Int.emod_lt_of_pos i (b := (k : Int)) (by omega)
  exact ⟨(i % (k : Int)).toNat, by rw [h1, Int.toNat_of_nonneg h2], by omega⟩
theorem fmod_big (i m : Int) (hm : 0 < m) : 0 ≤ i.fmod m ∧ i.fmod m < m := by
  rw [Int.fmod_eq_emod_of_nonneg i (by omega)]
  exact ⟨Int.emod_nonneg i (by omega), Int.emod_lt_of_pos i hm⟩
theorem fdiv_nn (i m : Int) (hi : 0 ≤ i) (hm : 0 < m) : 0 ≤ i.fdiv m := by
  rw [Int.fdiv_eq_ediv_of_nonneg i (by omega)]
  exact Int.ediv_nonneg hi (by omega)
section
variable {P : Program} {w : World} {K : PySem.W.Frag} {mg : Str → Option Value} {base : Heap} {C fI O : Addr}
abbrev s__law_take : Stmt := topS 40
abbrev N__law_take : List Str := ["_law_box_here", "_law_many", "_law_digit", "_law_raw"]
theorem sc__law_take : FnScope N__law_take ["_law_box_here", "_law_many"] (defScope s__law_take) := ⟨rfl, rfl, rfl, by decide +kernel, rfl, by decide +kernel, by decide +kernel⟩
abbrev HTake (P : Program) (w : World) (K : PySem.W.Frag) (mg : Str → Option Value) (base : Heap) : Prop := Has P w K mg base "_law_take" CX0 1 ["_law_box_here", "_law_many"] (sB1 isTake takeR)
theorem h__law_take (B : Bl mg) (T : TopF K mg "_law_take" s__law_take) : HTake P w K mg base := by
  obtain ⟨f, fd, hm, F⟩ := T
  refine ⟨f, fd, hm, F.kp, F.binds (ps := ["_law_box_here", "_law_many"]) fun _ _ _ _ _ _ us hl => match us, hl with | [_, _], _ => rfl, F.ok sc__law_take (fun vs H Q E h => lenB1 h) (fun cdv A outer s H vs Q E hr h => ?_)⟩
  have nd := sc__law_take.nd
  have hu := hu_of hr
  obtain ⟨G, p, us, ds, rfl, gh, ra, ⟨_, rfl, ⟨m, rfl, hm1, hm2⟩⟩, hg, ⟨o, ho, g, r, rfl, hg0, hr0, hr1⟩, k⟩ := h
  refine ⟨_, (pss_cons (ps_if (pt_cmpR op_gt (pe_ix (kix (K := K)) (pv 0) pe_int (fun _ _ => rfl)) pe_int (nomark _)) (pss_cons (ps_set (i := 2) nd rfl (by first | exact Or.inl rfl | exact Or.inr rfl) (pe_op op_modN (pe_callTy c_int (by rfl) B.int (by decide +kernel) (pa_cons (pe_ix (kix (K := K)) (pv 0) pe_int (fun _ _ => rfl)) pa_nil)) (pv 1)))
    (pss_cons (ps_asg (pe_op op_fdivN (pe_ix (kix (K := K)) (pv 0) pe_int (fun _ _ => rfl)) (pv 1)) (pg_sub (pv 0) pe_int set_list))
    (pss_one (ps_ret (pv 2))))) pss_nil)
    (pss_cons (ps_set (i := 3) nd rfl (by first | exact Or.inl rfl | exact Or.inr rfl) (pe_op op_modN (pe_callTy c_int (by rfl) B.int (by decide +kernel) (pa_cons (pe_op op_add (pe_op op_mul (pe_ix (kix (K := K)) (pv 0) pe_int (fun _ _ => rfl)) pe_int) pe_int) pa_nil)) pe_int))
    (pss_cons (ps_asg (pe_op op_add (pe_op op_modN (pe_callTy c_int (by rfl) B.int (by decide +kernel) (pa_cons (pe_op op_add (pe_op op_mul (pv 3) pe_int) pe_int) pa_nil)) pe_int) pe_int) (pg_sub (pv 0) pe_int set_list))
    (pss_one (ps_ret (pe_op op_modN (pe_callTy c_int (by rfl) B.int (by decide +kernel) (pa_cons (pe_op op_fdivN (pe_op op_add (pe_op op_mul (pv 3) pe_int) (pe_ix (kix (K := K)) (pv 0) pe_int (fun _ _ => rfl))) pe_int) pa_nil)) (pv 1))))))), ?_⟩
  have A0 := at_startG (N := N__law_take) (ss := [.val (.ref p), .dat (natD m)]) (S := [p]) (M := [(p, .raw (.lst [.int g, .int r]))]) gh (.val (SlA.of ra)) (Nat.le_of_ble_eq_true rfl) (fun q o h => by
    cases List.mem_singleton.mp h
    exact ⟨hg, .inl (List.mem_singleton_self _), _, ho, rfl⟩) (by simp) (fun q h => by
    rw [List.mem_singleton.mp h]
    exact ⟨_, ho⟩)
  have km : (m : Int) ≠ 0 := by omega
  have bx : ∀ (δ : List Sl) (M : Mem) (x y : Int), δ[0]? = some (.val (.ref p)) → (p, MO.raw (.lst [.int x, .int y])) ∈ M → Gv δ M (tOp (rIx K) (tVar 0) (tC (.int 0))) (.int x) ∧ Gv δ M (tOp (rIx K) (tVar 0) (tC (.int 1))) (.int y) := fun δ M x y h hm => ⟨g_rawI (n := 0) h hm rfl, g_rawI (n := 1) h hm rfl⟩
  have fin : ∀ (δ : List Sl) (M : Mem) (G' H' : Hp) (σ' : L2.St) (v : V) (x y : Int) (j : Nat), At ⟨[p], G, H, G⟩ δ M G' H' σ' → (p, MO.raw (.lst [.int x, .int y])) ∈ M → 0 ≤ x → 0 ≤ y → y ≤ 2147483563 → j < m → Rep G' v (natD j) → Q v H' := fun δ M G' H' σ' v x y j A' hm hx hy hy2 hj rv => by
    refine k G' H' v (natD j) ⟨j, rfl, by rw [natOf_D]; exact hj⟩ A'.ev ?_ rv
    obtain ⟨_, _, u, hu, rfl⟩ := A'.mem p _ hm
    exact ⟨_, hu, x, y, rfl, hx, hy, hy2⟩
  refine s_ifq A0 (gt_test (g_opB (bx _ _ g r rfl (List.mem_cons_self ..)).1 g_int)) (fun z G1 H1 A1 => ?_) fun z G1 H1 A1 => ?_
  · obtain ⟨j, ej, hj⟩ := fmod_lt g m hm1
    refine s_setq A1 (Gv.cast (d := natD j) (g_opC (g_intOf (ga_cons (bx _ _ g r rfl (List.mem_cons_self ..)).1 ga_nil)) (g_var (d := natD m) rfl) km) (by rw [ej]; rfl)) fun G2 H2 σ2 A2 => ?_
    refine s_seq (s_setRaw (k := 0) (n := 0) A2 rfl rfl (g_opC (bx _ _ g r rfl (List.mem_cons_self ..)).1 (g_var (d := natD m) rfl) ⟨km, by show (m : Int).natAbs < _; omega⟩) (by show 0 < 2; decide) fun G3 H3 A3 => ?_)
    exact s_ret (d := natD j) A3 (g_var rfl) fun G' H' v A' rv => fin _ _ _ _ _ v (g.fdiv m) r j A' (List.mem_cons_self ..) (fdiv_nn g m hg0 (by omega)) hr0 hr1 hj rv
  · have b1 := fmod_big (r * 39373 + 71) 2147483647 (by decide)
    have b2 := fmod_big ((r * 39373 + 71).fmod 2147483647 * 40692 + 37) 2147483563 (by decide)
    refine s_setq A1 (g_opC (g_intOf (ga_cons (g_op0 (g_opC (bx _ _ g r rfl (List.mem_cons_self ..)).2 g_int (.inr ⟨by decide, by decide⟩)) g_int) ga_nil)) g_int (by decide)) fun G2 H2 σ2 A2 => ?_
    refine s_seq (s_setRaw (k := 0) (n := 1) A2 rfl rfl (g_op0 (g_opC (g_intOf (ga_cons (g_op0 (g_opC (g_var rfl) g_int (.inr ⟨by decide, by decide⟩)) g_int) ga_nil)) g_int (by decide)) g_int) (by show 1 < 2; decide) fun G3 H3 A3 => ?_)
    obtain ⟨j, ej, hj⟩ := fmod_lt (((r * 39373 + 71).fmod 2147483647 * 2147483629 + (((r * 39373 + 71).fmod 2147483647 * 40692 + 37).fmod 2147483563 + 1)).fdiv 8233) m hm1
    refine s_ret (d := natD j) A3 (Gv.cast (g_opC (g_intOf (ga_cons (g_opC (g_op0 (g_opC (g_var rfl) g_int (.inr ⟨by decide, by decide⟩)) (bx _ _ g (((r * 39373 + 71).fmod 2147483647 * 40692 + 37).fmod 2147483563 + 1) rfl (List.mem_cons_self ..)).2) g_int ⟨by decide, by decide⟩) ga_nil)) (g_var (d := natD m) rfl) km) (by rw [ej]; rfl)) fun G' H' v A' rv => fin _ _ _ _ _ v g _ j A' (List.mem_cons_self ..) hg0 (by omega) (by omega) hj rv
abbrev s__law_pick : Stmt := topS 41
abbrev N__law_pick : List Str := ["_law_box_here", "_law_some"]
theorem sc__law_pick : FnScope N__law_pick ["_law_box_here", "_law_some"] (defScope s__law_pick) := ⟨rfl, rfl, rfl, by decide +kernel, rfl, by decide +kernel, by decide +kernel⟩
abbrev HPick (P : Program) (w : World) (K : PySem.W.Frag) (mg : Str → Option Value) (base : Heap) : Prop := Has P w K mg base "_law_pick" CX0 2 ["_law_box_here", "_law_some"] (sB1 isPick pickR)
theorem h__law_pick (B : Bl mg) (T : TopF K mg "_law_pick" s__law_pick) (h__law_take : HTake P w K mg base) : HPick P w K mg base := by
  obtain ⟨f, fd, hm, F⟩ := T
  refine ⟨f, fd, hm, F.kp, F.binds (ps := ["_law_box_here", "_law_some"]) fun _ _ _ _ _ _ us hl => match us, hl with | [_, _], _ => rfl, F.ok sc__law_pick (fun vs H Q E h => lenB1 h) (fun cdv A outer s H vs Q E hr h => ?_)⟩
  have nd := sc__law_pick.nd
  have hu := hu_of hr
  obtain ⟨G, p, us, ds, rfl, gh, ra, ⟨d, rfl, ⟨xs, hs, hx1, hx2⟩⟩, hg, hb, k⟩ := h
  refine ⟨_, (pss_one (ps_ret (pe_ix (kix (K := K)) (pv 1) (pe_callH h__law_take (hr.mono (by decide)) (pa_cons (pv 0) (pa_cons (pe_callB (klen (K := K)) (by rfl) B.len (by decide +kernel) (pa_cons (pv 1) pa_nil)) pa_nil))) (fun _ _ => rfl)))), ?_⟩
  have A0 := at_startB (N := N__law_pick) gh ra (Nat.le_of_ble_eq_true rfl) hg hb
  refine e_ret (e_op A0 (g_var (d := d) rfl) fun G1 H1 v1 A1 r1 => ?_)
  refine gs_b1 (R := takeR) (P := isTake) rfl (List.mem_cons_self ..) (ga_cons (g_len (ga_v rfl) hs) ga_nil) ⟨xs.length, rfl, hx1, hx2⟩ _ _ _ _ _ A1 fun dj G2 H2 v2 hj A2 s2 r2 => ?_
  obtain ⟨j, rfl, hj⟩ := hj
  have hj : j < xs.length := by rw [show natOf (PyData.int (xs.length : Nat)) = xs.length from natOf_D _] at hj; exact hj
  obtain ⟨q, ys, rfl, hq, rys, _⟩ := (r1.up s2).seq (K := K) A2.gh hs
  obtain ⟨x, hx, rx⟩ := rys.get (List.getElem?_eq_getElem hj)
  rw [r2.intV]
  have fin := k G2 H2 x xs[j] ⟨xs, hs, List.getElem_mem hj⟩ A2.ev (A2.box (List.mem_cons_self ..)) rx
  rcases hq with hq | hq
  · exact .inl ⟨q, ys, _, x, rfl, rfl, hq, atI_nat hx, fin⟩
  · exact .inr (.inl ⟨q, ys, _, x, rfl, rfl, hq, atI_nat hx, fin⟩)
end
end Od
set_option Elab.async false
set_option linter.all false
set_option autoImplicit false
set_option maxRecDepth 100000
set_option maxHeartbeats 4000000
/-! W19: rules for what is drawn; net, ends. -/
namespace Od
open PySem PySem.Spec L2
section
variable {c : Ct} {δ δ' : List Sl} {M : Mem} {K : PySem.W.Frag} {ta tb te : TE} {d e da db : PyData} {ds es : List PyData} {t tr : TA} {P P' R : PyData → Prop} {G H : Hp} {σ : L2.St} {D : Ends} {w : TS} {i k : Nat} {p : Addr} {g : TG} {ts : TS} {tt : TT}
theorem gs_op0 {f : Int → Int → Int} {x : Int} (ha : Gv δ M ta (.int x)) (hb : Gs δ M tb P) (hp : ∀ d, P d → ∃ j : Int, d = .int j ∧ R (.int (f x j))) : Gs δ M (tOp (rI0 fun i j => .int (f i j)) ta tb) R := fun c G H σ Q A k =>
  ha c G H σ _ A fun G1 H1 v A1 s1 r1 => hb c G1 H1 σ _ A1 fun d G2 H2 u hd A2 s2 r2 => by
    obtain ⟨j, rfl, hr⟩ := hp d hd
    exact ⟨x, j, r1.intV, r2.intV, k _ G2 H2 _ hr A2 (s1.trans s2) (.int _)⟩
/-- a test whose answer is not told -/
def Gta (δ : List Sl) (M : Mem) (t : TT) : Prop := ∀ (c : Ct) (G H : Hp) (σ : L2.St) (Q : Bool → Hp → Prop), At c δ M G H σ → (∀ b G' H', At c δ M G' H' σ → Same G G' → Q b H') → t σ H Q
theorem gta_cmp {f : Int → Int → Bool} {y : Int} (ha : Gs δ M ta P) (hp : ∀ d, P d → ∃ j : Int, d = .int j) (hb : Gv δ M tb (.int y)) : Gta δ M (tTest (tOp (rI0 fun i j => .bl (f i j)) ta tb)) := fun c G H σ Q A k =>
  ha c G H σ _ A fun d G1 H1 v hd A1 s1 r1 => hb c G1 H1 σ _ A1 fun G2 H2 u A2 s2 r2 => by
    obtain ⟨j, rfl⟩ := hp d hd
    exact ⟨j, y, r1.intV, r2.intV, _, rfl, k _ G2 H2 A2 (s1.trans s2)⟩
theorem gta_eq {y : Int} (ha : Gs δ M ta P) (hp : ∀ d, P d → ∃ j : Int, d = .int j) (hb : Gv δ M tb (.int y)) : Gta δ M (tTest (tOp rEq ta tb)) := fun c G H σ Q A k =>
  ha c G H σ _ A fun d G1 H1 v hd A1 s1 r1 => hb c G1 H1 σ _ A1 fun G2 H2 u A2 s2 r2 => by
    obtain ⟨j, rfl⟩ := hp d hd
    rw [r1.intV, r2.intV]
    exact ⟨rfl, _, rfl, k _ G2 H2 A2 (s1.trans s2)⟩
theorem Gt.a {b : Bool} (h : Gt δ M tt b) : Gta δ M tt := fun c G H σ Q A k => h c G H σ _ A fun G' H' A' s' => k b G' H' A' s'
theorem gs_if (ht : Gta δ M tt) (ha : Gs δ M ta P) (hb : Gs δ M tb P) : Gs δ M (tIf tt ta tb) P := fun c G H σ Q A k =>
  ht c G H σ _ A fun b G1 H1 A1 s1 => by
    cases b with
    | true => exact iteT (ha c G1 H1 σ _ A1 fun d G2 H2 v hd A2 s2 r2 => k d G2 H2 v hd A2 (s1.trans s2) r2)
    | false => exact iteF (hb c G1 H1 σ _ A1 fun d G2 H2 v hd A2 s2 r2 => k d G2 H2 v hd A2 (s1.trans s2) r2)
theorem s_ifA {u w : TS} (A : At c δ M G H σ) (h : Gta δ M tt) (k1 : ∀ G' H', At c δ M G' H' σ → u D σ H') (k2 : ∀ G' H', At c δ M G' H' σ → w D σ H') : tIfS tt u w D σ H :=
  h c G H σ _ A fun b G1 H1 A1 _ => by
    cases b with
    | true => exact iteT (k1 G1 H1 A1)
    | false => exact iteF (k2 G1 H1 A1)
theorem s_ifAq {u : TS} (A : At c δ M G H σ) (h : Gta δ M tt) (k1 : ∀ G' H', At c δ M G' H' σ → u { D with nx := w D } σ H') (k2 : ∀ G' H', At c δ M G' H' σ → w D σ H') : tSeq (tIfS tt u tNext) w D σ H :=
  h c G H σ _ A fun b G1 H1 A1 _ => by
    cases b with
    | true => exact iteT (k1 G1 H1 A1)
    | false => exact iteF (k2 G1 H1 A1)
/-- for x in range(e), e drawn -/
theorem s_forRq (A : At c δ M G H σ) (gs : Gs δ M te P) (hp : ∀ d, P d → ∃ n : Nat, d = natD n) (k : ∀ (n : Nat) G' H', P (natD n) → At c δ M G' H' σ → tSeq (tFor (iRng1 (tCons (tC (.int (n : Nat))) tNil)) g ts) w D σ H') : tSeq (tFor (iRng1 (tCons te tNil)) g ts) w D σ H :=
  gs c G H σ _ A fun d G' H' v hd A' s' r' => by
    obtain ⟨n, rfl⟩ := hp d hd
    rw [r'.intV]
    exact k n G' H' hd A'
theorem s_parsq {i j : Nat} {P Q : PyData → Prop} (A : At c δ M G H σ) (g1 : Gs δ M ta P) (g2 : Gs δ M tb Q) (k : ∀ d e G' H' σ', P d → Q e → At c ((δ.set i (.dat d)).set j (.dat e)) M G' H' σ' → w D σ' H') : tSeq (tPar i j (tCons ta (tCons tb tNil))) w D σ H :=
  g1 c G H σ _ A fun d G1 H1 v hd A1 s1 r1 => g2 c G1 H1 σ _ A1 fun e G2 H2 u he A2 s2 r2 => ⟨v, u, rfl, k d e G2 H2 _ hd he ((A2.set (s := .dat d) ⟨v, rfl, r1.up s2⟩).set (s := .dat e) ⟨u, rfl, r2⟩)⟩
/-- xs.append(e), e drawn -/
theorem s_appends (A : At c δ M G H σ) (hi : δ[i]? = some (.val (.ref p))) (hk : M[k]? = some (p, .lst ds)) (g : Gs δ M te P) (hl : ds.length < 100000)
    (kk : ∀ d G' H', P d → At c δ (M.set k (p, .lst (ds ++ [d]))) G' H' σ → D.nx σ H') : tDrop (tBM K "list" rAppend (tVar i) (tCons te tNil)) D σ H := by
  obtain ⟨_, _, u, hu, xs, rfl, _, _⟩ := A.mem p _ (List.mem_of_getElem? hk)
  refine ⟨_, A.sl i _ hi, .inl ⟨rfl, xs, SqL.of hu⟩, g c G H σ _ A fun d G1 H1 v hd A1 _ r1 => ?_⟩
  obtain ⟨_, _, u1, hu1, ys, rfl, ra, z⟩ := A1.mem p _ (List.mem_of_getElem? hk)
  refine ⟨p, ys, v, rfl, rfl, hu1, by rw [ra.length]; exact lim_lt (by omega), ?_⟩
  exact kk d _ _ hd (A1.write hk ⟨_, rfl, ra.append (.one r1), by rw [List.length_append, List.length_singleton]; omega⟩)
theorem gs_tup3 {tc : TE} (h1 : Gv δ M ta da) (h2 : Gv δ M tb db) (h3 : Gs δ M tc P) (hr : ∀ d, P d → R (.tuple [da, db, d])) : Gs δ M (tTup (tCons ta (tCons tb (tCons tc tNil)))) R := fun c G H σ Q A k =>
  h1 c G H σ _ A fun G1 H1 v A1 s1 r1 => h2 c G1 H1 σ _ A1 fun G2 H2 u A2 s2 r2 => h3 c G2 H2 σ _ A2 fun d G3 H3 x hd A3 s3 r3 => ⟨by show 3 ≤ sizeLine; decide, fun q n => by
    obtain ⟨A4, s4, r4⟩ := at_newT (ds := [da, db, d]) A3 n (by show 3 ≤ 100000; decide) (.cons ((r1.up s2).up s3) (.cons (r2.up s3) (.cons r3 .nil)))
    exact k _ _ _ _ (hr d hd) A4 (((s1.trans s2).trans s3).trans s4) r4⟩
end
def capOk (c : Option Int) : Prop := ∀ x, c = some x → 0 ≤ x ∧ x ≤ 100000000
def drawn (n : Nat) (as : List Arc) : Prop := ∀ a ∈ as, a.t < n ∧ a.h < n ∧ capOk a.c
def isNetQ (a b : PyData) : Prop := ∃ k m : Nat, a = natD k ∧ b = natD m ∧ 2 ≤ k ∧ k ≤ 20 ∧ m ≤ 50
def netR (a b d : PyData) : Prop := ∃ (n : Nat) (as : List Arc), d = netD n as ∧ 2 ≤ n ∧ n ≤ natOf a ∧ as.length ≤ natOf b ∧ drawn n as
theorem takeR_nat {m d : PyData} (h : takeR m d) : ∃ n : Nat, d = natD n := ⟨_, h.choose_spec.1⟩
theorem takeR_int {m d : PyData} (h : takeR m d) : ∃ j : Int, d = .int j := ⟨_, h.choose_spec.1⟩
theorem natD_pred {k : Nat} (h : 1 ≤ k) : PyData.int ((k : Int) - 1) = natD (k - 1) := by
  unfold natD
  congr 1
  omega
theorem natD_succ (k : Nat) : PyData.int ((k : Int) + 1) = natD (k + 1) := by
  unfold natD
  congr 1
section
variable {P : Program} {w : World} {K : PySem.W.Frag} {mg : Str → Option Value} {base : Heap} {C fI O : Addr}
abbrev s__law_net : Stmt := topS 43
abbrev N__law_net : List Str := ["_law_box_here", "_law_nodes", "_law_most_here", "_law_many", "_law_found", "_law_turn", "_law_tail", "_law_head", "_law_arc", "_law_bears"]
theorem sc__law_net : FnScope N__law_net ["_law_box_here", "_law_nodes", "_law_most_here"] (defScope s__law_net) := ⟨rfl, rfl, rfl, by decide +kernel, rfl, by decide +kernel, by decide +kernel⟩
abbrev HNet (P : Program) (w : World) (K : PySem.W.Frag) (mg : Str → Option Value) (base : Heap) : Prop := Has P w K mg base "_law_net" CX0 3 ["_law_box_here", "_law_nodes", "_law_most_here"] (sB2 isNetQ netR)
theorem h__law_net (B : Bl mg) (T : TopF K mg "_law_net" s__law_net) (h__law_take : HTake P w K mg base) (h__law_pick : HPick P w K mg base) : HNet P w K mg base := by
  obtain ⟨f, fd, hm, F⟩ := T
  refine ⟨f, fd, hm, F.kp, F.binds (ps := ["_law_box_here", "_law_nodes", "_law_most_here"]) fun _ _ _ _ _ _ us hl => match us, hl with | [_, _, _], _ => rfl, F.ok sc__law_net (fun vs H Q E h => lenB2 h) (fun cdv A outer s H vs Q E hr h => ?_)⟩
  have nd := sc__law_net.nd
  have hu := hu_of hr
  obtain ⟨G, p, us, ds, rfl, gh, ra, ⟨_, _, rfl, ⟨a, b, rfl, rfl, ha1, ha2, hb2⟩⟩, hg, hb, k⟩ := h
  refine ⟨_, (pss_cons (ps_set (i := 3) nd rfl (by first | exact Or.inl rfl | exact Or.inr rfl) (pe_op op_add pe_int (pe_callH h__law_take (hr.mono (by decide)) (pa_cons (pv 0) (pa_cons (pe_op op_sub (pv 1) pe_int) pa_nil)))))
    (pss_cons (ps_set (i := 4) nd rfl (by first | exact Or.inl rfl | exact Or.inr rfl) (pe_lst pa_nil))
    (pss_cons (ps_for PassesOwn.never rfl (pi_range1 (by rfl) B.range (pa_cons (pe_callH h__law_take (hr.mono (by decide)) (pa_cons (pv 0) (pa_cons (pe_op op_add (pv 2) pe_int) pa_nil))) pa_nil)) (pg_name (i := 5) nd rfl (by first | exact Or.inl rfl | exact Or.inr rfl))
      (pss_cons (ps_par (i := 6) (j := 7) (by rfl) nd rfl rfl (by decide) rfl rfl (pa_cons (pe_callH h__law_take (hr.mono (by decide)) (pa_cons (pv 0) (pa_cons (pv 3) pa_nil))) (pa_cons (pe_callH h__law_take (hr.mono (by decide)) (pa_cons (pv 0) (pa_cons (pv 3) pa_nil))) pa_nil)) (by rfl))
    (pss_cons (ps_if (pt_cmpR op_gt (pe_op op_modN (pv 5) pe_int) pe_int (nomark _)) (pss_one (ps_set (i := 6) nd rfl (by first | exact Or.inl rfl | exact Or.inr rfl) (pe_callH h__law_pick (hr.mono (by decide)) (pa_cons (pv 0) (pa_cons (pe_op op_cat (pe_lst (pa_cons pe_int pa_nil)) (pe_lc (own := [("_law_arc", 8)]) rfl nd (kseq (K := K) (pv 4)) (blkOk_by (N := N__law_net) (sc := defScope s__law_net) (by decide +kernel)) (fun _ _ _ _ _ => (pg_name (i := 8) nd rfl (by first | exact Or.inl rfl | exact Or.inr rfl))) (fun _ _ _ _ _ => pts_nil) (fun _ _ _ _ _ => (pe_ix (kix (K := K)) (pv 8) pe_int (fun _ _ => rfl))))) pa_nil))))) pss_nil)
    (pss_cons (ps_set (i := 9) nd rfl (by first | exact Or.inl rfl | exact Or.inr rfl) (pe_callH h__law_pick (hr.mono (by decide)) (pa_cons (pv 0) (pa_cons (pe_lst (pa_cons pe_int (pa_cons pe_int (pa_cons pe_int (pa_cons pe_int (pa_cons pe_int (pa_cons pe_int pa_nil))))))) pa_nil))))
    (pss_one (ps_expr (pe_bm PySem.F.plainAttrs_list PySem.F.slot_list_append PySem.F.type_list_append mt_append (pv 4) (pa_cons (pe_tup (pa_cons (pv 6) (pa_cons (pv 7) (pa_cons (pe_ifExp (pt_cmpR op_gt (pe_callH h__law_take (hr.mono (by decide)) (pa_cons (pv 0) (pa_cons pe_int pa_nil))) pe_int (nomark _)) (pv 9) (pe_callH h__law_pick (hr.mono (by decide)) (pa_cons (pv 0) (pa_cons (pe_lst (pa_cons pe_non (pa_cons pe_non (pa_cons (pe_op op_pow pe_int pe_int) pa_nil)))) pa_nil)))) pa_nil)))) pa_nil))))))))
    (pss_one (ps_ret (pe_tup (pa_cons (pv 3) (pa_cons (pe_callTy (ktup (K := K)) (by rfl) B.tuple (by decide +kernel) (pa_cons (pv 4) pa_nil)) pa_nil)))))))), ?_⟩
  have A0 := at_startB (N := N__law_net) gh ra (Nat.le_of_ble_eq_true rfl) hg hb
  have bm : ∀ (x : Addr × MO), (p, MO.box) ∈ [x, (p, .box)] := fun x => List.mem_cons_of_mem _ (List.mem_cons_self ..)
  refine s_setsq (P := fun d => ∃ n : Nat, d = natD n ∧ 2 ≤ n ∧ n ≤ a) A0 (gs_op0 g_int (gs_b1 (R := takeR) (P := isTake) rfl (List.mem_cons_self ..) (ga_cons (Gv.cast (g_op0 (g_var (d := natD a) rfl) g_int) (natD_pred (by omega))) ga_nil) ⟨a - 1, rfl, by omega, by omega⟩) fun d hd => ?_) fun d G1 H1 σ1 hd A1 => ?_
  · obtain ⟨j, rfl, hj⟩ := hd
    rw [natOf_D] at hj
    exact ⟨j, rfl, 2 + j, by unfold natD; congr 1, by omega, by omega⟩
  obtain ⟨n, rfl, hn1, hn2⟩ := hd
  refine s_setFq A1 (gf_lst ga_nil (Nat.zero_le _)) fun pf G2 H2 σ2 h0 A2 => ?_
  refine s_forRq A2 (gs_b1 (R := takeR) (P := isTake) rfl (bm _) (ga_cons (Gv.cast (g_op0 (g_var (d := natD b) rfl) g_int) (natD_succ b)) ga_nil) ⟨b + 1, rfl, by omega, by omega⟩) (fun d hd => takeR_nat hd) fun m G3 H3 hm A3 => ?_
  have hmb : m ≤ b := by
    obtain ⟨j, ej, hj⟩ := hm
    rw [natOf_D] at hj
    have : (m : Int) = (j : Int) := PyData.int.inj ej
    omega
  refine s_forq (ds := rangeD m) (fun j δ' M' => ∃ (as : List Arc) (s5 s6 s7 s8 s9 : Sl), as.length = j ∧ drawn n as ∧ δ' = [.val (.ref p), .dat (natD a), .dat (natD b), .dat (natD n), .val (.ref pf), s5, s6, s7, .any, s9] ∧ M' = [(pf, .lst (as.map arcD)), (p, .box)]) A3 (gi_range (n := m) (ga_cons g_int ga_nil) (by omega)) ⟨[], _, _, _, .any, _, rfl, (fun a h => by cases h), rfl, rfl⟩ ?_ ?_
  · rintro c' j dj δ' M' G4 H4 σ4 v e1 e2 e3 hd ⟨as, s5, s6, s7, s8, s9, hal, hdr, rfl, rfl⟩ A4 rv
    obtain ⟨hj, rfl⟩ := rangeD_get hd
    refine gg_name c' G4 H4 σ4 v _ A4 rv fun G5 H5 σ5 A5 _ _ _ => ?_
    refine s_parsq (P := takeR (natD n)) (Q := takeR (natD n)) A5 (gs_b1 rfl (bm _) (ga_v rfl) ⟨n, rfl, by omega, by omega⟩) (gs_b1 rfl (bm _) (ga_v rfl) ⟨n, rfl, by omega, by omega⟩) fun d1 d2 G6 H6 σ6 hd1 hd2 A6 => ?_
    obtain ⟨hd, rfl, hh⟩ := hd2
    rw [natOf_D] at hh
    -- the rest, the tail drawn
    have rest : ∀ (tl : Nat) (G7 H7 : Hp) (σ7 : L2.St) (D : Ends), tl < n → At c' [.val (.ref p), .dat (natD a), .dat (natD b), .dat (natD n), .val (.ref pf), .dat (.int (j : Nat)), .dat (natD tl), .dat (natD hd), .any, s9] [(pf, .lst (as.map arcD)), (p, .box)] G7 H7 σ7 →
        (∀ (as' : List Arc) (s9' : Sl) (G' H' : Hp) (σ' : L2.St), as'.length = j + 1 → drawn n as' → At c' [.val (.ref p), .dat (natD a), .dat (natD b), .dat (natD n), .val (.ref pf), .dat (.int (j : Nat)), .dat (natD tl), .dat (natD hd), .any, s9'] [(pf, .lst (as'.map arcD)), (p, .box)] G' H' σ' → D.nx σ' H') →
        tSeq (tAsg (tCall (sB1 isPick pickR) [] E0 (tCons (tVar 0) (tCons (tLst (tCons (tC (.int 0)) (tCons (tC (.int 1)) (tCons (tC (.int 1)) (tCons (tC (.int 2)) (tCons (tC (.int 3)) (tCons (tC (.int 5)) tNil))))))) tNil))) (gName 9))
          (tDrop (tBM K "list" rAppend (tVar 4) (tCons (tTup (tCons (tVar 6) (tCons (tVar 7) (tCons (tIf (tTest (tOp (rI0 fun i j => .bl (decide (j < i))) (tCall (sB1 isTake takeR) [] E0 (tCons (tVar 0) (tCons (tC (.int 12)) tNil))) (tC (.int 0)))) (tVar 9) (tCall (sB1 isPick pickR) [] E0 (tCons (tVar 0) (tCons (tLst (tCons (tC .non) (tCons (tC .non) (tCons (tOp (rI CPow fun i j => .int (i ^ j.toNat)) (tC (.int 10)) (tC (.int 8))) tNil)))) tNil)))) tNil)))) tNil))) D σ7 H7 := fun tl G7 H7 σ7 D htl A7 kk => by
      refine s_setsq (P := fun d => ∃ c : Option Int, d = capD c ∧ capOk c) A7 ((gs_b1 (R := pickR) (P := isPick) rfl (bm _) (ga_cons (g_lst (ga_cons g_int (ga_cons g_int (ga_cons g_int (ga_cons g_int (ga_cons g_int (ga_cons g_int ga_nil)))))) (by show 6 ≤ 100000; decide)) ga_nil) ⟨_, rfl, by decide, by decide⟩).imp ?_) fun d G8 H8 σ8 hd8 A8 => ?_
      · rintro d ⟨xs, hs, hx⟩
        cases hs
        have h2 : d = .int 0 ∨ d = .int 1 ∨ d = .int 2 ∨ d = .int 3 ∨ d = .int 5 := by simpa using hx
        rcases h2 with rfl | rfl | rfl | rfl | rfl <;> exact ⟨some _, rfl, fun x e => by cases e; decide⟩
      obtain ⟨bc, rfl, hbc⟩ := hd8
      refine s_appends (k := 0) (P := fun d => ∃ c : Option Int, d = arcD ⟨tl, hd, c⟩ ∧ capOk c) A8 rfl rfl (gs_tup3 (P := fun d => ∃ c : Option Int, d = capD c ∧ capOk c) (g_var (d := natD tl) rfl) (g_var (d := natD hd) rfl) (gs_if (gta_cmp (gs_b1 (R := takeR) (P := isTake) rfl (bm _) (ga_cons g_int ga_nil) ⟨12, rfl, by decide, by decide⟩) (fun d hd => takeR_int hd) g_int) (Gv.s (g_var (d := capD bc) rfl) ⟨bc, rfl, hbc⟩) ((gs_b1 (R := pickR) (P := isPick) rfl (bm _) (ga_cons (g_lst (ga_cons g_non (ga_cons g_non (ga_cons (g_opC g_int g_int ⟨by decide, by decide, by decide⟩) ga_nil))) (by show 3 ≤ 100000; decide)) ga_nil) ⟨_, rfl, by decide, by decide⟩).imp ?_)) (fun d hd => ?_)) (by rw [List.length_map]; omega) fun d G9 H9 hd9 A9 => ?_
      · rintro d ⟨xs, hs, hx⟩
        cases hs
        have h2 : d = .none ∨ d = .int 100000000 := by simpa using hx
        rcases h2 with rfl | rfl
        · exact ⟨none, rfl, fun x e => by cases e⟩
        · exact ⟨some _, rfl, fun x e => by cases e; decide⟩
      · obtain ⟨c1, rfl, hc1⟩ := hd
        exact ⟨c1, rfl, hc1⟩
      · obtain ⟨c1, rfl, hc1⟩ := hd9
        refine kk (as ++ [⟨tl, hd, c1⟩]) _ G9 H9 σ8 (by rw [List.length_append, hal]; rfl) (fun x hx => ?_) (by rw [List.map_append]; exact A9)
        rcases List.mem_append.mp hx with hx | hx
        · exact hdr x hx
        · have : x = ⟨tl, hd, c1⟩ := by simpa using hx
          rw [this]
          exact ⟨htl, hh, hc1⟩
    obtain ⟨t0, rfl, ht0⟩ := hd1
    rw [natOf_D] at ht0
    refine s_ifAq A6 (Gt.a (gt_test (g_opB (g_opC (g_var (d := .int (j : Nat)) rfl) g_int (by decide)) g_int))) (fun G7 H7 A7 => ?_) fun G7 H7 A7 => ?_
    · refine s_sets (P := fun d => ∃ tl : Nat, d = natD tl ∧ tl < n) A7 ((gs_b1 (R := pickR) (P := isPick) rfl (bm _) (ga_cons (Gv.cast (d := .list (natD 0 :: as.map fun a : Arc => natD a.h)) (Gf.v (gf_cat (ds := [natD 0]) (es := as.map fun a : Arc => natD a.h) (g_lst (ga_cons g_int ga_nil) (by show 1 ≤ 100000; decide)) (Gv.cast (g_lcOwn (ds := as.map arcD) (fun y => natD (arcOf y).h) rfl (List.mem_cons_self ..) (by rw [List.length_map]; omega) (fun x y hy => ?_)) ?_) (by rw [List.length_map]; show 1 + _ ≤ _; omega))) rfl) ga_nil) ⟨natD 0 :: as.map (fun a : Arc => natD a.h), rfl, by simp, by simp; omega⟩).imp ?_) fun d G8 H8 σ8 hd8 A8 => ?_
      · obtain ⟨x2, _, rfl⟩ := List.mem_map.mp hy
        rw [arcOf_D]
        exact g_ix (n := 1) (g_var (d := arcD x2) rfl) g_int rfl rfl
      · rw [List.map_map]
        congr 1
      · rintro d ⟨xs, hs, hx⟩
        cases hs
        rcases List.mem_cons.mp hx with rfl | hx
        · exact ⟨0, rfl, by omega⟩
        · obtain ⟨x2, hx2, rfl⟩ := List.mem_map.mp hx
          exact ⟨x2.h, rfl, (hdr x2 hx2).2.1⟩
      obtain ⟨tl, rfl, htl⟩ := hd8
      exact rest tl G8 H8 σ8 _ htl A8 fun as' s9' G' H' σ' h1 h2 A' => ⟨_, _, G', ⟨as', _, _, _, .any, _, h1, h2, rfl, rfl⟩, A'⟩
    · exact rest t0 G7 H7 σ6 _ ht0 A7 fun as' s9' G' H' σ' h1 h2 A' => ⟨_, _, G', ⟨as', _, _, _, .any, _, h1, h2, rfl, rfl⟩, A'⟩
  · rintro δ' M' G4 H4 σ4 ⟨as, s5, s6, s7, s8, s9, hal, hdr, rfl, rfl⟩ A4
    rw [rangeD_len] at hal
    refine s_ret A4 (g_tup (ga_cons (g_var (d := natD n) rfl) (ga_cons (g_tupOwn (k := 0) rfl rfl) ga_nil)) (by show 2 ≤ 100000; decide)) fun G' H' v A' r => k G' H' v (netD n as) ⟨n, as, rfl, hn1, by rw [natOf_D]; exact hn2, by rw [natOf_D]; omega, hdr⟩ A'.ev (A'.box (bm _)) r
end
end Od
set_option Elab.async false
set_option linter.all false
set_option autoImplicit false
set_option maxRecDepth 100000
set_option maxHeartbeats 4000000
/-! W20: ends drawn; a way gone. -/
namespace Od
open PySem PySem.Spec L2
section
variable {c : Ct} {δ δ' : List Sl} {M : Mem} {K : PySem.W.Frag} {ta tb te : TE} {d e da db : PyData} {ds es : List PyData} {P R : PyData → Prop} {G H : Hp} {σ : L2.St} {D : Ends} {w : TS} {i k : Nat} {p : Addr}
theorem s_parFFq {i j : Nat} (A : At c δ M G H σ) (g1 : Gf δ M ta ds) (g2 : ∀ x, Gf δ (x :: M) tb es) (k : ∀ p q G' H' σ', c.H0 p = none → c.H0 q = none → At c ((δ.set i (.val (.ref p))).set j (.val (.ref q))) ((q, .lst es) :: (p, .lst ds) :: M) G' H' σ' → w D σ' H') : tSeq (tPar i j (tCons ta (tCons tb tNil))) w D σ H :=
  g1 c G H σ _ A fun p G1 H1 h0 A1 s1 => g2 _ c G1 H1 σ _ A1 fun q G2 H2 h2 A2 s2 => ⟨_, _, rfl, k p q G2 H2 _ h0 h2 ((A2.set (s := .val (.ref p)) rfl).set (s := .val (.ref q)) rfl)⟩
/-- an own list is handed back -/
theorem s_retOwn (A : At c δ M G H σ) (hi : δ[i]? = some (.val (.ref p))) (hk : M[k]? = some (p, .lst ds)) (h0 : c.H0 p = none) (kk : ∀ G' v, At c δ (M.eraseIdx k) G' H σ → Rep G' v (.list ds) → D.rt v H) : tRet (tVar i) D σ H := by
  obtain ⟨xs, hx, B, sB, rB⟩ := A.freeze hk h0
  exact ⟨_, A.sl i _ hi, kk _ _ B rB⟩
end
theorem nats_erase : ∀ (l : List Nat) (j : Nat), (natsD l).eraseIdx j = natsD (l.eraseIdx j)
  | [], _ => rfl
  | _ :: _, 0 => rfl
  | a :: l, j + 1 => by
    show natD a :: (natsD l).eraseIdx j = natD a :: natsD (l.eraseIdx j)
    rw [nats_erase l j]
theorem erase_perm : ∀ {l : List Nat} {j x : Nat}, l[j]? = some x → (x :: l.eraseIdx j).Perm l
  | [], _, _, h => by cases h
  | a :: l, 0, x, h => by cases h; exact .refl _
  | a :: l, j + 1, x, h => by
    have ih := erase_perm (l := l) (j := j) (x := x) (by simpa using h)
    exact (List.Perm.swap a x (l.eraseIdx j)).trans (ih.cons a)
theorem others_len (n s : Nat) : (others n s).length ≤ n := by
  have := List.length_filter_le (fun v => !decide (v = s)) (List.range n)
  rw [List.length_range] at this
  exact this
theorem others_nd (n s : Nat) : (others n s).Nodup := (List.filter_sublist (p := fun v => !decide (v = s)) (l := List.range n)).nodup List.nodup_range
def isEndsQ (nt st : PyData) : Prop := ∃ (n : Nat) (as : List Arc) (s : Nat), nt = netD n as ∧ st = natD s ∧ n ≤ 20
def endsR (nt st d : PyData) : Prop := ∃ es : List Nat, d = .list (natsD es) ∧ es.Nodup ∧ ∀ u ∈ es, u < nodesOfNet nt ∧ u ≠ natOf st
/-- each no less, and not much more -/
def bump (b : Int) (l l' : List Int) : Prop := l'.length = l.length ∧ ∀ i, l.getD i 0 ≤ l'.getD i 0 ∧ l'.getD i 0 ≤ l.getD i 0 + b
theorem bump_refl (l : List Int) : bump 0 l l := ⟨rfl, fun i => ⟨Int.le_refl _, by omega⟩⟩
theorem bump_mono {a b : Int} {l l' : List Int} (h : bump a l l') (hab : a ≤ b) : bump b l l' := ⟨h.1, fun i => ⟨(h.2 i).1, by have := (h.2 i).2; omega⟩⟩
theorem bump_set {b : Int} {l l' : List Int} {v : Nat} (h : bump b l l') (hb : 0 ≤ b) : bump (b + 1) l (l'.set v (l'.getD v 0 + 1)) := by
  refine ⟨by rw [List.length_set]; exact h.1, fun i => ?_⟩
  have hi := h.2 i
  by_cases e : v = i
  · subst e
    by_cases hl : v < l'.length
    · rw [List.getD_eq_getElem?_getD (l := l'.set v _), List.getElem?_set_self hl]
      show _ ≤ l'.getD v 0 + 1 ∧ l'.getD v 0 + 1 ≤ _
      omega
    · rw [List.set_eq_of_length_le (by omega)]
      omega
  · rw [List.getD_eq_getElem?_getD (l := l'.set v _), List.getElem?_set_ne e, ← List.getD_eq_getElem?_getD]
    omega
def spGone : Sp := fun vs H Q _ => ∃ (G : Hp) (p q : Addr) (vn v1 v2 : V) (n : Nat) (as : List Arc) (s g : Nat) (l : List Int), vs = [.ref p, vn, .ref q, v1, v2] ∧ Same G H ∧ Rep G vn (netD n as) ∧ Rep G v1 (natD s) ∧ Rep G v2 (natD g) ∧ p ≠ q ∧
  G p = none ∧ (∃ o, H p = some o ∧ MOk G .box o) ∧ G q = none ∧ (∃ o, H q = some o ∧ MOk G (.lst (intsD l)) o) ∧ l.length = as.length ∧ n ≤ 20 ∧ as.length ≤ 50 ∧
  ∀ (G' H' : Hp) (l' : List Int), bump 1000 l l' → Ev [p, q] G H G' H' → (∃ o, H' p = some o ∧ MOk G' .box o) → (∃ o, H' q = some o ∧ MOk G' (.lst (intsD l')) o) → Q .non H'
theorem lenG {vs : List V} {H : Hp} {Q : VK} {E : XK} (h : spGone vs H Q E) : vs.length = 5 := by
  obtain ⟨G, p, q, vn, v1, v2, n, as, s, g, l, rfl, _⟩ := h
  rfl
section
variable {P : Program} {w : World} {K : PySem.W.Frag} {mg : Str → Option Value} {base : Heap} {C fI O : Addr}
abbrev s__law_ends : Stmt := topS 50
abbrev N__law_ends : List Str := ["_law_box_here", "_law_net_here", "_law_start_here", "_law_some", "_law_found", "_law_node", "_law_turn"]
theorem sc__law_ends : FnScope N__law_ends ["_law_box_here", "_law_net_here", "_law_start_here"] (defScope s__law_ends) := ⟨rfl, rfl, rfl, by decide +kernel, rfl, by decide +kernel, by decide +kernel⟩
abbrev HEndsQ (P : Program) (w : World) (K : PySem.W.Frag) (mg : Str → Option Value) (base : Heap) : Prop := Has P w K mg base "_law_ends" CX0 2 ["_law_box_here", "_law_net_here", "_law_start_here"] (sB2 isEndsQ endsR)
theorem h__law_ends (B : Bl mg) (T : TopF K mg "_law_ends" s__law_ends) (h__law_take : HTake P w K mg base) : HEndsQ P w K mg base := by
  obtain ⟨f, fd, hm, F⟩ := T
  refine ⟨f, fd, hm, F.kp, F.binds (ps := ["_law_box_here", "_law_net_here", "_law_start_here"]) fun _ _ _ _ _ _ us hl => match us, hl with | [_, _, _], _ => rfl, F.ok sc__law_ends (fun vs H Q E h => lenB2 h) (fun cdv A outer s H vs Q E hr h => ?_)⟩
  have nd := sc__law_ends.nd
  have hu := hu_of hr
  obtain ⟨G, p, us, ds, rfl, gh, ra, ⟨_, _, rfl, ⟨n, as, s, rfl, rfl, hn⟩⟩, hg, hb, k⟩ := h
  refine ⟨_, (pss_cons (ps_par (i := 3) (j := 4) (by rfl) nd rfl rfl (by decide) rfl rfl (pa_cons (pe_lc (own := [("_law_node", 5)]) rfl nd (pi_range1 (by rfl) B.range (pa_cons (pe_ix (kix (K := K)) (pv 1) pe_int (fun _ _ => rfl)) pa_nil)) (blkOk_by (N := N__law_ends) (sc := defScope s__law_ends) (by decide +kernel)) (fun _ _ _ _ _ => (pg_name (i := 5) nd rfl (by first | exact Or.inl rfl | exact Or.inr rfl))) (fun _ _ _ _ _ => (pts_one (pt_cmpR op_ne (pv 5) (pv 2) (nomark _)))) (fun _ _ _ _ _ => (pv 5))) (pa_cons (pe_lst pa_nil) pa_nil)) (by rfl))
    (pss_cons (ps_for PassesOwn.never rfl (pi_range1 (by rfl) B.range (pa_cons (pe_callH h__law_take (hr.mono (by decide)) (pa_cons (pv 0) (pa_cons (pe_op op_add (pe_callB (klen (K := K)) (by rfl) B.len (by decide +kernel) (pa_cons (pv 3) pa_nil)) pe_int) pa_nil))) pa_nil)) (pg_name (i := 6) nd rfl (by first | exact Or.inl rfl | exact Or.inr rfl))
      (pss_one (ps_expr (pe_bm PySem.F.plainAttrs_list PySem.F.slot_list_append PySem.F.type_list_append mt_append (pv 4) (pa_cons (pe_bm PySem.F.plainAttrs_list PySem.F.slot_list_pop PySem.F.type_list_pop mt_popAt (pv 3) (pa_cons (pe_callH h__law_take (hr.mono (by decide)) (pa_cons (pv 0) (pa_cons (pe_callB (klen (K := K)) (by rfl) B.len (by decide +kernel) (pa_cons (pv 3) pa_nil)) pa_nil))) pa_nil)) pa_nil)))))
    (pss_one (ps_ret (pv 4))))), ?_⟩
  have A0 := at_startB (N := N__law_ends) gh ra (Nat.le_of_ble_eq_true rfl) hg hb
  have ol := others_len n s
  refine s_parFFq A0 (Gf.cast (gf_lc (ds := rangeD n) (fun y => !decide (natOf y = s)) id (δ' := fun y => [.val (.ref p), .dat (netD n as), .dat (natD s), .any, .any, .dat y, .any]) (gi_range (n := n) (ga_cons (g_ix (n := 0) (d := natD n) (g_var (d := netD n as) rfl) g_int rfl rfl) ga_nil) (by omega)) (by rw [rangeD_len]; omega) (fun x y _ => gg_name) (fun x y hy => ?_) (fun x y _ _ => g_var rfl)) (othersD n s)) (fun x => gf_lst ga_nil (Nat.zero_le _)) fun ps pf G1 H1 σ1 h0s h0f A1 => ?_
  · obtain ⟨i, _, rfl⟩ := List.mem_map.mp hy
    rw [show natOf (PyData.int (i : Nat)) = i from natOf_D i]
    exact gt_test (g_neN (v := i) (u := s) (g_var rfl) (g_var rfl))
  have bm : ∀ (x y : Addr × MO), (p, MO.box) ∈ [x, y, (p, .box)] := fun x y => List.mem_cons_of_mem _ (List.mem_cons_of_mem _ (List.mem_cons_self ..))
  refine s_forRq A1 (gs_b1 (R := takeR) (P := isTake) rfl (bm _ _) (ga_cons (Gv.cast (g_op0 (g_lenOwn (k := 1) rfl rfl) g_int) (natD_succ _)) ga_nil) ⟨_, rfl, by omega, by rw [natsD_len]; omega⟩) (fun d hd => takeR_nat hd) fun m G3 H3 hm A3 => ?_
  have hmb : m ≤ (others n s).length := by
    obtain ⟨j, ej, hj⟩ := hm
    rw [natOf_D, natsD_len] at hj
    have : (m : Int) = (j : Int) := PyData.int.inj ej
    omega
  refine s_forq (ds := rangeD m) (fun j δ' M' => ∃ (sm fd : List Nat) (s6 : Sl), fd.length = j ∧ (fd ++ sm).Perm (others n s) ∧ δ' = [.val (.ref p), .dat (netD n as), .dat (natD s), .val (.ref ps), .val (.ref pf), .any, s6] ∧ M' = [(pf, .lst (natsD fd)), (ps, .lst (natsD sm)), (p, .box)]) A3 (gi_range (n := m) (ga_cons g_int ga_nil) (by omega)) ⟨others n s, [], _, rfl, .refl _, rfl, rfl⟩ ?_ ?_
  · rintro c' j dj δ' M' G4 H4 σ4 v e1 e2 e3 hd ⟨sm, fd, s6, hfl, hpm, rfl, rfl⟩ A4 rv
    obtain ⟨hj, rfl⟩ := rangeD_get hd
    have hpl := hpm.length_eq
    rw [List.length_append] at hpl
    refine gg_name c' G4 H4 σ4 v _ A4 rv fun G5 H5 σ5 A5 _ _ _ => ?_
    obtain ⟨_, _, uf, huf, xf, rfl, _, _⟩ := A5.mem pf _ (List.mem_cons_self ..)
    obtain ⟨_, _, us, hus, xs, rfl, _, _⟩ := A5.mem ps _ (List.mem_cons_of_mem _ (List.mem_cons_self ..))
    refine ⟨_, A5.sl 4 _ rfl, .inl ⟨rfl, xf, SqL.of huf⟩, _, A5.sl 3 _ rfl, .inl ⟨rfl, xs, SqL.of hus⟩, ?_⟩
    refine gs_b1 (R := takeR) (P := isTake) rfl (bm _ _) (ga_cons (g_lenOwn (k := 1) rfl rfl) ga_nil) ⟨_, rfl, by rw [natsD_len]; omega, by rw [natsD_len]; omega⟩ _ _ _ _ _ A5 fun dt G6 H6 vt ht A6 _ rt => ?_
    obtain ⟨t, rfl, htl⟩ := ht
    rw [show natOf (PyData.int (((natsD sm).length : Nat) : Int)) = (natsD sm).length from natOf_D _, natsD_len] at htl
    rw [rt.intV]
    obtain ⟨_, _, us2, hus2, ys, rfl, ry, _⟩ := A6.mem ps _ (List.mem_cons_of_mem _ (List.mem_cons_self ..))
    have hst : sm[t]? = some sm[t] := List.getElem?_eq_getElem htl
    obtain ⟨y, hy, ryt⟩ := ry.get (i := t) (d := natD sm[t]) (by unfold natsD; rw [List.getElem?_map, hst]; rfl)
    have hyl : ys.length = sm.length := by rw [ry.length, natsD_len]
    refine ⟨ps, ys, t, t, y, rfl, rfl, hus2, by omega, by omega, ?_, hy, ?_⟩
    · unfold seqIndex?
      simp only [show ¬ ((t : Nat) : Int) < 0 by omega, if_false]
      rw [if_pos (by simp only [Bool.and_eq_true, decide_eq_true_eq]; omega)]
      rfl
    · have A7 := A6.write (k := 1) (o' := .lst (natsD (sm.eraseIdx t))) (u := .lst (ys.eraseIdx t)) rfl ⟨_, rfl, by rw [← nats_erase]; exact ry.eraseIdx t, by rw [natsD_len]; have := List.length_eraseIdx_le sm t; omega⟩
      obtain ⟨_, _, uf2, huf2, zf, rfl, rzf, _⟩ := A7.mem pf _ (List.mem_cons_self ..)
      refine ⟨pf, zf, y, rfl, rfl, huf2, by rw [rzf.length, natsD_len]; exact lim_lt (by omega), ?_⟩
      have A8 := A7.write (k := 0) (o' := .lst (natsD (fd ++ [sm[t]]))) (u := .lst (zf ++ [y])) rfl ⟨_, rfl, by unfold natsD; rw [List.map_append]; exact rzf.append (.one ryt), by rw [natsD_len, List.length_append, List.length_singleton]; omega⟩
      refine ⟨_, _, G6, ⟨sm.eraseIdx t, fd ++ [sm[t]], _, by rw [List.length_append, hfl]; rfl, ?_, rfl, rfl⟩, A8⟩
      rw [List.append_assoc]
      exact ((erase_perm hst).append_left fd).trans hpm
  · rintro δ' M' G4 H4 σ4 ⟨sm, fd, s6, hfl, hpm, rfl, rfl⟩ A4
    refine s_retOwn (k := 0) A4 rfl rfl h0f fun G' v A' r => k G' H4 v _ ⟨fd, rfl, ?_, fun u hu => ?_⟩ A'.ev (A'.box (List.mem_cons_of_mem _ (List.mem_cons_self ..))) r
    · exact (List.nodup_append.mp (hpm.nodup_iff.mpr (others_nd n s))).1
    · rw [nodesOfNet_D, natOf_D]
      exact others_mem (hpm.mem_iff.mp (List.mem_append_left _ hu))
end
end Od
set_option Elab.async false
set_option linter.all false
set_option autoImplicit false
set_option maxRecDepth 100000
set_option maxHeartbeats 4000000
/-! W21: a way gone. -/
namespace Od
open PySem PySem.Spec L2
section
variable {c : Ct} {δ δ' : List Sl} {M : Mem} {K : PySem.W.Frag} {ta tb te : TE} {da : PyData} {ds : List PyData} {G H : Hp} {σ : L2.St} {D : Ends} {w : TS}
/-- two names at once by a pair that is laid: a datum, an own list -/
theorem s_pairGq {i j : Nat} (A : At c δ M G H σ) (g1 : Gv δ M ta da) (g2 : Gf δ M tb ds) (k : ∀ p G' H' σ', c.H0 p = none → At c ((δ.set i (.dat da)).set j (.val (.ref p))) ((p, .lst ds) :: M) G' H' σ' → w D σ' H') : tSeq (tAsg (tTup (tCons ta (tCons tb tNil))) (gTup K 2 (gCons (gName i) (gCons (gName j) gNil)))) w D σ H :=
  g1 c G H σ _ A fun G1 H1 v A1 s1 r1 => g2 c G1 H1 σ _ A1 fun p G2 H2 h0 A2 s2 => ⟨by show 2 ≤ sizeLine; decide, fun q n => ⟨q, [v, .ref p], rfl, SqT.of upd_same, rfl, v, [.ref p], rfl, .ref p, [], rfl, rfl, k p G2 _ _ h0 (((A2.ext (Ev.lay A2.gh n)).set (s := .dat da) ⟨v, rfl, r1.up s2⟩).set (s := .val (.ref p)) rfl)⟩⟩
end
theorem filt_nats (m : Nat) (f : PyData → Bool) : ∃ l : List Nat, ((rangeD m).filter f).map id = natsD l ∧ ∀ x ∈ l, x < m := by
  refine ⟨(List.range m).filter fun i => f (natD i), ?_, fun x hx => List.mem_range.mp (List.mem_filter.mp hx).1⟩
  rw [List.map_id]
  unfold rangeD natsD
  rw [List.filter_map]
  rfl
theorem filt_natsD (l : List Nat) (f : PyData → Bool) : ∃ l' : List Nat, ((natsD l).filter f).map id = natsD l' ∧ l'.Sublist l := by
  refine ⟨l.filter fun i => f (natD i), ?_, List.filter_sublist⟩
  rw [List.map_id]
  unfold natsD
  rw [List.filter_map]
  rfl
theorem filt_range_len (m : Nat) (f : PyData → Bool) (l : List Nat) (h : ((rangeD m).filter f).map id = natsD l) : l.length ≤ m := by
  have e := congrArg List.length h
  rw [List.length_map, natsD_len] at e
  have := List.length_filter_le f (rangeD m)
  rw [rangeD_len] at this
  omega
theorem intsD_setL (l : List Int) (i : Nat) (x : Int) : (intsD l).set i (.int x) = intsD (l.set i x) := by
  unfold intsD
  rw [List.map_set]
section
variable {P : Program} {w : World} {K : PySem.W.Frag} {mg : Str → Option Value} {base : Heap} {C fI O : Addr}
abbrev s__law_gone : Stmt := topS 44
abbrev N__law_gone : List Str := ["_law_box_here", "_law_net_here", "_law_load", "_law_start_here", "_law_goal", "_law_many", "_law_arcs", "_law_here", "_law_gone_here", "_law_turn", "_law_some", "_law_at"]
theorem sc__law_gone : FnScope N__law_gone ["_law_box_here", "_law_net_here", "_law_load", "_law_start_here", "_law_goal"] (defScope s__law_gone) := ⟨rfl, rfl, rfl, by decide +kernel, rfl, by decide +kernel, by decide +kernel⟩
abbrev HLawGone (P : Program) (w : World) (K : PySem.W.Frag) (mg : Str → Option Value) (base : Heap) : Prop := Has P w K mg base "_law_gone" CX0 3 ["_law_box_here", "_law_net_here", "_law_load", "_law_start_here", "_law_goal"] spGone
theorem h__law_gone (B : Bl mg) (T : TopF K mg "_law_gone" s__law_gone) (h__law_pick : HPick P w K mg base) : HLawGone P w K mg base := by
  obtain ⟨f, fd, hm, F⟩ := T
  refine ⟨f, fd, hm, F.kp, F.binds (ps := ["_law_box_here", "_law_net_here", "_law_load", "_law_start_here", "_law_goal"]) fun _ _ _ _ _ _ us hl => match us, hl with | [_, _, _, _, _], _ => rfl, F.ok sc__law_gone (fun vs H Q E h => lenG h) (fun cdv A outer s H vs Q E hr h => ?_)⟩
  have nd := sc__law_gone.nd
  have hu := hu_of hr
  obtain ⟨G, p, q, vn, v1, v2, n, as, s, g, l, rfl, gh, rn, r1, r2, hpq, hgp, hbp, hgq, hbq, hll, hn, hal, k⟩ := h
  refine ⟨_, (pss_cons (ps_asg (pv 1) (ktg (K := K) (n := 2) (pgs_cons (pg_name (i := 5) nd rfl (by first | exact Or.inl rfl | exact Or.inr rfl)) (pgs_cons (pg_name (i := 6) nd rfl (by first | exact Or.inl rfl | exact Or.inr rfl)) pgs_nil))))
    (pss_cons (ps_asg (pe_tup (pa_cons (pv 3) (pa_cons (pe_lst pa_nil) pa_nil))) (ktg (K := K) (n := 2) (pgs_cons (pg_name (i := 7) nd rfl (by first | exact Or.inl rfl | exact Or.inr rfl)) (pgs_cons (pg_name (i := 8) nd rfl (by first | exact Or.inl rfl | exact Or.inr rfl)) pgs_nil))))
    (pss_one (ps_for PassesOwn.never rfl (pi_range1 (by rfl) B.range (pa_cons (pe_op op_mul pe_int (pv 5)) pa_nil)) (pg_name (i := 9) nd rfl (by first | exact Or.inl rfl | exact Or.inr rfl))
      (pss_cons (ps_setLcQ (i := 10) (own := [("_law_at", 11)]) rfl nd (pi_range1 (by rfl) B.range (pa_cons (pe_callB (klen (K := K)) (by rfl) B.len (by decide +kernel) (pa_cons (pv 6) pa_nil)) pa_nil)) (blkOk_by (N := N__law_gone) (sc := defScope s__law_gone) (by decide +kernel)) (fun _ _ _ _ _ => (pg_name (i := 11) nd rfl (by first | exact Or.inl rfl | exact Or.inr rfl))) (fun _ _ _ _ _ => (pts_one (PW.pt (pw_and (pt_cmpR op_eq (pe_ix (kix (K := K)) (pe_ix (kix (K := K)) (pv 6) (pv 11) (fun _ _ => rfl)) pe_int (fun _ _ => rfl)) (pv 7) (nomark _)) (pw_and1 (pt_cmpR (knotin (K := K)) (pv 11) (pv 8) (by with_unfolding_all rfl))))))) (fun _ _ _ _ _ => (pv 11)))
    (pss_cons (ps_setLcQ (i := 10) (own := [("_law_at", 11)]) rfl nd (kseq (K := K) (pv 10)) (blkOk_by (N := N__law_gone) (sc := defScope s__law_gone) (by decide +kernel)) (fun _ _ _ _ _ => (pg_name (i := 11) nd rfl (by first | exact Or.inl rfl | exact Or.inr rfl))) (fun _ _ _ _ _ => (pts_one (PW.pt (pw_or (pt_cmp (pc_isN (pe_ix (kix (K := K)) (pe_ix (kix (K := K)) (pv 6) (pv 11) (fun _ _ => rfl)) pe_int (fun _ _ => rfl))) rfl) (pw_or1 (pt_cmpR op_lt (pe_ix (kix (K := K)) (pv 2) (pv 11) (fun _ _ => rfl)) (pe_ix (kix (K := K)) (pe_ix (kix (K := K)) (pv 6) (pv 11) (fun _ _ => rfl)) pe_int (fun _ _ => rfl)) (nomark _))))))) (fun _ _ _ _ _ => (pv 11)))
    (pss_cons (ps_if (pt_cmpR (keq hr.units (K := K)) (pv 10) (pe_lst pa_nil) (nomark _)) (pss_one ps_retN) pss_nil)
    (pss_cons (ps_expr (pe_bm PySem.F.plainAttrs_list PySem.F.slot_list_append PySem.F.type_list_append mt_append (pv 8) (pa_cons (pe_callH h__law_pick (hr.mono (by decide)) (pa_cons (pv 0) (pa_cons (pv 10) pa_nil))) pa_nil)))
    (pss_cons (ps_set (i := 7) nd rfl (by first | exact Or.inl rfl | exact Or.inr rfl) (pe_ix (kix (K := K)) (pe_ix (kix (K := K)) (pv 6) (pe_ix (kix (K := K)) (pv 8) (pe_un un_neg pe_int) (fun _ _ => rfl)) (fun _ _ => rfl)) pe_int (fun _ _ => rfl)))
    (pss_one (ps_if (pt_cmpR op_eq (pv 7) (pv 4) (nomark _)) (pss_cons (ps_for PassesOwn.never rfl (kseq (K := K) (pv 8)) (pg_name (i := 11) nd rfl (by first | exact Or.inl rfl | exact Or.inr rfl))
      (pss_one (ps_augS (pv 2) (pv 11) (kget (K := K)) pe_int ip_add set_list)))
    (pss_one ps_retN)) pss_nil))))))))))), ?_⟩
  have A0 := at_startG (N := N__law_gone) (ss := [.val (.ref p), .dat (netD n as), .val (.ref q), .dat (natD s), .dat (natD g)]) (S := [p, q]) (M := [(q, .lst (intsD l)), (p, .box)]) gh (.val (.dat rn (.val (.dat r1 (.dat r2 .nil))))) (Nat.le_of_ble_eq_true rfl) (fun a o h => by
    rcases List.mem_cons.mp h with h | h
    · cases h; exact ⟨hgq, .inl (by simp), hbq⟩
    · cases List.mem_singleton.mp h; exact ⟨hgp, .inl (by simp), hbp⟩) (by simpa using Ne.symm hpq) (fun a h => by
    rcases List.mem_cons.mp h with rfl | h
    · exact hbp.imp fun _ h => h.1
    · cases List.mem_singleton.mp h; exact hbq.imp fun _ h => h.1)
  have fin : ∀ (lo : Hp) (δ : List Sl) (M : Mem) (G' H' : Hp) (σ' : L2.St) (l' : List Int), At ⟨[p, q], G, H, lo⟩ δ M G' H' σ' → (p, MO.box) ∈ M → (q, MO.lst (intsD l')) ∈ M → bump 1000 l l' → Q .non H' := fun lo δ M G' H' σ' l' A' h1 h2 hb => k G' H' l' hb A'.ev (A'.mem p _ h1).2.2 (A'.mem q _ h2).2.2
  have arcAt : ∀ (δ : List Sl) (M : Mem) (i j : Nat), δ[6]? = some (.dat (arcsD as)) → δ[j]? = some (.dat (natD i)) → i < as.length → Gv δ M (tOp (rIx K) (tVar 6) (tVar j)) (arcD (as.getD i default)) := fun δ M i j h6 hj hi => g_ix (n := i) (g_var h6) (g_var hj) rfl (arcs_get hi)
  refine s_asgq A0 (g_var (d := netD n as) rfl) (gg_tup (ggs_cons gg_name (ggs_cons gg_name ggs_nil)) rfl) fun G1 H1 σ1 A1 => ?_
  refine s_pairGq A1 (g_var (d := natD s) rfl) (gf_lst ga_nil (Nat.zero_le _)) fun pg G2 H2 σ2 h0 A2 => ?_
  refine s_for (ds := rangeD (2 * n)) (fun j δ' M' => ∃ (gs : List Nat) (u : Nat) (s9 s10 : Sl), gs.length ≤ j ∧ (∀ x ∈ gs, x < as.length) ∧ δ' = [.val (.ref p), .dat (netD n as), .val (.ref q), .dat (natD s), .dat (natD g), .dat (natD n), .dat (arcsD as), .dat (natD u), .val (.ref pg), s9, s10, .any] ∧ M' = [(pg, .lst (natsD gs)), (q, .lst (intsD l)), (p, .box)]) A2 ?_ ⟨[], s, _, _, Nat.le_refl _, (fun x h => by cases h), rfl, rfl⟩ ?_ ?_
  · refine gi_range (n := 2 * n) (ga_cons ?_ ga_nil) (by omega)
    refine Gv.cast (d := .int ((2 * n : Nat) : Int)) (g_opC (i := 2) (j := (n : Int)) g_int (g_var (d := natD n) rfl) ?_) ?_
    · exact .inl ⟨by decide, by decide⟩
    · rw [Int.natCast_mul]; rfl
  · rintro c' j dj δ' M' G4 H4 σ4 v e1 e2 e3 hd ⟨gs, u, s9, s10, hgl, hgs, rfl, rfl⟩ A4 rv
    obtain ⟨hj, rfl⟩ := rangeD_get hd
    have hc' : c' = ⟨[p, q], G, H, c'.lo⟩ := by
      cases c'
      cases e1; cases e2; cases e3
      rfl
    refine gg_name c' G4 H4 σ4 v _ A4 rv fun G5 H5 σ5 A5 _ _ _ => ?_
    have lenA : ∀ (δ : List Sl) (M : Mem), δ[6]? = some (.dat (arcsD as)) → Gv δ M (tCB (kLen K) (tCons (tVar 6) tNil)) (.int as.length) := fun δ M h => Gv.cast (g_len (ga_cons (g_var h) ga_nil) rfl) (by rw [List.length_map])
    -- the arcs from here
    obtain ⟨l1, el1, hl1⟩ := filt_nats as.length fun y => decide ((as.getD (natOf y) default).t = u) && !decide ((natOf y : Int) ∈ gs.map fun m : Nat => (m : Int))
    have ll1 := filt_range_len _ _ _ el1
    refine s_setq (d := .list (natsD l1)) A5 (Gv.cast (g_lc (ds := rangeD as.length) (fun y => decide ((as.getD (natOf y) default).t = u) && !decide ((natOf y : Int) ∈ gs.map fun m : Nat => (m : Int))) id (δ' := fun y => [.val (.ref p), .dat (netD n as), .val (.ref q), .dat (natD s), .dat (natD g), .dat (natD n), .dat (arcsD as), .dat (natD u), .val (.ref pg), .dat (.int (j : Nat)), s10, .dat y]) (gi_range (n := as.length) (ga_cons (lenA _ _ rfl) ga_nil) (by omega)) (by rw [rangeD_len]; omega) (fun x y _ => gg_name) (fun x y hy => ?_) (fun x y _ _ => g_var rfl)) (by rw [el1])) fun G6 H6 σ6 A6 => ?_
    · obtain ⟨i, hi, rfl⟩ := List.mem_map.mp hy
      have hi := List.mem_range.mp hi
      rw [show natOf (PyData.int (i : Nat)) = i from natOf_D i]
      refine gt_and (Gt.cast (gt_test (g_eqI (g_ix (n := 0) (d := natD (as.getD i default).t) (arcAt _ _ i 11 rfl rfl hi) g_int rfl rfl) (g_var (d := natD u) rfl))) ?_) fun _ => gt_b (g_notinOwn (g_var rfl) (i := 8) (p := pg) rfl (by rw [← nats_ints]; exact List.mem_cons_of_mem _ (List.mem_cons_self ..)))
      by_cases e : (as.getD i default).t = u
      · rw [decide_eq_true e, decide_eq_true (by rw [e])]
      · rw [decide_eq_false e, decide_eq_false (by omega)]
    -- those that bear more
    obtain ⟨l2, el2, hl2⟩ := filt_natsD l1 fun y => (match (as.getD (natOf y) default).c with | none => true | some c => decide (l.getD (natOf y) 0 < c))
    refine s_setq (d := .list (natsD l2)) A6 (Gv.cast (g_lc (ds := natsD l1) (fun y => (match (as.getD (natOf y) default).c with | none => true | some c => decide (l.getD (natOf y) 0 < c))) id (δ' := fun y => [.val (.ref p), .dat (netD n as), .val (.ref q), .dat (natD s), .dat (natD g), .dat (natD n), .dat (arcsD as), .dat (natD u), .val (.ref pg), .dat (.int (j : Nat)), .dat (.list (natsD l1)), .dat y]) (gi_seq (g_var (d := .list (natsD l1)) rfl) rfl) (by rw [natsD_len]; omega) (fun x y _ => gg_name) (fun x y hy => ?_) (fun x y _ _ => g_var rfl)) (by rw [el2])) fun G7 H7 σ7 A7 => ?_
    · obtain ⟨i, hi, rfl⟩ := List.mem_map.mp hy
      have hi := hl1 i hi
      rw [natOf_D]
      have cp := fun M => g_ix (K := K) (n := 2) (d := capD (as.getD i default).c) (arcAt [.val (.ref p), .dat (netD n as), .val (.ref q), .dat (natD s), .dat (natD g), .dat (natD n), .dat (arcsD as), .dat (natD u), .val (.ref pg), .dat (.int (j : Nat)), .dat (.list (natsD l1)), .dat (natD i)] M i 11 rfl rfl hi) (g_int (i := 2)) rfl rfl
      cases hc : (as.getD i default).c with
      | none =>
        refine Gt.cast (gt_or (a := true) (b := true) (Gt.cast (gt_b (g_isN (Gv.cast (cp _) (by rw [hc])))) rfl) fun z => nomatch z) rfl
      | some cc =>
        refine Gt.cast (gt_or (a := false) (Gt.cast (gt_b (g_isN (Gv.cast (cp _) (by rw [hc])))) rfl) fun _ => gt_test (g_opB (i := l.getD i 0) (g_own (i := 2) (k := 2) (p := q) (ds := intsD l) rfl rfl i (by unfold intsD; rw [List.getElem?_map, List.getElem?_eq_getElem (by omega), List.getD_eq_getElem?_getD, List.getElem?_eq_getElem (by omega)]; rfl) (g_var (d := natD i) rfl)) (Gv.cast (cp _) (by rw [hc]; rfl)))) rfl
    refine s_ifq A7 (gt_test (g_eqNil (ds := natsD l2) (g_var rfl) (fun d hd => by
      obtain ⟨i, _, rfl⟩ := List.mem_map.mp hd
      rfl))) (fun z G8 H8 A8 => ?_) fun z G8 H8 A8 => ?_
    · rw [hc'] at A8
      exact fin _ _ _ _ _ _ l A8 (List.mem_cons_of_mem _ (List.mem_cons_of_mem _ (List.mem_cons_self ..))) (List.mem_cons_of_mem _ (List.mem_cons_self ..)) (bump_mono (bump_refl l) (by decide))
    have hne : 1 ≤ l2.length := by
      cases l2 with
      | nil => cases z
      | cons _ _ => simp
    have ll2 : l2.length ≤ l1.length := hl2.length_le
    refine s_seq (s_appends (k := 0) (P := pickR (.list (natsD l2))) A8 rfl rfl (gs_b1 (R := pickR) (P := isPick) rfl (List.mem_cons_of_mem _ (List.mem_cons_of_mem _ (List.mem_cons_self ..))) (ga_cons (g_var (d := .list (natsD l2)) rfl) ga_nil) ⟨_, rfl, by rw [natsD_len]; omega, by rw [natsD_len]; omega⟩) (by rw [natsD_len]; omega) fun d G9 H9 hd9 A9 => ?_)
    obtain ⟨_, hs9, hx9⟩ := hd9
    cases hs9
    obtain ⟨t, ht, rfl⟩ := List.mem_map.mp hx9
    have htl : t < as.length := hl1 t (hl2.subset ht)
    refine s_setq (d := natD (as.getD t default).h) A9 (g_ix (n := 1) (g_ix (n := t) (d := arcD (as.getD t default)) (g_var (i := 6) (d := arcsD as) rfl) (g_ownLast (i := 8) (p := pg) (ds := natsD gs) (d := natD t) rfl (List.mem_cons_self ..) (by exact g_un (g := fun i => -i) (g_int (i := 1)))) rfl (arcs_get htl)) g_int rfl rfl) fun Ga Ha σa Aa => ?_
    have Aa' : At c' [.val (.ref p), .dat (netD n as), .val (.ref q), .dat (natD s), .dat (natD g), .dat (natD n), .dat (arcsD as), .dat (natD (as.getD t default).h), .val (.ref pg), .dat (.int (j : Nat)), .dat (.list (natsD l2)), .any] [(pg, .lst (natsD (gs ++ [t]))), (q, .lst (intsD l)), (p, .box)] Ga Ha σa := by
      unfold natsD
      rw [List.map_append]
      exact Aa
    have hgs' : ∀ x ∈ gs ++ [t], x < as.length := fun x hx => by
      rcases List.mem_append.mp hx with hx | hx
      · exact hgs x hx
      · rw [List.mem_singleton.mp hx]; exact htl
    have hgl' : (gs ++ [t]).length ≤ j + 1 := by rw [List.length_append, List.length_singleton]; omega
    refine s_if Aa' (gt_test (g_eqI (g_var (d := natD (as.getD t default).h) rfl) (g_var (d := natD g) rfl))) (fun _ Gb Hb Ab => ?_) fun _ Gb Hb Ab => ?_
    · rw [hc'] at Ab
      refine s_seq (s_forOwn (p := pg) (ds := natsD (gs ++ [t])) (fun i δ' M' => ∃ (l' : List Int) (s11 : Sl), bump i l l' ∧ δ' = [.val (.ref p), .dat (netD n as), .val (.ref q), .dat (natD s), .dat (natD g), .dat (natD n), .dat (arcsD as), .dat (natD (as.getD t default).h), .val (.ref pg), .dat (.int (j : Nat)), .dat (.list (natsD l2)), s11] ∧ M' = [(pg, .lst (natsD (gs ++ [t]))), (q, .lst (intsD l')), (p, .box)]) Ab rfl (List.mem_cons_self ..) ⟨l, _, bump_refl l, rfl, rfl⟩ (fun i δ' M' h => ?_) (fun i d δ' M' G' H' σ' v hd hI A' rv => ?_) fun δ' M' G' H' σ' hI A' => ?_)
      · obtain ⟨_, _, _, _, rfl⟩ := h
        exact List.mem_cons_self ..
      · obtain ⟨l', s11, hb', rfl, rfl⟩ := hI
        obtain ⟨x, hx, rfl⟩ : ∃ x, (gs ++ [t])[i]? = some x ∧ natD x = d := by
          unfold natsD at hd
          rw [List.getElem?_map] at hd
          exact Option.map_eq_some_iff.mp hd
        have hxl : x < as.length := hgs' x (List.mem_of_getElem? hx)
        refine gg_name _ G' H' σ' v _ A' rv fun Gc Hc σc Ac _ _ _ => ?_
        refine s_augItem (f := (· + ·)) (k := 1) (n := x) (x := l'.getD x 0) (y := 1) Ac rfl rfl (g_var (d := natD x) rfl) (by unfold intsD; rw [List.getElem?_map, List.getElem?_eq_getElem (by rw [hb'.1]; omega), List.getD_eq_getElem?_getD, List.getElem?_eq_getElem (by rw [hb'.1]; omega)]; rfl) g_int fun Gd Hd Ad => ?_
        rw [intsD_setL] at Ad
        exact ⟨_, _, Gd, ⟨l'.set x (l'.getD x 0 + 1), _, by have := bump_set (v := x) hb' (by omega); exact this, rfl, rfl⟩, Ad⟩
      · obtain ⟨l', s11, hb', rfl, rfl⟩ := hI
        exact fin _ _ _ _ _ _ l' A' (List.mem_cons_of_mem _ (List.mem_cons_of_mem _ (List.mem_cons_self ..))) (List.mem_cons_of_mem _ (List.mem_cons_self ..)) (bump_mono hb' (by rw [natsD_len]; omega))
    · exact ⟨_, _, Gb, ⟨gs ++ [t], _, _, _, hgl', hgs', rfl, rfl⟩, Ab⟩
  · rintro δ' M' G4 H4 σ4 ⟨gs, u, s9, s10, hgl, hgs, rfl, rfl⟩ A4
    exact fin _ _ _ _ _ _ l A4 (List.mem_cons_of_mem _ (List.mem_cons_of_mem _ (List.mem_cons_self ..))) (List.mem_cons_of_mem _ (List.mem_cons_self ..)) (bump_mono (bump_refl l) (by decide))
end
end Od
set_option Elab.async false
set_option linter.all false
set_option autoImplicit false
set_option maxRecDepth 100000
set_option maxHeartbeats 4000000
/-! W22: a value drawn. -/
namespace Od
open PySem PySem.Spec L2
section
variable {c : Ct} {δ δ' : List Sl} {M : Mem} {K : PySem.W.Frag} {ta tb te : TE} {d da : PyData} {ds : List PyData} {P : PyData → Prop} {G H : Hp} {σ : L2.St} {D : Ends} {w : TS} {i k : Nat} {p : Addr} {tt : TT}
/-- xs[n] = e, e drawn -/
theorem s_setItems {n : Nat} (A : At c δ M G H σ) (hi : δ[i]? = some (.val (.ref p))) (hk : M[k]? = some (p, .lst ds)) (g : Gs δ M te P) (hb : Gv δ M tb (.int (n : Nat))) (hn : n < ds.length)
    (kk : ∀ d G' H', P d → At c δ (M.set k (p, .lst (ds.set n d))) G' H' σ → D.nx σ H') : tAsg te (gSub (tVar i) tb rSetL) D σ H :=
  g c G H σ _ A fun d G1 H1 v hd A1 _ r1 => ⟨_, A1.sl i _ hi, hb c G1 H1 σ _ A1 fun G2 H2 w A2 s2 r2 => by
    obtain ⟨_, _, u1, hu1, ys, rfl, ra, z⟩ := A2.mem p _ (List.mem_of_getElem? hk)
    refine ⟨p, ys, n, n, rfl, r2.intV, hu1, ?_, ?_⟩
    · unfold ixN
      rw [if_pos (by omega), if_pos (by rw [ra.length]; omega), Int.toNat_natCast]
    · exact kk d _ _ hd (A2.write hk ⟨_, rfl, ra.set (r1.up s2) n, by rw [List.length_set]; exact z⟩)⟩
theorem s_retTupOwn (A : At c δ M G H σ) (ht : Gta δ M tt) (hi : δ[i]? = some (.val (.ref p))) (hk : M[k]? = some (p, .lst ds)) (h0 : c.H0 p = none)
    (k1 : ∀ G' H' v, At c δ M G' H' σ → Rep G' v (.tuple ds) → D.rt v H') (k2 : ∀ G' H' v, At c δ (M.eraseIdx k) G' H' σ → Rep G' v (.list ds) → D.rt v H') : tRet (tIf tt (tCB (kTupOf K) (tCons (tVar i) tNil)) (tVar i)) D σ H :=
  ht c G H σ _ A fun b G1 H1 A1 s1 => by
    cases b with
    | true => exact iteT (g_tupOwn hi hk c G1 H1 σ _ A1 fun G2 H2 v A2 _ r => k1 G2 H2 v A2 r)
    | false =>
      refine iteF ?_
      obtain ⟨xs, hx, B, sB, rB⟩ := A1.freeze hk h0
      exact ⟨_, A1.sl i _ hi, k2 _ _ _ B rB⟩
/-- a way gone -/
theorem g_gone {iq k : Nat} {ip : Nat} {q : Addr} {tn t1 t2 : TE} {n : Nat} {as : List Arc} {g : Nat} {l : List Int} {E : XK} {Q : VK} (A : At c δ M G H σ) (hp : δ[ip]? = some (.val (.ref p))) (hq : δ[iq]? = some (.val (.ref q))) (hm : (p, MO.box) ∈ M) (hk : M[k]? = some (q, .lst (intsD l)))
    (gn : Gv δ M tn (netD n as)) (g1 : Gs δ M t1 fun d => ∃ s, d = natD s) (g2 : Gv δ M t2 (natD g)) (hl : l.length = as.length) (hn : n ≤ 20) (ha : as.length ≤ 50)
    (kk : ∀ l' G' H', bump 1000 l l' → At c δ (M.set k (q, .lst (intsD l'))) G' H' σ → Q .non H') : tCall spGone [] E (tCons (tVar ip) (tCons tn (tCons (tVar iq) (tCons t1 (tCons t2 tNil))))) σ H Q :=
  ⟨_, A.sl ip _ hp, gn c G H σ _ A fun G1 H1 vn A1 s1 rn => ⟨_, A1.sl iq _ hq, g1 c G1 H1 σ _ A1 fun d1 G2 H2 v1 hd A2 s2 r1 => g2 c G2 H2 σ _ A2 fun G3 H3 v2 A3 s3 r2 => by
    obtain ⟨s, rfl⟩ := hd
    have hq' := List.mem_of_getElem? hk
    have hkl : k < M.length := (List.getElem?_eq_some_iff.mp hk).1
    obtain ⟨hgp, _, hbp⟩ := A3.mem p _ hm
    obtain ⟨hgq, _, hbq⟩ := A3.mem q _ hq'
    have hpq : p ≠ q := fun e => by
      subst e
      cases mem_val A3.nd hm hq'
    show spGone [.ref p, vn, .ref q, v1, v2] H3 Q E
    refine ⟨G3, p, q, vn, v1, v2, n, as, s, g, l, rfl, A3.gh, (rn.up s2).up s3, r1.up s3, r2, hpq, hgp, hbp, hgq, hbq, hl, hn, ha, fun G' H' l' hb ev hbp' hbq' => ?_⟩
    refine kk l' G' H' hb (A3.extM ev (fun b hb => ?_) ?_ fun a o ha' => ?_)
    · rcases List.mem_cons.mp hb with rfl | hb
      · exact ⟨_, hm, rfl⟩
      · rw [List.mem_singleton.mp hb]
        exact ⟨_, hq', rfl⟩
    · exact map_fst_set (by rw [List.getElem?_map, hk]; rfl)
    · by_cases e1 : a = q
      · subst e1
        refine .inr ⟨by simp, ?_⟩
        have nd' : ((M.set k (a, MO.lst (intsD l'))).map (·.1)).Nodup := by rw [map_fst_set (by rw [List.getElem?_map, hk]; rfl)]; exact A3.nd
        have := mem_val nd' ha' (List.mem_of_getElem? (i := k) (List.getElem?_set_self hkl))
        rw [this]
        exact hbq'
      · have hm' : (a, o) ∈ M := by
          rcases List.mem_or_eq_of_mem_set ha' with h | h
          · exact h
          · cases h; exact absurd rfl e1
        by_cases e2 : a = p
        · subst e2
          have := mem_val A3.nd hm' hm
          rw [this]
          exact .inr ⟨by simp, hbp'⟩
        · exact .inl ⟨by simp [e1, e2], hm'⟩⟩⟩
end
theorem bump_add {a b : Int} {l l' l'' : List Int} (h : bump a l l') (h2 : bump b l' l'') : bump (a + b) l l'' := ⟨h2.1.trans h.1, fun i => by
  have := h.2 i
  have := h2.2 i
  omega⟩
def smallX (x : PyData) : Prop := x = .none ∨ (∃ b, x = .bool b) ∨ ∃ i : Int, x = .int i ∧ -10000 ≤ i ∧ i ≤ 10000
def valOk (d : PyData) : Prop := d = .none ∨ d = .int 5 ∨ d = .str (Str.ofString "0") ∨ ∃ xs, (d = .list xs ∨ d = .tuple xs) ∧ xs.length ≤ 100 ∧ ∀ x ∈ xs, smallX x
def isValQ (a b c : PyData) : Prop := ∃ (n : Nat) (as : List Arc) (s : Nat) (es : List Nat), a = netD n as ∧ b = natD s ∧ c = .list (natsD es) ∧ n ≤ 20 ∧ as.length ≤ 50 ∧ es.length ≤ 50
def valR (_ _ _ d : PyData) : Prop := valOk d
theorem zeros_bump {m : Nat} {b : Int} {l : List Int} (h : bump b (List.replicate m 0) l) (hb : 0 ≤ b) (hb2 : b ≤ 9000) : l.length = m ∧ ∀ x ∈ l, -9000 ≤ x ∧ x ≤ 9000 := by
  refine ⟨by rw [h.1, List.length_replicate], fun x hx => ?_⟩
  obtain ⟨i, hi⟩ := List.getElem?_of_mem hx
  have := h.2 i
  have z : (List.replicate m (0 : Int)).getD i 0 = 0 := by
    rw [List.getD_eq_getElem?_getD]
    by_cases hm : i < m
    · rw [List.getElem?_replicate, if_pos hm]; rfl
    · rw [List.getElem?_replicate, if_neg hm]; rfl
  rw [z, List.getD_eq_getElem?_getD, hi] at this
  simp only [Option.getD_some] at this
  omega
theorem small_ints {l : List Int} (h : ∀ x ∈ l, -9000 ≤ x ∧ x ≤ 9000) : ∀ x ∈ intsD l, smallX x := fun x hx => by
  obtain ⟨i, hi, rfl⟩ := List.mem_map.mp hx
  have := h i hi
  exact .inr (.inr ⟨i, rfl, by omega, by omega⟩)
theorem zeros_map : ∀ as : List Arc, as.map ((fun _ : PyData => PyData.int 0) ∘ arcD) = intsD (List.replicate as.length 0)
  | [] => rfl
  | _ :: as => congrArg (PyData.int 0 :: ·) (zeros_map as)
theorem small_sub {l : List PyData} (h : ∀ x ∈ l, smallX x) (n : Nat) : (∀ x ∈ l.take n, smallX x) ∧ ∀ x ∈ l.drop n, smallX x := ⟨fun x hx => h x (List.mem_of_mem_take hx), fun x hx => h x (List.mem_of_mem_drop hx)⟩
theorem small_set {l : List PyData} (h : ∀ x ∈ l, smallX x) (n : Nat) {y : PyData} (hy : smallX y) : ∀ x ∈ l.set n y, smallX x := fun x hx => by
  rcases List.mem_or_eq_of_mem_set hx with hx | rfl
  · exact h x hx
  · exact hy
section
variable {P : Program} {w : World} {K : PySem.W.Frag} {mg : Str → Option Value} {base : Heap} {C fI O : Addr}
abbrev s__law_value : Stmt := topS 52
abbrev N__law_value : List Str := ["_law_box_here", "_law_net_here", "_law_start_here", "_law_ends_here", "_law_load", "_law_arc", "_law_turn", "_law_goal", "_law_at", "_law_way", "_law_bad"]
theorem sc__law_value : FnScope N__law_value ["_law_box_here", "_law_net_here", "_law_start_here", "_law_ends_here"] (defScope s__law_value) := ⟨rfl, rfl, rfl, by decide +kernel, rfl, by decide +kernel, by decide +kernel⟩
abbrev HLawValue (P : Program) (w : World) (K : PySem.W.Frag) (mg : Str → Option Value) (base : Heap) : Prop := Has P w K mg base "_law_value" CX0 4 ["_law_box_here", "_law_net_here", "_law_start_here", "_law_ends_here"] (sB3 isValQ valR)
theorem h__law_value (B : Bl mg) (T : TopF K mg "_law_value" s__law_value) (h__law_take : HTake P w K mg base) (h__law_pick : HPick P w K mg base) (h__law_gone : HLawGone P w K mg base) : HLawValue P w K mg base := by
  obtain ⟨f, fd, hm, F⟩ := T
  refine ⟨f, fd, hm, F.kp, F.binds (ps := ["_law_box_here", "_law_net_here", "_law_start_here", "_law_ends_here"]) fun _ _ _ _ _ _ us hl => match us, hl with | [_, _, _, _], _ => rfl, F.ok sc__law_value (fun vs H Q E h => lenB3 h) (fun cdv A outer s H vs Q E hr h => ?_)⟩
  have nd := sc__law_value.nd
  have hu := hu_of hr
  obtain ⟨G, p, us, ds, rfl, gh, ra, ⟨_, _, _, rfl, ⟨n, as, s, es, rfl, rfl, rfl, hn, hal, hel⟩⟩, hg, hb, k⟩ := h
  refine ⟨_, (pss_cons (ps_setLcQ (i := 4) (own := [("_law_arc", 5)]) rfl nd (kseq (K := K) (pe_ix (kix (K := K)) (pv 1) pe_int (fun _ _ => rfl))) (blkOk_by (N := N__law_value) (sc := defScope s__law_value) (by decide +kernel)) (fun _ _ _ _ _ => (pg_name (i := 5) nd rfl (by first | exact Or.inl rfl | exact Or.inr rfl))) (fun _ _ _ _ _ => pts_nil) (fun _ _ _ _ _ => pe_int))
    (pss_cons (ps_for PassesOwn.never rfl (pi_range1 (by rfl) B.range (pa_cons (pe_callH h__law_take (hr.mono (by decide)) (pa_cons (pv 0) (pa_cons pe_int pa_nil))) pa_nil)) (pg_name (i := 6) nd rfl (by first | exact Or.inl rfl | exact Or.inr rfl))
      (pss_cons (ps_set (i := 7) nd rfl (by first | exact Or.inl rfl | exact Or.inr rfl) (pe_callH h__law_pick (hr.mono (by decide)) (pa_cons (pv 0) (pa_cons (pe_op op_cat (pv 3) (pe_lst (pa_cons (pv 2) pa_nil))) pa_nil))))
    (pss_one (ps_expr (pe_callH h__law_gone (hr.mono (by decide)) (pa_cons (pv 0) (pa_cons (pv 1) (pa_cons (pv 4) (pa_cons (pe_ifExp (pt_cmpR op_gt (pe_callH h__law_take (hr.mono (by decide)) (pa_cons (pv 0) (pa_cons pe_int pa_nil))) pe_int (nomark _)) (pv 2) (pv 7)) (pa_cons (pv 7) pa_nil))))))))))
    (pss_cons (ps_par (i := 8) (j := 9) (by rfl) nd rfl rfl (by decide) rfl rfl (pa_cons (pe_callH h__law_take (hr.mono (by decide)) (pa_cons (pv 0) (pa_cons (pe_op op_add (pe_callB (klen (K := K)) (by rfl) B.len (by decide +kernel) (pa_cons (pv 4) pa_nil)) pe_int) pa_nil))) (pa_cons (pe_callH h__law_take (hr.mono (by decide)) (pa_cons (pv 0) (pa_cons pe_int pa_nil))) pa_nil)) (by rfl))
    (pss_cons (ps_if (pt_cmpR op_eq (pv 9) pe_int (nomark _)) (pss_cons (ps_set (i := 10) nd rfl (by first | exact Or.inl rfl | exact Or.inr rfl) (pe_lst (pa_cons pe_non (pa_cons pe_int (pa_cons pe_str (pa_cons (pe_op op_cat (pe_slice (ksl (K := K)) (pv 4) (po_some pe_int) po_none) (pe_lst (pa_cons pe_int (pa_cons pe_int pa_nil)))) (pa_cons (pe_op op_cat (pe_op op_cat (pe_slice (ksl (K := K)) (pv 4) po_none (po_some (pv 8))) (pe_lst (pa_cons pe_non pa_nil))) (pe_slice (ksl (K := K)) (pv 4) (po_some (pe_op op_add (pv 8) pe_int)) po_none)) (pa_cons (pe_op op_rep (pe_lst (pa_cons pe_bl pa_nil)) (pe_op op_add (pe_callB (klen (K := K)) (by rfl) B.len (by decide +kernel) (pa_cons (pv 4) pa_nil)) pe_int)) pa_nil))))))))
    (pss_one (ps_ret (pe_callH h__law_pick (hr.mono (by decide)) (pa_cons (pv 0) (pa_cons (pv 10) pa_nil)))))) pss_nil)
    (pss_cons (ps_if (PW.pt (pw_and (pt_cmpR op_lt (pv 9) pe_int (nomark _)) (pw_and1 (pt_cmpR op_lt (pv 8) (pe_callB (klen (K := K)) (by rfl) B.len (by decide +kernel) (pa_cons (pv 4) pa_nil)) (nomark _))))) (pss_one (ps_asg (pe_op op_add (pe_ix (kix (K := K)) (pv 4) (pv 8) (fun _ _ => rfl)) (pe_callH h__law_pick (hr.mono (by decide)) (pa_cons (pv 0) (pa_cons (pe_lst (pa_cons pe_int (pa_cons (pe_op op_sub pe_int pe_int) (pa_cons pe_int pa_nil)))) pa_nil)))) (pg_sub (pv 4) (pv 8) set_list))) pss_nil)
    (pss_one (ps_ret (pe_ifExp (pt_cmpR op_eq (pe_callH h__law_take (hr.mono (by decide)) (pa_cons (pv 0) (pa_cons pe_int pa_nil))) pe_int (nomark _)) (pe_callTy (ktup (K := K)) (by rfl) B.tuple (by decide +kernel) (pa_cons (pv 4) pa_nil)) (pv 4))))))))), ?_⟩
  have A0 := at_startB (N := N__law_value) gh ra (Nat.le_of_ble_eq_true rfl) hg hb
  have bm : ∀ (x : Addr × MO), (p, MO.box) ∈ [x, (p, .box)] := fun x => List.mem_cons_of_mem _ (List.mem_cons_self ..)
  refine s_setFq A0 (Gf.cast (es := intsD (List.replicate as.length 0)) (gf_lc (ds := as.map arcD) (fun _ => true) (fun _ => .int 0) (δ' := fun y => [.val (.ref p), .dat (netD n as), .dat (natD s), .dat (.list (natsD es)), .any, .dat y, .any, .any, .any, .any, .any]) (gi_seq (g_ix (n := 1) (d := arcsD as) (g_var (d := netD n as) rfl) g_int rfl rfl) rfl) (by rw [List.length_map]; omega) (fun x y _ => gg_name) (fun x y _ => gt_yes) (fun x y _ _ => g_int)) ?_) fun q G1 H1 σ1 h0 A1 => ?_
  · rw [List.filter_eq_self.mpr (fun _ _ => rfl), List.map_map]
    exact zeros_map as
  refine s_forRq A1 (gs_b1 (R := takeR) (P := isTake) rfl (bm _) (ga_cons g_int ga_nil) ⟨6, rfl, by decide, by decide⟩) (fun d hd => takeR_nat hd) fun m G3 H3 hm A3 => ?_
  have hmb : m ≤ 5 := by
    obtain ⟨j, ej, hj⟩ := hm
    rw [show natOf (PyData.int 6) = 6 from rfl] at hj
    have : (m : Int) = (j : Int) := PyData.int.inj ej
    omega
  refine s_forq (ds := rangeD m) (fun j δ' M' => ∃ (l : List Int) (s6 s7 : Sl), bump (1000 * (j : Nat)) (List.replicate as.length 0) l ∧ δ' = [.val (.ref p), .dat (netD n as), .dat (natD s), .dat (.list (natsD es)), .val (.ref q), .any, s6, s7, .any, .any, .any] ∧ M' = [(q, .lst (intsD l)), (p, .box)]) A3 (gi_range (n := m) (ga_cons g_int ga_nil) (by omega)) ⟨_, _, _, bump_mono (bump_refl _) (by omega), rfl, rfl⟩ ?_ ?_
  · rintro c' j dj δ' M' G4 H4 σ4 v e1 e2 e3 hd ⟨l, s6, s7, hb1, rfl, rfl⟩ A4 rv
    obtain ⟨hj, rfl⟩ := rangeD_get hd
    refine gg_name c' G4 H4 σ4 v _ A4 rv fun G5 H5 σ5 A5 _ _ _ => ?_
    refine s_setsq (P := fun d => ∃ x, d = natD x) A5 ((gs_b1 (R := pickR) (P := isPick) rfl (bm _) (ga_cons (Gf.v (gf_cat (ds := natsD es) (es := [natD s]) (g_var rfl) (g_lst (ga_cons (g_var rfl) ga_nil) (by show 1 ≤ 100000; decide)) (by rw [natsD_len]; show es.length + 1 ≤ 100000; omega))) ga_nil) ⟨_, rfl, by rw [List.length_append]; show 1 ≤ _ + 1; omega, by rw [List.length_append, natsD_len]; show es.length + 1 ≤ _; omega⟩).imp ?_) fun d G6 H6 σ6 hd6 A6 => ?_
    · rintro d ⟨xs, hs, hx⟩
      cases hs
      rcases List.mem_append.mp hx with hx | hx
      · obtain ⟨x, _, rfl⟩ := List.mem_map.mp hx
        exact ⟨x, rfl⟩
      · rw [List.mem_singleton.mp hx]
        exact ⟨s, rfl⟩
    obtain ⟨g, rfl⟩ := hd6
    have hll : l.length = as.length := by rw [hb1.1, List.length_replicate]
    refine g_gone (k := 0) (p := p) (q := q) (l := l) A6 rfl rfl (bm _) rfl (g_var (d := netD n as) rfl) (gs_if (gta_cmp (gs_b1 (R := takeR) (P := isTake) rfl (bm _) (ga_cons g_int ga_nil) ⟨4, rfl, by decide, by decide⟩) (fun d hd => takeR_int hd) g_int) (Gv.s (g_var (d := natD s) rfl) ⟨s, rfl⟩) (Gv.s (g_var (d := natD g) rfl) ⟨g, rfl⟩)) (g_var (d := natD g) rfl) hll hn hal fun l' G7 H7 hb2 A7 => ?_
    exact ⟨_, _, G7, ⟨l', _, _, by have := bump_add hb1 hb2; rw [show (1000 * ((j : Nat) : Int) + 1000) = 1000 * ((j + 1 : Nat) : Int) by omega] at this; exact this, rfl, rfl⟩, A7⟩
  · rintro δ' M' G4 H4 σ4 ⟨l, s6, s7, hb1, rfl, rfl⟩ A4
    obtain ⟨hll, hsm⟩ := zeros_bump hb1 (by omega) (by rw [rangeD_len]; omega)
    have ln : ∀ (δ : List Sl) (M : Mem), δ[4]? = some (.val (.ref q)) → M[0]? = some (q, .lst (intsD l)) → Gv δ M (tCB (kLen K) (tCons (tVar 4) tNil)) (.int as.length) := fun δ M h1 h2 => Gv.cast (g_lenOwn (k := 0) h1 h2) (by rw [intsD_len, hll])
    have fin : ∀ (lo : Hp) (δ : List Sl) (M : Mem) (G' H' : Hp) (σ' : L2.St) (v : V) (d : PyData), At ⟨[p], G, H, lo⟩ δ M G' H' σ' → (p, MO.box) ∈ M → valOk d → Rep G' v d → Q v H' := fun lo δ M G' H' σ' v d A' hm hd rv => k G' H' v d hd A'.ev (A'.box hm) rv
    refine s_parsq (P := takeR (natD (as.length + 1))) (Q := takeR (natD 7)) A4 (gs_b1 rfl (bm _) (ga_cons (Gv.cast (g_op0 (ln _ _ rfl rfl) g_int) (natD_succ _)) ga_nil) ⟨as.length + 1, rfl, by omega, by omega⟩) (gs_b1 rfl (bm _) (ga_cons g_int ga_nil) ⟨7, rfl, by decide, by decide⟩) fun d1 d2 G5 H5 σ5 hd1 hd2 A5 => ?_
    obtain ⟨at1, rfl, hat⟩ := hd1
    obtain ⟨wy, rfl, hwy⟩ := hd2
    rw [natOf_D] at hat hwy
    have sml := small_ints hsm
    have il : (intsD l).length = as.length := by rw [intsD_len, hll]
    refine s_ifq A5 (gt_test (g_eqI (g_var (d := natD wy) rfl) g_int)) (fun z G6 H6 A6 => ?_) fun z G6 H6 A6 => ?_
    · let bad : List PyData := [.none, .int 5, .str (Str.ofString "0"), .list ((intsD l).drop 1 ++ [.int 0, .int 0]), .list (((intsD l).take at1 ++ [.none]) ++ (intsD l).drop (at1 + 1)), .list (List.replicate (as.length + 1) [PyData.bool true]).flatten]
      refine s_setq (d := .list bad) A6 ?_ fun G7 H7 σ7 A7 => ?_
      · refine g_lst (ga_cons g_non (ga_cons g_int (ga_cons g_str (ga_cons ?_ (ga_cons ?_ (ga_cons ?_ ga_nil)))))) (by show 6 ≤ 100000; decide)
        · refine Gf.v (gf_cat (Gf.v (gf_slFromOwn (n := 1) (p := q) rfl (List.mem_cons_self ..) g_int)) (g_lst (ga_cons g_int (ga_cons g_int ga_nil)) (by show 2 ≤ 100000; decide)) ?_)
          rw [List.length_drop]
          show _ + 2 ≤ _
          omega
        · refine Gf.v (gf_cat (Gf.v (gf_cat (Gf.v (gf_slToOwn (n := at1) (p := q) rfl (List.mem_cons_self ..) (g_var (d := natD at1) rfl))) (g_lst (ga_cons g_non ga_nil) (by show 1 ≤ 100000; decide)) ?_)) (Gf.v (gf_slFromOwn (n := at1 + 1) (p := q) rfl (List.mem_cons_self ..) (Gv.cast (g_op0 (g_var (d := natD at1) rfl) g_int) (natD_succ _)))) ?_)
          · rw [List.length_take]
            show _ + 1 ≤ _
            omega
          · rw [List.length_append, List.length_take, List.length_drop]
            show _ + 1 + _ ≤ _
            omega
        · refine Gf.v (gf_rep (n := as.length + 1) (g_lst (ga_cons g_bl ga_nil) (by show 1 ≤ 100000; decide)) (Gv.cast (g_op0 (ln _ _ rfl rfl) g_int) (natD_succ _)) ?_ (by omega))
          show 1 * _ ≤ _
          omega
      · refine s_rets A7 ((gs_b1 (R := pickR) (P := isPick) rfl (bm _) (ga_cons (g_var (d := .list bad) rfl) ga_nil) ⟨bad, rfl, by show 1 ≤ 6; decide, by show 6 ≤ 1000; decide⟩).imp (P' := valOk) ?_) fun d G8 H8 v hd A8 rv => fin _ _ _ _ _ _ _ _ A8 (bm _) hd rv
        rintro d ⟨xs, hs, hx⟩
        cases hs
        rcases List.mem_cons.mp hx with rfl | hx
        · exact .inl rfl
        rcases List.mem_cons.mp hx with rfl | hx
        · exact .inr (.inl rfl)
        rcases List.mem_cons.mp hx with rfl | hx
        · exact .inr (.inr (.inl rfl))
        rcases List.mem_cons.mp hx with rfl | hx
        · refine .inr (.inr (.inr ⟨_, .inl rfl, by rw [List.length_append, List.length_drop]; show _ + 2 ≤ _; omega, fun x hx => ?_⟩))
          rcases List.mem_append.mp hx with hx | hx
          · exact (small_sub sml 1).2 x hx
          · have : x = .int 0 := by simpa using hx
            exact .inr (.inr ⟨0, this, by decide, by decide⟩)
        rcases List.mem_cons.mp hx with rfl | hx
        · refine .inr (.inr (.inr ⟨_, .inl rfl, by rw [List.length_append, List.length_append, List.length_take, List.length_drop]; show _ + 1 + _ ≤ _; omega, fun x hx => ?_⟩))
          rcases List.mem_append.mp hx with hx | hx
          · rcases List.mem_append.mp hx with hx | hx
            · exact (small_sub sml at1).1 x hx
            · exact .inl (List.mem_singleton.mp hx)
          · exact (small_sub sml (at1 + 1)).2 x hx
        rcases List.mem_cons.mp hx with rfl | hx
        · refine .inr (.inr (.inr ⟨_, .inl rfl, ?_, fun x hx => ?_⟩))
          · rw [List.length_flatten, List.map_replicate, List.sum_replicate_nat]
            show _ * 1 ≤ _
            omega
          · obtain ⟨ys, hy, hx⟩ := List.mem_flatten.mp hx
            rw [(List.mem_replicate.mp hy).2] at hx
            exact .inr (.inl ⟨true, List.mem_singleton.mp hx⟩)
        · cases hx
    · have last : ∀ (lo : Hp) (ys : List PyData) (G' H' : Hp) (σ' : L2.St), ys.length = as.length → (∀ x ∈ ys, smallX x) → At ⟨[p], G, H, lo⟩ [.val (.ref p), .dat (netD n as), .dat (natD s), .dat (.list (natsD es)), .val (.ref q), .any, s6, s7, .dat (natD at1), .dat (natD wy), .any] [(q, .lst ys), (p, .box)] G' H' σ' → ∀ (D : Ends), D.rt = Q →
          tRet (tIf (tTest (tOp rEq (tCall (sB1 isTake takeR) [] E0 (tCons (tVar 0) (tCons (tC (.int 2)) tNil))) (tC (.int 0)))) (tCB (kTupOf K) (tCons (tVar 4) tNil)) (tVar 4)) D σ' H' := fun lo ys G' H' σ' yl ysm A' D hD => by
        refine s_retTupOwn (k := 0) (p := q) A' (gta_eq (gs_b1 (R := takeR) (P := isTake) rfl (bm _) (ga_cons g_int ga_nil) ⟨2, rfl, by decide, by decide⟩) (fun d hd => takeR_int hd) g_int) rfl rfl h0 (fun G8 H8 v A8 rv => ?_) fun G8 H8 v A8 rv => ?_
        · rw [hD]
          exact fin _ _ _ _ _ _ _ _ A8 (bm _) (.inr (.inr (.inr ⟨ys, .inr rfl, by omega, ysm⟩))) rv
        · rw [hD]
          exact fin _ _ _ _ _ _ _ _ A8 (List.mem_cons_self ..) (.inr (.inr (.inr ⟨ys, .inl rfl, by omega, ysm⟩))) rv
      refine s_ifq (b := decide ((wy : Int) < 3) && decide ((at1 : Int) < as.length)) A6 (gt_and (gt_test (g_opB (g_var (d := natD wy) rfl) g_int)) fun _ => gt_test (g_opB (g_var (d := natD at1) rfl) (ln _ _ rfl rfl))) (fun z2 G7 H7 A7 => ?_) fun z2 G7 H7 A7 => ?_
      · have hlt : at1 < as.length := by
          rw [Bool.and_eq_true] at z2
          have := of_decide_eq_true z2.2
          omega
        have hget : (intsD l)[at1]? = some (.int (l.getD at1 0)) := by
          unfold intsD
          rw [List.getElem?_map, List.getD_eq_getElem?_getD, List.getElem?_eq_getElem (by omega)]
          rfl
        have hv := hsm _ (show l.getD at1 0 ∈ l by rw [List.getD_eq_getElem?_getD, List.getElem?_eq_getElem (by omega)]; exact List.getElem_mem _)
        refine s_setItems (k := 0) (p := q) (n := at1) (P := smallX) A7 rfl rfl (gs_op0 (f := (· + ·)) (x := l.getD at1 0) (g_own (k := 0) (p := q) rfl rfl at1 hget (g_var (d := natD at1) rfl)) (gs_b1 (R := pickR) (P := isPick) rfl (bm _) (ga_cons (g_lst (ga_cons g_int (ga_cons (g_op0 (g := (· - ·)) g_int g_int) (ga_cons g_int ga_nil))) (by show 3 ≤ 100000; decide)) ga_nil) ⟨_, rfl, by decide, by decide⟩) ?_) (g_var (d := natD at1) rfl) (by omega) fun d G8 H8 hd A8 => ?_
        · rintro d ⟨xs, hs, hx⟩
          cases hs
          have h2 : d = .int 1 ∨ d = .int (-1) := by
            rcases List.mem_cons.mp hx with rfl | hx
            · exact .inl rfl
            rcases List.mem_cons.mp hx with rfl | hx
            · exact .inr rfl
            rcases List.mem_cons.mp hx with rfl | hx
            · exact .inl rfl
            · cases hx
          rcases h2 with rfl | rfl
          · exact ⟨1, rfl, .inr (.inr ⟨_, rfl, by omega, by omega⟩)⟩
          · exact ⟨-1, rfl, .inr (.inr ⟨_, rfl, by omega, by omega⟩)⟩
        · exact last _ _ G8 H8 σ5 (by rw [List.length_set, il]) (small_set sml at1 hd) A8 _ rfl
      · exact last _ _ G7 H7 σ5 il sml A7 _ rfl
end
end Od
set_option Elab.async false
set_option linter.all false
set_option autoImplicit false
set_option maxRecDepth 100000
set_option maxHeartbeats 4000000
/-! W23: the box made. -/
namespace Od
open PySem PySem.Spec L2
section
variable {c : Ct} {δ δ' : List Sl} {M : Mem} {K : PySem.W.Frag} {ta tb te : TE} {d da : PyData} {ds : List PyData} {P : PyData → Prop} {G H : Hp} {σ : L2.St} {D : Ends} {w u u2 : TS} {i k : Nat} {p : Addr} {tt : TT}
/-- two ways meet -/
theorem s_joinq {b : Bool} (J : Hp → Hp → L2.St → Prop) (A : At c δ M G H σ) (g : Gt δ M tt b) (rest : ∀ G' H' σ', J G' H' σ' → w D σ' H')
    (k1 : b = true → ∀ (N : L2.St → Hp → Prop) G' H', (∀ G' H' σ', J G' H' σ' → N σ' H') → At c δ M G' H' σ → u { D with nx := N } σ H')
    (k2 : b = false → ∀ (N : L2.St → Hp → Prop) G' H', (∀ G' H' σ', J G' H' σ' → N σ' H') → At c δ M G' H' σ → u2 { D with nx := N } σ H') : tSeq (tIfS tt u u2) w D σ H :=
  g c G H σ _ A fun G1 H1 A1 _ => by
    cases b with
    | true => exact iteT (k1 rfl (w D) G1 H1 rest A1)
    | false => exact iteF (k2 rfl (w D) G1 H1 rest A1)
/-- an expression gives a value, and leaves all as it is -/
def Now (σ : L2.St) (H : Hp) (t : TE) (x : V) : Prop := ∀ Q : VK, Q x H → t σ H Q
theorem now_var {x : V} (h : σ[i]? = some (some x)) : Now σ H (tVar i) x := fun Q q => ⟨x, h, q⟩
theorem now_c {x : V} : Now σ H (tC x) x := fun Q q => q
theorem now_op0 {g : Int → Int → V} {x y : Int} (ha : Now σ H ta (.int x)) (hb : Now σ H tb (.int y)) : Now σ H (tOp (rI0 fun i j => g i j) ta tb) (g x y) := fun Q q => ha _ (hb _ ⟨x, y, rfl, rfl, q⟩)
theorem now_opC {C : Int → Int → Prop} {g : Int → Int → V} {x y : Int} (ha : Now σ H ta (.int x)) (hb : Now σ H tb (.int y)) (hc : C x y) : Now σ H (tOp (rI C fun i j => g i j) ta tb) (g x y) := fun Q q => ha _ (hb _ ⟨x, y, rfl, rfl, hc, q⟩)
theorem now_len {a : Addr} {xs : List V} (ha : Now σ H ta (.ref a)) (hs : SqL K H a xs) : Now σ H (tCB (kLen K) (tCons ta tNil)) (.int xs.length) := fun Q q => ha _ ⟨a, xs, rfl, .inl hs, q⟩
theorem now_intOf {x : Int} (ha : Now σ H ta (.int x)) : Now σ H (tCB kInt (tCons ta tNil)) (.int x) := fun Q q => ha _ (.inl ⟨x, rfl, q⟩)
theorem now_abs {x : Int} (ha : Now σ H ta (.int x)) : Now σ H (tCB kAbs (tCons ta tNil)) (.int (if x < 0 then -x else x)) := fun Q q => ha _ ⟨x, rfl, q⟩
theorem now_ix {a : Addr} {xs : List V} {x : V} {m : Nat} (ha : Now σ H ta (.ref a)) (hs : SqL K H a xs) (hb : Now σ H tb (.int (m : Nat))) (h : xs[m]? = some x) : Now σ H (tOp (rIx K) ta tb) x := fun Q q => ha _ (hb _ (.inl ⟨a, xs, _, x, rfl, rfl, hs, atI_nat h, q⟩))
theorem At.now {d : PyData} {x : Int} (A : At c δ M G H σ) (h : δ[i]? = some (.dat d)) (e : d = .int x) : Now σ H (tVar i) (.int x) := by
  obtain ⟨v, h1, h2⟩ := A.sl i _ h
  subst e
  rw [h2.intV] at h1
  exact now_var h1
/-- two ways meet, the test told -/
theorem s_joinP {b : Bool} (J : Hp → Hp → L2.St → Prop) (A : At c δ M G H σ) (g : ∀ Q : Bool → Hp → Prop, Q b H → tt σ H Q) (rest : ∀ G' H' σ', J G' H' σ' → w D σ' H')
    (k1 : b = true → ∀ (N : L2.St → Hp → Prop), (∀ G' H' σ', J G' H' σ' → N σ' H') → u { D with nx := N } σ H)
    (k2 : b = false → ∀ (N : L2.St → Hp → Prop), (∀ G' H' σ', J G' H' σ' → N σ' H') → u2 { D with nx := N } σ H) : tSeq (tIfS tt u u2) w D σ H :=
  g _ (by
    cases b with
    | true => exact iteT (k1 rfl (w D) rest)
    | false => exact iteF (k2 rfl (w D) rest))
theorem s_setNow {x : Int} (A : At c δ M G H σ) (g : Now σ H te (.int x)) (k : ∀ σ', At c (δ.set i (.dat (.int x))) M G H σ' → D.nx σ' H) : tAsg te (gName i) D σ H :=
  g _ (k _ (A.set (s := .dat (.int x)) ⟨_, rfl, .int x⟩))
/-- a new box -/
def spBox (K : PySem.W.Frag) : Sp := fun vs H Q _ => ∃ (G : Hp) (a : Addr) (ns : List Int) (k : Nat), vs = [.ref a, .int k] ∧ Same G H ∧ SqL K H a (ns.map V.int) ∧ ns.length ≤ 63 ∧ k ≤ 4 ∧
  ∀ (G' H' : Hp) (p : Addr), Ev [] G H G' H' → H p = none → G' p = none → (∃ o, H' p = some o ∧ MOk G' .box o) → Q (.ref p) H'
theorem lenBox {vs : List V} {H : Hp} {Q : VK} {E : XK} (h : spBox K vs H Q E) : vs.length = 2 := by
  obtain ⟨G, a, ns, k, rfl, _⟩ := h
  rfl
/-- the script stays -/
theorem At.script {a : Addr} {xs : List V} (A : At c δ M G H σ) (hs : SqL K c.H0 a xs) (ha : a ∉ c.S) : SqL K H a xs := by
  rcases hs with (h | ⟨o, h⟩) | h
  · exact .inl (.inl (A.ev.keep _ _ h ha))
  · exact .inl (.inr ⟨o, A.ev.keep _ _ h ha⟩)
  · exact .inr h
theorem box_call {tk : TE} {ns : List Int} {m : Nat} {E : XK} {a : Addr} {Q : VK} (A : At c δ M G H σ) (h0 : δ[i]? = some (.val (.ref a))) (hs : SqL K c.H0 a (ns.map V.int)) (ha : a ∉ c.S) (hk : Gv δ M tk (natD m)) (h1 : ns.length ≤ 63) (h2 : m ≤ 4)
    (kk : ∀ p G' H', c.H0 p = none → At c δ ((p, .box) :: M) G' H' σ → Same G G' → Q (.ref p) H') : tCall (spBox K) [] E (tCons (tVar i) (tCons tk tNil)) σ H Q :=
  ⟨_, A.sl i _ h0, hk c G H σ _ A fun G2 H2 u A2 s2 r2 => by
    have e : u = .int m := r2.intV
    subst e
    show spBox K [.ref a, .int m] H2 Q E
    refine ⟨G2, a, ns, m, rfl, A2.gh, A2.script hs ha, h1, h2, fun G' H' p ev n hg hb => ?_⟩
    obtain ⟨o, ho, ok⟩ := hb
    exact kk p G' H' (A2.fresh n).1 (A2.got ev n hg ho ok) (s2.trans ev.gg)⟩
theorem s_retBox {g r : Int} {G0 H0 : Hp} {lo : Hp} (A : At ⟨[], G0, H0, lo⟩ δ M G H σ) (ga : Gv δ M ta (.int g)) (gb : Gv δ M tb (.int r)) (h1 : 0 ≤ g) (h2 : 0 ≤ r) (h3 : r ≤ 2147483563)
    (kk : ∀ (p : Addr) (G' H' : Hp), Ev [] G0 H0 G' H' → H0 p = none → G' p = none → (∃ o, H' p = some o ∧ MOk G' .box o) → D.rt (.ref p) H') : tRet (tLst (tCons ta (tCons tb tNil))) D σ H :=
  ga _ G H σ _ A fun G1 H1 v A1 s1 r1 => gb _ G1 H1 σ _ A1 fun G2 H2 u A2 s2 r2 => ⟨by show 2 ≤ sizeLine; decide, fun p n => by
    rw [r1.intV, r2.intV]
    exact kk p G2 _ (A2.ev.trans (Ev.lay A2.gh n)) (A2.fresh n).1 (A2.fresh n).2.1 ⟨_, upd_same, g, r, rfl, h1, h2, h3⟩⟩
end
theorem abs_nn (i : Int) : 0 ≤ (if i < 0 then -i else i) := by split <;> omega
section
variable {P : Program} {w : World} {K : PySem.W.Frag} {mg : Str → Option Value} {base : Heap} {C fI O : Addr}
abbrev s__law_box : Stmt := topS 39
abbrev N__law_box : List Str := ["_law_script", "_law_k", "_law_cell", "_law_great"]
theorem sc__law_box : FnScope N__law_box ["_law_script", "_law_k"] (defScope s__law_box) := ⟨rfl, rfl, rfl, by decide +kernel, rfl, by decide +kernel, by decide +kernel⟩
abbrev HBox (P : Program) (w : World) (K : PySem.W.Frag) (mg : Str → Option Value) (base : Heap) : Prop := Has P w K mg base "_law_box" CX0 1 ["_law_script", "_law_k"] (spBox K)
theorem h__law_box (B : Bl mg) (T : TopF K mg "_law_box" s__law_box) : HBox P w K mg base := by
  obtain ⟨f, fd, hm, F⟩ := T
  refine ⟨f, fd, hm, F.kp, F.binds (ps := ["_law_script", "_law_k"]) fun _ _ _ _ _ _ us hl => match us, hl with | [_, _], _ => rfl, F.ok sc__law_box (fun vs H Q E h => lenBox h) (fun cdv A outer s H vs Q E hr h => ?_)⟩
  have nd := sc__law_box.nd
  have hu := hu_of hr
  obtain ⟨G, a, ns, m, rfl, gh, hs, hn, hm4, k⟩ := h
  refine ⟨_, (pss_cons (ps_set (i := 2) nd rfl (by first | exact Or.inl rfl | exact Or.inr rfl) (pe_op op_add (pe_op op_mul pe_int (pv 1)) pe_int))
    (pss_cons (ps_if (pt_cmpR op_lt (pv 1) (pe_callB (klen (K := K)) (by rfl) B.len (by decide +kernel) (pa_cons (pv 0) pa_nil)) (nomark _)) (pss_one (ps_set (i := 2) nd rfl (by first | exact Or.inl rfl | exact Or.inr rfl) (pe_callB c_abs (by rfl) B.abs (by decide +kernel) (pa_cons (pe_callTy c_int (by rfl) B.int (by decide +kernel) (pa_cons (pe_ix (kix (K := K)) (pv 0) (pv 1) (fun _ _ => rfl)) pa_nil)) pa_nil)))) (pss_one (ps_if (pt_cmpR op_gt (pe_callB (klen (K := K)) (by rfl) B.len (by decide +kernel) (pa_cons (pv 0) pa_nil)) pe_int (nomark _)) (pss_one (ps_set (i := 2) nd rfl (by first | exact Or.inl rfl | exact Or.inr rfl) (pe_op op_add (pv 2) (pe_op op_mul (pe_op op_modN (pe_callTy c_int (by rfl) B.int (by decide +kernel) (pa_cons (pe_callB c_abs (by rfl) B.abs (by decide +kernel) (pa_cons (pe_callTy c_int (by rfl) B.int (by decide +kernel) (pa_cons (pe_ix (kix (K := K)) (pv 0) (pe_op op_modN (pe_callTy c_int (by rfl) B.int (by decide +kernel) (pa_cons (pv 1) pa_nil)) (pe_callB (klen (K := K)) (by rfl) B.len (by decide +kernel) (pa_cons (pv 0) pa_nil))) (fun _ _ => rfl)) pa_nil)) pa_nil)) pa_nil)) pe_int) pe_int)))) pss_nil)))
    (pss_cons (ps_set (i := 3) nd rfl (by first | exact Or.inl rfl | exact Or.inr rfl) (pe_ifExp (pt_cmpR op_ge (pv 2) (pe_op op_pow pe_int pe_int) (nomark _)) (pv 2) pe_int))
    (pss_one (ps_ret (pe_lst (pa_cons (pv 3) (pa_cons (pe_op op_add (pe_op op_modN (pe_callTy c_int (by rfl) B.int (by decide +kernel) (pa_cons (pe_op op_add (pe_op op_mul (pe_op op_modN (pe_callTy c_int (by rfl) B.int (by decide +kernel) (pa_cons (pv 2) pa_nil)) pe_int) pe_int) (pe_op op_mul pe_int (pv 1))) pa_nil)) pe_int) pe_int) pa_nil)))))))), ?_⟩
  have A0 := at_startG (N := N__law_box) (ss := [.val (.ref a), .dat (natD m)]) (S := []) (M := []) gh (.val (.dat (.int (m : Int)) .nil)) (Nat.le_of_ble_eq_true rfl) (fun a o h => by cases h) List.nodup_nil (fun a h => by cases h)
  refine s_setq (d := .int (5107 * (m : Int) + 457)) A0 (g_op0 (g_opC g_int (g_var (d := natD m) rfl) (.inl ⟨by decide, by decide⟩)) g_int) fun G1 H1 σ1 A1 => ?_
  have hs1 := A1.script hs (by simp)
  have scr : Now σ1 H1 (tVar 0) (.ref a) := now_var (A1.sl 0 _ rfl)
  have now_k : Now σ1 H1 (tVar 1) (.int (m : Int)) := A1.now (i := 1) (d := natD m) rfl rfl
  have now_l : Now σ1 H1 (tCB (kLen K) (tCons (tVar 0) tNil)) (.int ns.length) := by
    have := now_len scr hs1
    rw [List.length_map] at this
    exact this
  have item : ∀ (j : Nat), j < ns.length → (ns.map V.int)[j]? = some (.int (ns.getD j 0)) := fun j hj => by
    rw [List.getElem?_map, List.getD_eq_getElem?_getD, List.getElem?_eq_getElem hj]
    rfl
  refine s_joinP (b := decide ((m : Int) < (ns.length : Int))) (fun G' H' σ' => ∃ cell : Int, 0 ≤ cell ∧ At ⟨[], G, H, G⟩ [.val (.ref a), .dat (natD m), .dat (.int cell), .any] [] G' H' σ') A1 (fun Q q => now_op0 (g := fun i j => .bl (decide (i < j))) now_k now_l _ ⟨_, rfl, q⟩) (fun G2 H2 σ2 J => ?_) (fun z N J => ?_) fun z N J => ?_
  · obtain ⟨cell, hc, A2⟩ := J
    refine s_setq (d := .int (if (10 : Int) ^ (18 : Int).toNat ≤ cell then cell else 0)) A2 ?_ fun G3 H3 σ3 A3 => ?_
    · refine g_if (b := decide ((10 : Int) ^ (18 : Int).toNat ≤ cell)) (gt_test (g_opB (g_var (d := .int cell) rfl) (g_opC g_int g_int ⟨by decide, by decide, by decide⟩))) (fun h => ?_) fun h => ?_
      · rw [if_pos (of_decide_eq_true h)]
        exact g_var rfl
      · rw [if_neg (of_decide_eq_false h)]
        exact g_int
    · have hg : 0 ≤ (if (10 : Int) ^ (18 : Int).toNat ≤ cell then cell else 0) := by split <;> omega
      have b2 := fmod_big ((cell.fmod 2147483563) * 58169 + 811 * (m : Int)) 2147483563 (by decide)
      refine s_retBox (g := if (10 : Int) ^ (18 : Int).toNat ≤ cell then cell else 0) (r := (cell.fmod 2147483563 * 58169 + 811 * (m : Int)).fmod 2147483563 + 1) A3 (g_var rfl) ?_ hg (by omega) (by omega) fun p G' H' ev n1 n2 hb => k G' H' p ev n1 n2 hb
      refine g_op0 ?_ g_int
      refine g_opC ?_ g_int (by decide)
      refine g_intOf (ga_cons ?_ ga_nil)
      refine g_op0 ?_ ?_
      · refine g_opC ?_ g_int (.inr ⟨by decide, by decide⟩)
        refine g_opC ?_ g_int (by decide)
        exact g_intOf (ga_cons (g_var rfl) ga_nil)
      · exact g_opC g_int (g_var (d := natD m) rfl) (.inl ⟨by decide, by decide⟩)
  · have hlt : m < ns.length := by
      have := of_decide_eq_true z
      omega
    exact s_setNow A1 (now_abs (now_intOf (now_ix (m := m) scr hs1 now_k (item m hlt)))) fun σ3 A3 => J G1 H1 σ3 ⟨_, abs_nn _, A3⟩
  · refine (now_op0 (g := fun i j => .bl (decide (i > j))) now_l (now_c (x := .int 0))) _ ⟨_, rfl, ?_⟩
    by_cases hp : 1 ≤ ns.length
    · refine (if_pos (decide_eq_true (by omega))).mpr ?_
      obtain ⟨j, ej, hj⟩ := fmod_lt (m : Int) ns.length hp
      have ix : Now σ1 H1 (tOp (rIx K) (tVar 0) (tOp (rI (fun _ j => j ≠ 0) fun i j => .int (i.fmod j)) (tCB kInt (tCons (tVar 1) tNil)) (tCB (kLen K) (tCons (tVar 0) tNil)))) (.int (ns.getD j 0)) := by
        have h1 := now_opC (C := fun _ j => j ≠ 0) (g := fun i j => .int (i.fmod j)) (now_intOf now_k) now_l (show (ns.length : Int) ≠ 0 by omega)
        rw [ej] at h1
        exact now_ix (m := j) scr hs1 h1 (item j hj)
      refine s_setNow A1 (now_op0 (g := fun i j => .int (i + j)) (A1.now (i := 2) rfl rfl) (now_opC (g := fun i j => .int (i * j)) (now_opC (g := fun i j => .int (i.fmod j)) (now_intOf (now_abs (now_intOf ix))) now_c (by decide)) now_c (.inr ⟨by decide, by decide⟩))) fun σ4 A4 => J G1 H1 σ4 ⟨_, ?_, A4⟩
      have := (fmod_big (if ns.getD j 0 < 0 then -ns.getD j 0 else ns.getD j 0) 2147483563 (by decide)).1
      omega
    · refine (if_neg (by rw [decide_eq_false (by omega)]; decide)).mpr ?_
      exact J G1 H1 _ ⟨_, by omega, A1⟩
end
end Od
set_option Elab.async false
set_option linter.all false
set_option autoImplicit false
set_option maxRecDepth 100000
set_option maxHeartbeats 4000000
/-! R1: repr of data, where no repr is under way. -/
namespace Od
open PySem PySem.Spec L2
/-- what repr shows -/
structure ShOk (d : PyData) : Prop where
  show_ : d.showable = true
  nodict : d.hasDict = false
  deep : d.depth ≤ 60
  len : d.shown.length ≤ sizeLine
def kRepr (K : PySem.W.Frag) : List V → Hp → VK → Prop := fun xs H Q => ∃ d v, xs = [v] ∧ Dp K H v d ∧ ShOk d ∧ Q (.str d.shown) H
theorem c_repr {X : Cx} (hg : X.A.guards = some []) (hu : X.A.units + 64 < cLine) : CallR X (.builtin "repr") (kRepr X.K) := by
  intro pins s σ H xs us Q I r h
  obtain ⟨d, v, rfl, dp, ok, q⟩ := h
  obtain ⟨u, rfl, ru⟩ := vals1 r
  obtain ⟨as, rd⟩ := Dp.reads I d v u dp ru
  have fin : ∀ (h' : Heap) (t : Tok) (tk : Nat), (∀ b o, s.heap.get? b = some o → h'.get? b = some o) → EP X pins σ Q (.str d.shown t) { s with heap := h', toks := tk } := fun h' t tk hk => ⟨.str d.shown, H, I.kept hk, ⟨t, rfl⟩, q⟩
  cases rd with
  | none => exact PySem.P.repr_of_none (fin s.heap _ _ fun _ _ e => e)
  | bool b => exact PySem.P.repr_of_bool (fin s.heap _ _ fun _ _ e => e)
  | int i t => exact PySem.P.repr_of_int (of_decide_eq_true ok.show_) (fin s.heap _ _ fun _ _ e => e)
  | str x t => exact PySem.P.repr_of_str (fin s.heap _ _ fun _ _ e => e) ok.len
  | list h1 h2 h3 h4 => exact repr_of_reads' (.list h1 h2 h3 h4) ok.show_ (PyData.noDict_hsm ok.nodict) hg (by have := ok.deep; omega) (fun _ _ e => e) (fun h' t tk hk => fin h' t tk hk) ok.len
  | tuple h1 h2 h3 h4 => exact repr_of_reads' (.tuple h1 h2 h3 h4) ok.show_ (PyData.noDict_hsm ok.nodict) hg (by have := ok.deep; omega) (fun _ _ e => e) (fun h' t tk hk => fin h' t tk hk) ok.len
  | dict h1 h2 h3 h4 h5 => cases ok.nodict
section
variable {δ : List Sl} {M : Mem} {K : PySem.W.Frag} {t : TA} {d : PyData} {P : PyData → Prop} {te : TE}
theorem g_repr (h : Ga δ M t [d]) (ok : ShOk d) : Gv δ M (tCB (kRepr K) t) (.str d.shown) := fun c G H σ Q A k =>
  h.one A fun G1 H1 v A1 s1 r1 => ⟨d, v, rfl, r1.dp A1.gh, ok, k G1 H1 _ A1 s1 (.str _)⟩
theorem gs_repr (h : Gs δ M te P) (ok : ∀ d, P d → ShOk d) : Gs δ M (tCB (kRepr K) (tCons te tNil)) (fun x => ∃ d, P d ∧ x = .str d.shown) := fun c G H σ Q A k =>
  h c G H σ _ A fun d G1 H1 v hd A1 s1 r1 => ⟨d, v, rfl, r1.dp A1.gh, ok d hd, k _ G1 H1 _ ⟨d, hd, rfl⟩ A1 s1 (.str _)⟩
end
/-! ### what is shown in short -/
mutual
/-- leaves and joints -/
def heft : PyData → Nat
  | .none | .bool _ => 1
  | .int i => if i.natAbs < 10 ^ 30 then 1 else 100000
  | .str x => if x.cps.toList.all fun c => decide (c < 16 ^ 8) then 1 + x.cps.size else 100000
  | .list xs | .tuple xs => 1 + heftAll xs
  | .dict _ => 100000
def heftAll : List PyData → Nat
  | [] => 0
  | x :: xs => heft x + heftAll xs
end
end Od
set_option Elab.async false
set_option linter.all false
set_option autoImplicit false
set_option maxRecDepth 100000
set_option maxHeartbeats 4000000
/-! R2: what is shown is short; which data the law shows. -/
namespace Od
open PySem PySem.Spec L2
mutual
theorem heft_ok : ∀ d : PyData, heft d < 100000 → d.shown.length + 3 ≤ 40 * heft d ∧ d.showable = true ∧ d.hasDict = false
  | .none, _ => ⟨by decide, rfl, rfl⟩
  | .bool b, _ => ⟨by cases b <;> decide, rfl, rfl⟩
  | .int i, h => by
    unfold heft at h ⊢
    by_cases hi : i.natAbs < 10 ^ 30
    · have e := int_text_length_le10 (k := 30) (by decide) hi
      rw [if_pos hi]
      have hz : i.natAbs < 2 ^ 1920 := Nat.lt_trans hi (by decide +kernel)
      refine ⟨?_, decide_eq_true ?_, rfl⟩
      · show (Str.ofString (toString i)).length + 3 ≤ _
        rw [ofString_length]
        omega
      · by_cases h0 : i.natAbs = 0
        · rw [h0]; decide
        · exact (Nat.log2_lt h0).mpr hz
    · rw [if_neg hi] at h
      exact absurd h (by decide)
  | .str x, h => by
    unfold heft at h ⊢
    by_cases hx : (x.cps.toList.all fun c => decide (c < 16 ^ 8)) = true
    · rw [if_pos hx]
      have e := StrLaws.reprText_len x (by simpa only [List.all_eq_true, decide_eq_true_eq] using hx)
      refine ⟨?_, rfl, rfl⟩
      show (reprText x).length + 3 ≤ _
      have e2 : x.length = x.cps.size := rfl
      omega
    · rw [if_neg hx] at h
      exact absurd h (by decide)
  | .list xs, h => by
    have h1 := heftAll_ok xs (by unfold heft at h; omega)
    have h2 := listText_len_le (PyData.shownAll xs)
    refine ⟨?_, h1.2.1, h1.2.2⟩
    show (listText (PyData.shownAll xs)).length + 3 ≤ 40 * (1 + heftAll xs)
    have h3 := h1.1
    omega
  | .tuple xs, h => by
    have h1 := heftAll_ok xs (by unfold heft at h; omega)
    have h2 := tupleText_len_le (PyData.shownAll xs)
    refine ⟨?_, h1.2.1, h1.2.2⟩
    show (tupleText (PyData.shownAll xs)).length + 3 ≤ 40 * (1 + heftAll xs)
    have h3 := h1.1
    omega
  | .dict _, h => by
    unfold heft at h
    exact absurd h (by decide)
theorem heftAll_ok : ∀ xs : List PyData, heftAll xs < 100000 → ((PyData.shownAll xs).map (·.length)).sum + 3 * (PyData.shownAll xs).length ≤ 40 * heftAll xs ∧ PyData.showableAll xs = true ∧ PyData.hasDictAll xs = false
  | [], _ => ⟨by decide, rfl, rfl⟩
  | x :: xs, h => by
    unfold heftAll at h ⊢
    have h1 := heft_ok x (by omega)
    have h2 := heftAll_ok xs (by omega)
    refine ⟨?_, ?_, ?_⟩
    · simp only [PyData.shownAll, List.map_cons, List.sum_cons, List.length_cons]
      have := h1.1
      have := h2.1
      omega
    · simp only [PyData.showableAll, h1.2.1, h2.2.1, Bool.and_self]
    · simp only [PyData.hasDictAll, h1.2.2, h2.2.2, Bool.or_self]
end
theorem ShOk.of {d : PyData} (h : heft d ≤ 2400) (hd : d.depth ≤ 60) : ShOk d := by
  obtain ⟨h1, h2, h3⟩ := heft_ok d (by omega)
  exact ⟨h2, h3, hd, lim_size (by omega)⟩
theorem heft_int {i : Int} (h : -(10 ^ 20) ≤ i) (h2 : i ≤ 10 ^ 20) : heft (.int i) = 1 := by
  unfold heft
  rw [if_pos (by omega)]
theorem heftAll_le {xs : List PyData} {k : Nat} (h : ∀ x ∈ xs, heft x ≤ k) : heftAll xs ≤ k * xs.length := by
  induction xs with
  | nil => exact Nat.zero_le _
  | cons x xs ih =>
    unfold heftAll
    have h1 := h x (List.mem_cons_self ..)
    have h2 := ih fun y hy => h y (List.mem_cons_of_mem _ hy)
    rw [List.length_cons, Nat.mul_add]
    omega
theorem depthAll_le {xs : List PyData} {k : Nat} (h : ∀ x ∈ xs, x.depth ≤ k) : PyData.depthAll xs ≤ k := by
  induction xs with
  | nil => exact Nat.zero_le _
  | cons x xs ih =>
    have h1 := h x (List.mem_cons_self ..)
    have h2 := ih fun y hy => h y (List.mem_cons_of_mem _ hy)
    show max x.depth (PyData.depthAll xs) ≤ k
    omega
/-- a list or a tuple of short ones -/
theorem ShOk.seq {xs : List PyData} {d : PyData} {a b : Nat} (hd : d = .list xs ∨ d = .tuple xs) (h : ∀ x ∈ xs, heft x ≤ a ∧ x.depth ≤ b) (hl : a * xs.length ≤ 2399) (hb : b ≤ 59) : ShOk d := by
  have h1 := heftAll_le (k := a) fun x hx => (h x hx).1
  have h2 := depthAll_le (k := b) fun x hx => (h x hx).2
  rcases hd with rfl | rfl
  · exact ShOk.of (by unfold heft; omega) (by show PyData.depthAll xs + 1 ≤ 60; omega)
  · exact ShOk.of (by unfold heft; omega) (by show PyData.depthAll xs + 1 ≤ 60; omega)
theorem small_heft {x : PyData} (h : smallX x) : heft x ≤ 1 ∧ x.depth ≤ 0 := by
  rcases h with rfl | ⟨b, rfl⟩ | ⟨i, rfl, h1, h2⟩
  · exact ⟨Nat.le_refl _, Nat.le_refl _⟩
  · exact ⟨Nat.le_refl _, Nat.le_refl _⟩
  · exact ⟨Nat.le_of_eq (heft_int (by omega) (by omega)), Nat.le_refl _⟩
theorem valOk_sh {d : PyData} (h : valOk d) : ShOk d := by
  rcases h with rfl | rfl | rfl | ⟨xs, hx, hl, hs⟩
  · exact .of (by decide) (by decide)
  · exact .of (by decide) (by decide)
  · exact .of (by decide) (by decide)
  · exact ShOk.seq hx (fun x hx => small_heft (hs x hx)) (by omega) (by decide)
end Od
set_option Elab.async false
set_option linter.all false
set_option autoImplicit false
set_option maxRecDepth 100000
set_option maxHeartbeats 4000000
/-! R3: defs that are called where no repr is under way. -/
namespace Od
open PySem PySem.Spec L2
/-- what a def keeps, called where no repr is under way -/
structure FnG (P : Program) (w : World) (K : PySem.W.Frag) (mg : Str → Option Value) (base : Heap) (CXc : CXT) (k : Nat) (f : Addr) (fd : FuncData) (ps : List Str) (sp : Sp) : Prop where
  len : ∀ vs H Q E, sp vs H Q E → vs.length = ps.length
  run : ∀ (A : Around) (outer : List Env) (s : Shared) (H : Hp) (args : Args) (us : List Value) (vs : List V) (Q : VK) (E : XK), A.guards = some [] → Room k A → Env0 P w K mg base A outer s H →
    BindsTo s fd args (ps.zip us) → Vals vs us → sp vs H Q E → codeAny (model P w) A (.call (.ref f) args) (CR CXc outer P w H s Q E) s
theorem FnG.mono {P : Program} {w : World} {K : PySem.W.Frag} {mg : Str → Option Value} {base : Heap} {CXc : CXT} {j k : Nat} {f : Addr} {fd : FuncData} {ps : List Str} {sp : Sp} (F : FnG P w K mg base CXc j f fd ps sp) (h : j ≤ k) : FnG P w K mg base CXc k f fd ps sp :=
  ⟨F.len, fun A outer s H args us vs Q E hg hr => F.run A outer s H args us vs Q E hg (hr.mono h)⟩
def HasG (P : Program) (w : World) (K : PySem.W.Frag) (mg : Str → Option Value) (base : Heap) (x : Str) (k : Nat) (ps : List Str) (sp : Sp) : Prop :=
  ∃ f fd, mg x = some (.ref f) ∧ PySem.W.keepIn K (.ref f) = true ∧ Binds K fd ps [] ∧ FnG P w K mg base CX0 k f fd ps sp
section
variable {P : Program} {w : World} {K : PySem.W.Frag} {mg : Str → Option Value} {base : Heap}
theorem okG {x qual : Str} {st : Stmt} {f : Addr} {fd : FuncData} {N ps : List Str} {k : Nat} {sp : Sp} (F : Fun K x qual st f fd) (S : FnScope N ps (defScope st)) (len : ∀ vs H Q E, sp vs H Q E → vs.length = ps.length)
    (body : ∀ (cdv : Value) (A : Around) (outer : List Env) (s : Shared) (H : Hp) (vs : List V) (Q : VK) (E : XK), A.guards = some [] → Room k (A.deeper (PyProof.Rows.envOfC qual (defScope st) s.heap.objs.size f cdv)) → sp vs H Q E →
      ∃ t, PSs (cxOf CX0 P w K mg base N qual (defScope st) f cdv A outer s H E).nox (defBody st) t ∧ t { nx := fun _ H' => Q .non H', rt := Q } (L2.start N vs) H) : FnG P w K mg base CX0 (k + 1) f fd ps sp := by
  obtain ⟨oc, od, kV, doc, pm, an, cdv, ct, osl, rfl, lk, hcd⟩ := F.ex
  refine ⟨len, fun A outer s H args us vs Q E hg hr e0 hb r hsp => ?_⟩
  refine LamX.run_ofS lk hcd S hr e0 hb r (len _ _ _ _ hsp) fun hr' => ?_
  obtain ⟨t, ht, hq⟩ := body cdv A outer s H vs Q E hg hr' hsp
  exact ⟨t, ht.nox, hq⟩
end
section
variable {X : Cx} {x : Str} {k : Nat} {ps : List Str} {sp : Sp} {p pos : Pos} {e : Expr} {es : List Expr} {t : TA} {f : Addr} {fd : FuncData}
theorem run_fnG {CXc : CXT} {E : XK} {pins : List (Addr × Obj)} {σ : L2.St} {H : Hp} {s : Shared} {Q : VK} {us : List Value} {vs : List V} (F : FnG X.prog X.w X.K X.mg X.base CXc k f fd ps sp) (hg : X.A.guards = some []) (hr : Room k X.A) (hb : Binds X.K fd ps []) (hx : Passes CXc X E)
    (I : Inv X pins σ H s) (r : Vals vs us) (h : sp vs H Q E) : wpAny (model X.prog X.w) X.A (call (.ref f) us) (EP X pins σ Q) X.xe s := by
  have hl : us.length = ps.length := r.length.symm.trans (F.len _ _ _ _ h)
  have bd := hb s us I.kIn (by rw [List.append_nil]; exact hl)
  rw [List.append_nil] at bd
  refine wpAny_call (codeAny_mono (F.run _ X.stack s H _ us vs Q E hg hr I.env0 bd r h) ?_)
  rintro (e | fl) s2 hq
  · exact hx pins σ H s e s2 I hq
  · cases fl with
    | ret v => exact I.after hq
    | _ => exact hq.elim
theorem pe_callG (h : HasG X.prog X.w X.K X.mg X.base x k ps sp) (hg : X.A.guards = some []) (hr : Room k X.A) (ha : PA X (e :: es) t) (hgl : Gl X x := by rfl) (hdb : (x == ("__debug__" : Str)) = false := by decide)
    (he : starEach (e :: es) X.env = (false, eval e X.env) :: starEach es X.env := by rfl) (hpl : (backTo pos (starEach es X.env)).any (·.1) = false := by rfl) : PE X (.Call (.Name x p) (e :: es) [] pos) (tCall sp [] E0 t) := by
  obtain ⟨f, fd, hm, hk, hb, F⟩ := h
  constructor
  intro pins s σ H Q I hq
  apply wpAny_Call_Name_kw
  refine ld_glob I hgl hm ?_ hdb
  apply PySem.W.callWith_K (h₀ := X.base) I.ok.mod.kin hk _ he hpl
  refine thn (ha.run pos pins s σ H _ I hq) fun us s1 hz => ?_
  obtain ⟨vs, H1, I1, r, q⟩ := hz
  rw [List.append_nil] at q
  exact ⟨I1.kIn, run_fnG F hg hr hb pass0 I1 r q⟩
end
end Od
set_option Elab.async false
set_option linter.all false
set_option autoImplicit false
set_option maxRecDepth 100000
set_option maxHeartbeats 4000000
/-! R4: calls by keywords alone, the keywords written from the last parameter to the first. -/
namespace Od
open PySem PySem.Spec L2
theorem vals_rev {vs : List V} {us : List Value} (r : Vals vs us) : Vals vs.reverse us.reverse := by
  induction r with
  | nil => exact .nil
  | cons a _ ih =>
    rw [List.reverse_cons, List.reverse_cons]
    exact ih.append (.cons a .nil)
def tKw (sp : Sp) (E : XK) (tk : TA) : TE := fun σ H Q => tk σ H fun zs H1 => sp zs.reverse H1 Q E
section
variable {X : Cx} {x : Str} {st : Stmt} {k : Nat} {ps ks : List Str} {sp : Sp} {p pos : Pos} {kws : List Keyword} {tk : TA} {CXc : CXT} {E : XK}
theorem pe_callKwE (h : HasF X.prog X.w X.K X.mg X.base x st CXc k ps sp) (hr : Room k X.A) (hx : Passes CXc X E) (hkw : PK X kws tk)
    (hb : ∀ (kV doc pm : Value) (an : Option Addr) (cdv ct : Value) (ws : List Value), ws.length = ps.length → bindArgs (PySem.W.fnOf x x (defArgs st) (defBody st) (defScope st) .none kV doc pm an cdv ct) ⟨[], ks.zip ws⟩ = pure (ps.zip ws.reverse))
    (hgl : Gl X x := by rfl) (hdb : (x == ("__debug__" : Str)) = false := by decide) (hall : (backToKw pos (keywordEach kws X.env)).all (·.1.isSome) = true := by rfl) (hks : (backToKw pos (keywordEach kws X.env)).filterMap (·.1) = ks := by rfl)
    (hpl : ((backTo pos (starEach [] X.env)).any (·.1) || (backToKw pos (keywordEach kws X.env)).any (·.1.isNone)) = false := by rfl) : PE X (.Call (.Name x p) [] kws pos) (tKw sp E tk) := by
  obtain ⟨f, fd, hm, F, ok⟩ := h
  obtain ⟨oc, od, kV, doc, pm, an, cdv, ct, osl, rfl, lk, hcd⟩ := F.ex
  constructor
  intro pins s σ H Q I hq
  apply wpAny_Call_Name_kw
  refine ld_glob I hgl hm ?_ hdb
  apply PySem.W.callWith_KW0 (h₀ := X.base) I.ok.mod.kin F.kp hall _ hpl
  refine thn (hkw.run pos pins s σ H _ I hq) fun ws s1 hz => ?_
  obtain ⟨zs, H1, I1, r, q⟩ := hz
  refine ⟨I1.kIn, ?_⟩
  rw [hks]
  have rr := vals_rev r
  have hl : ws.length = ps.length := by
    have := ok.len _ _ _ _ q
    rw [rr.length, List.length_reverse] at this
    exact this
  refine wpAny_call (codeAny_mono (ok.run _ X.stack s1 H1 _ ws.reverse zs.reverse Q E hr I1.env0 (.of_eq (hb kV doc pm an cdv ct ws hl)) rr q) ?_)
  rintro (e | fl) s2 hq2
  · exact hx pins σ H1 s1 e s2 I1 hq2
  · cases fl with
    | ret v => exact I1.after hq2
    | _ => exact hq2.elim
/-- .. of a def that may raise, where nothing may be raised -/
theorem pe_callKw (h : HasF X.prog X.w X.K X.mg X.base x st (L2.CX X.prog X.w) k ps sp) (hr : Room k X.A) (hkw : PK X kws tk)
    (hb : ∀ (kV doc pm : Value) (an : Option Addr) (cdv ct : Value) (ws : List Value), ws.length = ps.length → bindArgs (PySem.W.fnOf x x (defArgs st) (defBody st) (defScope st) .none kV doc pm an cdv ct) ⟨[], ks.zip ws⟩ = pure (ps.zip ws.reverse))
    (hgl : Gl X x := by rfl) (hdb : (x == ("__debug__" : Str)) = false := by decide) (hall : (backToKw pos (keywordEach kws X.env)).all (·.1.isSome) = true := by rfl) (hks : (backToKw pos (keywordEach kws X.env)).filterMap (·.1) = ks := by rfl)
    (hpl : ((backTo pos (starEach [] X.env)).any (·.1) || (backToKw pos (keywordEach kws X.env)).any (·.1.isNone)) = false := by rfl) : PE X (.Call (.Name x p) [] kws pos) (tKw sp E0 tk) := pe_callKwE h hr passL hkw hb hgl hdb hall hks hpl
end
section
variable {δ : List Sl} {M : Mem} {tk : TA} {E : XK} {C : Addr} {ds : List PyData}

theorem g_kw {dom : List PyData → Prop} {f : List PyData → Except PyData PyData} {d : PyData} (h : Ga δ M tk ds) (hd : dom ds.reverse) (hf : f ds.reverse = .ok d) : Gv δ M (tKw (spX C dom f) E tk) d := fun c G H σ Q A k =>
  h c G H σ _ A fun G1 H1 vs A1 s1 r1 => ⟨G1, ds.reverse, A1.gh, r1.reverse, hd, (fun d' e' G' H' v ev r => by
    rw [hf] at e'
    cases e'
    exact k G' H' v (A1.ext ev) (s1.trans ev.gg) r), fun d' e' => by
    rw [hf] at e'
    cases e'⟩
end
end Od
set_option Elab.async false
set_option linter.all false
set_option autoImplicit false
set_option maxRecDepth 100000
set_option maxHeartbeats 4000000
/-! R5: a lambda made, known from then on. -/
namespace Od
open PySem PySem.Spec L2
/-- a lambda of this text, its code object at b -/
def LamO (q : Str) (params : Arguments) (body : Expr) (scope : Scope) (cl : List (Str × Addr)) (f b : Addr) : HO := .ext fun h => ∃ pm ctv : Value, h.get? f = some (PySem.W.kla_obj "<lambda>" q params body scope cl pm b ctv)
/-- a table's codes -/
def CodesG (G : Hp) (q : Str) (ps : Array Value) : Prop := TriplesOk ps.toList ∧ ∀ (pos : Pos) (cv : Value), codeAmong pos ps.toList = some cv → ∃ c, cv = .ref c ∧ G c = some (LamX.CodeO c q)
theorem lamO_ok {P : Program} {w : World} {H : Hp} {h : Heap} {q : Str} {params : Arguments} {body : Expr} {scope : Scope} {cl : List (Str × Addr)} {f b : Addr} {pm ctv : Value} (e : h.get? f = some (PySem.W.kla_obj "<lambda>" q params body scope cl pm b ctv)) :
    ObjOk P w H h f (LamO q params body scope cl f b) := ⟨⟨pm, ctv, e⟩, ⟨_, e⟩, fun h1 h2 ⟨pm, ctv, e⟩ st => ⟨pm, ctv, st _ e⟩⟩
def tLamb (P : Addr) (q : Str) (LO : Addr → Addr → HO) : TE := fun _ H Q => ∃ ps, H P = some (.tbl ps) ∧ CodesG H q ps ∧ ∀ f b : Addr, H f = none → f ≠ b → f ≠ P →
  (∀ p2, codeAmong p2 ps.toList = some (.ref b) → Q (.ref f) (upd H f (LO f b))) ∧
  ∀ more : Array Value, H b = none → TriplesOk (ps ++ more).toList → (∀ (pos : Pos) (cv : Value), codeAmong pos (ps ++ more).toList = some cv → codeAmong pos ps.toList = some cv ∨ cv = .ref b) → Q (.ref f) (upd (upd (upd H P (.tbl (ps ++ more))) b (LamX.CodeO b q)) f (LO f b))
section
variable {X : Cx}
theorem pe_lamb {P c : Addr} {params : Arguments} {body : Expr} {scope : Scope} {pos : Pos} (TB : LamX.TabB X.base X.mg c P) (hcode : X.env.code = .ref c) (hdef : defaultsOf params X.env = ([], []))
    (hfree : ∀ y ∈ scope.names, y.2 = .free → X.env.scope.names.lookup y.1 = some .cell ∨ X.env.scope.names.lookup y.1 = some .free) :
    PE X (.Lambda params body scope pos) (tLamb P (X.env.qual ++ "<lambda>") (LamO (X.env.qual ++ "<lambda>") params body scope (cloFrom X.env.cells scope.names []))) := by
  constructor
  intro pins s σ H Q I h
  obtain ⟨ps, hP, ⟨ht, ha⟩, h⟩ := h
  apply PySem.W.kla_eval hdef
  have seen : s.heap.get? P = some { cls := .none, data := .fields ps } := I.hok P _ hP
  have clo : ∀ y ∈ scope.names, y.2 = .free → ∃ z, X.env.cells.lookup y.1 = some z := fun y hy e => I.ok.has _ (hfree y hy e)
  cases hc : codeAmong pos ps.toList with
  | some cv =>
    obtain ⟨b, rfl, hb⟩ := ha pos cv hc
    apply PySem.W.kla_makeFunctionHit (mg := X.mg) (c := c) (P := P) (ps := ps) (closure_ok clo) I.ok.glob (I.mod.glob.keeps I.bk) hcode (TB.code.keeps I.bk) seen ht hc (TB.bm.keeps I.bk)
    intro ctv g tk kp up
    have J := I.kept (t' := tk) kp
    have hn : H g.objs.size = none := J.hok.fresh (Nat.le_refl _)
    have J2 := J.laid (t' := tk) (a := g.objs.size) (o := LamO (X.env.qual ++ "<lambda>") params body scope (cloFrom X.env.cells scope.names []) g.objs.size b) (h' := g.push (PySem.W.kla_obj "<lambda>" (X.env.qual ++ "<lambda>") params body scope (cloFrom X.env.cells scope.names []) ((X.mg "__name__").getD .none) b ctv))
      (fun _ _ e => Heap.get?_push_of_some _ e) (Nat.le_refl _) (lamO_ok (Heap.get?_push_size _ rfl))
    exact ⟨.ref g.objs.size, _, J2, rfl, (h g.objs.size b hn (fun z => by rw [z, hb] at hn; cases hn) (fun z => by rw [z, hP] at hn; cases hn)).1 pos hc⟩
  | none =>
    apply PySem.W.kla_makeFunction (mg := X.mg) (c := c) (P := P) (ps := ps) (closure_ok clo) I.ok.glob (I.mod.glob.keeps I.bk) hcode (TB.code.keeps I.bk) seen ht hc TB.gP (TB.bm.keeps I.bk)
    intro b ctv g tk kp up lt rec tb
    obtain ⟨b2, oc, vs, t, e2, hoc, hd, hv⟩ := rec
    cases e2
    have nb : H b = none := I.hok.fresh up
    have J := LamX.inv_table (q := X.env.qual ++ "<lambda>") (t' := tk) (more := #[rawInt pos.line, rawInt pos.col, .ref b]) I hP kp tb up ⟨oc, vs, t, hoc, hd, hv⟩
    have J2 := J.laid (t' := tk) (a := g.objs.size) (o := LamO (X.env.qual ++ "<lambda>") params body scope (cloFrom X.env.cells scope.names []) g.objs.size b) (h' := g.push (PySem.W.kla_obj "<lambda>" (X.env.qual ++ "<lambda>") params body scope (cloFrom X.env.cells scope.names []) ((X.mg "__name__").getD .none) b ctv))
      (fun _ _ e => Heap.get?_push_of_some _ e) (Nat.le_refl _) (lamO_ok (Heap.get?_push_size _ rfl))
    have big : s.heap.objs.size ≤ g.objs.size := Nat.le_trans up (Nat.le_of_lt lt)
    have n1 : g.objs.size ≠ b := Nat.ne_of_gt lt
    have n2 : g.objs.size ≠ P := Nat.ne_of_gt (Nat.lt_of_lt_of_le (Heap.lt_size seen) big)
    have eL : (ps ++ #[rawInt pos.line, rawInt pos.col, .ref b]).toList = ps.toList ++ [rawInt pos.line, rawInt pos.col, .ref b] := by simp
    refine ⟨.ref g.objs.size, _, J2, rfl, (h g.objs.size b (I.hok.fresh big) n1 n2).2 _ nb ?_ fun p2 cv hcv => ?_⟩
    · rw [eL]
      exact PySem.TriplesOk_snoc _ _ _ _ ht
    · rw [eL] at hcv
      exact LamX.among_app _ ht hcv
end
end Od
set_option Elab.async false
set_option linter.all false
set_option autoImplicit false
set_option maxRecDepth 100000
set_option maxHeartbeats 4000000
/-! R6: a known lambda called, in the def that got it. -/
namespace Od
open PySem PySem.Spec L2
section
variable {X : Cx} {pins : List (Addr × Obj)} {σ : L2.St} {H : Hp} {s : Shared}
/-- the name's value is a lambda of the maker X, whose state stands as at this def's entry -/
theorem pe_actK {CXg : CXT} {Eg : XK} {Ng : List Str} {qg : Str} {sg : Scope} {g : Addr} {cdg : Value} {params : Arguments} {body : Expr} {scope : Scope} {k i : Nat} {a : Str} {pn : List (Addr × Obj)} {xe : Value → Shared → Prop} {W : WX} {tb : XK → TE} {p1 p2 : Pos}
    (I : Inv X pins σ H s) (L : LamX.LamS X.env.scope scope) (tk : Takes ((cxOf CXg X.prog X.w X.K X.mg X.base Ng qg sg g cdg X.A X.stack s H Eg).tr pn xe) W)
    (hbind : ∀ (pm ctv : Value) (b : Addr), bindArgs (PySem.W.kla_fn "<lambda>" (X.env.qual ++ "<lambda>") params body scope (cloFrom X.env.cells scope.names []) pm (.ref b) ctv) ⟨[], []⟩ = pure [])
    (hr : Room (k + 1) (X.A.deeper (PyProof.Rows.envOfC qg sg s.heap.objs.size g cdg))) (hN : Ng[i]? = some a) (hv : Vis sg a)
    (hbody : ∀ (E : XK) (A : Around) (outer : List Env) (s : Shared) (H : Hp) (f b : Addr), Room k (A.deeper (LamX.lamEnv X scope s.heap.objs.size f b)) → PE (LamX.lamCx X A outer s H E scope f b) body (tb E))
    (hd : (a == ("__debug__" : Str)) = false := by decide) (hcd : (a == ("__classdict__" : Str)) = false := by decide) :
    PE ((cxOf CXg X.prog X.w X.K X.mg X.base Ng qg sg g cdg X.A X.stack s H Eg).tr pn xe) (.Call (.Name a p1) [] [] p2)
      (fun τ HZ Q => ∃ f b, τ[i]? = some (some (.ref f)) ∧ HZ f = some (LamO (X.env.qual ++ "<lambda>") params body scope (cloFrom X.env.cells scope.names []) f b) ∧ HZ b = some (LamX.CodeO b (X.env.qual ++ "<lambda>")) ∧ tb (WE W τ) σ HZ Q) := by
  constructor
  intro pinsZ sZ τ HZ Q IZ h
  obtain ⟨f, b, h1, h2, h3, h4⟩ := h
  apply wpAny_Call_Name_kw
  refine thn ((pe_var (pos := p1) hN hv hd hcd).run pinsZ sZ τ HZ (fun v H1 => v = .ref f ∧ H1 = HZ) IZ ⟨_, h1, rfl, rfl⟩) fun u s1 hu => ?_
  obtain ⟨v, H1, J, rv, rfl, rfl⟩ := hu
  have eu : u = Value.ref f := rv
  subst eu
  obtain ⟨⟨pm, ctv, obj⟩, _⟩ := J.hok f _ h2
  obtain ⟨⟨oc, fs, t, c1, c2, c3⟩, _⟩ := J.hok b _ h3
  apply PySem.W.callWith_F0 ⟨_, _, _, _, obj⟩
  have un : Un (frs X.stack) [] H H1 s.heap s1.heap := J.base
  refine wpAny_call (codeAny_mono (R := CR (L2.CX X.prog X.w) (PyProof.Rows.envOfC qg sg s.heap.objs.size g cdg :: X.stack) X.prog X.w H1 s1 Q (WE W τ)) ?_ ?_)
  · apply PySem.W.kla_callFunE hr.depth obj rfl L.co L.gen rfl ⟨b, oc, fs, t, rfl, c1, c2, c3⟩
    show wpAny _ _ (bindArgs (PySem.W.kla_fn "<lambda>" (X.env.qual ++ "<lambda>") params body scope (cloFrom X.env.cells scope.names []) pm (.ref b) ctv) ⟨[], []⟩) _ _ _
    rw [hbind]
    refine wpAny_pure (wpAny_newFunctionEnv (fun y hy => (L.own y hy).2) (fun y hy => absurd hy (by simp)) (fun h₁ ns sb => ⟨J.nolimit.fresh _ sb, ?_⟩) L.kind)
    have kp : ∀ d o, s1.heap.get? d = some o → h₁.get? d = some o := fun d o e => sb.extBut d o (Nat.ne_of_lt (Heap.lt_size e)) (Heap.get?_push_of_some _ e)
    have J2 := LamX.lam_start2 (tk := s1.toks + ([] : List (Str × Value)).length) (E := WE W τ) (f := f) (c' := b) I L J.env0 hr.hd un ns kp
    refine PySem.W.kla_codeExpr (wpAny_mono ((hbody _ _ _ s1 H1 f b (hr.deeper _)).run [] _ σ H1 Q J2 h4) (fun u2 s2 hq => ?_) fun _ _ hq => hq)
    obtain ⟨w', H2, J3, rw', q⟩ := hq
    exact ⟨w', H2, J3.os, J3.bare, J3.base, J3.hok, rw', q⟩
  · rintro (e | fl) s2 hq
    · exact passAt tk τ pinsZ H1 s1 e s2 J hq
    · cases fl with
      | ret _ => exact J.after hq
      | _ => exact hq.elim
end
end Od
set_option Elab.async false
set_option linter.all false
set_option autoImplicit false
set_option maxRecDepth 100000
set_option maxHeartbeats 4000000
/-! R7: what _law_heard makes of a known lambda. -/
namespace Od
open PySem PySem.Spec L2
theorem e_c {x : V} {σ : L2.St} {H : Hp} {Q : VK} (h : Q x H) : tC x σ H Q := h
theorem e_nil {σ : L2.St} {H : Hp} {Q : List V → Hp → Prop} (h : Q [] H) : tNil σ H Q := h
abbrev s__law_heard : Stmt := topS 42
abbrev N__law_heard : List Str := ["_law_ask", "fault"]
theorem sc__law_heard : FnScope N__law_heard ["_law_ask"] (defScope s__law_heard) := ⟨rfl, rfl, rfl, by decide +kernel, rfl, by decide +kernel, by decide +kernel⟩
section
variable {X : Cx} {pins : List (Addr × Obj)} {σ : L2.St} {H : Hp} {s : Shared} {C fI O : Addr}
theorem heard_body {g : Addr} {cdg : Value} {params : Arguments} {body : Expr} {scope : Scope} {k : Nat} {tb : XK → TE} (B : Bl X.mg) (R : RefT X.prog X.K X.mg C fI O) (EC : ExcC X.K C) (hg : X.A.guards = some [])
    (I : Inv X pins σ H s) (L : LamX.LamS X.env.scope scope)
    (hbind : ∀ (pm ctv : Value) (b : Addr), bindArgs (PySem.W.kla_fn "<lambda>" (X.env.qual ++ "<lambda>") params body scope (cloFrom X.env.cells scope.names []) pm (.ref b) ctv) ⟨[], []⟩ = pure [])
    (hr : Room (k + 1) (X.A.deeper (PyProof.Rows.envOfC "_law_heard" (defScope s__law_heard) s.heap.objs.size g cdg)))
    (hbody : ∀ (E : XK) (A : Around) (outer : List Env) (s : Shared) (H : Hp) (f b : Addr), Room k (A.deeper (LamX.lamEnv X scope s.heap.objs.size f b)) → PE (LamX.lamCx X A outer s H E scope f b) body (tb E))
    (exm : PySem.W.exmOne X.K (.ref C) (.ref C) = some true) (kit : PySem.W.kitOne X.K (.ref C) (.ref O) = some true) {Q : VK} {f b : Addr} {d0 : PyData} {RR : Hp → Prop} (ok : ShOk d0)
    (h2 : H f = some (LamO (X.env.qual ++ "<lambda>") params body scope (cloFrom X.env.cells scope.names []) f b)) (h3 : H b = some (LamX.CodeO b (X.env.qual ++ "<lambda>")))
    (h4 : ∀ (E : XK) (Q' : VK), (∀ v dd H', H' dd = some (.xd [(("at" : Str), v)]) → Dp X.K H' v d0 → RR H' → E (.ref C) (some dd) H') → tb E σ H Q')
    (hQ : ∀ H' p, RR H' → H' p = none → Q (.ref p) (upd H' p (.tup [.str "refused", .str d0.shown, .bl true]))) :
    ∃ t, PSs (cxOf CX0 X.prog X.w X.K X.mg X.base N__law_heard "_law_heard" (defScope s__law_heard) g cdg X.A X.stack s H E0).nox (defBody s__law_heard) t ∧ t { nx := fun _ H' => Q .non H', rt := Q } (L2.start N__law_heard [.ref f]) H := by
  have nd := sc__law_heard.nd
  have hu : (X.A.deeper (PyProof.Rows.envOfC "_law_heard" (defScope s__law_heard) s.heap.objs.size g cdg)).units + 64 < cLine := hr.units
  refine ⟨_, pss_one (ps_try_as (i := 1) (c := .ref C) (Wout := fun _ _ _ _ => False) rfl rfl nd rfl rfl ⟨rfl, by decide, .inl R.gC⟩ LamX.takes0
    (tb := fun W => tRet (tTup (tCons (tC (.str "told")) (tCons (tCB (kRepr X.K) (tCons (fun τ HZ Q => ∃ (f b : Addr), τ[0]? = some (some (.ref f)) ∧ HZ f = some (LamO (X.env.qual ++ "<lambda>") params body scope (cloFrom X.env.cells scope.names []) f b) ∧ HZ b = some (LamX.CodeO b (X.env.qual ++ "<lambda>")) ∧ tb (WE W τ) σ HZ Q) tNil)) tNil))))
    (fun W pn xe tk _ => pss_one (ps_ret (pe_tup (pa_cons pe_str (pa_cons (pe_callB (id := "repr") (r := kRepr X.K) (by exact c_repr (by exact hg) (by exact hu)) (by rfl) B.repr (by decide +kernel) (pa_cons ?_ pa_nil)) pa_nil)))))
    (fun a oe cls d pn hz hf => pss_one (ps_ret (pe_tup (pa_cons pe_str (pa_cons (pe_callB (id := "repr") (r := kRepr X.K) (by exact c_repr (by exact hg) (by exact hu)) (by rfl) B.repr (by decide +kernel) (pa_cons (pe_atX R hz hf (pv 1)) pa_nil)) (pa_cons (pe_callB (call_isX EC hz hf) (by rfl) B.isi (by decide +kernel) (pa_cons (pv 1) (pa_cons (pe_glob (v := .ref O) (by rfl) R.gO rfl) pa_nil))) pa_nil))))))), ?_⟩
  · exact pe_actK (CXg := CX0) (Eg := E0) (i := 0) I L tk hbind hr rfl (.inl rfl) hbody
  · refine e_ret (e_tup (e_cons (e_c (e_cons (e_cb (e_cons ?_))))))
    refine ⟨f, b, rfl, h2, h3, h4 _ _ fun v dd H' hd dp rr => ?_⟩
    refine ⟨true, exm, fun _ a ha => ?_, fun z => nomatch z⟩
    refine e_ret (e_tup (e_cons (e_c (e_cons (e_cb (e_cons ?_))))))
    refine ⟨.ref a, rfl, rfl, rfl, dd, v, rfl, hd, ?_⟩
    refine ⟨d0, v, rfl, dp, ok, ?_⟩
    refine e_cons (e_cb (e_cons ?_))
    refine ⟨.ref a, rfl, e_cons (e_c (e_nil ?_))⟩
    refine ⟨.ref O, .ref O, true, dd, v, rfl, rfl, rfl, hd, fun u ru => ru, kit, ?_⟩
    exact ⟨by show 3 ≤ sizeLine; decide, fun p n => hQ H' p rr n⟩
end
end Od
set_option Elab.async false
set_option linter.all false
set_option autoImplicit false
set_option maxRecDepth 100000
set_option maxHeartbeats 4000000
/-! R8: _law_heard called from a block of the lambdas' maker. -/
namespace Od
open PySem PySem.Spec L2
section
variable {X : Cx} {pins : List (Addr × Obj)} {σ : L2.St} {H : Hp} {s : Shared} {C fI O : Addr}
/-- the def _law_heard stands -/
structure HeardT (K : PySem.W.Frag) (mg : Str → Option Value) (g : Addr) (fd : FuncData) : Prop where
  gm : mg "_law_heard" = some (.ref g)
  F : Fun K "_law_heard" "_law_heard" s__law_heard g fd
/-- the lambda's call is refused at d0, behind which RR holds -/
def Refuses (C : Addr) (K : PySem.W.Frag) (tb : XK → TE) (σ : L2.St) (H : Hp) (d0 : PyData) (RR : Hp → Prop) : Prop :=
  ∀ (E : XK) (Q' : VK), (∀ v dd H', H' dd = some (.xd [(("at" : Str), v)]) → Dp K H' v d0 → RR H' → E (.ref C) (some dd) H') → tb E σ H Q'
theorem heard_core {g : Addr} {fd : FuncData} {params : Arguments} {body : Expr} {scope : Scope} {k : Nat} {tb : XK → TE} (T : HeardT X.K X.mg g fd) (B : Bl X.mg) (R : RefT X.prog X.K X.mg C fI O) (EC : ExcC X.K C) (hg : X.A.guards = some [])
    (L : LamX.LamS X.env.scope scope)
    (hbind : ∀ (pm ctv : Value) (b : Addr), bindArgs (PySem.W.kla_fn "<lambda>" (X.env.qual ++ "<lambda>") params body scope (cloFrom X.env.cells scope.names []) pm (.ref b) ctv) ⟨[], []⟩ = pure [])
    (hr : Room (k + 2) X.A)
    (hbody : ∀ (E : XK) (A : Around) (outer : List Env) (s : Shared) (H : Hp) (f b : Addr), Room k (A.deeper (LamX.lamEnv X scope s.heap.objs.size f b)) → PE (LamX.lamCx X A outer s H E scope f b) body (tb E))
    (exm : PySem.W.exmOne X.K (.ref C) (.ref C) = some true) (kit : PySem.W.kitOne X.K (.ref C) (.ref O) = some true) {Q : VK} {f b : Addr} {d0 : PyData} {RR : Hp → Prop} (ok : ShOk d0) (J : Inv X pins σ H s)
    (h2 : H f = some (LamO (X.env.qual ++ "<lambda>") params body scope (cloFrom X.env.cells scope.names []) f b)) (h3 : H b = some (LamX.CodeO b (X.env.qual ++ "<lambda>")))
    (h4 : Refuses C X.K tb σ H d0 RR) (hQ : ∀ H' p, RR H' → H' p = none → Q (.ref p) (upd H' p (.tup [.str "refused", .str d0.shown, .bl true]))) :
    codeAny (model X.prog X.w) X.A (.call (.ref g) ⟨[.ref f], []⟩) (CR CX0 X.stack X.prog X.w H s Q E0) s := by
  have bd : Binds X.K fd ["_law_ask"] [] := T.F.binds (ps := ["_law_ask"]) fun _ _ _ _ _ _ us hl => match us, hl with | [_], _ => rfl
  obtain ⟨oc, od, kV, doc, pm, an, cdv, ct, osl, rfl, lk, hcd⟩ := T.F.ex
  refine LamX.run_ofS (N := N__law_heard) (ps := ["_law_ask"]) (us := [.ref f]) (vs := [.ref f]) lk hcd sc__law_heard hr J.env0 (bd s [.ref f] J.kIn rfl) (.cons rfl .nil) rfl fun hr' => ?_
  obtain ⟨t, ht, hq⟩ := heard_body (g := g) (cdg := cdv) B R EC hg J L hbind hr' hbody exm kit ok h2 h3 h4 hQ
  exact ⟨t, ht.nox, hq⟩
end
end Od
set_option Elab.async false
set_option linter.all false
set_option autoImplicit false
set_option maxRecDepth 100000
set_option maxHeartbeats 4000000
/-! R9: _law_heard(x), x a known lambda: in a block of its maker. -/
namespace Od
open PySem PySem.Spec L2
section
variable {X : Cx} {pins : List (Addr × Obj)} {σ : L2.St} {H : Hp} {s : Shared} {C fI O : Addr}
/-- a lambda's text -/
structure LamT where
  params : Arguments
  body : Expr
  scope : Scope
/-- .. made by X -/
abbrev LOX (X : Cx) (l : LamT) : Addr → Addr → HO := LamO (X.env.qual ++ "<lambda>") l.params l.body l.scope (cloFrom X.env.cells l.scope.names [])
/-- its call binds nothing -/
def NoArgs (X : Cx) (l : LamT) : Prop := ∀ (pm ctv : Value) (b : Addr), bindArgs (PySem.W.kla_fn "<lambda>" (X.env.qual ++ "<lambda>") l.params l.body l.scope (cloFrom X.env.cells l.scope.names []) pm (.ref b) ctv) ⟨[], []⟩ = pure []
/-- its body reads as tb -/
def Reads1 (X : Cx) (l : LamT) (k : Nat) (tb : XK → TE) : Prop := ∀ (E : XK) (A : Around) (outer : List Env) (s : Shared) (H : Hp) (f b : Addr), Room k (A.deeper (LamX.lamEnv X l.scope s.heap.objs.size f b)) → PE (LamX.lamCx X A outer s H E l.scope f b) l.body (tb E)
structure LamOk (X : Cx) (l : LamT) (k : Nat) (tb : XK → TE) : Prop where
  sc : LamX.LamS X.env.scope l.scope
  no : NoArgs X l
  rd : Reads1 X l k tb
variable {J : Type}
def tHeard (C : Addr) (K : PySem.W.Frag) (LO : J → Addr → Addr → HO) (q : Str) (tb : J → XK → TE) (σ : L2.St) (te : TE) : TE := fun τ H0 Q => te τ H0 fun v H1 => ∃ (j : J) (f b : Addr) (d0 : PyData) (RR : Hp → Prop), v = .ref f ∧ H1 f = some (LO j f b) ∧ H1 b = some (LamX.CodeO b q) ∧ ShOk d0 ∧ Refuses C K (tb j) σ H1 d0 RR ∧
  ∀ H' p, RR H' → H' p = none → Q (.ref p) (upd H' p (.tup [.str "refused", .str d0.shown, .bl true]))
theorem pe_heardB {g : Addr} {fd : FuncData} {ls : J → LamT} {bs : Scope} {cenv : Env} {fp : List Addr} {k : Nat} {tb : J → XK → TE} {e : Expr} {te : TE} {p pos : Pos} {H3 : Hp} {s3 : Shared} (I3 : Inv X pins σ H3 s3) (f3 : ∀ b ∈ fp, FpOk X pins H3 b)
    (T : HeardT X.K X.mg g fd) (B : Bl X.mg) (R : RefT X.prog X.K X.mg C fI O) (EC : ExcC X.K C) (hg : X.A.guards = some []) (L : ∀ j, LamOk X (ls j) k (tb j)) (hr : Room (k + 2) X.A)
    (exm : PySem.W.exmOne X.K (.ref C) (.ref C) = some true) (kit : PySem.W.kitOne X.K (.ref C) (.ref O) = some true)
    (he : PE (X.blk s3 H3 bs cenv fp) e te) (hgl : Gl (X.blk s3 H3 bs cenv fp) "_law_heard") (hst : starEach [e] cenv = (false, eval e cenv) :: starEach [] cenv := by rfl) (hpl : (backTo pos (starEach [] cenv)).any (·.1) = false := by rfl) :
    PE (X.blk s3 H3 bs cenv fp) (.Call (.Name "_law_heard" p) [e] [] pos) (tHeard C X.K (fun j => LOX X (ls j)) (X.env.qual ++ "<lambda>") tb σ te) := by
  constructor
  intro pinsB sB τ H0 Q IB h
  apply wpAny_Call_Name_kw
  refine ld_glob IB hgl T.gm ?_ (by decide)
  apply PySem.W.callWith_K (h₀ := X.base) IB.ok.mod.kin T.F.kp _ hst hpl
  rw [hst]
  refine Calls.spliced_cons (thn (he.run pinsB sB τ H0 _ IB h) fun u s1 hz => ?_)
  obtain ⟨v, H1, I1, rv, j, f, b, d0, RR, rfl, h2, h3, ok, h4, hQ⟩ := hz
  have eu : u = Value.ref f := rv
  subst eu
  refine Calls.spliced_nil ⟨I1.kIn, ?_⟩
  have J0 : Inv X pins σ H1 s1 := I3.call' (ch := fp) I1.os I1.base I1.hok I1.bare fun d hd => ⟨(f3 d hd).2.2.2.1, (f3 d hd).2.1, (f3 d hd).2.2.2.2.1, (f3 d hd).2.2.2.2.2⟩
  refine wpAny_call (codeAny_mono (heard_core (Q := Q) T B R EC hg (L j).sc (L j).no hr (L j).rd exm kit ok J0 h2 h3 h4 hQ) ?_)
  rintro (e2 | fl) s2 hq
  · exact hq.elim
  · cases fl with
    | ret _ => exact I1.after hq
    | _ => exact hq.elim
end
end Od
set_option Elab.async false
set_option linter.all false
set_option autoImplicit false
set_option maxRecDepth 100000
set_option maxHeartbeats 4000000
/-! R10: a list comprehension whose test may lean on the state of the def around it. -/
namespace Od
open PySem PySem.Spec L2 PyProof.Rows
section
variable {X : Cx}
theorem blk_own {pins : List (Addr × Obj)} {s3 : Shared} {σ : L2.St} {H3 : Hp} {Q : VK} {elt tg iter : Expr} {ifs : List Expr} {scope : Scope} {own : List (Str × Nat)} {pos : Pos} {g : TG} {tt : TT} {te : TE} {use : Option (Value → Sem Unit)} {Qf : Value → Shared → Prop} {D it : Addr} {fp : List Addr} {J : It} {tn : Nat → Heap → Prop} {W : Nat → Nat → Hp → Prop} {m0 : Nat}
    (calm : X.calm = true) (nd : X.N.Nodup) (I3 : Inv X pins σ H3 s3) (ok : BlkOk X.N X.env.scope scope own) (T : Turn X.prog X.w X.K tg J fp it tn) (f3 : ∀ b ∈ fp, FpOk X pins H3 b) (b3 : ∀ b ∈ fp, b < s3.heap.objs.size) (st3 : tn 0 s3.heap)
    (tgt : ∀ (s : Shared) (H : Hp) (C : Addr) (cl : List (Str × Addr)) (fp : List Addr), PG (X.blk s H scope (compEnvC scope cl C X.env) fp) tg g)
    (tst : ∀ (s : Shared) (H : Hp) (C : Addr) (cl : List (Str × Addr)) (fp : List Addr), Inv X pins σ H s → (∀ b ∈ fp, FpOk X pins H b) → PTs (X.blk s H scope (compEnvC scope cl C X.env) fp) ifs tt)
    (itm : ∀ (s : Shared) (H : Hp) (C : Addr) (cl : List (Str × Addr)) (fp : List Addr), PE (X.blk s H scope (compEnvC scope cl C X.env) fp) elt te) (w0 : W 0 m0 H3)
    (turn : ∀ i m H, W i m H → (J.stop i H ∧ Q (.ref D) H) ∨ (J.go i H ∧ ∃ Nx : Hp → Prop, (∀ H', Nx H' → ∃ m', m' < m ∧ W (i + 1) m' H') ∧ ∀ x H', J.yld i H x H' → g x (L2.wipe σ (own.map (·.2))) H' fun σ2 H2 => L2.wipe σ2 (own.map (·.2)) = L2.wipe σ (own.map (·.2)) ∧ tt σ2 H2 fun b H3 =>
      if b = true then te σ2 H3 fun y H4 => ∃ acc, H4 D = some (.lst acc) ∧ acc.length < sizeLine ∧ Nx (upd H4 D (.lst (acc ++ [y]))) else Nx H3))
    (out : ∀ D C s' m H', Inv X pins σ H' s' → Q (.ref D) H' → s'.heap.Ns C m → FpOk X pins H' C → compPost (model X.prog X.w) X.A X.xe use Qf (.ref D) C (.ok .next) s') :
    codeAny (model X.prog X.w) X.A (.compStart (.ListComp elt [⟨tg, iter, ifs, 0⟩] scope pos) 0 (.ref it) (.ref D) (compEnvC scope (cellsFrom (s3.heap.objs.size + 1) scope.names (cloFrom X.env.cells scope.names [])) s3.heap.objs.size X.env)) (compPost (model X.prog X.w) X.A X.xe use Qf (.ref D) s3.heap.objs.size)
      { s3 with heap := pushCells (s3.heap.push { cls := .type "dict", data := .dict #[] }) scope.names } := by
  have I4 := block_start I3 ok nd fun b hb => ⟨f3 b hb, b3 b hb⟩
  have pg := tgt s3 H3 s3.heap.objs.size (cellsFrom (s3.heap.objs.size + 1) scope.names (cloFrom X.env.cells scope.names [])) fp
  have pt := tst s3 H3 s3.heap.objs.size (cellsFrom (s3.heap.objs.size + 1) scope.names (cloFrom X.env.cells scope.names [])) fp I3 f3
  have px := itm s3 H3 s3.heap.objs.size (cellsFrom (s3.heap.objs.size + 1) scope.names (cloFrom X.env.cells scope.names [])) fp
  generalize hce : compEnvC scope (cellsFrom (s3.heap.objs.size + 1) scope.names (cloFrom X.env.cells scope.names [])) s3.heap.objs.size X.env = ce at I4 pg pt px ⊢
  have loc : ce.locals = s3.heap.objs.size := by rw [← hce]; rfl
  have st4 : tn 0 (pushCells (s3.heap.push { cls := .type "dict", data := .dict #[] }) scope.names) := T.keep _ _ _ st3 fun b _ o e => pushCells_keeps _ _ _ _ (Heap.get?_push_of_some _ e)
  generalize hs4 : ({ s3 with heap := pushCells (s3.heap.push { cls := .type "dict", data := .dict #[] }) scope.names } : Shared) = s4 at I4 ⊢
  have st5 : tn 0 s4.heap := by rw [← hs4]; exact st4
  have quiet : ∀ {τ : L2.St} {H' : Hp} {s' : Shared}, Inv (X.blk s3 H3 scope ce fp) [] τ H' s' → (∀ b ∈ fp, H' b = none) → ∀ b ∈ fp, FpOk (X.blk s3 H3 scope ce fp) [] H' b := fun {τ H' s'} J hn b hb =>
    ⟨hn b hb, (J.ok.exf b hb).1, J.ok.exfs b hb, .inl hb, (J.ok.exf b hb).2, fun p hp => absurd (show p ∈ ([] : List (Addr × Obj)) ++ [] from hp) (by simp)⟩
  have loop : codeAny (model X.prog X.w) X.A (.compLoop (.ListComp elt [⟨tg, iter, ifs, 0⟩] scope pos) 0 (.ref it) (.ref D) ce) (compPost (model X.prog X.w) X.A X.xe use Qf (.ref D) s3.heap.objs.size) s4 := by
    refine compLoop_any (fun n s' => ∃ i H', W i n H' ∧ (∀ b ∈ fp, H' b = none) ∧ tn i s'.heap ∧ Inv (X.blk s3 H3 scope ce fp) [] (L2.wipe σ (own.map (·.2))) H' s') ?_ m0 ⟨0, H3, w0, fun b hb => (f3 b hb).1, st5, I4⟩
    rintro n s5 ⟨i, H5, w5, n5, t5, I5⟩
    rcases turn i n H5 w5 with ⟨stop, qq⟩ | ⟨go, Nx, hNx, step⟩
    · refine thnF (T.done (X.blk s3 H3 scope ce fp) rfl rfl rfl calm i [] s5 _ H5 (fun _ _ => False) I5 (quiet I5 n5) t5 stop) fun r s6 hr => ?_
      obtain ⟨rfl, I6⟩ := hr
      have back : Inv X pins σ H5 s6 := I3.call' (ch := fp) I6.os I6.base I6.hok I6.bare fun d hd => ⟨(f3 d hd).2.2.2.1, (f3 d hd).2.1, (f3 d hd).2.2.2.2.1, (f3 d hd).2.2.2.2.2⟩
      have nC : H5 s3.heap.objs.size = none := by
        have := I6.free
        rwa [show (X.blk s3 H3 scope ce fp).env.locals = s3.heap.objs.size from loc] at this
      obtain ⟨m, hn, _⟩ := I6.loc
      rw [show (X.blk s3 H3 scope ce fp).env.locals = s3.heap.objs.size from loc] at hn
      exact out D _ s6 m H5 back qq hn (I3.fpOk (Nat.le_refl _) nC)
    · refine thnF (T.item (X.blk s3 H3 scope ce fp) rfl rfl rfl calm i [] s5 _ H5 (fun _ _ => False) I5 (quiet I5 n5) t5 go) fun r s6 hr => ?_
      obtain ⟨u, rfl, h6⟩ := hr
      refine thnF h6 fun _ s7 h7 => ?_
      obtain ⟨x, H7, I7, r7, y7, t7, n7⟩ := h7
      refine thnF (pg.run _ s7 _ H7 x u _ (I7.pinned (quiet I7 n7) (T.obj _ _ t7)) r7 (step x H7 y7)) fun _ s8 h8 => ?_
      obtain ⟨τ, H8, I8, hw8, q8⟩ := h8
      have fin : ∀ {s' : Shared} {H' : Hp}, Inv (X.blk s3 H3 scope ce fp) ([] ++ pinsAt fp s7.heap) τ H' s' → Nx H' → ∃ m, m < n ∧ ∃ i H', W i m H' ∧ (∀ b ∈ fp, H' b = none) ∧ tn i s'.heap ∧ Inv (X.blk s3 H3 scope ce fp) [] (L2.wipe σ (own.map (·.2))) H' s' := fun {s' H'} K' nx => by
        obtain ⟨m', hm, w'⟩ := hNx H' nx
        have pinned : ∀ b ∈ fp, ∀ o, s7.heap.get? b = some o → s'.heap.get? b = some o ∧ H' b = none := fun b hb o e => by
          have z := K'.pin (b, o) (List.mem_append_right _ (List.mem_append_right _ (mem_pinsAt hb e)))
          exact ⟨z.1, z.2.1⟩
        refine ⟨m', hm, i + 1, H', w', fun b hb => ?_, T.keep _ _ _ t7 fun b hb o e => (pinned b hb o e).1, (K'.unpinned (pins := [])).weak (by rw [← hw8, L2.wipe_length]) fun j v e => ?_⟩
        · obtain ⟨o, e, _⟩ := T.obj _ _ t7 b hb
          exact (pinned b hb o e).2
        · rw [← hw8] at e
          exact (wipe_some e).1
      refine thnF (pt.run _ s8 τ H8 _ I8 q8) fun bb s9 h9 => ?_
      obtain ⟨H9, I9, q9⟩ := h9
      cases bb with
      | false => exact (by simpa only [Bool.false_eq_true, if_false] using fin I9 (by simpa only [Bool.false_eq_true, if_false] using q9))
      | true =>
        simp only [if_true] at q9 ⊢
        refine thnF (px.run _ s9 τ H9 _ I9 q9) fun z s10 h10 => ?_
        obtain ⟨y, Ha, Ia, ra, acc, hD, hz, nx⟩ := h10
        exact app_ok (X := X.blk s3 H3 scope ce fp) Ia hD hz ra fun s11 Ib => fin Ib nx
  exact codeAny_compStart_list loop (T.self X.A 0 _ _ _ st5 loop)
theorem lc_own {pins : List (Addr × Obj)} {s : Shared} {σ : L2.St} {H : Hp} {Q : VK} {elt tg iter : Expr} {ifs : List Expr} {scope : Scope} {own : List (Str × Nat)} {pos pos' : Pos} {wi : TI} {g : TG} {tt : TT} {te : TE} {use : Option (Value → Sem Unit)} {Qf : Value → Shared → Prop}
    (calm : X.calm = true) (nd : X.N.Nodup) (I : Inv X pins σ H s) (over : PI X tg iter wi) (ok : BlkOk X.N X.env.scope scope own)
    (tgt : ∀ (s : Shared) (H : Hp) (C : Addr) (cl : List (Str × Addr)) (fp : List Addr), PG (X.blk s H scope (compEnvC scope cl C X.env) fp) tg g)
    (tst : ∀ (s : Shared) (H : Hp) (C : Addr) (cl : List (Str × Addr)) (fp : List Addr), Inv X pins σ H s → (∀ b ∈ fp, FpOk X pins H b) → PTs (X.blk s H scope (compEnvC scope cl C X.env) fp) ifs tt)
    (itm : ∀ (s : Shared) (H : Hp) (C : Addr) (cl : List (Str × Addr)) (fp : List Addr), PE (X.blk s H scope (compEnvC scope cl C X.env) fp) elt te) (fold : ∀ x, foldedSetIterable iter X.env x = pure x)
    (h : tLc wi g tt te (own.map (·.2)) σ H Q)
    (out : ∀ D C s' m H', Inv X pins σ H' s' → Q (.ref D) H' → s'.heap.Ns C m → FpOk X pins H' C → compPost (model X.prog X.w) X.A X.xe use Qf (.ref D) C (.ok .next) s') :
    wpAny (model X.prog X.w) X.A (comprehension (.ListComp elt [⟨tg, iter, ifs, 0⟩] scope pos) scope X.env pos' (newList []) false (eval iter X.env) use) Qf X.xe s := by
  have clo : ∀ y ∈ scope.names, y.2 = .free → ∃ c, X.env.cells.lookup y.1 = some c := fun y hy e => I.ok.has _ (ok.free y hy e)
  apply wpAny_comprehension_free (use := use) rfl fold (closure_ok clo) ok.kind fun y hy e => by rw [ok.uniq y hy, e]
  refine thn (over.run pins s σ H _ I h) fun xv s1 hx => thn hx fun itv s2 h2 => ?_
  obtain ⟨it, fp, tn, J, H2, e, I2, T, st2, f2, q⟩ := h2
  subst e
  refine wpAny_newObj_type (newEnv_comp ?_) (by show 0 ≤ sizeLine; decide)
  have fresh : H2 s2.heap.objs.size = none := I2.hok.fresh (Nat.le_refl _)
  obtain ⟨W, ⟨m0, w0⟩, turn⟩ := q _ fresh
  have lt2 : ∀ b ∈ fp, b < s2.heap.objs.size := fun b hb => by
    obtain ⟨o, e, _⟩ := T.obj _ _ st2 b hb
    exact Heap.lt_size e
  have I3 : Inv X pins σ (upd H2 s2.heap.objs.size (.lst [])) { s2 with heap := s2.heap.push { cls := .type "list", data := .seq ([] : List Value).toArray } } :=
    I2.laid (t' := s2.toks) (fun b o e => Heap.get?_push_of_some _ e) (Nat.le_refl _) ⟨Nat.zero_le _, [], 0, .nil, Heap.get?_push_size _ rfl⟩
  have f3 : ∀ b ∈ fp, FpOk X pins (upd H2 s2.heap.objs.size (.lst [])) b := fun b hb => ⟨by rw [upd_ne (Nat.ne_of_lt (lt2 b hb))]; exact (f2 b hb).1, (f2 b hb).2⟩
  have st3 : tn 0 (s2.heap.push { cls := .type "list", data := .seq ([] : List Value).toArray }) := T.keep _ _ _ st2 fun b _ o e => Heap.get?_push_of_some _ e
  have b3 : ∀ b ∈ fp, b < (s2.heap.push { cls := .type "list", data := .seq ([] : List Value).toArray }).objs.size := fun b hb => by
    rw [Heap.size_push]
    exact Nat.lt_succ_of_lt (lt2 b hb)
  exact blk_own (s3 := { s2 with heap := s2.heap.push { cls := .type "list", data := .seq ([] : List Value).toArray } }) calm nd I3 ok T f3 b3 st3 tgt tst itm w0 turn out
end
end Od
set_option Elab.async false
set_option linter.all false
set_option autoImplicit false
set_option maxRecDepth 100000
set_option maxHeartbeats 4000000
/-! R11: the comprehension as a value. -/
namespace Od
open PySem PySem.Spec L2 PyProof.Rows
section
variable {X : Cx}
def tLcO (wi : TI) (g : TG) (tt : L2.St → TT) (te : TE) (vs : List Nat) : TE := fun σ H Q => tLc wi g (tt σ) te vs σ H Q
theorem pe_lcO {elt tg iter : Expr} {ifs : List Expr} {scope : Scope} {own : List (Str × Nat)} {pos : Pos} {wi : TI} {g : TG} {tt : L2.St → TT} {te : TE} (nd : X.N.Nodup) (over : PI X tg iter wi) (ok : BlkOk X.N X.env.scope scope own)
    (tgt : ∀ (s : Shared) (H : Hp) (C : Addr) (cl : List (Str × Addr)) (fp : List Addr), PG (X.blk s H scope (compEnvC scope cl C X.env) fp) tg g)
    (tst : ∀ (pins : List (Addr × Obj)) (σ : L2.St) (s : Shared) (H : Hp) (C : Addr) (cl : List (Str × Addr)) (fp : List Addr), Inv X pins σ H s → (∀ b ∈ fp, FpOk X pins H b) → PTs (X.blk s H scope (compEnvC scope cl C X.env) fp) ifs (tt σ))
    (itm : ∀ (s : Shared) (H : Hp) (C : Addr) (cl : List (Str × Addr)) (fp : List Addr), PE (X.blk s H scope (compEnvC scope cl C X.env) fp) elt te) (calm : X.calm = true := by rfl) (fold : ∀ x, foldedSetIterable iter X.env x = pure x := by intro _; rfl) :
    PE X (.ListComp elt [⟨tg, iter, ifs, 0⟩] scope pos) (tLcO wi g tt te (own.map (·.2))) := by
  constructor
  intro pins s σ H Q I h
  rw [eval_ListComp]
  refine lc_own calm nd I over ok tgt (fun s H C cl fp => tst pins σ s H C cl fp) itm fold h fun D C s' m H' J q hn f => ⟨m, hn, fun h2 sb => ?_⟩
  exact ⟨.ref D, H', J.turned (t' := s'.toks) (fun b o hb e => (sb.2 b hb).trans e) f.1 f.2.1 f.2.2.2.1 f.2.2.2.2.1 f.2.2.2.2.2, rfl, q⟩
end
end Od
set_option Elab.async false
set_option linter.all false
set_option autoImplicit false
set_option maxRecDepth 100000
set_option maxHeartbeats 4000000
/-! R13: a lambda made, in the data layer. -/
namespace Od
open PySem PySem.Spec L2
/-- an own object of S is written -/
theorem Ev.writ {P : Addr} {G H : Hp} {u u' : HO} (e : Same G H) (n : G P = none) (hu : H P = some u) : Ev [P] G H G (upd H P u') where
  gg := .refl _
  gh := fun b o h => by rw [upd_ne (ne_of_none h n)]; exact e _ _ h
  old := fun b o h => rfl
  keep := fun b o h hb => by
    rw [upd_ne fun z => hb (by rw [z]; exact List.mem_singleton_self _)]
    exact h
  dom := fun b o h => by
    by_cases z : b = P
    · rw [z]
      exact ⟨_, upd_same⟩
    · exact ⟨o, by rw [upd_ne z]; exact h⟩
theorem at_lamb {δ : List Sl} {M : Mem} {LO : Addr → Addr → HO} {q : Str} {c : Ct} {G H : Hp} {σ : L2.St} {P : Addr} {Q : VK} (A : At c δ M G H σ) (hm : (P, MO.tab q) ∈ M)
    (k : ∀ f b G' H', At c δ M G' H' σ → Same G G' → G' f = some (LO f b) → G' b = some (LamX.CodeO b q) → Q (.ref f) H') : tLamb P q LO σ H Q := by
  obtain ⟨hg, hro, u, hu, ps, rfl, h1, h2⟩ := A.mem P _ hm
  refine ⟨ps, hu, ⟨h1, fun pos cv hc => ?_⟩, fun f b hf nfb nfP => ⟨fun p2 hc => ?_, fun more hb tri old => ?_⟩⟩
  · obtain ⟨d, e1, e2⟩ := h2 pos cv hc
    exact ⟨d, e1, A.gh _ _ e2⟩
  · obtain ⟨d, e1, e2⟩ := h2 p2 _ hc
    cases e1
    have ev := Ev.new (S := []) (o := LO f b) A.gh hf
    exact k f b _ _ (A.ext ev) ev.gg upd_same (ev.gg _ _ e2)
  · have bP : b ≠ P := fun z => by rw [z, hu] at hb; cases hb
    have e1 := Ev.writ (u' := .tbl (ps ++ more)) A.gh hg hu
    have e2 := Ev.new (S := [P]) (o := LamX.CodeO b q) e1.gh (by rw [upd_ne bP]; exact hb : upd H P (.tbl (ps ++ more)) b = none)
    have e3 := Ev.new (S := [P]) (o := LO f b) e2.gh (by rw [upd_ne nfb, upd_ne nfP]; exact hf : upd (upd H P (.tbl (ps ++ more))) b (LamX.CodeO b q) f = none)
    have ev := (e1.trans e2).trans e3
    have gb : upd (upd G b (LamX.CodeO b q)) f (LO f b) b = some (LamX.CodeO b q) := by rw [upd_ne (Ne.symm nfb)]; exact upd_same
    refine k f b _ _ (A.extM ev (fun a ha => ?_) rfl fun a o ho => ?_) ev.gg upd_same gb
    · rw [List.mem_singleton.mp ha]
      exact ⟨_, hm, rfl⟩
    · by_cases e : a = P
      · subst e
        have := mem_val A.nd ho hm
        subst this
        refine .inr ⟨List.mem_singleton_self _, .tbl (ps ++ more), by rw [upd_ne (Ne.symm nfP), upd_ne (Ne.symm bP)]; exact upd_same, _, rfl, tri, fun pos cv hc => ?_⟩
        rcases old pos cv hc with z | z
        · obtain ⟨d, q1, q2⟩ := h2 pos cv z
          exact ⟨d, q1, ev.gg _ _ q2⟩
        · exact ⟨b, z, gb⟩
      · exact .inl ⟨fun z => e (List.mem_singleton.mp z), ho⟩
/-- the same state, another frame -/
theorem At.swap {c : Ct} {δ δ' : List Sl} {M : Mem} {G H G' H' : Hp} {σ τ : L2.St} (A : At c δ M G' H' σ) (B : At c δ' M G H τ) (e : Same G G') : At c δ' M G' H' τ :=
  ⟨A.ev, A.lo, B.len, fun i s h => (B.sl i s h).up e, A.mem, A.nd, A.sdom⟩
end Od
set_option Elab.async false
set_option linter.all false
set_option autoImplicit false
set_option maxRecDepth 100000
set_option maxHeartbeats 4000000
/-! R14: _law_heard(x), x a known lambda: in its maker itself. -/
namespace Od
open PySem PySem.Spec L2
section
variable {X : Cx} {C fI O : Addr}
theorem pe_heardX {g : Addr} {fd : FuncData} {J : Type} {ls : J → LamT} {k : Nat} {tb : J → XK → TE} {e : Expr} {te : TE} {p pos : Pos}
    (T : HeardT X.K X.mg g fd) (B : Bl X.mg) (R : RefT X.prog X.K X.mg C fI O) (EC : ExcC X.K C) (hg : X.A.guards = some []) (L : ∀ j, LamOk X (ls j) k (tb j)) (hr : Room (k + 2) X.A)
    (exm : PySem.W.exmOne X.K (.ref C) (.ref C) = some true) (kit : PySem.W.kitOne X.K (.ref C) (.ref O) = some true)
    (he : PE X e te) (hgl : Gl X "_law_heard" := by rfl) (hst : starEach [e] X.env = (false, eval e X.env) :: starEach [] X.env := by rfl) (hpl : (backTo pos (starEach [] X.env)).any (·.1) = false := by rfl) :
    PE X (.Call (.Name "_law_heard" p) [e] [] pos) (fun σ => tHeard C X.K (fun j => LOX X (ls j)) (X.env.qual ++ "<lambda>") tb σ te σ) := by
  constructor
  intro pins s σ H Q I h
  apply wpAny_Call_Name_kw
  refine ld_glob I hgl T.gm ?_ (by decide)
  apply PySem.W.callWith_K (h₀ := X.base) I.ok.mod.kin T.F.kp _ hst hpl
  rw [hst]
  refine Calls.spliced_cons (thn (he.run pins s σ H _ I h) fun u s1 hz => ?_)
  obtain ⟨v, H1, I1, rv, j, f, b, d0, RR, rfl, h2, h3, ok, h4, hQ⟩ := hz
  have eu : u = Value.ref f := rv
  subst eu
  refine Calls.spliced_nil ⟨I1.kIn, ?_⟩
  refine wpAny_call (codeAny_mono (heard_core (Q := Q) T B R EC hg (L j).sc (L j).no hr (L j).rd exm kit ok I1 h2 h3 h4 hQ) ?_)
  rintro (e2 | fl) s2 hq
  · exact hq.elim
  · cases fl with
    | ret _ => exact I1.after hq
    | _ => exact hq.elim
end
section
variable {δ δ' : List Sl} {M : Mem} {K : PySem.W.Frag} {C : Addr} {J : Type} {LO : J → Addr → Addr → HO} {q : Str} {tb : J → XK → TE} {σ : L2.St}
/-- what a lambda's call refuses, in the data layer: at the maker's slots δ' -/
def Rfs (δ : List Sl) (M : Mem) (C : Addr) (tb : XK → TE) (d0 : PyData) : Prop := ∀ (c : Ct) (G H : Hp) (σ : L2.St) (E : XK) (Q : VK), At c δ M G H σ → (∀ v dd G' H', At c δ M G' H' σ → Same G G' → Rep G' v d0 → H' dd = some (.xd [(("at" : Str), v)]) → E (.ref C) (some dd) H') → tb E σ H Q
theorem rfs_call {dom : List PyData → Prop} {f : List PyData → Except PyData PyData} {t : TA} {ds : List PyData} {d0 : PyData} (h : Ga δ M t ds) (hd : dom ds) (hf : f ds = .error d0) : Rfs δ M C (fun E => tCall (spX C dom f) [] E t) d0 := fun c G H σ E Q A k =>
  h c G H σ _ A fun G1 H1 vs A1 s1 r1 => by
    rw [List.append_nil]
    refine ⟨G1, ds, A1.gh, r1, hd, (fun d' e' => ?_), fun d' e' G' H' v dx ev r hx => ?_⟩
    · rw [hf] at e'
      cases e'
    · rw [hf] at e'
      cases e'
      exact k v dx G' H' (A1.ext ev) (s1.trans ev.gg) r hx
/-- heard of a lambda that te gives -/
theorem at_heardT {c : Ct} {G H : Hp} {τ : L2.St} {te : TE} {d0 : PyData} {Q : VK} (A : At c δ M G H τ) (hA : ∀ G' H', At c δ M G' H' τ → Same G G' → At c δ' M G' H' σ) (ok : ShOk d0) (hR : ∀ j, Rfs δ' M C (tb j) d0)
    (ht : ∀ (Q' : VK), (∀ j f b G' H', At c δ M G' H' τ → Same G G' → G' f = some (LO j f b) → G' b = some (LamX.CodeO b q) → Q' (.ref f) H') → te τ H Q')
    (k : ∀ G' H' v, At c δ M G' H' τ → Same G G' → Rep G' v (.tuple [.str "refused", .str d0.shown, .bool true]) → Q v H') : tHeard C K LO q tb σ te τ H Q := by
  refine ht _ fun j f b G1 H1 A1 s1 h2 h3 => ⟨j, f, b, d0, fun H' => ∃ G', At c δ M G' H' τ ∧ Same G G', rfl, A1.gh _ _ h2, A1.gh _ _ h3, ok, fun E Q' hE => ?_, fun H' p hR n => ?_⟩
  · refine hR j c G1 H1 σ E Q' (hA G1 H1 A1 s1) fun v dd G' H' A' s' r hd => hE v dd H' hd (r.dp A'.gh) ⟨G', A'.swap A1 s', s1.trans s'⟩
  · obtain ⟨G', A', s'⟩ := hR
    obtain ⟨A2, s2, r2⟩ := at_newT (ds := [.str "refused", .str d0.shown, .bool true]) A' n (by show 3 ≤ 100000; decide) (.cons (.str _) (.cons (.str _) (.cons (.bl _) .nil)))
    exact k _ _ _ A2 (s'.trans s2) r2
end
end Od
set_option Elab.async false
set_option linter.all false
set_option autoImplicit false
set_option maxRecDepth 100000
set_option maxHeartbeats 4000000
/-! R15: lists of known lambdas; all that is heard of them. -/
namespace Od
open PySem PySem.Spec L2
/-! ### the signs of what is shown -/
theorem sk_app (x y : Str) : PyData.strOk (x ++ y) = (PyData.strOk x && PyData.strOk y) := by
  show Array.all (x.cps ++ y.cps) _ = _
  rw [Array.all_append]
  rfl
theorem sk_of (s : String) : PyData.strOk (Str.ofString s) = true := by
  rw [Str.ofString_eq_toList]
  unfold PyData.strOk
  rw [Array.all_eq_true']
  intro c hc
  obtain ⟨ch, _, rfl⟩ := List.mem_map.mp (List.mem_toArray.mp hc)
  have h : Nat.isValidChar ch.toNat := ch.valid
  rcases h with h | h
  · exact decide_eq_true (by omega)
  · exact decide_eq_true h.2
theorem sk_from : ∀ (ts : List Str) (k : Nat) (acc : Str), PyData.strOk acc = true → (∀ t ∈ ts, PyData.strOk t = true) → PyData.strOk (textFrom k acc ts) = true
  | [], _, _, h, _ => h
  | t :: ts, k, acc, h, hs => by
    refine sk_from ts (k + 1) _ ?_ fun u hu => hs u (List.mem_cons_of_mem _ hu)
    rw [sk_app, sk_app, h, hs t (List.mem_cons_self ..), sk_of]
    rfl
theorem sk_join : ∀ (ts : List Str), (∀ t ∈ ts, PyData.strOk t = true) → PyData.strOk (Str.join ", " ts) = true
  | [], _ => sk_of ""
  | [x], h => h x (List.mem_cons_self ..)
  | x :: y :: r, h => by
    have ih := sk_join (y :: r) fun t ht => h t (List.mem_cons_of_mem _ ht)
    show PyData.strOk (x ++ ", " ++ Str.join ", " (y :: r)) = true
    rw [sk_app, sk_app, h x (List.mem_cons_self ..), ih]
    rw [show PyData.strOk ((", " : String) : Str) = true from sk_of _]
    rfl
mutual
/-- no texts, no dicts -/
def plainD : PyData → Bool
  | .none | .bool _ | .int _ => true
  | .list xs | .tuple xs => plainAll xs
  | .str _ | .dict _ => false
def plainAll : List PyData → Bool
  | [] => true
  | x :: xs => plainD x && plainAll xs
end
mutual
theorem sk_shown : ∀ d : PyData, plainD d = true → PyData.strOk d.shown = true
  | .none, _ => sk_of _
  | .bool b, _ => by cases b <;> exact sk_of _
  | .int i, _ => sk_of _
  | .str x, h => by cases h
  | .list xs, h => by
    show PyData.strOk (textFrom 0 "[" (PyData.shownAll xs) ++ "]") = true
    rw [sk_app, sk_from _ _ _ (sk_of _) (sk_all xs h), show PyData.strOk (("]" : String) : Str) = true from sk_of _]
    rfl
  | .tuple xs, h => by
    show PyData.strOk (("(" : Str) ++ Str.join ", " (PyData.shownAll xs) ++ (if (PyData.shownAll xs).length == 1 then ",)" else ")" : String)) = true
    rw [sk_app, sk_app, sk_join _ (sk_all xs h), sk_of, sk_of]
    rfl
  | .dict _, h => by cases h
theorem sk_all : ∀ xs : List PyData, plainAll xs = true → ∀ t ∈ PyData.shownAll xs, PyData.strOk t = true
  | [], _, t, ht => by cases ht
  | x :: xs, h, t, ht => by
    obtain ⟨h1, h2⟩ := Bool.and_eq_true_iff.mp (show (plainD x && plainAll xs) = true from h)
    rcases List.mem_cons.mp (show t ∈ x.shown :: PyData.shownAll xs from ht) with rfl | ht
    · exact sk_shown x h1
    · exact sk_all xs h2 t ht
end
/-- what is refused, as told -/
abbrev toldD (d0 : PyData) : PyData := .tuple [.str "refused", .str d0.shown, .bool true]
theorem told_shaped {d0 : PyData} (h : PyData.strOk d0.shown = true) : SeqAt.shaped (toldD d0) = true := by
  unfold SeqAt.shaped
  have h2 : PyData.strOk ((("refused" : String) : Str)) = true := sk_of _
  simp [PyData.canLay0, PyData.canLayAll0, PyData.depth, PyData.depthAll, h, h2]
theorem told_eqv (d0 : PyData) : PyData.eqv (toldD d0) (toldD d0) = true := by
  simp [PyData.eqv, PyData.eqvAll]
/-- an expression gives a known lambda -/
def Gm (δ : List Sl) (M : Mem) (t : TE) (LO : Addr → Addr → HO) (q : Str) : Prop := ∀ (c : Ct) (G H : Hp) (σ : L2.St) (Q : VK), At c δ M G H σ → (∀ f b G' H', At c δ M G' H' σ → Same G G' → G' f = some (LO f b) → G' b = some (LamX.CodeO b q) → Q (.ref f) H') → t σ H Q
section
variable {c : Ct} {δ δ' : List Sl} {M : Mem} {K : PySem.W.Frag} {C P p : Addr} {J : Type} {q : Str} {σ : L2.St} {G H : Hp} {te : TE} {D : Ends} {w : TS} {i k : Nat}
theorem gm_lamb {LO : Addr → Addr → HO} (hm : (P, MO.tab q) ∈ M) : Gm δ M (tLamb P q LO) LO q := fun c G H σ Q A k => at_lamb A hm k
/-- xs = [lambda: ..] -/
theorem s_ask {LO : Addr → Addr → HO} (A : At c δ M G H σ) (g : Gm δ M te LO q) (kk : ∀ f b a G' H' σ', c.H0 a = none → Same G G' → G' f = some (LO f b) → G' b = some (LamX.CodeO b q) → At { c with lo := G' } (δ.set i (.val (.ref a))) ((a, .raw (.lst [.ref f])) :: M) G' H' σ' → w D σ' H') : tSeq (tAsg (tLst (tCons te tNil)) (gName i)) w D σ H :=
  g c G H σ _ A fun f b G1 H1 A1 s1 h1 h2 => ⟨by show 1 ≤ sizeLine; decide, fun a n => kk f b a G1 _ _ (A1.fresh n).1 s1 h1 h2 ((A1.relo.lay (o := .raw (.lst [.ref f])) n rfl).set (s := .val (.ref a)) rfl)⟩
/-- xs.append(lambda: ..) -/
theorem s_askMore {LO : Addr → Addr → HO} {xs : List V} (A : At c δ M G H σ) (g : Gm δ M te LO q) (hi : δ[i]? = some (.val (.ref p))) (hk : M[k]? = some (p, .raw (.lst xs))) (hl : xs.length ≤ 1000)
    (kk : ∀ f b G' H', Same G G' → G' f = some (LO f b) → G' b = some (LamX.CodeO b q) → At { c with lo := G' } δ (M.set k (p, .raw (.lst (xs ++ [.ref f])))) G' H' σ → w D σ H') : tSeq (tDrop (tBM K "list" rAppend (tVar i) (tCons te tNil))) w D σ H := by
  obtain ⟨_, _, u, hu, hu2⟩ := A.mem p _ (List.mem_of_getElem? hk)
  have hu2 : u = .lst xs := hu2
  subst hu2
  refine ⟨_, A.sl i _ hi, .inl ⟨rfl, xs, SqL.of hu⟩, g c G H σ _ A fun f b G1 H1 A1 s1 h1 h2 => ?_⟩
  obtain ⟨_, _, u1, hu1, hu3⟩ := A1.mem p _ (List.mem_of_getElem? hk)
  have hu3 : u1 = .lst xs := hu3
  subst hu3
  exact ⟨p, xs, .ref f, rfl, rfl, hu1, lim_lt (by omega), kk f b G1 _ s1 h1 h2 (A1.relo.write hk rfl)⟩
/-- [x for x in xs if _law_heard(x) != ("refused", repr(v), True)], where each is so refused -/
theorem at_asks {LO : J → Addr → Addr → HO} {tb : J → XK → TE} {j m : Nat} {fs : List (J × Addr × Addr)} {d0 : PyData} {Q : VK} (A : At c δ M G H σ) (hi : δ[i]? = some (.val (.ref p))) (hm : (p, MO.raw (.lst (fs.map fun x => V.ref x.2.1))) ∈ M)
    (hfs : ∀ x ∈ fs, G x.2.1 = some (LO x.1 x.2.1 x.2.2) ∧ G x.2.2 = some (LamX.CodeO x.2.2 q)) (hj : j < δ.length) (hjm : j ≠ m) (hmv : δ[m]? = some (.dat d0)) (ok : ShOk d0) (sk : PyData.strOk d0.shown = true) (hl : fs.length ≤ 1000) (hR : ∀ y jx, Rfs δ (y :: M) C (tb jx) d0)
    (k : ∀ G' H' v, At c δ M G' H' σ → Same G G' → Rep G' v (.list []) → Q v H') :
    tLcO (iSeq K (tVar i)) (gName j) (fun σ => tTest (tOp (rNeD K) (tHeard C K LO q tb σ (tVar j)) (tTup (tCons (tC (.str "refused")) (tCons (tCB (kRepr K) (tCons (tVar m) tNil)) (tCons (tC (.bl true)) tNil)))))) (tVar j) [j] σ H Q := by
  obtain ⟨_, _, u0, hu0, hu0'⟩ := A.mem p _ hm
  have hu0' : u0 = .lst (fs.map fun x => V.ref x.2.1) := hu0'
  subst hu0'
  refine .inl ⟨_, A.sl i _ hi, p, rfl, ⟨_, SqL.of hu0⟩, fun R nD => ?_⟩
  refine ⟨fun n mm H' => mm = fs.length - n ∧ n ≤ fs.length ∧ ∃ G', At c δ ((R, .lst []) :: M) G' H' σ ∧ Same G G', ⟨fs.length, rfl, Nat.zero_le _, G, A.lay nD ⟨[], rfl, .nil, Nat.zero_le _⟩, .refl _⟩, ?_⟩
  rintro n mm H' ⟨rfl, hnl, G', A', s'⟩
  obtain ⟨_, _, u, hu, hu'⟩ := A'.mem p _ (List.mem_cons_of_mem _ hm)
  have hu' : u = .lst (fs.map fun x => V.ref x.2.1) := hu'
  subst hu'
  have hq : SqL K H' p (fs.map fun x => V.ref x.2.1) := SqL.of hu
  by_cases hlt : n < fs.length
  · obtain ⟨⟨jx, f, b⟩, hx⟩ : ∃ x, fs[n]? = some x := ⟨_, List.getElem?_eq_getElem hlt⟩
    have hv : (fs.map fun x => V.ref x.2.1)[n]? = some (.ref f) := by rw [List.getElem?_map, hx]; rfl
    obtain ⟨e1, e2⟩ := hfs _ (List.mem_of_getElem? hx)
    refine .inr ⟨⟨_, _, hq, hv⟩, fun H'' => ∃ G'', At c δ ((R, .lst []) :: M) G'' H'' σ ∧ Same G G'', fun H'' hN => ⟨fs.length - (n + 1), by omega, rfl, hlt, hN⟩, fun x H1 hy => ?_⟩
    obtain ⟨rfl, hall⟩ := hy
    have := getElem?_idx (hall _ hq) hv
    subst this
    refine ⟨wipe_set1, ?_⟩
    have hlen : ((wipeS δ [j]).set j (Sl.val (.ref f))).length = δ.length := by rw [List.length_set]; exact List.length_set ..
    have A2 := (A'.wipe [j]).set (i := j) (s := .val (.ref f)) (v := .ref f) rfl
    have g_j : ((wipeS δ [j]).set j (Sl.val (.ref f)))[j]? = some (.val (.ref f)) := List.getElem?_set_self (by show j < (List.set _ _ _).length; rw [List.length_set]; exact hj)
    have g_m : ((wipeS δ [j]).set j (Sl.val (.ref f)))[m]? = some (.dat d0) := by
      rw [List.getElem?_set_ne hjm]
      show (δ.set j .any)[m]? = _
      rw [List.getElem?_set_ne hjm]
      exact hmv
    unfold tTest tOp
    refine at_heardT (δ' := δ) (M := (R, .lst []) :: M) (d0 := d0) A2 (fun G2 H2 B s2 => B.swap A' s2) ok (fun j => hR _ j) (fun Q' kk => ⟨_, A2.sl j _ g_j, kk jx f b G' _ A2 (.refl _) (s' _ _ e1) (s' _ _ e2)⟩) fun G3 H3 v3 A3 s3 r3 => ?_
    have gt : Gv ((wipeS δ [j]).set j (Sl.val (.ref f))) ((R, .lst []) :: M) (tTup (tCons (tC (.str "refused")) (tCons (tCB (kRepr K) (tCons (tVar m) tNil)) (tCons (tC (.bl true)) tNil)))) (toldD d0) := g_tup (ga_cons g_str (ga_cons (g_repr (ga_v g_m) ok) (ga_cons g_bl ga_nil))) (by show 3 ≤ 100000; decide)
    refine gt c G3 H3 _ _ A3 fun G4 H4 v4 A4 s4 r4 => ?_
    refine ⟨toldD d0, toldD d0, (r3.up s4).dp A4.gh, r4.dp A4.gh, told_shaped sk, told_shaped sk, ?_⟩
    rw [told_eqv]
    refine ⟨false, rfl, (if_neg (by decide)).mpr ⟨G4, A4.swap A' (s3.trans s4), (s'.trans s3).trans s4⟩⟩
  · have ei : n = fs.length := by omega
    subst ei
    refine .inl ⟨⟨_, hq, by rw [List.length_map]; exact Nat.le_refl _⟩, ?_⟩
    obtain ⟨ys, hx, B, sB, rB⟩ := A'.freeze (k := 0) rfl (A.fresh nD).1
    exact k _ _ _ B (s'.trans sB) rB
/-- nothing but what was due is heard -/
theorem asks_nil {tl : TE} {Q : VK} {rr : R2} {b : Bool} (A : At c δ M G H σ) (h : ∀ Q', (∀ G' H' v, At c δ M G' H' σ → Same G G' → Rep G' v (.list []) → Q' v H') → tl σ H Q') (hr : ∀ v w H Q, Dp K H v (.list []) → Dp K H w (.list []) → Q (.bl b) H → rr v w H Q)
    (k : ∀ G' H', At c δ M G' H' σ → Same G G' → Q (.bl b) H') : tOp rr tl (tLst tNil) σ H Q := by
  refine h _ fun G1 H1 v A1 s1 r1 => ?_
  refine (g_lst ga_nil (Nat.zero_le _) : Gv δ M (tLst tNil) (.list [])) c G1 H1 σ _ A1 fun G2 H2 w A2 s2 r2 => ?_
  exact hr v w H2 _ ((r1.up s2).dp A2.gh) (r2.dp A2.gh) (k G2 H2 A2 (s1.trans s2))
theorem s_asksq {tl : TE} {u : TS} (A : At c δ M G H σ) (h : ∀ Q', (∀ G' H' v, At c δ M G' H' σ → Same G G' → Rep G' v (.list []) → Q' v H') → tl σ H Q') (k : ∀ G' H', At c δ M G' H' σ → Same G G' → w D σ H') : tSeq (tIfS (tTest (tOp (rNeD K) tl (tLst tNil))) u tNext) w D σ H :=
  asks_nil (K := K) (b := false) A h (fun v w H Q a b q => ⟨_, _, a, b, rfl, rfl, q⟩) fun G' H' A' s' => ⟨false, rfl, iteF (k G' H' A' s')⟩
theorem s_asksRet {tl : TE} (A : At c δ M G H σ) (h : ∀ Q', (∀ G' H' v, At c δ M G' H' σ → Same G G' → Rep G' v (.list []) → Q' v H') → tl σ H Q') (k : ∀ G' H', At c δ M G' H' σ → Same G G' → D.rt (.bl true) H') : tRet (tOp (rEqD K) tl (tLst tNil)) D σ H :=
  asks_nil (K := K) (b := true) A h (fun v w H Q a b q => ⟨_, _, a, b, rfl, rfl, q⟩) k
end
end Od
set_option Elab.async false
set_option linter.all false
set_option autoImplicit false
set_option maxRecDepth 100000
/-! M4: the search goes level by level: what it finds is what can be come to, by shortest walks. -/
namespace Od
theorem reach_succ {as : List Arc} {l : List Int} {s k v : Nat} : reach as l s (k + 1) v = true ↔ reach as l s k v = true ∨ ∃ st : Step, st.at_ < as.length ∧ canGo as l st = true ∧ (sideOf as st).2 = v ∧ reach as l s k (sideOf as st).1 = true := by
  show (reach as l s k v || (List.range as.length).any fun i => [true, false].any fun b => canGo as l ⟨i, b⟩ && decide ((sideOf as ⟨i, b⟩).2 = v) && reach as l s k (sideOf as ⟨i, b⟩).1) = true ↔ _
  rw [Bool.or_eq_true]
  refine or_congr Iff.rfl ?_
  rw [List.any_eq_true]
  constructor
  · rintro ⟨i, hi, h⟩
    obtain ⟨b, _, h⟩ := List.any_eq_true.mp h
    simp only [Bool.and_eq_true, decide_eq_true_eq] at h
    exact ⟨⟨i, b⟩, List.mem_range.mp hi, h.1.1, h.1.2, h.2⟩
  · rintro ⟨⟨i, b⟩, hi, h1, h2, h3⟩
    refine ⟨i, List.mem_range.mpr hi, List.any_eq_true.mpr ⟨b, by cases b <;> simp, ?_⟩⟩
    simp only [Bool.and_eq_true, decide_eq_true_eq]
    exact ⟨⟨h1, h2⟩, h3⟩
theorem reach_mono {as : List Arc} {l : List Int} {s v : Nat} {k m : Nat} (h : k ≤ m) (r : reach as l s k v = true) : reach as l s m v = true := by
  induction m with
  | zero =>
    have : k = 0 := by omega
    rw [← this]; exact r
  | succ m ih =>
    by_cases e : k = m + 1
    · rw [← e]; exact r
    · exact reach_succ.mpr (.inl (ih (by omega)))
/-- the search's state behind i nodes looked at, d the levels -/
structure BInv (as : List Arc) (l : List Int) (s : Nat) (f : Found) (i : Nat) (d : Nat → Nat) : Prop where
  root : ∃ r, f = (s, none) :: r
  tree : ∀ (b w : Nat) (o : Option Step), f[b]? = some (w, o) → (o = none ∧ w = s ∧ d w = 0) ∨ ∃ st : Step, o = some st ∧ st.at_ < as.length ∧ canGo as l st = true ∧ (sideOf as st).2 = w ∧ d w = d (sideOf as st).1 + 1 ∧ ∃ (a : Nat) (o' : Option Step), a < b ∧ f[a]? = some ((sideOf as st).1, o')
  mono : ∀ (a b u w : Nat) (o o' : Option Step), a ≤ b → f[a]? = some (u, o) → f[b]? = some (w, o') → d u ≤ d w
  near : ∀ (b u w : Nat) (o o' : Option Step), f[i]? = some (u, o) → f[b]? = some (w, o') → d w ≤ d u + 1
  shut : ∀ (j u : Nat) (o : Option Step), j < i → f[j]? = some (u, o) → ∀ st : Step, st.at_ < as.length → (sideOf as st).1 = u → canGo as l st = true → ∃ (m : Nat) (o' : Option Step), f[m]? = some ((sideOf as st).2, o') ∧ d (sideOf as st).2 ≤ d u + 1
theorem keys_ix {f : Found} {i v : Nat} {o : Option Step} (h : f[i]? = some (v, o)) : v ∈ keys f := List.mem_map.mpr ⟨(v, o), List.mem_of_getElem? h, rfl⟩
theorem snoc_keep {α : Type} {f : List α} {x y : α} {i : Nat} (h : f[i]? = some y) : (f ++ [x])[i]? = some y := by
  rw [List.getElem?_append_left (List.getElem?_eq_some_iff.mp h).1]
  exact h
theorem see_inv {n : Nat} {as : List Arc} {l : List Int} {s i u : Nat} {f : Found} {d : Nat → Nat} {o : Option Step} {x : Lead} (I : BInv as l s f i d) (hi : f[i]? = some (u, o)) (hx : x ∈ (leadsOf n as).getD u []) :
    ∃ d' : Nat → Nat, BInv as l s (see as l f x) i d' ∧ (∀ (a w : Nat) (o : Option Step), f[a]? = some (w, o) → d' w = d w) ∧ (canGo as l x.st = true → ∃ (m : Nat) (o' : Option Step), (see as l f x)[m]? = some (x.there, o') ∧ d' x.there ≤ d' u + 1) := by
  obtain ⟨hx1, hx2⟩ := leads_side hx
  by_cases hl : (f.lookup x.there).isNone = true
  · by_cases hc : canGo as l x.st = true
    · have hl' := Option.isNone_iff_eq_none.mp hl
      have hk := lookup_none.mp hl'
      have e : see as l f x = f ++ [(x.there, some x.st)] := by
        unfold see
        rw [hl, hc]
        rfl
      have ne : ∀ {a w : Nat} {o : Option Step}, f[a]? = some (w, o) → w ≠ x.there := fun h e => hk (e ▸ keys_ix h)
      rw [e]
      obtain ⟨d', dn, od⟩ : ∃ d' : Nat → Nat, d' x.there = d u + 1 ∧ ∀ {a w : Nat} {o : Option Step}, f[a]? = some (w, o) → d' w = d w := ⟨fun w => if w = x.there then d u + 1 else d w, if_pos rfl, fun h => if_neg (ne h)⟩
      refine ⟨d', ⟨?_, ?_, ?_, ?_, ?_⟩, fun a w o h => od h, fun _ => ⟨f.length, some x.st, by simp, ?_⟩⟩
      · obtain ⟨r, er⟩ := I.root
        exact ⟨r ++ [(x.there, some x.st)], by rw [er]; rfl⟩
      · intro b w o' hb
        rcases snoc_get hb with hb' | ⟨hb', e2⟩
        · rcases I.tree b w o' hb' with ⟨h1, h2, h3⟩ | ⟨st, h1, h2, h3, h4, h5, a, o2, h6, h7⟩
          · exact .inl ⟨h1, h2, by rw [od hb']; exact h3⟩
          · exact .inr ⟨st, h1, h2, h3, h4, by rw [od hb', od h7]; exact h5, a, o2, h6, snoc_keep h7⟩
        · cases e2
          refine .inr ⟨x.st, rfl, hx1, hc, by rw [hx2], ?_, i, o, ?_, ?_⟩
          · rw [hx2, dn, od hi]
          · have := (List.getElem?_eq_some_iff.mp hi).1
            omega
          · rw [hx2]
            exact snoc_keep hi
      · intro a b p w o1 o2 hab ha hb
        rcases snoc_get ha with ha' | ⟨ha', e2⟩
        · rcases snoc_get hb with hb' | ⟨hb', e3⟩
          · rw [od ha', od hb']
            exact I.mono a b p w o1 o2 hab ha' hb'
          · cases e3
            rw [od ha', dn]
            exact I.near a u p o o1 hi ha'
        · cases e2
          rcases snoc_get hb with hb' | ⟨hb', e3⟩
          · have := (List.getElem?_eq_some_iff.mp hb').1
            omega
          · cases e3
            exact Nat.le_refl _
      · intro b p w o1 o2 ha hb
        have ha' : f[i]? = some (p, o1) := by
          rcases snoc_get ha with h | ⟨h, _⟩
          · exact h
          · have := (List.getElem?_eq_some_iff.mp hi).1
            omega
        rw [hi] at ha'
        cases ha'
        rcases snoc_get hb with hb' | ⟨hb', e3⟩
        · rw [od hi, od hb']
          exact I.near b u w o o2 hi hb'
        · cases e3
          rw [od hi, dn]
          exact Nat.le_refl _
      · intro j p o1 hj hjp st h1 h2 h3
        have hj' : f[j]? = some (p, o1) := by
          rcases snoc_get hjp with h | ⟨h, _⟩
          · exact h
          · have := (List.getElem?_eq_some_iff.mp hi).1
            omega
        obtain ⟨m, o2, h4, h5⟩ := I.shut j p o1 hj hj' st h1 h2 h3
        exact ⟨m, o2, snoc_keep h4, by rw [od h4, od hj']; exact h5⟩
      · rw [dn, od hi]
        exact Nat.le_refl _
    · have e : see as l f x = f := by
        unfold see
        rw [Bool.not_eq_true _ |>.mp hc, Bool.and_false]
        rfl
      rw [e]
      exact ⟨d, I, fun _ _ _ _ => rfl, fun h => absurd h hc⟩
  · have e : see as l f x = f := by
      unfold see
      rw [Bool.not_eq_true _ |>.mp hl, Bool.false_and]
      rfl
    rw [e]
    refine ⟨d, I, fun _ _ _ _ => rfl, fun _ => ?_⟩
    cases h : f.lookup x.there with
    | none => rw [h] at hl; exact absurd rfl hl
    | some o' =>
      obtain ⟨m, hm⟩ := lookup_ix h
      exact ⟨m, o', hm, I.near m u _ o o' hi hm⟩
theorem fold_inv {n : Nat} {as : List Arc} {l : List Int} {s i u : Nat} : ∀ {xs : List Lead} {f : Found} {d : Nat → Nat} {o : Option Step}, BInv as l s f i d → f[i]? = some (u, o) → (∀ x ∈ xs, x ∈ (leadsOf n as).getD u []) →
    ∃ d' : Nat → Nat, BInv as l s (xs.foldl (see as l) f) i d' ∧ (∀ (a w : Nat) (o : Option Step), f[a]? = some (w, o) → d' w = d w) ∧ ∀ x ∈ xs, canGo as l x.st = true → ∃ (m : Nat) (o' : Option Step), (xs.foldl (see as l) f)[m]? = some (x.there, o') ∧ d' x.there ≤ d' u + 1
  | [], f, d, o, I, hi, _ => ⟨d, I, fun _ _ _ _ => rfl, fun x hx => nomatch hx⟩
  | x :: xs, f, d, o, I, hi, hx => by
    obtain ⟨d1, I1, a1, c1⟩ := see_inv I hi (hx x (List.mem_cons_self ..))
    have hi1 := see_keep (as := as) (l := l) (x := x) hi
    obtain ⟨d2, I2, a2, c2⟩ := fold_inv (xs := xs) I1 hi1 fun y hy => hx y (List.mem_cons_of_mem _ hy)
    refine ⟨d2, I2, fun a w o h => (a2 a w o (see_keep h)).trans (a1 a w o h), fun y hy hc => ?_⟩
    rcases List.mem_cons.mp hy with rfl | hy
    · obtain ⟨m, o', h1, h2⟩ := c1 hc
      exact ⟨m, o', fold_keep (xs := xs) h1, by rw [a2 m _ o' h1, a2 i u o hi1]; exact h2⟩
    · exact c2 y hy hc
theorem bfs_inv {n : Nat} {as : List Arc} {l : List Int} {s : Nat} (ok : okArcs n as) : ∀ i, ∃ d : Nat → Nat, BInv as l s (bfsN (leadsOf n as) as l s i) i d
  | 0 => by
    have g0 : ∀ {b w : Nat} {o : Option Step}, ([(s, none)] : Found)[b]? = some (w, o) → b = 0 ∧ w = s ∧ o = none := fun {b w o} h => by
      cases b with
      | zero => cases h; exact ⟨rfl, rfl, rfl⟩
      | succ b => cases h
    refine ⟨fun _ => 0, ⟨[], rfl⟩, fun b w o h => .inl ?_, fun _ _ _ _ _ _ _ _ _ => Nat.le_refl _, fun _ _ _ _ _ _ _ => Nat.zero_le _, fun j _ _ h => absurd h (Nat.not_lt_zero _)⟩
    obtain ⟨_, h2, h3⟩ := g0 h
    exact ⟨h3, h2, rfl⟩
  | i + 1 => by
    obtain ⟨d, I⟩ := bfs_inv (l := l) (s := s) ok i
    cases e : (bfsN (leadsOf n as) as l s i)[i]? with
    | none =>
      have eq : bfsN (leadsOf n as) as l s (i + 1) = bfsN (leadsOf n as) as l s i := by
        show (match (bfsN (leadsOf n as) as l s i)[i]? with | some p => _ | none => _) = _
        rw [e]
      have e1 : (bfsN (leadsOf n as) as l s i)[i + 1]? = none := by
        have := List.getElem?_eq_none_iff.mp e
        exact List.getElem?_eq_none_iff.mpr (by omega)
      rw [eq]
      refine ⟨d, I.root, I.tree, I.mono, fun b u w o o' h => (by rw [e1] at h; cases h), fun j u o hj h => ?_⟩
      by_cases ej : j = i
      · rw [ej, e] at h; cases h
      · exact I.shut j u o (by omega) h
    | some p =>
      obtain ⟨u, o⟩ := p
      rw [bfs_succ e]
      obtain ⟨d', J, ag, cl⟩ := fold_inv (n := n) I e fun x hx => hx
      have e' : (expand (leadsOf n as) as l (bfsN (leadsOf n as) as l s i) u)[i]? = some (u, o) := fold_keep e
      refine ⟨d', J.root, J.tree, J.mono, fun b u' w o1 o2 h1 h2 => ?_, fun j u' o1 hj h => ?_⟩
      · have z1 := J.near b u w o o2 e' h2
        have z2 := J.mono i (i + 1) u u' o o1 (by omega) e' h1
        omega
      · by_cases ej : j = i
        · subst ej
          dsimp only at h ⊢
          rw [e'] at h
          cases h
          intro st h1 h2 h3
          obtain ⟨m, o', h4, h5⟩ := cl ⟨st, (sideOf as st).2⟩ (by rw [← h2]; exact leads_has ok h1) h3
          exact ⟨m, o', h4, h5⟩
        · exact J.shut j u' o1 (by omega) h
/-- walks of steps, told from their ends -/
inductive Walk (as : List Arc) (s : Nat) (ok : Step → Prop) : List Step → Nat → Prop
  | nil : Walk as s ok [] s
  | snoc {P : List Step} {st : Step} : Walk as s ok P (sideOf as st).1 → ok st → Walk as s ok (P ++ [st]) (sideOf as st).2
/-- a step that leads one level on -/
structure StOk (n : Nat) (as : List Arc) (l : List Int) (s : Nat) (d : Nat → Nat) (st : Step) : Prop where
  lt : st.at_ < as.length
  go : canGo as l st = true
  up : d (sideOf as st).2 = d (sideOf as st).1 + 1
  dn : d (sideOf as st).1 < n
  r1 : ∀ k, reach as l s k (sideOf as st).1 = true ↔ d (sideOf as st).1 ≤ k
  r2 : ∀ k, reach as l s k (sideOf as st).2 = true ↔ d (sideOf as st).2 ≤ k
theorem search {n : Nat} {as : List Arc} {l : List Int} {s : Nat} (ok : okArcs n as) (hs : s < n) : ∃ d : Nat → Nat, (∀ v k, reach as l s k v = true → ((comeBy n as l s).lookup v).isSome = true) ∧
    (∀ v, ((comeBy n as l s).lookup v).isSome = true → ∀ k, reach as l s k v = true ↔ d v ≤ k) ∧ ∀ v, ((comeBy n as l s).lookup v).isSome = true → v < n ∧ Walk as s (StOk n as l s d) (traced as (comeBy n as l s) v) v := by
  have hg : goodF n (comeBy n as l s) := bfs_good ok hs n
  have ht : treeF as (comeBy n as l s) := bfs_tree n
  obtain ⟨d, I⟩ := bfs_inv (l := l) (s := s) ok n
  have I : BInv as l s (comeBy n as l s) n d := I
  have hlen := goodF_len hg
  have root : (comeBy n as l s)[0]? = some (s, none) := by
    obtain ⟨r, e⟩ := I.root
    rw [e]; rfl
  have d0 : d s = 0 := by
    rcases I.tree 0 s none root with ⟨_, _, h⟩ | ⟨st, h, _⟩
    · exact h
    · cases h
  have look : ∀ {i v : Nat} {o : Option Step}, (comeBy n as l s)[i]? = some (v, o) → (comeBy n as l s).lookup v = some o := fun h => lookup_at hg.1 h
  have ixOf : ∀ {v : Nat}, ((comeBy n as l s).lookup v).isSome = true → ∃ (i : Nat) (o : Option Step), (comeBy n as l s)[i]? = some (v, o) := fun {v} h => by
    obtain ⟨o, ho⟩ := Option.isSome_iff_exists.mp h
    obtain ⟨i, hi⟩ := lookup_ix ho
    exact ⟨i, o, hi⟩
  have far : ∀ (k v : Nat), reach as l s k v = true → ∃ (i : Nat) (o : Option Step), (comeBy n as l s)[i]? = some (v, o) ∧ d v ≤ k := by
    intro k
    induction k with
    | zero =>
      intro v h
      have : v = s := of_decide_eq_true (show decide (v = s) = true from h)
      subst this
      exact ⟨0, none, root, by omega⟩
    | succ k ih =>
      intro v h
      rcases reach_succ.mp h with h | ⟨st, h1, h2, h3, h4⟩
      · obtain ⟨i, o, h5, h6⟩ := ih v h
        exact ⟨i, o, h5, by omega⟩
      · obtain ⟨j, o, h5, h6⟩ := ih _ h4
        have hj := (List.getElem?_eq_some_iff.mp h5).1
        obtain ⟨m, o', h7, h8⟩ := I.shut j _ o (by omega) h5 st h1 rfl h2
        rw [h3] at h7 h8
        exact ⟨m, o', h7, by omega⟩
  have lev : ∀ (i : Nat), ∀ (v : Nat) (o : Option Step), (comeBy n as l s)[i]? = some (v, o) → d v ≤ i ∧ reach as l s (d v) v = true := by
    intro i
    induction i using Nat.strongRecOn with
    | _ i ih =>
      intro v o hi
      rcases I.tree i v o hi with ⟨_, h2, h3⟩ | ⟨st, _, h2, h3, h4, h5, a, o', h6, h7⟩
      · rw [h3, h2]
        exact ⟨Nat.zero_le _, decide_eq_true rfl⟩
      · obtain ⟨z1, z2⟩ := ih a h6 _ _ h7
        refine ⟨by omega, ?_⟩
        rw [h5]
        exact reach_succ.mpr (.inr ⟨st, h2, h3, h4, z2⟩)
  have iff : ∀ {i v : Nat} {o : Option Step}, (comeBy n as l s)[i]? = some (v, o) → ∀ k, reach as l s k v = true ↔ d v ≤ k := fun {i v o} hi k => by
    constructor
    · intro h
      exact (far k v h).choose_spec.choose_spec.2
    · intro h
      exact reach_mono h (lev i v o hi).2
  have wk : ∀ (i : Nat), ∀ (v : Nat) (o : Option Step), (comeBy n as l s)[i]? = some (v, o) → Walk as s (StOk n as l s d) (trace as (comeBy n as l s) (i + 1) v) v := by
    intro i
    induction i using Nat.strongRecOn with
    | _ i ih =>
      intro v o hi
      have lk := look hi
      rcases I.tree i v o hi with ⟨h1, h2, h3⟩ | ⟨st, h1, h2, h3, h4, h5, a, o', h6, h7⟩
      · have e : trace as (comeBy n as l s) (i + 1) v = [] := by
          show (match (comeBy n as l s).lookup v with | some (some s1) => trace as (comeBy n as l s) i (sideOf as s1).1 ++ [s1] | _ => []) = _
          rw [lk, h1]
        rw [e, h2]
        exact .nil
      · have e : trace as (comeBy n as l s) (i + 1) v = trace as (comeBy n as l s) (a + 1) (sideOf as st).1 ++ [st] := by
          show (match (comeBy n as l s).lookup v with | some (some s1) => trace as (comeBy n as l s) i (sideOf as s1).1 ++ [s1] | _ => []) = _
          rw [lk, h1]
          show trace as (comeBy n as l s) i (sideOf as st).1 ++ [st] = _
          rw [trace_fuel hg.1 ht a _ o' h7 i h6]
        rw [e]
        subst h4
        refine .snoc (ih a h6 _ _ h7) ⟨h2, h3, h5, ?_, iff h7, iff hi⟩
        have := (lev a _ _ h7).1
        have := (List.getElem?_eq_some_iff.mp h7).1
        omega
  refine ⟨d, fun v k h => ?_, fun v h => ?_, fun v h => ?_⟩
  · obtain ⟨i, o, h1, _⟩ := far k v h
    rw [look h1]; rfl
  · obtain ⟨i, o, h1⟩ := ixOf h
    exact iff h1
  · obtain ⟨i, o, h1⟩ := ixOf h
    refine ⟨hg.2 v (keys_ix h1), ?_⟩
    unfold traced
    rw [trace_fuel hg.1 ht i v o h1 _ (List.getElem?_eq_some_iff.mp h1).1]
    exact wk i v o h1
end Od
set_option Elab.async false
set_option linter.all false
set_option autoImplicit false
set_option maxRecDepth 100000
/-! M5: one turn of the leading: the load stays one, the measure falls. -/
namespace Od
/-! ### sums, filters -/
theorem sum_le {f g : Nat → Nat} : ∀ {L : List Nat}, (∀ k ∈ L, f k ≤ g k) → (L.map f).sum ≤ (L.map g).sum
  | [], _ => Nat.le_refl _
  | k :: L, h => by
    have h1 := h k (List.mem_cons_self ..)
    have h2 := sum_le (L := L) fun j hj => h j (List.mem_cons_of_mem _ hj)
    simp only [List.map_cons, List.sum_cons]
    omega
theorem sum_eq {f g : Nat → Nat} : ∀ {L : List Nat}, (∀ k ∈ L, f k ≤ g k) → (L.map g).sum ≤ (L.map f).sum → ∀ k ∈ L, f k = g k
  | [], _, _, k, hk => nomatch hk
  | j :: L, h, e, k, hk => by
    have h1 := h j (List.mem_cons_self ..)
    have h3 := fun i hi => h i (List.mem_cons_of_mem j hi)
    have h2 := sum_le h3
    simp only [List.map_cons, List.sum_cons] at e
    rcases List.mem_cons.mp hk with rfl | hk
    · omega
    · exact sum_eq h3 (by omega) k hk
theorem sum_lt {f g : Nat → Nat} {L : List Nat} (h : ∀ k ∈ L, f k ≤ g k) {k : Nat} (hk : k ∈ L) (hl : f k < g k) : (L.map f).sum < (L.map g).sum := by
  refine Nat.lt_of_not_le fun e => ?_
  have := sum_eq h e k hk
  omega
theorem filter_le {α : Type} {p q : α → Bool} : ∀ {L : List α}, (∀ v ∈ L, p v = true → q v = true) → (L.filter p).length ≤ (L.filter q).length
  | [], _ => Nat.le_refl _
  | v :: L, h => by
    have h1 := h v (List.mem_cons_self ..)
    have h2 := filter_le (L := L) fun u hu => h u (List.mem_cons_of_mem _ hu)
    rw [List.filter_cons, List.filter_cons]
    cases hp : p v <;> cases hq : q v
    · exact h2
    · exact Nat.le_succ_of_le h2
    · rw [h1 hp] at hq; cases hq
    · exact Nat.succ_le_succ h2
theorem filter_eq' {α : Type} {p q : α → Bool} : ∀ {L : List α}, (∀ v ∈ L, p v = true → q v = true) → (L.filter q).length ≤ (L.filter p).length → ∀ v ∈ L, q v = true → p v = true
  | [], _, _, v, hv => nomatch hv
  | u :: L, h, e, v, hv => by
    have h1 := h u (List.mem_cons_self ..)
    have h3 := fun w hw => h w (List.mem_cons_of_mem u hw)
    have h2 := filter_le h3
    rw [List.filter_cons, List.filter_cons] at e
    intro qv
    cases hp : p u <;> cases hq : q u
    · rw [hp, hq] at e
      rcases List.mem_cons.mp hv with rfl | hv
      · rw [hq] at qv; cases qv
      · exact filter_eq' h3 (by simpa using e) v hv qv
    · rw [hp, hq] at e
      have e : (List.filter q L).length + 1 ≤ (List.filter p L).length := by simpa using e
      omega
    · rw [h1 hp] at hq; cases hq
    · rw [hp, hq] at e
      rcases List.mem_cons.mp hv with rfl | hv
      · exact hp
      · exact filter_eq' h3 (by simpa using e) v hv qv
theorem filter_lt {α : Type} {p q : α → Bool} {L : List α} (h : ∀ v ∈ L, p v = true → q v = true) {v : α} (hv : v ∈ L) (hq : q v = true) (hp : p v = false) : (L.filter p).length < (L.filter q).length := by
  refine Nat.lt_of_not_le fun e => ?_
  have := filter_eq' h e v hv hq
  rw [hp] at this; cases this
/-! ### the least of some -/
theorem minOf_mem : ∀ {l : List Int}, l ≠ [] → minOf l ∈ l
  | [], h => absurd rfl h
  | [x], _ => List.mem_singleton.mpr rfl
  | x :: y :: r, _ => by
    have ih := minOf_mem (l := y :: r) (by simp)
    show min x (minOf (y :: r)) ∈ _
    by_cases h : x ≤ minOf (y :: r)
    · rw [Int.min_eq_left h]
      exact List.mem_cons_self ..
    · rw [Int.min_eq_right (by omega)]
      exact List.mem_cons_of_mem _ ih
theorem minOf_le : ∀ {l : List Int} {x : Int}, x ∈ l → minOf l ≤ x
  | [], _, h => nomatch h
  | [y], x, h => by
    rw [List.mem_singleton.mp h]
    exact Int.le_refl _
  | y :: z :: r, x, h => by
    show min y (minOf (z :: r)) ≤ x
    rcases List.mem_cons.mp h with rfl | h
    · exact Int.min_le_left ..
    · exact Int.le_trans (Int.min_le_right ..) (minOf_le h)
theorem least_some {as : List Arc} {l : List Int} {P : List Step} {x : Int} (h : leastLeft as l P = some x) : (∃ st ∈ P, leftOf as l st = some x) ∧ ∀ st ∈ P, ∀ y, leftOf as l st = some y → x ≤ y := by
  unfold leastLeft at h
  split at h
  · cases h
  · rename_i he
    cases h
    have ne : knownOf as l P ≠ [] := fun e => he (by rw [e]; rfl)
    refine ⟨?_, fun st hst y hy => minOf_le (List.mem_filterMap.mpr ⟨st, hst, hy⟩)⟩
    obtain ⟨st, h1, h2⟩ := List.mem_filterMap.mp (minOf_mem ne)
    exact ⟨st, h1, h2⟩
theorem least_none {as : List Arc} {l : List Int} {P : List Step} (h : leastLeft as l P = none) : ∀ st ∈ P, leftOf as l st = none := by
  intro st hst
  unfold leastLeft at h
  split at h
  · rename_i he
    cases e : leftOf as l st with
    | none => rfl
    | some y =>
      have : y ∈ knownOf as l P := List.mem_filterMap.mpr ⟨st, hst, e⟩
      rw [List.isEmpty_iff.mp he] at this
      cases this
  · cases h
/-! ### walks -/
theorem wk_low {n : Nat} {as : List Arc} {l : List Int} {s v : Nat} {d : Nat → Nat} {P : List Step} (h : Walk as s (StOk n as l s d) P v) : ∀ st ∈ P, StOk n as l s d st ∧ d (sideOf as st).1 < d v := by
  induction h with
  | nil => intro st hst; cases hst
  | @snoc P st _ ok ih =>
    intro st' h
    have := ok.up
    rcases List.mem_append.mp h with h | h
    · obtain ⟨h1, h2⟩ := ih st' h
      exact ⟨h1, by omega⟩
    · rw [List.mem_singleton.mp h]
      exact ⟨ok, by omega⟩
theorem side_rev (as : List Arc) (i : Nat) (b : Bool) : sideOf as ⟨i, !b⟩ = ((sideOf as ⟨i, b⟩).2, (sideOf as ⟨i, b⟩).1) := by cases b <;> rfl
theorem wk_nd {n : Nat} {as : List Arc} {l : List Int} {s v : Nat} {d : Nat → Nat} {P : List Step} (h : Walk as s (StOk n as l s d) P v) : (P.map (·.at_)).Nodup := by
  induction h with
  | nil => exact List.nodup_nil
  | @snoc P st w ok ih =>
    rw [List.map_append]
    refine List.nodup_append.mpr ⟨ih, by simp, fun a ha b hb => ?_⟩
    have hb : b = st.at_ := by simpa using hb
    subst hb
    obtain ⟨st', h1, rfl⟩ := List.mem_map.mp ha
    intro e
    have e : st'.at_ = st.at_ := e
    have low := (wk_low w st' h1).2
    have up := ok.up
    obtain ⟨i, b⟩ := st
    obtain ⟨j, c⟩ := st'
    dsimp only at e
    subst e
    by_cases hbc : c = b
    · subst hbc
      omega
    · have : c = !b := by cases b <;> cases c <;> first | rfl | exact absurd rfl hbc
      subst this
      rw [side_rev] at low
      dsimp only at low
      omega
theorem goneM_len (x : Int) : ∀ (P : List Step) (l : List Int), (gone l P x).length = l.length
  | [], _ => rfl
  | st :: P, l => by
    show (gone (l.set st.at_ (l.getD st.at_ 0 + wayI st.w * x)) P x).length = _
    rw [goneM_len x P, List.length_set]
theorem getD_set_ne {l : List Int} {i j : Nat} {y : Int} (h : i ≠ j) : (l.set i y).getD j 0 = l.getD j 0 := by
  rw [List.getD_eq_getElem?_getD, List.getElem?_set_ne h, ← List.getD_eq_getElem?_getD]
theorem getD_set_self {l : List Int} {i : Nat} {y : Int} (h : i < l.length) : (l.set i y).getD i 0 = y := by
  rw [List.getD_eq_getElem?_getD, List.getElem?_set_self h]
  rfl
theorem gone_out {x : Int} : ∀ {P : List Step} {l : List Int} {i : Nat}, i ∉ P.map (·.at_) → (gone l P x).getD i 0 = l.getD i 0
  | [], _, _, _ => rfl
  | st :: P, l, i, h => by
    show (gone (l.set st.at_ (l.getD st.at_ 0 + wayI st.w * x)) P x).getD i 0 = _
    rw [gone_out fun z => h (List.mem_cons_of_mem _ z), getD_set_ne fun e => h (by rw [← e]; exact List.mem_cons_self ..)]
theorem gone_in {x : Int} : ∀ {P : List Step} {l : List Int} {st : Step}, (P.map (·.at_)).Nodup → st ∈ P → st.at_ < l.length → (gone l P x).getD st.at_ 0 = l.getD st.at_ 0 + wayI st.w * x
  | [], _, _, _, h, _ => nomatch h
  | s1 :: P, l, st, nd, h, hl => by
    show (gone (l.set s1.at_ (l.getD s1.at_ 0 + wayI s1.w * x)) P x).getD st.at_ 0 = _
    obtain ⟨nd1, nd2⟩ := List.nodup_cons.mp nd
    rcases List.mem_cons.mp h with rfl | h
    · rw [gone_out nd1, getD_set_self hl]
    · have ne : s1.at_ ≠ st.at_ := fun e => nd1 (List.mem_map.mpr ⟨st, h, e.symm⟩)
      rw [gone_in nd2 h (by rw [List.length_set]; exact hl), getD_set_ne ne]
/-! ### what is left -/
theorem left_nn {as : List Arc} {l : List Int} {st : Step} {y : Int} (ok : okLoad as l) (h : st.at_ < as.length) (e : leftOf as l st = some y) : 0 ≤ y := by
  obtain ⟨h1, h2⟩ := ok.2 st.at_ h
  unfold leftOf at e
  split at e
  · split at e
    · cases e
    · rename_i c hc
      cases e
      have := h2 c hc
      omega
  · cases e
    exact h1
theorem left_pos {as : List Arc} {l : List Int} {st : Step} {y : Int} (ok : okLoad as l) (h : st.at_ < as.length) (e : leftOf as l st = some y) (g : canGo as l st = true) : 1 ≤ y := by
  have h1 := left_nn ok h e
  have h2 : y ≠ 0 := fun z => by
    unfold canGo at g
    rw [e, z] at g
    simp at g
  omega
theorem left_same {as : List Arc} {l l' : List Int} {st : Step} (h : l'.getD st.at_ 0 = l.getD st.at_ 0) : leftOf as l' st = leftOf as l st := by
  unfold leftOf
  rw [h]
/-- what holds of a walk that the search found -/
structure Turn1 (n : Nat) (as : List Arc) (s : Nat) (l l' : List Int) (x : Int) (d : Nat → Nat) (P : List Step) (g : Nat) : Prop where
  wk : Walk as s (StOk n as l s d) P g
  eq : l' = gone l P x
  pos : 1 ≤ x
  ok : okLoad as l'
  low : ∀ k v, reach as l' s k v = true → reach as l s k v = true
  mu : mu n as s l' < mu n as s l
theorem turn_ok {n : Nat} {as : List Arc} {s : Nat} {l : List Int} {x : Int} {d : Nat → Nat} {P : List Step} {g : Nat} (ok0 : okArcs n as) (ok : okLoad as l) (wk : Walk as s (StOk n as l s d) P g) (hx : leastLeft as l P = some x) : Turn1 n as s l (gone l P x) x d P g := by
  obtain ⟨⟨sb, hb1, hb2⟩, hmin⟩ := least_some hx
  have low := wk_low wk
  have nd := wk_nd wk
  have lt : ∀ st ∈ P, st.at_ < l.length := fun st h => by
    rw [← ok.1]
    exact (low st h).1.lt
  have hpos : 1 ≤ x := left_pos ok (low sb hb1).1.lt hb2 (low sb hb1).1.go
  have at_in : ∀ {i : Nat}, i ∈ P.map (·.at_) → ∃ st ∈ P, st.at_ = i := fun h => by
    obtain ⟨st, h1, h2⟩ := List.mem_map.mp h
    exact ⟨st, h1, h2⟩
  have ok' : okLoad as (gone l P x) := by
    refine ⟨by rw [goneM_len]; exact ok.1, fun i hi => ?_⟩
    by_cases h : i ∈ P.map (·.at_)
    · obtain ⟨st, h1, rfl⟩ := at_in h
      rw [gone_in nd h1 (lt st h1)]
      obtain ⟨z1, z2⟩ := ok.2 st.at_ hi
      have zm := hmin st h1
      unfold leftOf at zm
      cases hw : st.w with
      | true =>
        rw [hw] at zm
        rw [show wayI true * x = x from Int.one_mul x]
        refine ⟨by omega, fun c hc => ?_⟩
        rw [hc] at zm
        have := zm _ rfl
        omega
      | false =>
        rw [hw] at zm
        have := zm _ rfl
        rw [show wayI false * x = -x from Int.neg_one_mul x]
        refine ⟨by omega, fun c hc => ?_⟩
        have := z2 c hc
        omega
    · rw [gone_out h]
      exact ok.2 i hi
  have go' : ∀ st : Step, canGo as (gone l P x) st = true → canGo as l st = true ∨ ∃ s1 ∈ P, sideOf as st = ((sideOf as s1).2, (sideOf as s1).1) := fun st h => by
    by_cases hm : st.at_ ∈ P.map (·.at_)
    · obtain ⟨s1, h1, h2⟩ := at_in hm
      by_cases hw : st.w = s1.w
      · have : st = s1 := by
          obtain ⟨i, b⟩ := st
          obtain ⟨j, c⟩ := s1
          cases h2
          cases hw
          rfl
        rw [this]
        exact .inl (low s1 h1).1.go
      · refine .inr ⟨s1, h1, ?_⟩
        have : st = ⟨s1.at_, !s1.w⟩ := by
          obtain ⟨i, b⟩ := st
          obtain ⟨j, c⟩ := s1
          cases h2
          cases b <;> cases c <;> first | rfl | exact absurd rfl hw
        rw [this]
        exact side_rev as s1.at_ s1.w
    · have e := left_same (as := as) (l := l) (st := st) (gone_out (x := x) (l := l) hm)
      unfold canGo at h ⊢
      rw [e] at h
      exact .inl h
  have down : ∀ k v, reach as (gone l P x) s k v = true → reach as l s k v = true := by
    intro k
    induction k with
    | zero => exact fun v h => h
    | succ k ih =>
      intro v h
      rcases reach_succ.mp h with h | ⟨st, h1, h2, h3, h4⟩
      · exact reach_succ.mpr (.inl (ih v h))
      · have r := ih _ h4
        rcases go' st h2 with h5 | ⟨s1, h5, h6⟩
        · exact reach_succ.mpr (.inr ⟨st, h1, h5, h3, r⟩)
        · have ok1 := (low s1 h5).1
          rw [h6] at r h3
          dsimp only at r h3
          have r2 := (ok1.r2 k).mp r
          have := ok1.up
          rw [← h3]
          exact (ok1.r1 (k + 1)).mpr (by omega)
  refine ⟨wk, rfl, hpos, ok', down, ?_⟩
  have n1 : nearer n as (gone l P x) s ≤ nearer n as l s := sum_le fun k _ => filter_le fun v _ h => down k v h
  have tb : ∀ l, tights n as l s ≤ 2 * as.length := fun l => by
    have : tights n as l s ≤ ((List.range as.length).map fun _ => 2).sum := sum_le fun i _ => List.length_filter_le ..
    rw [List.map_const', List.length_range, List.sum_replicate_nat] at this
    omega
  unfold mu
  by_cases e : nearer n as (gone l P x) s < nearer n as l s
  · have t1 := tb (gone l P x)
    have : (nearer n as (gone l P x) s + 1) * (2 * as.length + 1) ≤ nearer n as l s * (2 * as.length + 1) := Nat.mul_le_mul_right _ e
    rw [Nat.add_mul] at this
    omega
  · have e : nearer n as (gone l P x) s = nearer n as l s := by omega
    have up : ∀ k v, k < n → v < n → reach as l s k v = true → reach as (gone l P x) s k v = true := fun k v hk hv h => by
      have e1 := sum_eq (L := List.range n) (f := fun k => ((List.range n).filter fun v => reach as (gone l P x) s k v).length) (g := fun k => ((List.range n).filter fun v => reach as l s k v).length) (fun k _ => filter_le fun v _ h => down k v h) (Nat.le_of_eq e.symm) k (List.mem_range.mpr hk)
      exact filter_eq' (fun v _ h => down k v h) (Nat.le_of_eq e1.symm) v (List.mem_range.mpr hv) h
    rw [e]
    refine Nat.add_lt_add_left ?_ _
    have ti : ∀ (l : List Int) (st : Step), tightB n as l s st = true ↔ canGo as l st = true ∧ ∃ k, k < n ∧ reach as l s k (sideOf as st).1 = true ∧ reach as l s (k + 1) (sideOf as st).2 = true ∧ reach as l s k (sideOf as st).2 = false := fun l st => by
      unfold tightB
      rw [Bool.and_eq_true, List.any_eq_true]
      refine and_congr Iff.rfl ?_
      constructor
      · rintro ⟨k, h1, h2⟩
        simp only [Bool.and_eq_true, Bool.not_eq_true'] at h2
        exact ⟨k, List.mem_range.mp h1, h2.1.1, h2.1.2, h2.2⟩
      · rintro ⟨k, h1, h2, h3, h4⟩
        exact ⟨k, List.mem_range.mpr h1, by simp only [Bool.and_eq_true, Bool.not_eq_true']; exact ⟨⟨h2, h3⟩, h4⟩⟩
    have sub : ∀ (i : Nat), i < as.length → ∀ b : Bool, (sideOf as ⟨i, b⟩).1 < n → (sideOf as ⟨i, b⟩).2 < n → tightB n as (gone l P x) s ⟨i, b⟩ = true → tightB n as l s ⟨i, b⟩ = true := fun i hi b hn1 hn2 h => by
      obtain ⟨h1, k, hk, h2, h3, h4⟩ := (ti _ _).mp h
      rcases go' _ h1 with h5 | ⟨s1, h5, h6⟩
      · refine (ti _ _).mpr ⟨h5, k, hk, down _ _ h2, down _ _ h3, ?_⟩
        refine Bool.eq_false_iff.mpr fun z => ?_
        rw [up k _ hk hn2 z] at h4
        cases h4
      · have ok1 := (low s1 h5).1
        have r := down _ _ h2
        rw [h6] at r h4 hn2
        dsimp only at r h4 hn2
        have r2 := (ok1.r2 k).mp r
        have := ok1.up
        rw [up k _ hk hn2 ((ok1.r1 k).mpr (by omega))] at h4
        cases h4
    have sub' : ∀ i ∈ List.range as.length, ∀ b ∈ [true, false], tightB n as (gone l P x) s ⟨i, b⟩ = true → tightB n as l s ⟨i, b⟩ = true := fun i hi b _ h => by
      have hi := List.mem_range.mp hi
      obtain ⟨z1, z2⟩ := side_lt ok0 (st := ⟨i, b⟩) hi
      exact sub i hi b z1 z2 h
    have okb := (low sb hb1).1
    refine sum_lt (fun i hi => filter_le (sub' i hi)) (List.mem_range.mpr okb.lt) (filter_lt (sub' _ (List.mem_range.mpr okb.lt)) (v := sb.w) (by cases sb.w <;> simp) ?_ ?_)
    · refine (ti _ _).mpr ⟨okb.go, d (sideOf as sb).1, okb.dn, (okb.r1 _).mpr (Nat.le_refl _), ?_, ?_⟩
      · exact (okb.r2 _).mpr (Nat.le_of_eq okb.up)
      · refine Bool.eq_false_iff.mpr fun z => ?_
        have := (okb.r2 _).mp z
        have := okb.up
        omega
    · refine Bool.eq_false_iff.mpr fun z => ?_
      have z1 := ((ti _ _).mp z).1
      have e2 : leftOf as (gone l P x) sb = some 0 := by
        have gi := gone_in (x := x) nd hb1 (lt sb hb1)
        unfold leftOf at hb2 ⊢
        rw [gi]
        cases hw : sb.w with
        | true =>
          rw [hw] at hb2
          cases hc : (as.getD sb.at_ default).c with
          | none => rw [hc] at hb2; cases hb2
          | some c =>
            rw [hc] at hb2
            have hb2 : some (c - l.getD sb.at_ 0) = some x := hb2
            have hb2 := Option.some.inj hb2
            show some (c - (l.getD sb.at_ 0 + wayI true * x)) = some 0
            rw [show wayI true * x = x from Int.one_mul x]
            congr 1
            omega
        | false =>
          rw [hw] at hb2
          have hb2 : some (l.getD sb.at_ 0) = some x := hb2
          have hb2 := Option.some.inj hb2
          show some (l.getD sb.at_ 0 + wayI false * x) = some 0
          rw [show wayI false * x = -x from Int.neg_one_mul x]
          congr 1
          omega
      unfold canGo at z1
      rw [show (⟨sb.at_, sb.w⟩ : Step) = sb from rfl, e2] at z1
      cases z1
theorem ledStep : LedStep := by
  intro n as s gs l g r x ok okl hs hso hx
  obtain ⟨d, _, _, h3⟩ := search (l := l) ok hs
  have hg : ((comeBy n as l s).lookup g).isSome = true := by
    have : g ∈ someOf n as s gs l := by rw [hso]; exact List.mem_cons_self ..
    exact (List.mem_filter.mp this).2
  have T := turn_ok ok okl (h3 g hg).2 hx
  exact ⟨T.mu, T.ok⟩
end Od
set_option Elab.async false
set_option linter.all false
set_option autoImplicit false
set_option maxRecDepth 100000
/-! M6: what comes to a node more than leaves it; the flows to the first ends. -/
namespace Od
/-! ### by node -/
def ex : List Arc → List Int → Nat → Int
  | a :: as, x :: l, v => (if a.h = v then x else 0) - (if a.t = v then x else 0) + ex as l v
  | _, _, _ => 0
theorem surp1_get {f : List Int} {a : Arc} {x : Int} (ht : a.t < f.length) (hh : a.h < f.length) (v : Nat) : (surp1 f a x).getD v 0 = f.getD v 0 + ((if a.h = v then x else 0) - (if a.t = v then x else 0)) := by
  unfold surp1
  by_cases h1 : a.h = v
  · subst h1
    rw [getD_set_self (by rw [List.length_set]; exact hh), if_pos rfl]
    by_cases h2 : a.t = a.h
    · rw [h2, getD_set_self hh, if_pos rfl]
      omega
    · rw [getD_set_ne h2, if_neg h2]
      omega
  · rw [getD_set_ne h1, if_neg h1]
    by_cases h2 : a.t = v
    · subst h2
      rw [getD_set_self ht, if_pos rfl]
      omega
    · rw [getD_set_ne h2, if_neg h2]
      omega
theorem surpM_len (f : List Int) (a : Arc) (x : Int) : (surp1 f a x).length = f.length := by
  unfold surp1
  rw [List.length_set, List.length_set]
theorem surplus_go {n : Nat} : ∀ {as : List Arc} {l f : List Int}, f.length = n → (∀ a ∈ as, a.t < n ∧ a.h < n) → ∀ v, ((as.zip l).foldl (fun f p => surp1 f p.1 p.2) f).getD v 0 = f.getD v 0 + ex as l v
  | [], l, f, _, _, v => by
    show f.getD v 0 = f.getD v 0 + 0
    omega
  | a :: as, [], f, _, _, v => by
    show f.getD v 0 = f.getD v 0 + 0
    omega
  | a :: as, x :: l, f, hf, h, v => by
    obtain ⟨h1, h2⟩ := h a (List.mem_cons_self ..)
    show ((as.zip l).foldl (fun f p => surp1 f p.1 p.2) (surp1 f a x)).getD v 0 = f.getD v 0 + ((if a.h = v then x else 0) - (if a.t = v then x else 0) + ex as l v)
    rw [surplus_go (by rw [surpM_len]; exact hf) (fun b hb => h b (List.mem_cons_of_mem _ hb)), surp1_get (by omega) (by omega)]
    omega
theorem surplus_ex {n : Nat} {as : List Arc} (ok : okArcs n as) (l : List Int) (v : Nat) : (surplus n as l).getD v 0 = ex as l v := by
  unfold surplus
  rw [surplus_go (List.length_replicate ..) ok.2]
  have : (List.replicate n (0 : Int)).getD v 0 = 0 := by
    rw [List.getD_eq_getElem?_getD, List.getElem?_replicate]
    split <;> rfl
  rw [this]
  omega
theorem pick_cons (p : Nat → Bool) (x : Int) (l : List Int) : (((List.range (x :: l).length).filter p).map fun i => (x :: l).getD i 0).sum = (if p 0 then x else 0) + (((List.range l.length).filter fun i => p (i + 1)).map fun i => l.getD i 0).sum := by
  rw [List.length_cons, List.range_succ_eq_map, List.filter_cons, List.filter_map, show (p ∘ Nat.succ) = fun i => p (i + 1) from rfl]
  cases h : p 0
  · simp only [Bool.false_eq_true, if_false, List.map_map, Int.zero_add]
    rfl
  · simp only [if_true, List.map_cons, List.sum_cons, List.map_map]
    rfl
theorem more_ex : ∀ {as : List Arc} {l : List Int}, as.length = l.length → ∀ v, moreL as l v = ex as l v
  | [], [], _, v => rfl
  | a :: as, x :: l, h, v => by
    have ih := more_ex (as := as) (l := l) (by simpa using h) v
    unfold moreL at ih ⊢
    rw [pick_cons, pick_cons]
    show ((if decide (a.h = v) = true then x else 0) + _) - ((if decide (a.t = v) = true then x else 0) + _) = (if a.h = v then x else 0) - (if a.t = v then x else 0) + ex as l v
    simp only [List.getD_cons_succ, decide_eq_true_eq] at ih ⊢
    rw [← ih]
    omega
theorem ex_set : ∀ {as : List Arc} {l : List Int} {i : Nat} {y : Int} {v : Nat}, as.length = l.length → i < as.length → ex as (l.set i (l.getD i 0 + y)) v = ex as l v + ((if (as.getD i default).h = v then y else 0) - (if (as.getD i default).t = v then y else 0))
  | [], _, i, _, _, _, h => absurd h (Nat.not_lt_zero _)
  | a :: as, x :: l, 0, y, v, _, _ => by
    show (if a.h = v then x + y else 0) - (if a.t = v then x + y else 0) + ex as l v = (if a.h = v then x else 0) - (if a.t = v then x else 0) + ex as l v + ((if a.h = v then y else 0) - (if a.t = v then y else 0))
    split <;> split <;> omega
  | a :: as, x :: l, i + 1, y, v, hl, h => by
    have ih := ex_set (as := as) (l := l) (i := i) (y := y) (v := v) (by simpa using hl) (by simpa using h)
    show (if a.h = v then x else 0) - (if a.t = v then x else 0) + ex as (l.set i (l.getD i 0 + y)) v = (if a.h = v then x else 0) - (if a.t = v then x else 0) + ex as l v + ((if (as.getD i default).h = v then y else 0) - (if (as.getD i default).t = v then y else 0))
    rw [ih]
    omega
theorem goneM_snoc (l : List Int) (P : List Step) (st : Step) (x : Int) : gone l (P ++ [st]) x = (gone l P x).set st.at_ ((gone l P x).getD st.at_ 0 + wayI st.w * x) := by
  unfold gone
  rw [List.foldl_append]
  rfl
theorem ex_gone {as : List Arc} {s : Nat} {ok : Step → Prop} {l : List Int} {x : Int} (hl : as.length = l.length) (hok : ∀ st, ok st → st.at_ < as.length) {P : List Step} {g : Nat} (w : Walk as s ok P g) (v : Nat) : ex as (gone l P x) v = ex as l v + ((if g = v then x else 0) - (if s = v then x else 0)) := by
  induction w with
  | nil =>
    show ex as l v = _
    omega
  | @snoc P st w hst ih =>
    rw [goneM_snoc, ex_set (by rw [goneM_len]; exact hl) (hok st hst), ih]
    obtain ⟨i, b⟩ := st
    cases b with
    | true =>
      show _ + _ + ((if (as.getD i default).h = v then wayI true * x else 0) - (if (as.getD i default).t = v then wayI true * x else 0)) = _ + ((if (as.getD i default).h = v then x else 0) - _)
      rw [show wayI true * x = x from Int.one_mul x]
      show _ + ((if (as.getD i default).t = v then x else 0) - _) + _ = _
      omega
    | false =>
      show _ + _ + ((if (as.getD i default).h = v then wayI false * x else 0) - (if (as.getD i default).t = v then wayI false * x else 0)) = _ + ((if (as.getD i default).t = v then x else 0) - _)
      rw [show wayI false * x = -x from Int.neg_one_mul x]
      show _ + ((if (as.getD i default).h = v then x else 0) - _) + _ = _
      split <;> split <;> omega
theorem ex_zero : ∀ (as : List Arc) (m : Nat) (v : Nat), ex as (List.replicate m 0) v = 0
  | [], _, _ => rfl
  | a :: as, 0, _ => rfl
  | a :: as, m + 1, v => by
    show (if a.h = v then (0 : Int) else 0) - (if a.t = v then 0 else 0) + ex as (List.replicate m 0) v = 0
    rw [ex_zero as m v]
    split <;> split <;> rfl
/-! ### the flows to the first ends -/
def far (as : List Arc) (s : Nat) (l : List Int) (u : Nat) : Prop := ∀ j, reach as l s j u = false
structure FK (n : Nat) (as : List Arc) (s : Nat) (es : List Nat) (k : Nat) (l : List Int) : Prop where
  ok : okLoad as l
  zero : ∀ v, v < n → v ≠ s → v ∉ es.take k → ex as l v = 0
  nn : ∀ u ∈ es.take k, 0 ≤ ex as l u
  far : ∀ u ∈ es.take k, far as s l u
theorem some_far {n : Nat} {as : List Arc} {s : Nat} {gs : List Nat} {l : List Int} (ok : okArcs n as) (hs : s < n) (h : someOf n as s gs l = []) : ∀ u ∈ gs, far as s l u := by
  intro u hu j
  refine Bool.eq_false_iff.mpr fun z => ?_
  obtain ⟨d, h1, _⟩ := search (l := l) ok hs
  have : u ∈ someOf n as s gs l := List.mem_filter.mpr ⟨hu, h1 u j z⟩
  rw [h] at this
  cases this
theorem some_near {n : Nat} {as : List Arc} {s : Nat} {gs : List Nat} {l : List Int} {g : Nat} {r : List Nat} (ok : okArcs n as) (hs : s < n) (h : someOf n as s gs l = g :: r) : g ∈ gs ∧ ¬ far as s l g ∧ ∃ d, Walk as s (StOk n as l s d) (traced as (comeBy n as l s) g) g := by
  have hm : g ∈ someOf n as s gs l := by rw [h]; exact List.mem_cons_self ..
  obtain ⟨h1, h2⟩ := List.mem_filter.mp hm
  obtain ⟨d, _, q2, q3⟩ := search (l := l) ok hs
  refine ⟨h1, fun f => ?_, d, (q3 g h2).2⟩
  have := (q2 g h2 (d g)).mpr (Nat.le_refl _)
  rw [f] at this
  cases this
theorem take_succ_mem {es : List Nat} {k : Nat} {u : Nat} (h : u ∈ es.take (k + 1)) : u ∈ es.take k ∨ es[k]? = some u := by
  rw [List.take_succ] at h
  rcases List.mem_append.mp h with h | h
  · exact .inl h
  · exact .inr (Option.mem_toList.mp h)
theorem fk_zero {n : Nat} {as : List Arc} {s : Nat} {es : List Nat} (G : Good n as s es) : FK n as s es 0 (List.replicate as.length 0) :=
  ⟨zero_ok (n := n) G.caps, fun v _ _ _ => ex_zero _ _ _, fun u hu => by simp at hu, fun u hu => by simp at hu⟩
theorem fk_led {n : Nat} {as : List Arc} {s : Nat} {es : List Nat} {k : Nat} {l0 l : List Int} (G : Good n as s es) (F : FK n as s es k l0) (h : led n as s (es.take (k + 1)) l0 = some l) : FK n as s es (k + 1) l ∧ ∀ u ∈ es.take k, ex as l u = ex as l0 u := by
  have en : ∀ u ∈ es.take (k + 1), u < n ∧ u ≠ s := fun u hu => G.en u (List.mem_of_mem_take hu)
  have sub : ∀ u ∈ es.take k, u ∈ es.take (k + 1) := fun u hu => by
    rw [List.take_succ]
    exact List.mem_append_left _ hu
  obtain ⟨h1, ⟨h2, h3, h4⟩, h5⟩ := led_ind ledStep G.ok G.sn (fun l => (∀ v, v < n → v ≠ s → v ∉ es.take (k + 1) → ex as l v = 0) ∧ (∀ u ∈ es.take k, ex as l u = ex as l0 u ∧ far as s l u) ∧ ∀ u ∈ es.take (k + 1), 0 ≤ ex as l u)
    (fun l g r x okl C hso hx => by
      obtain ⟨C1, C2, C3⟩ := C
      obtain ⟨g1, g2, d, wk⟩ := some_near G.ok G.sn hso
      have T := turn_ok G.ok okl wk hx
      have e := fun v => ex_gone (l := l) (x := x) okl.1 (fun st (h : StOk n as l s d st) => h.lt) wk v
      have pos := T.pos
      refine ⟨fun v h1 h2 h3 => ?_, fun u hu => ⟨?_, fun j => ?_⟩, fun u hu => ?_⟩
      · rw [e v, if_neg (fun z => h3 (by rw [← z]; exact g1)), if_neg (fun z => h2 z.symm), C1 v h1 h2 h3]
        rfl
      · rw [e u, if_neg (fun z => g2 (by rw [z]; exact (C2 u hu).2)), if_neg (fun z => (en u (sub u hu)).2 z.symm), (C2 u hu).1]
        omega
      · refine Bool.eq_false_iff.mpr fun z => ?_
        have := T.low j u z
        rw [(C2 u hu).2 j] at this
        cases this
      · have := C3 u hu
        rw [e u, if_neg (c := s = u) (fun z => (en u hu).2 z.symm)]
        split <;> omega)
    _ l0 rfl F.ok ⟨fun v a b c => F.zero v a b fun z => c (sub v z), fun u hu => ⟨rfl, F.far u hu⟩, fun u hu => by
      by_cases hk : u ∈ es.take k
      · exact F.nn u hk
      · obtain ⟨a, b⟩ := en u hu
        rw [F.zero u a b hk]
        exact Int.le_refl _⟩ l h
  exact ⟨⟨h1, h2, h4, some_far G.ok G.sn h5⟩, fun u hu => (h3 u hu).1⟩
theorem flowK_fk {n : Nat} {as : List Arc} {s : Nat} {es : List Nat} (G : Good n as s es) : ∀ (k : Nat) (l : List Int), flowK n as s es k = some l → FK n as s es k l ∧ ∀ j, j ≤ k → ∃ lj, flowK n as s es j = some lj ∧ ∀ u ∈ es.take j, ex as l u = ex as lj u
  | 0, l, h => by
    have h0 := h
    cases h
    refine ⟨fk_zero G, fun j hj => ?_⟩
    have : j = 0 := by omega
    subst this
    exact ⟨_, h0, fun u hu => rfl⟩
  | k + 1, l, h => by
    have h' : (flowK n as s es k).bind (fun l => led n as s (es.take (k + 1)) l) = some l := h
    cases hk : flowK n as s es k with
    | none => rw [hk] at h'; cases h'
    | some l0 =>
      rw [hk] at h'
      obtain ⟨F, st⟩ := flowK_fk G k l0 hk
      obtain ⟨F', keep⟩ := fk_led G F h'
      refine ⟨F', fun j hj => ?_⟩
      by_cases e : j = k + 1
      · subst e
        exact ⟨l, h, fun u hu => rfl⟩
      · obtain ⟨lj, h1, h2⟩ := st j (by omega)
        refine ⟨lj, h1, fun u hu => ?_⟩
        rw [keep u (List.take_subset_take_left es (by omega : j ≤ k) hu), h2 u hu]
theorem flowFit : FlowFit := by
  intro n as s es k l G hk h
  obtain ⟨F, _⟩ := flowK_fk G k l h
  refine ⟨?_, fun u hu => ?_⟩
  · unfold fitsB
    rw [List.all_eq_true]
    intro v hv
    rw [Bool.or_eq_true, decide_eq_true_eq, decide_eq_true_eq, surplus_ex G.ok]
    by_cases h1 : v ∈ s :: es
    · exact .inr h1
    · refine .inl (F.zero v (List.mem_range.mp hv) (fun z => h1 (by rw [z]; exact List.mem_cons_self ..)) fun z => h1 (List.mem_cons_of_mem _ (List.mem_of_mem_take z)))
  · rw [surplus_ex G.ok]
    by_cases h1 : u ∈ es.take k
    · exact F.nn u h1
    · obtain ⟨a, b⟩ := G.en u hu
      rw [F.zero u a b h1]
      exact Int.le_refl _
end Od
set_option Elab.async false
set_option linter.all false
set_option autoImplicit false
set_option maxRecDepth 100000
/-! M7: what crosses the border of a lot; the least worth is what can be brought. -/
namespace Od
/-! ### sums -/
theorem psum {l l' : List Int} (p : l.Perm l') : l.sum = l'.sum := by
  induction p with
  | nil => rfl
  | cons x _ ih => rw [List.sum_cons, List.sum_cons, ih]
  | swap x y l => rw [List.sum_cons, List.sum_cons, List.sum_cons, List.sum_cons]; omega
  | trans _ _ a b => exact a.trans b
theorem sum_two {f g : Nat → Int} : ∀ {L : List Nat}, (L.map fun v => f v + g v).sum = (L.map f).sum + (L.map g).sum
  | [] => rfl
  | v :: L => by
    have ih := sum_two (f := f) (g := g) (L := L)
    rw [List.map_cons, List.map_cons, List.map_cons, List.sum_cons, List.sum_cons, List.sum_cons, ih]
    omega
theorem sum_sub2 {f g : Nat → Int} : ∀ {L : List Nat}, (L.map fun v => f v - g v).sum = (L.map f).sum - (L.map g).sum
  | [] => rfl
  | v :: L => by
    have ih := sum_sub2 (f := f) (g := g) (L := L)
    rw [List.map_cons, List.map_cons, List.map_cons, List.sum_cons, List.sum_cons, List.sum_cons, ih]
    omega
theorem sum_none {f : Nat → Int} : ∀ {L : List Nat}, (∀ v ∈ L, f v = 0) → (L.map f).sum = 0
  | [], _ => rfl
  | v :: L, h => by
    rw [List.map_cons, List.sum_cons, sum_none fun u hu => h u (List.mem_cons_of_mem _ hu), h v (List.mem_cons_self ..)]
    rfl
theorem sum_one {x : Int} {h : Nat} : ∀ {L : List Nat}, L.Nodup → (L.map fun v => if h = v then x else 0).sum = if h ∈ L then x else 0
  | [], _ => rfl
  | v :: L, nd => by
    obtain ⟨n1, n2⟩ := List.nodup_cons.mp nd
    have ih := sum_one (x := x) (h := h) n2
    rw [List.map_cons, List.sum_cons, ih]
    by_cases e : h = v
    · subst e
      rw [if_pos rfl, if_neg n1, if_pos (List.mem_cons_self ..)]
      omega
    · rw [if_neg e]
      by_cases m : h ∈ L
      · rw [if_pos m, if_pos (List.mem_cons_of_mem _ m)]
        omega
      · rw [if_neg m, if_neg fun z => (List.mem_cons.mp z).elim e m]
        rfl
theorem sum_nn {f : Nat → Int} : ∀ {L : List Nat}, (∀ v ∈ L, 0 ≤ f v) → 0 ≤ (L.map f).sum
  | [], _ => Int.le_refl _
  | v :: L, h => by
    have h1 := h v (List.mem_cons_self ..)
    have h2 := sum_nn (L := L) fun u hu => h u (List.mem_cons_of_mem _ hu)
    rw [List.map_cons, List.sum_cons]
    omega
theorem sum_part {f : Nat → Int} : ∀ {A B : List Nat}, A.Nodup → B.Nodup → (∀ a ∈ A, a ∈ B) → ∃ C : List Nat, (A ++ C).Perm B ∧ ∀ c ∈ C, c ∈ B ∧ c ∉ A
  | [], B, _, _, _ => ⟨B, .refl _, fun c hc => ⟨hc, by simp⟩⟩
  | a :: A, B, nA, nB, h => by
    obtain ⟨n1, n2⟩ := List.nodup_cons.mp nA
    have hb := h a (List.mem_cons_self ..)
    obtain ⟨C, p, q⟩ := sum_part (f := f) (A := A) (B := B.erase a) n2 (nB.erase a) fun x hx => (List.mem_erase_of_ne fun e => n1 (by rw [← e]; exact hx)).mpr (h x (List.mem_cons_of_mem _ hx))
    refine ⟨C, (p.cons a).trans (List.perm_cons_erase hb).symm, fun c hc => ?_⟩
    obtain ⟨q1, q2⟩ := q c hc
    refine ⟨List.mem_of_mem_erase q1, fun z => ?_⟩
    rcases List.mem_cons.mp z with e | z
    · rw [e] at q1
      exact List.Nodup.not_mem_erase nB q1
    · exact q2 z
/-! ### lots -/
/-- out of a lot less into it -/
def cross (p : Nat → Bool) : List Arc → List Int → Int
  | a :: as, x :: l => (if (p a.t && !p a.h) = true then x else 0) - (if (!p a.t && p a.h) = true then x else 0) + cross p as l
  | _, _ => 0
theorem cross_sum {n : Nat} {p : Nat → Bool} : ∀ {as : List Arc} {l : List Int}, (∀ a ∈ as, a.t < n ∧ a.h < n) → (((List.range n).filter fun v => !p v).map (ex as l)).sum = cross p as l
  | [], l, _ => sum_none fun _ _ => rfl
  | a :: as, [], _ => sum_none fun _ _ => rfl
  | a :: as, x :: l, h => by
    have ih := cross_sum (p := p) (l := l) fun b hb => h b (List.mem_cons_of_mem a hb)
    obtain ⟨h1, h2⟩ := h a (List.mem_cons_self ..)
    have nd : ((List.range n).filter fun v => !p v).Nodup := (List.filter_sublist ..).nodup List.nodup_range
    have mem : ∀ {v : Nat}, v < n → (v ∈ (List.range n).filter (fun v => !p v) ↔ p v = false) := fun {v} hv => by
      rw [List.mem_filter, List.mem_range, Bool.not_eq_true']
      exact ⟨fun z => z.2, fun z => ⟨hv, z⟩⟩
    show (((List.range n).filter fun v => !p v).map fun v => ((if a.h = v then x else 0) - (if a.t = v then x else 0)) + ex as l v).sum = (if (p a.t && !p a.h) = true then x else 0) - (if (!p a.t && p a.h) = true then x else 0) + cross p as l
    rw [sum_two, sum_sub2, ih, sum_one nd, sum_one nd]
    cases e1 : p a.t <;> cases e2 : p a.h
    · rw [if_pos ((mem h2).mpr e2), if_pos ((mem h1).mpr e1)]
      simp
    · rw [if_neg (fun z => by rw [(mem h2).mp z] at e2; cases e2), if_pos ((mem h1).mpr e1)]
      simp
    · rw [if_pos ((mem h2).mpr e2), if_neg (fun z => by rw [(mem h1).mp z] at e1; cases e1)]
      simp
    · rw [if_neg (fun z => by rw [(mem h2).mp z] at e2; cases e2), if_neg (fun z => by rw [(mem h1).mp z] at e1; cases e1)]
      simp
def outP (p : Nat → Bool) (as : List Arc) : List Arc := as.filter fun a => p a.t && !p a.h
def capSum (l : List Arc) : Int := (l.map fun a => a.c.getD 0).sum
theorem outP_cons (p : Nat → Bool) (a : Arc) (as : List Arc) : outP p (a :: as) = if (p a.t && !p a.h) = true then a :: outP p as else outP p as := List.filter_cons
theorem cross_le {p : Nat → Bool} : ∀ {as : List Arc} {l : List Int}, okLoad as l → (∀ a ∈ outP p as, a.c.isSome = true) → cross p as l ≤ capSum (outP p as)
  | [], [], _, _ => Int.le_refl _
  | [], x :: l, ok, _ => by have := ok.1; simp at this
  | a :: as, [], ok, _ => by have := ok.1; simp at this
  | a :: as, x :: l, ok, h => by
    have ok' : okLoad as l := ⟨by have := ok.1; simpa using this, fun i hi => ok.2 (i + 1) (by simpa using hi)⟩
    rw [outP_cons] at h ⊢
    obtain ⟨o1, o2⟩ := ok.2 0 (by simp)
    have o1 : 0 ≤ x := o1
    have o2 : ∀ c, a.c = some c → x ≤ c := o2
    show (if (p a.t && !p a.h) = true then x else 0) - (if (!p a.t && p a.h) = true then x else 0) + cross p as l ≤ _
    by_cases e : (p a.t && !p a.h) = true
    · rw [if_pos e] at h ⊢
      rw [if_pos e]
      have ih := cross_le ok' fun b hb => h b (List.mem_cons_of_mem _ hb)
      obtain ⟨c, hc⟩ := Option.isSome_iff_exists.mp (h a (List.mem_cons_self ..))
      have := o2 c hc
      show _ ≤ ((a :: outP p as).map fun a => a.c.getD 0).sum
      rw [List.map_cons, List.sum_cons, hc]
      show _ ≤ c + capSum (outP p as)
      split <;> omega
    · rw [if_neg e] at h ⊢
      rw [if_neg e]
      have ih := cross_le ok' h
      split <;> omega
theorem cross_is {p : Nat → Bool} : ∀ {as : List Arc} {l : List Int}, as.length = l.length → (∀ i, i < as.length → ((p (as.getD i default).t && !p (as.getD i default).h) = true → (as.getD i default).c = some (l.getD i 0)) ∧ ((!p (as.getD i default).t && p (as.getD i default).h) = true → l.getD i 0 = 0)) →
    (∀ a ∈ outP p as, a.c.isSome = true) ∧ cross p as l = capSum (outP p as)
  | [], [], _, _ => ⟨fun a ha => (by cases ha), rfl⟩
  | [], x :: l, e, _ => by simp at e
  | a :: as, [], e, _ => by simp at e
  | a :: as, x :: l, e, h => by
    obtain ⟨i1, i2⟩ := cross_is (p := p) (as := as) (l := l) (by simpa using e) fun i hi => h (i + 1) (by simpa using hi)
    obtain ⟨h1, h2⟩ := h 0 (by simp)
    have h1 : (p a.t && !p a.h) = true → a.c = some x := h1
    have h2 : (!p a.t && p a.h) = true → x = 0 := h2
    rw [outP_cons]
    show _ ∧ (if (p a.t && !p a.h) = true then x else 0) - (if (!p a.t && p a.h) = true then x else 0) + cross p as l = _
    by_cases e : (p a.t && !p a.h) = true
    · have e2 : ¬ (!p a.t && p a.h) = true := by
        cases q1 : p a.t <;> cases q2 : p a.h <;> rw [q1, q2] at e <;> simp at e <;> simp
      rw [if_pos e, if_pos e, if_neg e2]
      refine ⟨fun b hb => ?_, ?_⟩
      · rcases List.mem_cons.mp hb with rfl | hb
        · rw [h1 e]; rfl
        · exact i1 b hb
      · show _ = ((a :: outP p as).map fun a => a.c.getD 0).sum
        rw [List.map_cons, List.sum_cons, h1 e, i2]
        show x - 0 + capSum (outP p as) = x + capSum (outP p as)
        omega
    · rw [if_neg e, if_neg e]
      refine ⟨i1, ?_⟩
      rw [i2]
      by_cases e2 : (!p a.t && p a.h) = true
      · rw [if_pos e2, h2 e2]; omega
      · rw [if_neg e2]; omega
theorem worth_some {as : List Arc} {lot : List Nat} {c : Int} (h : worthL as lot = some c) : (∀ a ∈ outP (fun v => decide (v ∈ lot)) as, a.c.isSome = true) ∧ c = capSum (outP (fun v => decide (v ∈ lot)) as) := by
  unfold worthL at h
  split at h
  · cases h
  · rename_i hn
    cases h
    refine ⟨fun a ha => ?_, rfl⟩
    cases e : a.c with
    | some c => rfl
    | none => exact absurd (List.any_eq_true.mpr ⟨a, ha, by rw [e]; rfl⟩) hn
theorem worth_is {as : List Arc} {lot : List Nat} (h : ∀ a ∈ outP (fun v => decide (v ∈ lot)) as, a.c.isSome = true) : worthL as lot = some (capSum (outP (fun v => decide (v ∈ lot)) as)) := by
  unfold worthL
  rw [if_neg]
  · rfl
  · intro z
    obtain ⟨a, h1, h2⟩ := List.any_eq_true.mp z
    have := h a h1
    cases e : a.c with
    | none => rw [e] at this; cases this
    | some c => rw [e] at h2; cases h2
theorem worth_no {as : List Arc} {lot : List Nat} {a : Arc} (h : a ∈ as) (h1 : a.t ∈ lot) (h2 : a.h ∉ lot) (h3 : a.c = none) : worthL as lot = none := by
  unfold worthL
  rw [if_pos]
  refine List.any_eq_true.mpr ⟨a, List.mem_filter.mpr ⟨h, ?_⟩, by rw [h3]; rfl⟩
  rw [decide_eq_true h1, decide_eq_false h2]
  rfl
/-! ### lots as they are tried -/
theorem lots_of {s : Nat} {es : List Nat} : ∀ (v : Nat) (lot : List Nat), lot ∈ lotsK s es v → (∀ u ∈ lot, u < v) ∧ (s < v → s ∈ lot) ∧ ∀ u ∈ es, u ∉ lot
  | 0, lot, h => by
    rw [List.mem_singleton.mp h]
    exact ⟨fun u hu => by simp at hu, fun h => absurd h (Nat.not_lt_zero _), fun u _ => by simp⟩
  | v + 1, lot, h => by
    rcases List.mem_append.mp (show lot ∈ (if v = s then [] else lotsK s es v) ++ (if v ∈ es then [] else (lotsK s es v).map fun lot => lot ++ [v]) from h) with h | h
    · split at h
      · cases h
      · rename_i hv
        obtain ⟨a, b, c⟩ := lots_of v lot h
        exact ⟨fun u hu => Nat.lt_succ_of_lt (a u hu), fun z => b (by omega), c⟩
    · split at h
      · cases h
      · rename_i hv
        obtain ⟨l0, h0, rfl⟩ := List.mem_map.mp h
        obtain ⟨a, b, c⟩ := lots_of v l0 h0
        refine ⟨fun u hu => ?_, fun z => ?_, fun u hu => ?_⟩
        · rcases List.mem_append.mp hu with hu | hu
          · exact Nat.lt_succ_of_lt (a u hu)
          · rw [List.mem_singleton.mp hu]; exact Nat.lt_succ_self _
        · by_cases e : s = v
          · rw [e]; exact List.mem_append_right _ (List.mem_singleton.mpr rfl)
          · exact List.mem_append_left _ (b (by omega))
        · intro z
          rcases List.mem_append.mp z with z | z
          · exact c u hu z
          · rw [List.mem_singleton.mp z] at hu
            exact hv hu
theorem lots_has {s : Nat} {es : List Nat} {p : Nat → Bool} : ∀ (v : Nat), (s < v → p s = true) → (∀ u ∈ es, u < v → p u = false) → (List.range v).filter p ∈ lotsK s es v
  | 0, _, _ => List.mem_singleton.mpr rfl
  | v + 1, h1, h2 => by
    have ih := lots_has (p := p) v (fun z => h1 (by omega)) fun u hu z => h2 u hu (by omega)
    show _ ∈ (if v = s then [] else lotsK s es v) ++ (if v ∈ es then [] else (lotsK s es v).map fun lot => lot ++ [v])
    rw [List.range_succ, List.filter_append]
    cases e : p v with
    | false =>
      have : [v].filter p = [] := by rw [List.filter_cons, e]; rfl
      rw [this, List.append_nil, if_neg fun z => by rw [z, h1 (by omega)] at e; cases e]
      exact List.mem_append_left _ ih
    | true =>
      have : [v].filter p = [v] := by rw [List.filter_cons, e]; rfl
      rw [this, if_neg fun z : v ∈ es => by rw [h2 v z (by omega)] at e; cases e]
      exact List.mem_append_right _ (List.mem_map.mpr ⟨_, ih, rfl⟩)
theorem best_is {ws : List (Option Int)} {m : Int} (h1 : some m ∈ ws) (h2 : ∀ c, some c ∈ ws → m ≤ c) : bestL ws = some m := by
  have hm : m ∈ ws.filterMap id := List.mem_filterMap.mpr ⟨some m, h1, rfl⟩
  have ne : ws.filterMap id ≠ [] := fun e => by rw [e] at hm; cases hm
  unfold bestL
  rw [if_neg fun z => ne (List.isEmpty_iff.mp z)]
  congr 1
  refine Int.le_antisymm (minOf_le hm) ?_
  obtain ⟨o, h3, h4⟩ := List.mem_filterMap.mp (minOf_mem ne)
  have h4 : o = some (minOf (ws.filterMap id)) := h4
  rw [h4] at h3
  exact h2 _ h3
theorem best_no {ws : List (Option Int)} (h : ∀ w ∈ ws, w = none) : bestL ws = none := by
  unfold bestL
  rw [if_pos]
  rw [List.isEmpty_iff]
  cases e : ws.filterMap id with
  | nil => rfl
  | cons x r =>
    have : x ∈ ws.filterMap id := by rw [e]; exact List.mem_cons_self ..
    obtain ⟨o, h3, h4⟩ := List.mem_filterMap.mp this
    have h4 : o = some x := h4
    rw [h4] at h3
    cases h _ h3
theorem best_some {ws : List (Option Int)} {m : Int} (h : bestL ws = some m) : some m ∈ ws := by
  unfold bestL at h
  split at h
  · cases h
  · rename_i hn
    cases h
    have ne : ws.filterMap id ≠ [] := fun e => hn (by rw [e]; rfl)
    obtain ⟨o, h3, h4⟩ := List.mem_filterMap.mp (minOf_mem ne)
    have h4 : o = some (minOf (ws.filterMap id)) := h4
    rw [h4] at h3
    exact h3
/-! ### no flow brings more than a lot is worth -/
/-- a flow to ends, told by what comes to nodes -/
structure Flo (n : Nat) (as : List Arc) (s : Nat) (es : List Nat) (l : List Int) : Prop where
  ok : okLoad as l
  zero : ∀ v, v < n → v ≠ s → v ∉ es → ex as l v = 0
  nn : ∀ u ∈ es, 0 ≤ ex as l u
theorem FK.flo {n : Nat} {as : List Arc} {s : Nat} {es : List Nat} {k : Nat} {l : List Int} (F : FK n as s es k l) : Flo n as s (es.take k) l := ⟨F.ok, F.zero, F.nn⟩
theorem weak {n : Nat} {as : List Arc} {s : Nat} {es fs : List Nat} {l : List Int} {lot : List Nat} {c : Int} (ok : okArcs n as) (F : Flo n as s es l) (nd : fs.Nodup) (hf : ∀ u ∈ fs, u < n) (hs : s ∈ lot) (he : ∀ u ∈ fs, u ∉ lot) (hw : worthL as lot = some c) : (fs.map (ex as l)).sum ≤ c := by
  obtain ⟨w1, w2⟩ := worth_some hw
  have h1 := cross_le F.ok w1
  rw [← cross_sum (n := n) ok.2] at h1
  obtain ⟨C, p, q⟩ := sum_part (f := ex as l) (A := fs) (B := (List.range n).filter fun v => !decide (v ∈ lot)) nd ((List.filter_sublist ..).nodup List.nodup_range) fun u hu => List.mem_filter.mpr ⟨List.mem_range.mpr (hf u hu), by rw [decide_eq_false (he u hu)]; rfl⟩
  have e := psum (p.map (ex as l))
  rw [List.map_append, List.sum_append] at e
  have : 0 ≤ (C.map (ex as l)).sum := sum_nn fun v hv => by
    obtain ⟨q1, _⟩ := q v hv
    obtain ⟨q3, q4⟩ := List.mem_filter.mp q1
    have q4 : v ∉ lot := of_decide_eq_false ((Bool.not_eq_true' _).mp q4)
    by_cases hv : v ∈ es
    · exact F.nn v hv
    · rw [F.zero v (List.mem_range.mp q3) (fun z => q4 (by rw [z]; exact hs)) hv]
      exact Int.le_refl _
  rw [w2]
  omega
/-- what is come to is worth what is brought -/
theorem strong {n : Nat} {as : List Arc} {s : Nat} {es : List Nat} {l : List Int} {lot : List Nat} (ok : okArcs n as) (hs : s < n) (F : Flo n as s es l) (nd : es.Nodup) (hf : ∀ u ∈ es, u < n) (hfar : ∀ u ∈ es, far as s l u) (hl : ∀ v, v ∈ lot ↔ ((comeBy n as l s).lookup v).isSome = true) :
    s ∈ lot ∧ (∀ u ∈ es, u ∉ lot) ∧ worthL as lot = some ((es.map (ex as l)).sum) := by
  obtain ⟨d, h1, h2, _⟩ := search (l := l) ok hs
  have hin : ∀ v, v ∈ lot ↔ ∃ k, reach as l s k v = true := fun v => by
    rw [hl]
    exact ⟨fun z => ⟨d v, (h2 v z _).mpr (Nat.le_refl _)⟩, fun ⟨k, z⟩ => h1 v k z⟩
  have hs' : s ∈ lot := (hin s).mpr ⟨0, decide_eq_true rfl⟩
  have he : ∀ u ∈ es, u ∉ lot := fun u hu z => by
    obtain ⟨k, hk⟩ := (hin u).mp z
    rw [hfar u hu k] at hk
    cases hk
  have cut : ∀ (st : Step), st.at_ < as.length → (sideOf as st).1 ∈ lot → (sideOf as st).2 ∉ lot → leftOf as l st = some 0 := fun st h3 h4 h5 => by
    obtain ⟨k, hk⟩ := (hin _).mp h4
    have : canGo as l st = false := Bool.eq_false_iff.mpr fun z => h5 ((hin _).mpr ⟨k + 1, reach_succ.mpr (.inr ⟨st, h3, z, rfl, hk⟩)⟩)
    unfold canGo at this
    exact of_decide_eq_true ((Bool.not_eq_false' _).mp this)
  obtain ⟨w1, w2⟩ := cross_is (p := fun v => decide (v ∈ lot)) (as := as) (l := l) F.ok.1 fun i hi => by
    simp only [Bool.and_eq_true, Bool.not_eq_true', decide_eq_true_eq, decide_eq_false_iff_not]
    refine ⟨fun ⟨h3, h4⟩ => ?_, fun ⟨h3, h4⟩ => ?_⟩
    · have := cut ⟨i, true⟩ hi h3 h4
      unfold leftOf at this
      rw [if_pos rfl] at this
      split at this
      · cases this
      · rename_i c hc
        have := Option.some.inj this
        rw [hc]
        congr 1
        dsimp only at this
        omega
    · have := cut ⟨i, false⟩ hi h4 h3
      exact Option.some.inj this
  refine ⟨hs', he, ?_⟩
  rw [worth_is w1, ← w2, ← cross_sum (n := n) ok.2]
  obtain ⟨C, p, q⟩ := sum_part (f := ex as l) (A := es) (B := (List.range n).filter fun v => !decide (v ∈ lot)) nd ((List.filter_sublist ..).nodup List.nodup_range) fun u hu => List.mem_filter.mpr ⟨List.mem_range.mpr (hf u hu), by rw [decide_eq_false (he u hu)]; rfl⟩
  have e := psum (p.map (ex as l))
  rw [List.map_append, List.sum_append] at e
  have : (C.map (ex as l)).sum = 0 := sum_none fun v hv => by
    obtain ⟨q1, q2⟩ := q v hv
    obtain ⟨q3, q4⟩ := List.mem_filter.mp q1
    have q4 : v ∉ lot := of_decide_eq_false ((Bool.not_eq_true' _).mp q4)
    exact F.zero v (List.mem_range.mp q3) (fun z => q4 (by rw [z]; exact hs')) q2
  congr 1
  omega
/-! ### without a bound -/
def freeS (as : List Arc) (st : Step) : Prop := st.at_ < as.length ∧ st.w = true ∧ (as.getD st.at_ default).c = none
theorem wk_imp {as : List Arc} {s v : Nat} {ok ok' : Step → Prop} {P : List Step} (h : Walk as s ok P v) (f : ∀ st ∈ P, ok' st) : Walk as s ok' P v := by
  induction h with
  | nil => exact .nil
  | snoc w hst ih => exact .snoc (ih fun st h => f st (List.mem_append_left _ h)) (f _ (List.mem_append_right _ (List.mem_singleton.mpr rfl)))
theorem wk_out {as : List Arc} {s v : Nat} {ok : Step → Prop} {P : List Step} {lot : List Nat} (h : Walk as s ok P v) (hs : s ∈ lot) (hv : v ∉ lot) : ∃ st, ok st ∧ (sideOf as st).1 ∈ lot ∧ (sideOf as st).2 ∉ lot := by
  induction h with
  | nil => exact absurd hs hv
  | @snoc P st w hst ih =>
    by_cases e : (sideOf as st).1 ∈ lot
    · exact ⟨st, hst, e, hv⟩
    · exact ih e
theorem led_free {n : Nat} {as : List Arc} {s : Nat} {gs : List Nat} (ok : okArcs n as) (hs : s < n) : ∀ (m : Nat) (l : List Int), mu n as s l = m → okLoad as l → led n as s gs l = none → ∃ P g, g ∈ gs ∧ Walk as s (freeS as) P g := by
  intro m
  induction m using Nat.strongRecOn with
  | _ m ih =>
    intro l hm okl h
    cases hso : someOf n as s gs l with
    | nil => rw [led_nil hso] at h; cases h
    | cons g r =>
      obtain ⟨g1, _, d, wk⟩ := some_near ok hs hso
      cases hll : leastLeft as l (traced as (comeBy n as l s) g) with
      | none =>
        refine ⟨_, g, g1, wk_imp wk fun st hst => ?_⟩
        have h1 := least_none hll st hst
        have h2 := (wk_low wk st hst).1.lt
        unfold leftOf at h1
        split at h1
        · rename_i hw
          split at h1
          · rename_i hc
            exact ⟨h2, hw, hc⟩
          · cases h1
        · cases h1
      | some x =>
        obtain ⟨hmu, okl2⟩ := ledStep n as s gs l g r x ok okl hs hso hll
        rw [led_more hso hll hmu] at h
        exact ih _ (by rw [← hm]; exact hmu) _ rfl okl2 h
theorem free_worth {as : List Arc} {s g : Nat} {P : List Step} {lot : List Nat} (h : Walk as s (freeS as) P g) (hs : s ∈ lot) (hg : g ∉ lot) : worthL as lot = none := by
  obtain ⟨st, ⟨h1, h2, h3⟩, h4, h5⟩ := wk_out h hs hg
  obtain ⟨i, w⟩ := st
  dsimp only at h1 h2 h3
  subst h2
  exact worth_no (getD_mem h1) h4 h5 h3
theorem flow_free {n : Nat} {as : List Arc} {s : Nat} {es : List Nat} (G : Good n as s es) : ∀ k, flowK n as s es k = none → ∃ P g, g ∈ es.take k ∧ Walk as s (freeS as) P g
  | 0, h => by cases h
  | k + 1, h => by
    have h' : (flowK n as s es k).bind (fun l => led n as s (es.take (k + 1)) l) = none := h
    cases hk : flowK n as s es k with
    | none =>
      obtain ⟨P, g, h1, h2⟩ := flow_free G k hk
      exact ⟨P, g, List.take_subset_take_left es (by omega) h1, h2⟩
    | some l =>
      rw [hk] at h'
      exact led_free G.ok G.sn _ l rfl (flowK_fk G k l hk).1.ok h'
/-! ### the least worth is the most -/
theorem most_least {n : Nat} {as : List Arc} {s : Nat} {es : List Nat} (G : Good n as s es) (k : Nat) : (flowK n as s es (k + 1) = none → leastK n as s es k = none) ∧ ∀ l, flowK n as s es (k + 1) = some l → leastK n as s es k = some (((es.take (k + 1)).map (ex as l)).sum) := by
  have nd : (es.take (k + 1)).Nodup := (List.take_sublist ..).nodup G.nd
  have hf : ∀ u ∈ es.take (k + 1), u < n := fun u hu => (G.en u (List.mem_of_mem_take hu)).1
  refine ⟨fun h => ?_, fun l h => ?_⟩
  · obtain ⟨P, g, h1, h2⟩ := flow_free G _ h
    refine best_no fun w hw => ?_
    obtain ⟨lot, h3, rfl⟩ := List.mem_map.mp hw
    obtain ⟨_, h4, h5⟩ := lots_of _ _ h3
    exact free_worth h2 (h4 G.sn) (h5 g h1)
  · obtain ⟨F, _⟩ := flowK_fk G _ l h
    obtain ⟨d, _, _, q3⟩ := search (l := l) G.ok G.sn
    obtain ⟨r1, r2, r3⟩ := strong (lot := (List.range n).filter fun v => ((comeBy n as l s).lookup v).isSome) G.ok G.sn F.flo nd hf F.far fun v => by
      rw [List.mem_filter, List.mem_range]
      exact ⟨fun z => z.2, fun z => ⟨(q3 v z).1, z⟩⟩
    refine best_is (List.mem_map.mpr ⟨_, lots_has n (fun _ => ?_) fun u hu _ => ?_, r3⟩) fun c hc => ?_
    · exact (List.mem_filter.mp r1).2
    · exact Bool.eq_false_iff.mpr fun z => r2 u hu (List.mem_filter.mpr ⟨List.mem_range.mpr (hf u hu), z⟩)
    · obtain ⟨lot, h3, h4⟩ := List.mem_map.mp hc
      obtain ⟨_, h5, h6⟩ := lots_of _ _ h3
      exact weak G.ok F.flo nd hf (h5 G.sn) h6 h4
end Od
set_option Elab.async false
set_option linter.all false
set_option autoImplicit false
set_option maxRecDepth 100000
/-! M8: what is asked and told, over data: the law's words agree with the program's. -/
namespace Od
open PySem
/-! ### nets, ends as data -/
theorem isBelow_natD {n : Nat} {m : Int} : isBelow (natD n) m = decide ((n : Int) < m) := by
  unfold isBelow natD
  simp
theorem keys_nd {l : List Int} (h : l.Nodup) : keysOf l = l := by
  have key : ∀ (r l : List Int), l = r.reverse → l.Nodup → keysOf l = l := by
    intro r
    induction r with
    | nil =>
      intro l e _
      subst e
      rfl
    | cons x r ih =>
      intro l e nd
      rw [List.reverse_cons] at e
      subst e
      obtain ⟨h1, _, h3⟩ := List.nodup_append.mp nd
      rw [keysOf_snoc, ih _ rfl h1, if_neg fun z => h3 x z x (List.mem_singleton_self _) rfl]
  exact key l.reverse l (List.reverse_reverse l).symm h
theorem capD_isCap {c : Option Int} (h : ∀ x, c = some x → 0 ≤ x) : (isNone (capD c) || isNumber (capD c)) = true := by
  cases c with
  | none => rfl
  | some x => exact decide_eq_true (h x rfl)
theorem capOfM_D (c : Option Int) : capOf (capD c) = c := by cases c <;> rfl
theorem netOf_seq {d b : PyData} {n : Nat} {as : List Arc} {f : Arc → PyData} (h : seqOf d = some [natD n, b]) (hb : seqOf b = some (as.map f)) (hf : ∀ a, seqOf (f a) = some [natD a.t, natD a.h, capD a.c]) (ok : okArcs n as) (h0 : 0 < n) (caps : ∀ a ∈ as, ∀ c, a.c = some c → 0 ≤ c) : netOf d = some (n, as) := by
  have h1 := ok.1
  have e1 : isBelow (natD n) 2001 = true := by
    rw [isBelow_natD]
    exact decide_eq_true (by omega)
  have e2 : decide (intOf (natD n) = 0) = false := decide_eq_false (by show ¬ (n : Int) = 0; omega)
  have e3 : (as.map f).all (isArcD (intOf (natD n))) = true := by
    rw [List.all_map, List.all_eq_true]
    intro a ha
    obtain ⟨h2, h3⟩ := ok.2 a ha
    show isArcD (n : Int) (f a) = true
    unfold isArcD
    rw [hf]
    dsimp only
    rw [capD_isCap (caps a ha), isBelow_natD, isBelow_natD, decide_eq_true (by omega : (a.t : Int) < n), decide_eq_true (by omega : (a.h : Int) < n)]
    rfl
  have e4 : (as.map f).map arcOf = as := by
    rw [List.map_map]
    refine (List.map_congr_left fun a _ => ?_).trans (List.map_id as)
    show arcOf (f a) = a
    unfold arcOf
    rw [hf]
    dsimp only
    rw [capOfM_D]
    show (⟨((a.t : Int)).toNat, ((a.h : Int)).toNat, a.c⟩ : Arc) = a
    rw [Int.toNat_natCast, Int.toNat_natCast]
  unfold netOf
  rw [h]
  dsimp only
  rw [hb]
  dsimp only
  rw [e1, e2, e3, e4, if_pos (by rfl)]
  show some (((n : Int)).toNat, as) = _
  rw [Int.toNat_natCast]
theorem netOf_D {n : Nat} {as : List Arc} (ok : okArcs n as) (h0 : 0 < n) (caps : ∀ a ∈ as, ∀ c, a.c = some c → 0 ≤ c) : netOf (netD n as) = some (n, as) := netOf_seq (f := arcD) rfl rfl (fun _ => rfl) ok h0 caps
theorem endsOf_seq {n s : Nat} {e : PyData} {es : List Nat} (h : seqOf e = some (natsD es)) (hs : s < n) (en : ∀ u ∈ es, u < n ∧ u ≠ s) (nd : es.Nodup) : endsOf (n : Int) (natD s) e = .ok es := by
  have e1 : (natsD es).all (isEndD (n : Int) (natD s)) = true := by
    unfold natsD
    rw [List.all_map, List.all_eq_true]
    intro u hu
    obtain ⟨h1, h2⟩ := en u hu
    show (isBelow (natD u) (n : Int) && !(decide (intOf (natD u) = intOf (natD s)))) = true
    rw [isBelow_natD, decide_eq_true (by omega : (u : Int) < n), decide_eq_false (by show ¬ (u : Int) = (s : Int); omega)]
    rfl
  have e2 : (natsD es).map intOf = es.map fun u : Nat => (u : Int) := by
    unfold natsD
    rw [List.map_map]
    rfl
  have nd2 : (es.map fun u : Nat => (u : Int)).Nodup := by
    refine List.Pairwise.map _ (fun a b hab => ?_) nd
    omega
  unfold endsOf
  rw [if_pos (by rw [isBelow_natD]; exact decide_eq_true (by omega)), h]
  dsimp only
  rw [e1, e2, keys_nd nd2, if_pos (by rw [List.length_map]; unfold natsD; rw [List.length_map]; simp)]
  congr 1
  unfold natsD
  rw [List.map_map]
  refine (List.map_congr_left fun u _ => ?_).trans (List.map_id es)
  show ((u : Int)).toNat = u
  rw [Int.toNat_natCast]
theorem ask_good {d e : PyData} {n s : Nat} {as : List Arc} {es : List Nat} (hd : netOf d = some (n, as)) (he : seqOf e = some (natsD es)) (G : Good n as s es) : askD d (natD s) e = .ok (n, as, s, es) := by
  rw [askD_is hd (endsOf_seq he G.sn G.en G.nd), natOf_D]
/-! ### loads -/
theorem loadOf_is {as : List Arc} {v : PyData} {l : List Int} (h : loadOf as v = some l) : seqOf v = some (intsD l) ∧ okLoad as l := by
  unfold loadOf at h
  cases hv : seqOf v with
  | none => rw [hv] at h; cases h
  | some xs =>
    rw [hv] at h
    dsimp only at h
    split at h
    · rename_i hc
      have h := Option.some.inj h
      subst h
      simp only [Bool.and_eq_true, decide_eq_true_eq] at hc
      obtain ⟨⟨h1, h2⟩, h3⟩ := hc
      have nms : ∀ x ∈ xs, ∃ i : Int, x = .int i ∧ 0 ≤ i := fun x hx => isNum_int (List.all_eq_true.mp h2 x hx)
      have e1 : intsD (xs.map intOf) = xs := by
        unfold intsD
        rw [List.map_map]
        refine (List.map_congr_left fun x hx => ?_).trans (List.map_id xs)
        obtain ⟨i, rfl, _⟩ := nms x hx
        rfl
      refine ⟨by rw [e1], by rw [List.length_map]; exact h1.symm, fun i hi => ?_⟩
      have hx : xs[i]? = some xs[i] := List.getElem?_eq_getElem (by omega)
      have ha : as[i]? = some as[i] := List.getElem?_eq_getElem hi
      obtain ⟨j, ej, hj⟩ := nms _ (List.getElem_mem (h := by omega) : xs[i] ∈ xs)
      have e2 : (xs.map intOf).getD i 0 = j := by
        rw [List.getD_eq_getElem?_getD, List.getElem?_map, hx, ej]
        rfl
      have e3 : as.getD i default = as[i] := by
        rw [List.getD_eq_getElem?_getD, ha]
        rfl
      rw [e2, e3]
      refine ⟨hj, fun c hc => ?_⟩
      have h4 : leCap (intOf xs[i]) as[i].c ∈ List.zipWith (fun a x => leCap (intOf x) a.c) as xs := by
        refine List.mem_of_getElem? (i := i) ?_
        rw [List.getElem?_zipWith, ha, hx]
      have h5 := List.all_eq_true.mp h3 _ h4
      rw [hc, ej] at h5
      exact of_decide_eq_true h5
    · cases h
theorem isToL_flo {n : Nat} {as : List Arc} {s : Nat} {es : List Nat} {v : PyData} (G : Good n as s es) (h : isToL n as s es v = true) : ∃ l, loadOf as v = some l ∧ seqOf v = some (intsD l) ∧ Flo n as s es l := by
  unfold isToL at h
  cases hl : loadOf as v with
  | none => rw [hl] at h; cases h
  | some l =>
    rw [hl] at h
    dsimp only at h
    obtain ⟨h1, h2⟩ := loadOf_is hl
    have q : ∀ u, u < n → u ≠ s → (if u ∈ es then decide (0 ≤ ex as l u) else decide (ex as l u = 0)) = true := fun u hu hs => by
      have := List.all_eq_true.mp h u (List.mem_filter.mpr ⟨List.mem_range.mpr hu, by rw [decide_eq_false hs]; rfl⟩)
      rw [more_ex h2.1] at this
      exact this
    refine ⟨l, rfl, h1, h2, fun u hu hs hn => ?_, fun u hu => ?_⟩
    · have := q u hu hs
      rw [if_neg hn] at this
      exact of_decide_eq_true this
    · obtain ⟨a, b⟩ := G.en u hu
      have := q u a b
      rw [if_pos hu] at this
      exact of_decide_eq_true this
theorem flo_isToL {n : Nat} {as : List Arc} {s : Nat} {es : List Nat} {v : PyData} {l : List Int} (h : loadOf as v = some l) (F : Flo n as s es l) : isToL n as s es v = true := by
  unfold isToL
  rw [h]
  dsimp only
  rw [List.all_eq_true]
  intro u hu
  obtain ⟨h1, h2⟩ := List.mem_filter.mp hu
  have h1 := List.mem_range.mp h1
  have h2 : u ≠ s := of_decide_eq_false ((Bool.not_eq_true' _).mp h2)
  rw [more_ex F.ok.1]
  by_cases hm : u ∈ es
  · rw [if_pos hm]
    exact decide_eq_true (F.nn u hm)
  · rw [if_neg hm]
    exact decide_eq_true (F.zero u h1 h2 hm)
theorem isTo_same {n : Nat} {as : List Arc} {s : Nat} {es : List Nat} (G : Good n as s es) (v : PyData) : isToB n as s es v = isToL n as s es v := by
  rw [Bool.eq_iff_iff]
  constructor
  · intro h
    unfold isToB at h
    cases hl : loadOf as v with
    | none => rw [hl] at h; cases h
    | some l =>
      rw [hl] at h
      dsimp only at h
      obtain ⟨h1, h2⟩ := Bool.and_eq_true_iff.mp h
      obtain ⟨_, ok⟩ := loadOf_is hl
      refine flo_isToL hl ⟨ok, fun u hu hs hn => ?_, fun u hu => ?_⟩
      · have := List.all_eq_true.mp h1 u (List.mem_range.mpr hu)
        rw [surplus_ex G.ok, Bool.or_eq_true, decide_eq_true_eq, decide_eq_true_eq] at this
        rcases this with z | z
        · exact z
        · exact absurd z fun z => (List.mem_cons.mp z).elim hs hn
      · have := of_decide_eq_true (List.all_eq_true.mp h2 u hu)
        rw [surplus_ex G.ok] at this
        exact this
  · intro h
    obtain ⟨l, hl, _, F⟩ := isToL_flo G h
    unfold isToB
    rw [hl]
    dsimp only
    rw [Bool.and_eq_true]
    refine ⟨List.all_eq_true.mpr fun u hu => ?_, List.all_eq_true.mpr fun u hu => ?_⟩
    · rw [surplus_ex G.ok, Bool.or_eq_true, decide_eq_true_eq, decide_eq_true_eq]
      by_cases h1 : u ∈ s :: es
      · exact .inr h1
      · exact .inl (F.zero u (List.mem_range.mp hu) (fun z => h1 (by rw [z]; exact List.mem_cons_self ..)) fun z => h1 (List.mem_cons_of_mem _ z))
    · rw [surplus_ex G.ok]
      exact decide_eq_true (F.nn u hu)
/-! ### what the functions tell -/
theorem mostK_is {n : Nat} {as : List Arc} {s : Nat} {es : List Nat} (G : Good n as s es) (k : Nat) : mostK n as s es k = leastK n as s es k := by
  obtain ⟨h1, h2⟩ := most_least G k
  unfold mostK
  cases h : flowK n as s es (k + 1) with
  | none => rw [h1 h]; rfl
  | some l =>
    rw [h2 l h]
    show some (((surpsAt n as l es).take (k + 1)).sum) = _
    unfold surpsAt
    rw [← List.map_take]
    congr 2
    exact List.map_congr_left fun u _ => surplus_ex G.ok l u
theorem mostD_is {d e : PyData} {n s : Nat} {as : List Arc} {es : List Nat} (hd : netOf d = some (n, as)) (he : seqOf e = some (natsD es)) (G : Good n as s es) : mostD d (natD s) e = .ok (.tuple ((List.range es.length).map fun k => capD (leastK n as s es k))) := by
  unfold mostD
  rw [ask_good hd he G]
  show Except.ok (PyData.tuple ((List.range es.length).map fun k => capD (mostK n as s es k))) = _
  congr 2
  exact List.map_congr_left fun k _ => by rw [mostK_is G]
theorem soonD_is {d e : PyData} {n s : Nat} {as : List Arc} {es : List Nat} (hd : netOf d = some (n, as)) (he : seqOf e = some (natsD es)) (G : Good n as s es) : soonestD d (natD s) e = .ok (flowD (flowK n as s es es.length)) := by
  unfold soonestD
  rw [ask_good hd he G]
  rfl
theorem flowK_none {n : Nat} {as : List Arc} {s : Nat} {es : List Nat} (k : Nat) (h : flowK n as s es k = none) : ∀ j, k ≤ j → flowK n as s es j = none := by
  intro j hj
  induction j with
  | zero =>
    have : k = 0 := by omega
    rw [this] at h
    cases h
  | succ j ih =>
    by_cases e : k = j + 1
    · rw [← e]; exact h
    · show (flowK n as s es j).bind _ = none
      rw [ih (by omega)]
      rfl
/-- no flow to all of them: one of them has no bound -/
theorem soon_none {n : Nat} {as : List Arc} {s : Nat} {es : List Nat} (G : Good n as s es) : (flowK n as s es es.length).isNone = ((List.range es.length).map fun k => leastK n as s es k).any fun o => o.isNone := by
  rw [Bool.eq_iff_iff, List.any_map, List.any_eq_true]
  constructor
  · intro h
    have h := Option.isNone_iff_eq_none.mp h
    cases hl : es.length with
    | zero => rw [hl] at h; cases h
    | succ m =>
      rw [hl] at h
      exact ⟨m, List.mem_range.mpr (by omega), by show (leastK n as s es m).isNone = true; rw [(most_least G m).1 h]; rfl⟩
  · rintro ⟨k, hk, h⟩
    have h : (leastK n as s es k).isNone = true := h
    have hk := List.mem_range.mp hk
    rw [Option.isNone_iff_eq_none] at h ⊢
    cases hf : flowK n as s es (k + 1) with
    | none => exact flowK_none _ hf _ (by omega)
    | some l =>
      rw [(most_least G k).2 l hf] at h
      cases h
theorem take_sum (f : Nat → Int) (es : List Nat) (k : Nat) : ((es.map f).take k).sum = ((es.take k).map f).sum := by rw [List.map_take]
/-- the flow to all of them brings to each beginning what it can -/
theorem soon_some {n : Nat} {as : List Arc} {s : Nat} {es : List Nat} {l : List Int} (G : Good n as s es) (h : flowK n as s es es.length = some l) : loadOf as (loadD l) = some l ∧ isToL n as s es (loadD l) = true ∧ as.length = l.length ∧ ∀ k, k < es.length → leastK n as s es k = some (((es.map (moreL as l)).take (k + 1)).sum) := by
  obtain ⟨F, st⟩ := flowK_fk G _ l h
  have hl := loadOf_ok F.ok
  have F2 := F.flo
  rw [List.take_length] at F2
  refine ⟨hl, flo_isToL hl F2, F.ok.1, fun k hk => ?_⟩
  obtain ⟨lk, h1, h2⟩ := st (k + 1) (by omega)
  rw [(most_least G k).2 lk h1, take_sum]
  congr 2
  exact List.map_congr_left fun u hu => by rw [more_ex F.ok.1, h2 u hu]
/-- no flow brings more -/
theorem flow_le {n : Nat} {as : List Arc} {s : Nat} {es : List Nat} {l : List Int} {k : Nat} {c : Int} (G : Good n as s es) (F : Flo n as s es l) (h : leastK n as s es k = some c) : ((es.map (moreL as l)).take (k + 1)).sum ≤ c := by
  rw [take_sum]
  have h1 := best_some h
  obtain ⟨lot, h2, h3⟩ := List.mem_map.mp h1
  obtain ⟨_, h4, h5⟩ := lots_of _ _ h2
  have := weak (fs := es.take (k + 1)) G.ok F ((List.take_sublist ..).nodup G.nd) (fun u hu => (G.en u (List.mem_of_mem_take hu)).1) (h4 G.sn) h5 h3
  rw [List.map_congr_left fun u _ => more_ex F.ok.1 u]
  exact this
theorem brought_is {d e v : PyData} {n s : Nat} {as : List Arc} {es : List Nat} {l : List Int} (hd : netOf d = some (n, as)) (he : seqOf e = some (natsD es)) (G : Good n as s es) (hv : seqOf v = some (intsD l)) (hl : as.length = l.length) (h : isToL n as s es v = true) : broughtD d (natD s) e v = .ok (.tuple (intsD (es.map (moreL as l)))) := by
  unfold broughtD
  rw [ask_good hd he G]
  dsimp only
  rw [isTo_same G, h, if_pos rfl]
  have e1 : intsOf v = l := by
    unfold intsOf
    rw [hv]
    exact intsOf_D l
  unfold loadD surpsAt
  rw [e1]
  congr 3
  exact List.map_congr_left fun u _ => (surplus_ex G.ok l u).trans (more_ex hl u).symm
theorem brought_no {d e v : PyData} {n s : Nat} {as : List Arc} {es : List Nat} (hd : netOf d = some (n, as)) (he : seqOf e = some (natsD es)) (G : Good n as s es) (h : isToL n as s es v = false) : broughtD d (natD s) e v = .error v := by
  unfold broughtD
  rw [ask_good hd he G]
  dsimp only
  rw [isTo_same G, h, if_neg (by decide)]
theorem endsFit_is {d e v : PyData} {n s : Nat} {as : List Arc} {es : List Nat} (hd : netOf d = some (n, as)) (he : seqOf e = some (natsD es)) (G : Good n as s es) : endsFitD d (natD s) e v = .ok (.bool (isToL n as s es v)) := by
  unfold endsFitD
  rw [ask_good hd he G]
  show Except.ok (PyData.bool (isToB n as s es v)) = _
  rw [isTo_same G]
/-! ### refusals -/
theorem refuse_net {d : PyData} (h : netOf d = none) (st e v : PyData) : mostD d st e = .error d ∧ soonestD d st e = .error d ∧ endsFitD d st e v = .error d ∧ broughtD d st e v = .error d := by
  have a := askD_net (st := st) (e := e) h
  refine ⟨?_, ?_, ?_, ?_⟩
  · unfold mostD; rw [a]; rfl
  · unfold soonestD; rw [a]; rfl
  · unfold endsFitD; rw [a]; rfl
  · unfold broughtD; rw [a]
theorem refuse_ends {d st e x : PyData} {n : Nat} {as : List Arc} (h : netOf d = some (n, as)) (h2 : endsOf (n : Int) st e = .error x) (v : PyData) : mostD d st e = .error x ∧ soonestD d st e = .error x ∧ endsFitD d st e v = .error x ∧ broughtD d st e v = .error x := by
  have a := askD_ends h h2
  refine ⟨?_, ?_, ?_, ?_⟩
  · unfold mostD; rw [a]; rfl
  · unfold soonestD; rw [a]; rfl
  · unfold endsFitD; rw [a]; rfl
  · unfold broughtD; rw [a]
theorem ends_start {n : Int} {st e : PyData} (h : isBelow st n = false) : endsOf n st e = .error st := by
  unfold endsOf
  rw [if_neg (by rw [h]; decide)]
end Od
set_option Elab.async false
set_option linter.all false
set_option autoImplicit false
set_option maxRecDepth 100000
set_option maxHeartbeats 4000000
/-! R16: makers of lambdas: their code objects, their tables. -/
namespace Od
open PySem PySem.Spec L2
theorem krepr {X : Cx} {K : PySem.W.Frag} (hg : X.A.guards = some []) (hu : X.A.units + 64 < cLine) (h : X.K = K := by rfl) : CallR X (.builtin "repr") (kRepr K) := h ▸ c_repr hg hu
/-- a def of the top stands, its code object at c -/
def TopC (K : PySem.W.Frag) (mg : Str → Option Value) (x : Str) (st : Stmt) (c : Addr) : Prop := ∃ f fd, mg x = some (.ref f) ∧ Fun K x x st f fd ∧ fd.code = .ref c
section
variable {P : Program} {w : World} {K : PySem.W.Frag} {mg : Str → Option Value} {base : Heap}
theorem okGc {x qual : Str} {st : Stmt} {f c : Addr} {fd : FuncData} {N ps : List Str} {k : Nat} {sp : Sp} (F : Fun K x qual st f fd) (hc : fd.code = .ref c) (S : FnScope N ps (defScope st)) (len : ∀ vs H Q E, sp vs H Q E → vs.length = ps.length)
    (body : ∀ (A : Around) (outer : List Env) (s : Shared) (H : Hp) (vs : List V) (Q : VK) (E : XK), A.guards = some [] → Room k (A.deeper (PyProof.Rows.envOfC qual (defScope st) s.heap.objs.size f (.ref c))) → sp vs H Q E →
      ∃ t, PSs (cxOf CX0 P w K mg base N qual (defScope st) f (.ref c) A outer s H E).nox (defBody st) t ∧ t { nx := fun _ H' => Q .non H', rt := Q } (L2.start N vs) H) : FnG P w K mg base CX0 (k + 1) f fd ps sp := by
  obtain ⟨oc, od, kV, doc, pm, an, cdv, ct, osl, rfl, lk, hcd⟩ := F.ex
  have hc : cdv = .ref c := hc
  subst hc
  refine ⟨len, fun A outer s H args us vs Q E hg hr e0 hb r hsp => ?_⟩
  refine LamX.run_ofS lk hcd S hr e0 hb r (len _ _ _ _ hsp) fun hr' => ?_
  obtain ⟨t, ht, hq⟩ := body A outer s H vs Q E hg hr' hsp
  exact ⟨t, ht.nox, hq⟩
end
/-- the lambdas of a text's statements -/
def lamIn : Stmt → LamT
  | .Assign _ (.List [.Lambda p b s _] ..) .. => ⟨p, b, s⟩
  | .Expr (.Call _ [.Lambda p b s _] ..) .. => ⟨p, b, s⟩
  | .If _ [.Return (some (.Compare (.Call _ [.Lambda p b s _] ..) ..)) ..] .. => ⟨p, b, s⟩
  | _ => ⟨⟨[], [], none, [], [], none, []⟩, .Constant .none 0 ⟨0, 0, 0, 0⟩, ⟨.function, [], false, false, []⟩⟩
section
variable {δ : List Sl} {M : Mem} {C : Addr}
/-- a call that is refused -/
abbrev tbX (sp : Sp) (t : TA) : XK → TE := fun E => tCallS sp (WE fun cls d _ H => E cls d H) t
theorem rfs_X {dom : List PyData → Prop} {f : List PyData → Except PyData PyData} {t : TA} {ds : List PyData} {d0 : PyData} (h : Ga δ M t ds) (hd : dom ds) (hf : f ds = .error d0) : Rfs δ M C (tbX (spX C dom f) t) d0 := fun c G H σ E Q A k =>
  h c G H σ _ A fun G1 H1 vs A1 s1 r1 => ⟨G1, ds, A1.gh, r1, hd, (fun d' e' => by
    rw [hf] at e'
    cases e'), fun d' e' G' H' v dx ev r hx => by
    rw [hf] at e'
    cases e'
    exact k v dx G' H' (A1.ext ev) (s1.trans ev.gg) r hx⟩
end
end Od
set_option Elab.async false
set_option linter.all false
set_option autoImplicit false
set_option maxRecDepth 100000
set_option maxHeartbeats 4000000
/-! W24: what is no net, start, row of ends is refused, in the told order. -/
namespace Od
open PySem PySem.Spec L2
/-- a datum that can be shown and compared when shown -/
structure Shn (d : PyData) : Prop where
  ok : ShOk d
  sk : PyData.strOk d.shown = true
theorem Shn.of {d : PyData} (h : heft d ≤ 2400) (hd : d.depth ≤ 60) (hp : plainD d = true) : Shn d := ⟨.of h hd, sk_shown d hp⟩
theorem shn_nat {n : Nat} (h : n ≤ 2000) : Shn (natD n) := .of (by unfold natD; rw [heft_int (by omega) (by omega)]; decide) (Nat.zero_le _) rfl
theorem shn_natL {n : Nat} (h : n ≤ 2000) : Shn (.list [natD n]) := by
  have : heft (.list [natD n]) = 2 := by
    show 1 + (heft (natD n) + 0) = 2
    unfold natD
    rw [heft_int (by omega) (by omega)]
  exact .of (by rw [this]; decide) (by show max 0 0 + 1 ≤ 60; decide) rfl
def noneOk (d : PyData) : Prop := netOf d = none ∧ Shn d
def badOk (n : Nat) (d : PyData) : Prop := isBelow d (n : Int) = false ∧ Shn d
def oddOk (n : Nat) (d : PyData) : Prop := endsOf (n : Int) (natD 0) d = .error d ∧ Shn d
def noneL : List PyData := [.none, .tuple [.int 0, .tuple []], .tuple [.int 2, .list [.tuple [.int 0, .int 2, .int 1]]], .tuple [.int 2, .tuple [.tuple [.int 0, .int 1]]]]
def badL (n : Nat) : List PyData := [.none, natD n, .int (0 - 1), .bool true, .str "0"]
def oddL (n : Nat) : List PyData := [.none, .int 4, .str "1", .list [natD n], .list [.int 0], .list [.int 1, .int 1], .list [.int 1, .none], .list [.int (0 - 1)], .list [.bool true]]
theorem none_all : ∀ d ∈ noneL, noneOk d := by
  intro d h
  rcases List.mem_cons.mp h with rfl | h
  · exact ⟨rfl, .of (by decide) (by decide) rfl⟩
  rcases List.mem_cons.mp h with rfl | h
  · exact ⟨rfl, .of (by decide) (by decide) rfl⟩
  rcases List.mem_cons.mp h with rfl | h
  · exact ⟨rfl, .of (by decide) (by decide) rfl⟩
  rcases List.mem_cons.mp h with rfl | h
  · exact ⟨rfl, .of (by decide) (by decide) rfl⟩
  · cases h
theorem bad_all {n : Nat} (hn : n ≤ 2000) : ∀ d ∈ badL n, badOk n d := by
  intro d h
  rcases List.mem_cons.mp h with rfl | h
  · exact ⟨rfl, .of (by decide) (by decide) rfl⟩
  rcases List.mem_cons.mp h with rfl | h
  · exact ⟨by rw [isBelow_natD]; exact decide_eq_false (by omega), shn_nat hn⟩
  rcases List.mem_cons.mp h with rfl | h
  · exact ⟨rfl, .of (by decide) (by decide) rfl⟩
  rcases List.mem_cons.mp h with rfl | h
  · exact ⟨rfl, .of (by decide) (by decide) rfl⟩
  rcases List.mem_cons.mp h with rfl | h
  · exact ⟨rfl, .of (by decide) (by decide), by decide +kernel⟩
  · cases h
theorem ends_noSeq {n : Nat} {d : PyData} (h0 : 2 ≤ n) (h : seqOf d = none) : endsOf (n : Int) (natD 0) d = .error d := by
  unfold endsOf
  rw [if_pos (by rw [isBelow_natD]; exact decide_eq_true (by omega)), h]
theorem ends_bad {n : Nat} {xs : List PyData} (h0 : 2 ≤ n) (h : (xs.all (isEndD (n : Int) (natD 0)) && decide ((keysOf (xs.map intOf)).length = xs.length)) = false) : endsOf (n : Int) (natD 0) (.list xs) = .error (.list xs) := by
  unfold endsOf
  rw [if_pos (by rw [isBelow_natD]; exact decide_eq_true (by omega))]
  show (if _ then _ else _) = _
  rw [if_neg (by rw [h]; decide)]
theorem odd_all {n : Nat} (h0 : 2 ≤ n) (hn : n ≤ 2000) : ∀ d ∈ oddL n, oddOk n d := by
  have b1 : isBelow (.int 1) (n : Int) = true := by
    have := isBelow_natD (n := 1) (m := (n : Int))
    rw [decide_eq_true (by omega)] at this
    exact this
  intro d h
  rcases List.mem_cons.mp h with rfl | h
  · exact ⟨ends_noSeq h0 rfl, .of (by decide) (by decide) rfl⟩
  rcases List.mem_cons.mp h with rfl | h
  · exact ⟨ends_noSeq h0 rfl, .of (by decide) (by decide) rfl⟩
  rcases List.mem_cons.mp h with rfl | h
  · exact ⟨ends_noSeq h0 rfl, .of (by decide) (by decide), by decide +kernel⟩
  rcases List.mem_cons.mp h with rfl | h
  · refine ⟨ends_bad h0 ?_, shn_natL hn⟩
    show (((isBelow (natD n) (n : Int) && _) && true) && _) = false
    rw [isBelow_natD, decide_eq_false (by omega)]
    rfl
  rcases List.mem_cons.mp h with rfl | h
  · refine ⟨ends_bad h0 ?_, .of (by decide) (by decide) rfl⟩
    show (((isBelow (.int 0) (n : Int) && false) && true) && _) = false
    rw [Bool.and_false]
    rfl
  rcases List.mem_cons.mp h with rfl | h
  · refine ⟨ends_bad h0 ?_, .of (by decide) (by decide) rfl⟩
    show (_ && false) = false
    rw [Bool.and_false]
  rcases List.mem_cons.mp h with rfl | h
  · refine ⟨ends_bad h0 ?_, .of (by decide) (by decide) rfl⟩
    show ((_ && (false && true)) && _) = false
    rw [Bool.false_and, Bool.and_false, Bool.false_and]
  rcases List.mem_cons.mp h with rfl | h
  · exact ⟨ends_bad h0 rfl, .of (by decide) (by decide) rfl⟩
  rcases List.mem_cons.mp h with rfl | h
  · exact ⟨ends_bad h0 rfl, .of (by decide) (by decide) rfl⟩
  · cases h
/-- the told order: draws from the box at the first argument, writes the table at PN -/
def spNone (PN : Addr) (q : Str) : Sp := fun vs H Q _ => ∃ (G : Hp) (p : Addr) (vn ve : V) (n : Nat) (as : List Arc) (de : PyData), vs = [.ref p, vn, ve] ∧ Same G H ∧ Rep G vn (netD n as) ∧ Rep G ve de ∧ 2 ≤ n ∧ n ≤ 2000 ∧ as.length ≤ 1000 ∧ netOf (netD n as) = some (n, as) ∧ p ≠ PN ∧
  G p = none ∧ (∃ o, H p = some o ∧ MOk G .box o) ∧ G PN = none ∧ (∃ o, H PN = some o ∧ MOk G (.tab q) o) ∧
  ∀ (G' H' : Hp), Ev [p, PN] G H G' H' → (∃ o, H' p = some o ∧ MOk G' .box o) → (∃ o, H' PN = some o ∧ MOk G' (.tab q) o) → Q (.bl true) H'
theorem lenNone {PN : Addr} {q : Str} {vs : List V} {H : Hp} {Q : VK} {E : XK} (h : spNone PN q vs H Q E) : vs.length = 3 := by
  obtain ⟨G, p, vn, ve, n, as, de, rfl, _⟩ := h
  rfl
/-- four ways to ask -/
def tbFour (C : Addr) (x y z : TE) : Fin 4 → XK → TE
  | 0 => tbX (sX3 C isNet1 mostD) (tCons x (tCons y (tCons z tNil)))
  | 1 => tbX (sX3 C isNet1 soonestD) (tCons x (tCons y (tCons z tNil)))
  | 2 => tbX (sX4 C isNet2 endsFitD) (tCons x (tCons y (tCons z (tCons (tC .non) tNil))))
  | 3 => tbX (sX4 C isNet2 broughtD) (tCons x (tCons y (tCons z (tCons (tC .non) tNil))))
theorem rfs_four {δ : List Sl} {M : Mem} {C : Addr} {x y z : TE} {a b c d0 : PyData} (hx : Gv δ M x a) (hy : Gv δ M y b) (hz : Gv δ M z c) (hs : netSmall a) (hr : mostD a b c = .error d0 ∧ soonestD a b c = .error d0 ∧ endsFitD a b c .none = .error d0 ∧ broughtD a b c .none = .error d0) : ∀ j, Rfs δ M C (tbFour C x y z j) d0
  | 0 => rfs_X (ga_cons hx (ga_cons hy (ga_cons hz ga_nil))) ⟨_, _, _, rfl, hs⟩ hr.1
  | 1 => rfs_X (ga_cons hx (ga_cons hy (ga_cons hz ga_nil))) ⟨_, _, _, rfl, hs⟩ hr.2.1
  | 2 => rfs_X (ga_cons hx (ga_cons hy (ga_cons hz (ga_cons g_non ga_nil)))) ⟨_, _, _, _, rfl, hs⟩ hr.2.2.1
  | 3 => rfs_X (ga_cons hx (ga_cons hy (ga_cons hz (ga_cons g_non ga_nil)))) ⟨_, _, _, _, rfl, hs⟩ hr.2.2.2
section
variable {P : Program} {w : World} {K : PySem.W.Frag} {mg : Str → Option Value} {base : Heap} {C fI O : Addr}
abbrev s__law_none_right : Stmt := topS 55
abbrev N__law_none_right : List Str := ["_law_box_here", "_law_net_here", "_law_ends_here", "_law_none", "_law_bad", "_law_odd", "_law_asks", "_law_ask"]
theorem sc__law_none_right : FnScope N__law_none_right ["_law_box_here", "_law_net_here", "_law_ends_here"] (defScope s__law_none_right) := ⟨rfl, rfl, rfl, by decide +kernel, rfl, by decide +kernel, by decide +kernel⟩
def lsNone (b : Nat) (j : Fin 4) : LamT := lamIn ((defBody s__law_none_right).getD (b + j.val) (.Pass ⟨0, 0, 0, 0⟩))
theorem lsNone_sc : ∀ b ∈ [3, 8, 13], ∀ j : Fin 4, LamX.lamSB (defScope s__law_none_right) (lsNone b j).scope = true := by decide +kernel
abbrev qNone : Str := ("_law_none_right" : Str) ++ ".<locals>." ++ "<lambda>"
theorem h__law_none_right {cN PN g : Addr} {fdg : FuncData} (B : Bl mg) (R : RefT P K mg C fI O) (EC : ExcC K C) (exm : PySem.W.exmOne K (.ref C) (.ref C) = some true) (kit : PySem.W.kitOne K (.ref C) (.ref O) = some true) (T : TopC K mg "_law_none_right" s__law_none_right cN) (TB : LamX.TabB base mg cN PN) (TH : HeardT K mg g fdg)
    (h__law_pick : HPick P w K mg base) (h_most_to : HMost P w K mg base C) (h_soonest_to : HSoon P w K mg base C) (h_ends_fit : HEndsFit P w K mg base C) (h_brought : HBrought P w K mg base C) : HasG P w K mg base "_law_none_right" 11 ["_law_box_here", "_law_net_here", "_law_ends_here"] (spNone PN qNone) := by
  obtain ⟨f, fd, hm, F, hcode⟩ := T
  refine ⟨f, fd, hm, F.kp, F.binds (ps := ["_law_box_here", "_law_net_here", "_law_ends_here"]) fun _ _ _ _ _ _ us hl => match us, hl with | [_, _, _], _ => rfl, okGc F hcode sc__law_none_right (fun vs H Q E h => lenNone h) (fun A outer s_1 H vs Q E hg hr h => ?_)⟩
  have nd := sc__law_none_right.nd
  have hu := hu_of hr
  have hrH := hr
  obtain ⟨G, p, vn, ve, n, as, de, rfl, gh, rn, re, hn2, hn, hal, hnet, hpP, hgp, hbp, hgP, hbP, k⟩ := h
  have LK1 : ∀ j : Fin 4, LamOk (cxOf CX0 P w K mg base N__law_none_right "_law_none_right" (defScope s__law_none_right) f (.ref cN) A outer s_1 H E).nox (lsNone 3 j) 8 (tbFour C (tVar 3) (tVar 4) (tVar 5) j) := by
    intro j
    match j with
    | 0 => exact ⟨LamX.lamS_by (lsNone_sc 3 (by decide) 0), fun _ _ _ => rfl, fun E A outer s H f b hr => pe_callHX h_most_to hr (takes_of rfl rfl rfl rfl) (pa_cons (pv 3) (pa_cons (pv 4) (pa_cons (pv 5) pa_nil)))⟩
    | 1 => exact ⟨LamX.lamS_by (lsNone_sc 3 (by decide) 1), fun _ _ _ => rfl, fun E A outer s H f b hr => pe_callHX h_soonest_to hr (takes_of rfl rfl rfl rfl) (pa_cons (pv 3) (pa_cons (pv 4) (pa_cons (pv 5) pa_nil)))⟩
    | 2 => exact ⟨LamX.lamS_by (lsNone_sc 3 (by decide) 2), fun _ _ _ => rfl, fun E A outer s H f b hr => pe_callHX h_ends_fit (hr.mono (by decide)) (takes_of rfl rfl rfl rfl) (pa_cons (pv 3) (pa_cons (pv 4) (pa_cons (pv 5) (pa_cons pe_non pa_nil))))⟩
    | 3 => exact ⟨LamX.lamS_by (lsNone_sc 3 (by decide) 3), fun _ _ _ => rfl, fun E A outer s H f b hr => pe_callHX h_brought (hr.mono (by decide)) (takes_of rfl rfl rfl rfl) (pa_cons (pv 3) (pa_cons (pv 4) (pa_cons (pv 5) (pa_cons pe_non pa_nil))))⟩
  have LK2 : ∀ j : Fin 4, LamOk (cxOf CX0 P w K mg base N__law_none_right "_law_none_right" (defScope s__law_none_right) f (.ref cN) A outer s_1 H E).nox (lsNone 8 j) 8 (tbFour C (tVar 1) (tVar 4) (tVar 5) j) := by
    intro j
    match j with
    | 0 => exact ⟨LamX.lamS_by (lsNone_sc 8 (by decide) 0), fun _ _ _ => rfl, fun E A outer s H f b hr => pe_callHX h_most_to hr (takes_of rfl rfl rfl rfl) (pa_cons (pv 1) (pa_cons (pv 4) (pa_cons (pv 5) pa_nil)))⟩
    | 1 => exact ⟨LamX.lamS_by (lsNone_sc 8 (by decide) 1), fun _ _ _ => rfl, fun E A outer s H f b hr => pe_callHX h_soonest_to hr (takes_of rfl rfl rfl rfl) (pa_cons (pv 1) (pa_cons (pv 4) (pa_cons (pv 5) pa_nil)))⟩
    | 2 => exact ⟨LamX.lamS_by (lsNone_sc 8 (by decide) 2), fun _ _ _ => rfl, fun E A outer s H f b hr => pe_callHX h_ends_fit (hr.mono (by decide)) (takes_of rfl rfl rfl rfl) (pa_cons (pv 1) (pa_cons (pv 4) (pa_cons (pv 5) (pa_cons pe_non pa_nil))))⟩
    | 3 => exact ⟨LamX.lamS_by (lsNone_sc 8 (by decide) 3), fun _ _ _ => rfl, fun E A outer s H f b hr => pe_callHX h_brought (hr.mono (by decide)) (takes_of rfl rfl rfl rfl) (pa_cons (pv 1) (pa_cons (pv 4) (pa_cons (pv 5) (pa_cons pe_non pa_nil))))⟩
  have LK3 : ∀ j : Fin 4, LamOk (cxOf CX0 P w K mg base N__law_none_right "_law_none_right" (defScope s__law_none_right) f (.ref cN) A outer s_1 H E).nox (lsNone 13 j) 8 (tbFour C (tVar 1) (tC (.int 0)) (tVar 5) j) := by
    intro j
    match j with
    | 0 => exact ⟨LamX.lamS_by (lsNone_sc 13 (by decide) 0), fun _ _ _ => rfl, fun E A outer s H f b hr => pe_callHX h_most_to hr (takes_of rfl rfl rfl rfl) (pa_cons (pv 1) (pa_cons pe_int (pa_cons (pv 5) pa_nil)))⟩
    | 1 => exact ⟨LamX.lamS_by (lsNone_sc 13 (by decide) 1), fun _ _ _ => rfl, fun E A outer s H f b hr => pe_callHX h_soonest_to hr (takes_of rfl rfl rfl rfl) (pa_cons (pv 1) (pa_cons pe_int (pa_cons (pv 5) pa_nil)))⟩
    | 2 => exact ⟨LamX.lamS_by (lsNone_sc 13 (by decide) 2), fun _ _ _ => rfl, fun E A outer s H f b hr => pe_callHX h_ends_fit (hr.mono (by decide)) (takes_of rfl rfl rfl rfl) (pa_cons (pv 1) (pa_cons pe_int (pa_cons (pv 5) (pa_cons pe_non pa_nil))))⟩
    | 3 => exact ⟨LamX.lamS_by (lsNone_sc 13 (by decide) 3), fun _ _ _ => rfl, fun E A outer s H f b hr => pe_callHX h_brought (hr.mono (by decide)) (takes_of rfl rfl rfl rfl) (pa_cons (pv 1) (pa_cons pe_int (pa_cons (pv 5) (pa_cons pe_non pa_nil))))⟩
  refine ⟨_, (pss_cons (ps_set (i := 3) nd rfl (by first | exact Or.inl rfl | exact Or.inr rfl) (pe_callH h__law_pick (hr.mono (by decide)) (pa_cons (pv 0) (pa_cons (pe_lst (pa_cons pe_non (pa_cons (pe_tup (pa_cons pe_int (pa_cons (pe_tup pa_nil) pa_nil))) (pa_cons (pe_tup (pa_cons pe_int (pa_cons (pe_lst (pa_cons (pe_tup (pa_cons pe_int (pa_cons pe_int (pa_cons pe_int pa_nil)))) pa_nil)) pa_nil))) (pa_cons (pe_tup (pa_cons pe_int (pa_cons (pe_tup (pa_cons (pe_tup (pa_cons pe_int (pa_cons pe_int pa_nil))) pa_nil)) pa_nil))) pa_nil))))) pa_nil))))
    (pss_cons (ps_set (i := 4) nd rfl (by first | exact Or.inl rfl | exact Or.inr rfl) (pe_callH h__law_pick (hr.mono (by decide)) (pa_cons (pv 0) (pa_cons (pe_lst (pa_cons pe_non (pa_cons (pe_ix (kix (K := K)) (pv 1) pe_int (fun _ _ => rfl)) (pa_cons (pe_op op_sub pe_int pe_int) (pa_cons pe_bl (pa_cons pe_str pa_nil)))))) pa_nil))))
    (pss_cons (ps_set (i := 5) nd rfl (by first | exact Or.inl rfl | exact Or.inr rfl) (pe_callH h__law_pick (hr.mono (by decide)) (pa_cons (pv 0) (pa_cons (pe_lst (pa_cons pe_non (pa_cons pe_int (pa_cons pe_str (pa_cons (pe_lst (pa_cons (pe_ix (kix (K := K)) (pv 1) pe_int (fun _ _ => rfl)) pa_nil)) (pa_cons (pe_lst (pa_cons pe_int pa_nil)) (pa_cons (pe_lst (pa_cons pe_int (pa_cons pe_int pa_nil))) (pa_cons (pe_lst (pa_cons pe_int (pa_cons pe_non pa_nil))) (pa_cons (pe_lst (pa_cons (pe_op op_sub pe_int pe_int) pa_nil)) (pa_cons (pe_lst (pa_cons pe_bl pa_nil)) pa_nil)))))))))) pa_nil))))
    (pss_cons (ps_set (i := 6) nd rfl (by first | exact Or.inl rfl | exact Or.inr rfl) (pe_lst (pa_cons (pe_lamb TB rfl rfl (LamX.lamS_by (sc := defScope s__law_none_right) (by decide +kernel)).free) pa_nil)))
    (pss_cons (ps_expr (pe_bm PySem.F.plainAttrs_list PySem.F.slot_list_append PySem.F.type_list_append mt_append (pv 6) (pa_cons (pe_lamb TB rfl rfl (LamX.lamS_by (sc := defScope s__law_none_right) (by decide +kernel)).free) pa_nil)))
    (pss_cons (ps_expr (pe_bm PySem.F.plainAttrs_list PySem.F.slot_list_append PySem.F.type_list_append mt_append (pv 6) (pa_cons (pe_lamb TB rfl rfl (LamX.lamS_by (sc := defScope s__law_none_right) (by decide +kernel)).free) pa_nil)))
    (pss_cons (ps_expr (pe_bm PySem.F.plainAttrs_list PySem.F.slot_list_append PySem.F.type_list_append mt_append (pv 6) (pa_cons (pe_lamb TB rfl rfl (LamX.lamS_by (sc := defScope s__law_none_right) (by decide +kernel)).free) pa_nil)))
    (pss_cons (ps_if (pt_cmpR (kne hr.units (K := K)) (pe_lcO (own := [("_law_ask", 7)]) nd (kseq (K := K) (pv 6)) (blkOk_by (N := N__law_none_right) (sc := defScope s__law_none_right) (by decide +kernel)) (fun _ _ _ _ _ => (pg_name (i := 7) nd rfl (by first | exact Or.inl rfl | exact Or.inr rfl))) (fun _ _ _ _ _ _ _ IL fL => (pts_one (pt_cmpR (kne hr.units (K := K)) (pe_heardB IL fL TH B R EC hg LK1 hrH exm kit (pv 7) (by rfl)) (pe_tup (pa_cons pe_str (pa_cons (pe_callB (krepr (K := K) (by exact hg) (by exact hr.units)) (by rfl) B.repr (by decide +kernel) (pa_cons (pv 3) pa_nil)) (pa_cons pe_bl pa_nil)))) (nomark _)))) (fun _ _ _ _ _ => (pv 7))) (pe_lst pa_nil) (nomark _)) (pss_one (ps_ret pe_bl)) pss_nil)
    (pss_cons (ps_set (i := 6) nd rfl (by first | exact Or.inl rfl | exact Or.inr rfl) (pe_lst (pa_cons (pe_lamb TB rfl rfl (LamX.lamS_by (sc := defScope s__law_none_right) (by decide +kernel)).free) pa_nil)))
    (pss_cons (ps_expr (pe_bm PySem.F.plainAttrs_list PySem.F.slot_list_append PySem.F.type_list_append mt_append (pv 6) (pa_cons (pe_lamb TB rfl rfl (LamX.lamS_by (sc := defScope s__law_none_right) (by decide +kernel)).free) pa_nil)))
    (pss_cons (ps_expr (pe_bm PySem.F.plainAttrs_list PySem.F.slot_list_append PySem.F.type_list_append mt_append (pv 6) (pa_cons (pe_lamb TB rfl rfl (LamX.lamS_by (sc := defScope s__law_none_right) (by decide +kernel)).free) pa_nil)))
    (pss_cons (ps_expr (pe_bm PySem.F.plainAttrs_list PySem.F.slot_list_append PySem.F.type_list_append mt_append (pv 6) (pa_cons (pe_lamb TB rfl rfl (LamX.lamS_by (sc := defScope s__law_none_right) (by decide +kernel)).free) pa_nil)))
    (pss_cons (ps_if (pt_cmpR (kne hr.units (K := K)) (pe_lcO (own := [("_law_ask", 7)]) nd (kseq (K := K) (pv 6)) (blkOk_by (N := N__law_none_right) (sc := defScope s__law_none_right) (by decide +kernel)) (fun _ _ _ _ _ => (pg_name (i := 7) nd rfl (by first | exact Or.inl rfl | exact Or.inr rfl))) (fun _ _ _ _ _ _ _ IL fL => (pts_one (pt_cmpR (kne hr.units (K := K)) (pe_heardB IL fL TH B R EC hg LK2 hrH exm kit (pv 7) (by rfl)) (pe_tup (pa_cons pe_str (pa_cons (pe_callB (krepr (K := K) (by exact hg) (by exact hr.units)) (by rfl) B.repr (by decide +kernel) (pa_cons (pv 4) pa_nil)) (pa_cons pe_bl pa_nil)))) (nomark _)))) (fun _ _ _ _ _ => (pv 7))) (pe_lst pa_nil) (nomark _)) (pss_one (ps_ret pe_bl)) pss_nil)
    (pss_cons (ps_set (i := 6) nd rfl (by first | exact Or.inl rfl | exact Or.inr rfl) (pe_lst (pa_cons (pe_lamb TB rfl rfl (LamX.lamS_by (sc := defScope s__law_none_right) (by decide +kernel)).free) pa_nil)))
    (pss_cons (ps_expr (pe_bm PySem.F.plainAttrs_list PySem.F.slot_list_append PySem.F.type_list_append mt_append (pv 6) (pa_cons (pe_lamb TB rfl rfl (LamX.lamS_by (sc := defScope s__law_none_right) (by decide +kernel)).free) pa_nil)))
    (pss_cons (ps_expr (pe_bm PySem.F.plainAttrs_list PySem.F.slot_list_append PySem.F.type_list_append mt_append (pv 6) (pa_cons (pe_lamb TB rfl rfl (LamX.lamS_by (sc := defScope s__law_none_right) (by decide +kernel)).free) pa_nil)))
    (pss_cons (ps_expr (pe_bm PySem.F.plainAttrs_list PySem.F.slot_list_append PySem.F.type_list_append mt_append (pv 6) (pa_cons (pe_lamb TB rfl rfl (LamX.lamS_by (sc := defScope s__law_none_right) (by decide +kernel)).free) pa_nil)))
    (pss_one (ps_ret (pe_cmpR (keq hr.units (K := K)) (pe_lcO (own := [("_law_ask", 7)]) nd (kseq (K := K) (pv 6)) (blkOk_by (N := N__law_none_right) (sc := defScope s__law_none_right) (by decide +kernel)) (fun _ _ _ _ _ => (pg_name (i := 7) nd rfl (by first | exact Or.inl rfl | exact Or.inr rfl))) (fun _ _ _ _ _ _ _ IL fL => (pts_one (pt_cmpR (kne hr.units (K := K)) (pe_heardB IL fL TH B R EC hg LK3 hrH exm kit (pv 7) (by rfl)) (pe_tup (pa_cons pe_str (pa_cons (pe_callB (krepr (K := K) (by exact hg) (by exact hr.units)) (by rfl) B.repr (by decide +kernel) (pa_cons (pv 5) pa_nil)) (pa_cons pe_bl pa_nil)))) (nomark _)))) (fun _ _ _ _ _ => (pv 7))) (pe_lst pa_nil) (nomark _))))))))))))))))))))), ?_⟩
  have A0 := at_startG (N := N__law_none_right) (ss := [.val (.ref p), .dat (netD n as), .dat de]) (S := [p, PN]) (M := [(p, .box), (PN, .tab qNone)]) gh (.val (.dat rn (.dat re .nil))) (Nat.le_of_ble_eq_true rfl) (fun a o h => by
    rcases List.mem_cons.mp h with h | h
    · cases h
      exact ⟨hgp, .inl (List.mem_cons_self ..), hbp⟩
    · rw [List.mem_singleton] at h
      cases h
      exact ⟨hgP, .inl (List.mem_cons_of_mem _ (List.mem_cons_self ..)), hbP⟩) (List.nodup_cons.mpr ⟨by simpa using hpP, List.nodup_cons.mpr ⟨by simp, List.nodup_nil⟩⟩) (fun a h => by
    rcases List.mem_cons.mp h with h | h
    · rw [h]
      exact ⟨_, hbp.choose_spec.1⟩
    · rw [List.mem_singleton.mp h]
      exact ⟨_, hbP.choose_spec.1⟩)
  have sm : netSmall (netD n as) := fun n' as' h' => by
    rw [hnet] at h'
    cases h'
    exact hal
  refine s_setsq (P := noneOk) A0 ((gs_b1 (R := pickR) (P := isPick) rfl (List.mem_cons_self ..) (ga_cons (g_lst (ds := noneL) (ga_cons g_non (ga_cons (g_tup (ga_cons g_int (ga_cons (g_tup ga_nil (Nat.zero_le _)) ga_nil)) (by show 2 ≤ 100000; decide)) (ga_cons (g_tup (ga_cons g_int (ga_cons (g_lst (ga_cons (g_tup (ga_cons g_int (ga_cons g_int (ga_cons g_int ga_nil))) (by show 3 ≤ 100000; decide)) ga_nil) (by show 1 ≤ 100000; decide)) ga_nil)) (by show 2 ≤ 100000; decide)) (ga_cons (g_tup (ga_cons g_int (ga_cons (g_tup (ga_cons (g_tup (ga_cons g_int (ga_cons g_int ga_nil)) (by show 2 ≤ 100000; decide)) ga_nil) (by show 1 ≤ 100000; decide)) ga_nil)) (by show 2 ≤ 100000; decide)) ga_nil)))) (by show 4 ≤ 100000; decide)) ga_nil) ⟨noneL, rfl, by decide, by decide⟩).imp fun d ⟨xs, hs, hx⟩ => by cases hs; exact none_all d hx) fun d1 G1 H1 σ1 hd1 A1 => ?_
  refine s_setsq (P := badOk n) A1 ((gs_b1 (R := pickR) (P := isPick) rfl (List.mem_cons_self ..) (ga_cons (g_lst (ds := badL n) (ga_cons g_non (ga_cons (g_ix (n := 0) (d := natD n) (g_var (d := netD n as) rfl) g_int rfl rfl) (ga_cons (g_op0 (g := (· - ·)) g_int g_int) (ga_cons g_bl (ga_cons g_str ga_nil))))) (by show 5 ≤ 100000; decide)) ga_nil) ⟨badL n, rfl, by show 1 ≤ 5; decide, by show 5 ≤ 1000; decide⟩).imp fun d ⟨xs, hs, hx⟩ => by cases hs; exact bad_all hn d hx) fun d2 G2 H2 σ2 hd2 A2 => ?_
  refine s_setsq (P := oddOk n) A2 ((gs_b1 (R := pickR) (P := isPick) rfl (List.mem_cons_self ..) (ga_cons (g_lst (ds := oddL n) (ga_cons g_non (ga_cons g_int (ga_cons g_str (ga_cons (g_lst (ga_cons (g_ix (n := 0) (d := natD n) (g_var (d := netD n as) rfl) g_int rfl rfl) ga_nil) (by show 1 ≤ 100000; decide)) (ga_cons (g_lst (ga_cons g_int ga_nil) (by show 1 ≤ 100000; decide)) (ga_cons (g_lst (ga_cons g_int (ga_cons g_int ga_nil)) (by show 2 ≤ 100000; decide)) (ga_cons (g_lst (ga_cons g_int (ga_cons g_non ga_nil)) (by show 2 ≤ 100000; decide)) (ga_cons (g_lst (ga_cons (g_op0 (g := (· - ·)) g_int g_int) ga_nil) (by show 1 ≤ 100000; decide)) (ga_cons (g_lst (ga_cons g_bl ga_nil) (by show 1 ≤ 100000; decide)) ga_nil))))))))) (by show 9 ≤ 100000; decide)) ga_nil) ⟨oddL n, rfl, by show 1 ≤ 9; decide, by show 9 ≤ 1000; decide⟩).imp fun d ⟨xs, hs, hx⟩ => by cases hs; exact odd_all hn2 hn d hx) fun d3 G3 H3 σ3 hd3 A3 => ?_
  have hT1 : (PN, MO.tab qNone) ∈ [(p, MO.box), (PN, .tab qNone)] := List.mem_cons_of_mem _ (List.mem_cons_self ..)
  have sm1 : netSmall d1 := fun n' as' h' => by
    rw [hd1.1] at h'
    cases h'
  refine s_ask A3 (gm_lamb (P := PN) hT1) fun f1 b1 a1 G4 H4 σ4 h0 s4 e1 c1 A4 => ?_
  refine s_askMore (k := 0) A4 (gm_lamb (P := PN) (List.mem_cons_of_mem _ hT1)) rfl rfl (Nat.le_of_ble_eq_true rfl) fun f2 b2 G5 H5 s5 e2 c2 A5 => ?_
  refine s_askMore (k := 0) A5 (gm_lamb (P := PN) (List.mem_cons_of_mem _ hT1)) rfl rfl (Nat.le_of_ble_eq_true rfl) fun f3 b3 G6 H6 s6 e3 c3 A6 => ?_
  refine s_askMore (k := 0) A6 (gm_lamb (P := PN) (List.mem_cons_of_mem _ hT1)) rfl rfl (Nat.le_of_ble_eq_true rfl) fun f4 b4 G7 H7 s7 e4 c4 A7 => ?_
  have facts : ∀ x ∈ [((0 : Fin 4), f1, b1), (1, f2, b2), (2, f3, b3), (3, f4, b4)], G7 x.2.1 = some (LOX (cxOf CX0 P w K mg base N__law_none_right "_law_none_right" (defScope s__law_none_right) f (.ref cN) A outer s_1 H E).nox (lsNone 3 x.1) x.2.1 x.2.2) ∧ G7 x.2.2 = some (LamX.CodeO x.2.2 qNone) := fun x hx => by
    rcases List.mem_cons.mp hx with rfl | hx
    · exact ⟨(s7 _ _ (s6 _ _ (s5 _ _ e1))), (s7 _ _ (s6 _ _ (s5 _ _ c1)))⟩
    rcases List.mem_cons.mp hx with rfl | hx
    · exact ⟨(s7 _ _ (s6 _ _ e2)), (s7 _ _ (s6 _ _ c2))⟩
    rcases List.mem_cons.mp hx with rfl | hx
    · exact ⟨(s7 _ _ e3), (s7 _ _ c3)⟩
    rcases List.mem_cons.mp hx with rfl | hx
    · exact ⟨e4, c4⟩
    cases hx
  refine s_asksq A7 (fun Q' k' => at_asks (j := 7) (m := 3) (fs := [((0 : Fin 4), f1, b1), (1, f2, b2), (2, f3, b3), (3, f4, b4)]) (LO := fun j => LOX (cxOf CX0 P w K mg base N__law_none_right "_law_none_right" (defScope s__law_none_right) f (.ref cN) A outer s_1 H E).nox (lsNone 3 j)) (d0 := d1) A7 rfl (List.mem_cons_self ..) facts (Nat.le_of_ble_eq_true rfl) (by decide) rfl hd1.2.ok hd1.2.sk (Nat.le_of_ble_eq_true rfl) (fun y => rfs_four (g_var rfl) (g_var rfl) (g_var rfl) sm1 (refuse_net hd1.1 _ _ _)) k') fun G8 H8 A8 _ => ?_
  clear facts e1 e2 e3 e4 c1 c2 c3 c4
  have hT2 := fun x : Addr × MO => List.mem_cons_of_mem x hT1
  refine s_ask A8 (gm_lamb (P := PN) (hT2 _)) fun f1 b1 a2 G9 H9 σ9 h0 s9 e1 c1 A9 => ?_
  refine s_askMore (k := 0) A9 (gm_lamb (P := PN) (List.mem_cons_of_mem _ (hT2 _))) rfl rfl (Nat.le_of_ble_eq_true rfl) fun f2 b2 G10 H10 s10 e2 c2 A10 => ?_
  refine s_askMore (k := 0) A10 (gm_lamb (P := PN) (List.mem_cons_of_mem _ (hT2 _))) rfl rfl (Nat.le_of_ble_eq_true rfl) fun f3 b3 G11 H11 s11 e3 c3 A11 => ?_
  refine s_askMore (k := 0) A11 (gm_lamb (P := PN) (List.mem_cons_of_mem _ (hT2 _))) rfl rfl (Nat.le_of_ble_eq_true rfl) fun f4 b4 G12 H12 s12 e4 c4 A12 => ?_
  have facts : ∀ x ∈ [((0 : Fin 4), f1, b1), (1, f2, b2), (2, f3, b3), (3, f4, b4)], G12 x.2.1 = some (LOX (cxOf CX0 P w K mg base N__law_none_right "_law_none_right" (defScope s__law_none_right) f (.ref cN) A outer s_1 H E).nox (lsNone 8 x.1) x.2.1 x.2.2) ∧ G12 x.2.2 = some (LamX.CodeO x.2.2 qNone) := fun x hx => by
    rcases List.mem_cons.mp hx with rfl | hx
    · exact ⟨(s12 _ _ (s11 _ _ (s10 _ _ e1))), (s12 _ _ (s11 _ _ (s10 _ _ c1)))⟩
    rcases List.mem_cons.mp hx with rfl | hx
    · exact ⟨(s12 _ _ (s11 _ _ e2)), (s12 _ _ (s11 _ _ c2))⟩
    rcases List.mem_cons.mp hx with rfl | hx
    · exact ⟨(s12 _ _ e3), (s12 _ _ c3)⟩
    rcases List.mem_cons.mp hx with rfl | hx
    · exact ⟨e4, c4⟩
    cases hx
  refine s_asksq A12 (fun Q' k' => at_asks (j := 7) (m := 4) (fs := [((0 : Fin 4), f1, b1), (1, f2, b2), (2, f3, b3), (3, f4, b4)]) (LO := fun j => LOX (cxOf CX0 P w K mg base N__law_none_right "_law_none_right" (defScope s__law_none_right) f (.ref cN) A outer s_1 H E).nox (lsNone 8 j)) (d0 := d2) A12 rfl (List.mem_cons_self ..) facts (Nat.le_of_ble_eq_true rfl) (by decide) rfl hd2.2.ok hd2.2.sk (Nat.le_of_ble_eq_true rfl) (fun y => rfs_four (g_var rfl) (g_var rfl) (g_var rfl) sm (refuse_ends hnet (ends_start hd2.1) _)) k') fun G13 H13 A13 _ => ?_
  clear facts e1 e2 e3 e4 c1 c2 c3 c4
  have hT3 := fun x y : Addr × MO => List.mem_cons_of_mem x (hT2 y)
  refine s_ask A13 (gm_lamb (P := PN) (hT3 _ _)) fun f1 b1 a3 G14 H14 σ14 h0 s14 e1 c1 A14 => ?_
  refine s_askMore (k := 0) A14 (gm_lamb (P := PN) (List.mem_cons_of_mem _ (hT3 _ _))) rfl rfl (Nat.le_of_ble_eq_true rfl) fun f2 b2 G15 H15 s15 e2 c2 A15 => ?_
  refine s_askMore (k := 0) A15 (gm_lamb (P := PN) (List.mem_cons_of_mem _ (hT3 _ _))) rfl rfl (Nat.le_of_ble_eq_true rfl) fun f3 b3 G16 H16 s16 e3 c3 A16 => ?_
  refine s_askMore (k := 0) A16 (gm_lamb (P := PN) (List.mem_cons_of_mem _ (hT3 _ _))) rfl rfl (Nat.le_of_ble_eq_true rfl) fun f4 b4 G17 H17 s17 e4 c4 A17 => ?_
  have facts : ∀ x ∈ [((0 : Fin 4), f1, b1), (1, f2, b2), (2, f3, b3), (3, f4, b4)], G17 x.2.1 = some (LOX (cxOf CX0 P w K mg base N__law_none_right "_law_none_right" (defScope s__law_none_right) f (.ref cN) A outer s_1 H E).nox (lsNone 13 x.1) x.2.1 x.2.2) ∧ G17 x.2.2 = some (LamX.CodeO x.2.2 qNone) := fun x hx => by
    rcases List.mem_cons.mp hx with rfl | hx
    · exact ⟨(s17 _ _ (s16 _ _ (s15 _ _ e1))), (s17 _ _ (s16 _ _ (s15 _ _ c1)))⟩
    rcases List.mem_cons.mp hx with rfl | hx
    · exact ⟨(s17 _ _ (s16 _ _ e2)), (s17 _ _ (s16 _ _ c2))⟩
    rcases List.mem_cons.mp hx with rfl | hx
    · exact ⟨(s17 _ _ e3), (s17 _ _ c3)⟩
    rcases List.mem_cons.mp hx with rfl | hx
    · exact ⟨e4, c4⟩
    cases hx
  refine s_asksRet A17 (fun Q' k' => at_asks (j := 7) (m := 5) (fs := [((0 : Fin 4), f1, b1), (1, f2, b2), (2, f3, b3), (3, f4, b4)]) (LO := fun j => LOX (cxOf CX0 P w K mg base N__law_none_right "_law_none_right" (defScope s__law_none_right) f (.ref cN) A outer s_1 H E).nox (lsNone 13 j)) (d0 := d3) A17 rfl (List.mem_cons_self ..) facts (Nat.le_of_ble_eq_true rfl) (by decide) rfl hd3.2.ok hd3.2.sk (Nat.le_of_ble_eq_true rfl) (fun y => rfs_four (g_var rfl) g_int (g_var rfl) sm (refuse_ends hnet hd3.1 _)) k') fun G18 H18 A18 _ => ?_
  clear facts e1 e2 e3 e4 c1 c2 c3 c4
  exact k G18 H18 A18.ev (A18.mem p _ (List.mem_cons_of_mem _ (List.mem_cons_of_mem _ (List.mem_cons_of_mem _ (List.mem_cons_self ..))))).2.2 (A18.mem PN _ (List.mem_cons_of_mem _ (hT3 _ _))).2.2
end
end Od
set_option Elab.async false
set_option linter.all false
set_option autoImplicit false
set_option maxRecDepth 100000
set_option maxHeartbeats 4000000
/-! W25: any value is held as a flow to ends just if it is one. -/
namespace Od
open PySem PySem.Spec L2
section
variable {c : Ct} {δ : List Sl} {M : Mem} {K : PySem.W.Frag} {ta tb : TE} {G H : Hp} {σ : L2.St} {D : Ends}
theorem g_neS {x y : Str} (ha : Gv δ M ta (.str x)) (hb : Gv δ M tb (.str y)) : Gv δ M (tOp rNe ta tb) (.bool (!decide (x = y))) := Gv.cast (g_ne ha hb rfl rfl rfl) (by simp)
/-- repr(a) != repr(b), equal data -/
theorem gt_same {d : PyData} (ha : Gv δ M ta d) (hb : Gv δ M tb d) (ok : ShOk d) : Gt δ M (tTest (tOp rNe (tCB (kRepr K) (tCons ta tNil)) (tCB (kRepr K) (tCons tb tNil)))) false :=
  Gt.cast (gt_test (g_neS (g_repr (ga_cons ha ga_nil) ok) (g_repr (ga_cons hb ga_nil) ok))) (by simp)
theorem s_sameq {d : PyData} {u w : TS} (A : At c δ M G H σ) (ha : Gv δ M ta d) (hb : Gv δ M tb d) (ok : ShOk d) (k : ∀ G' H', At c δ M G' H' σ → w D σ H') : tSeq (tIfS (tTest (tOp rNe (tCB (kRepr K) (tCons ta tNil)) (tCB (kRepr K) (tCons tb tNil)))) u tNext) w D σ H :=
  s_ifq (b := false) A (gt_same ha hb ok) (fun z => nomatch z) fun _ => k
end
theorem shn_bool (b : Bool) : Shn (.bool b) := by cases b <;> exact .of (by decide) (by decide) rfl
theorem plain_ints : ∀ l : List Int, plainAll (intsD l) = true
  | [] => rfl
  | _ :: l => plain_ints l
theorem small_plain {xs : List PyData} (h : ∀ x ∈ xs, smallX x) : plainAll xs = true := by
  induction xs with
  | nil => rfl
  | cons x xs ih =>
    show (plainD x && plainAll xs) = true
    rw [ih fun y hy => h y (List.mem_cons_of_mem _ hy)]
    rcases h x (List.mem_cons_self ..) with rfl | ⟨b, rfl⟩ | ⟨i, rfl, _⟩ <;> rfl
theorem valOk_shn {d : PyData} (h : valOk d) : Shn d := by
  refine ⟨valOk_sh h, ?_⟩
  rcases h with rfl | rfl | rfl | ⟨xs, hx, hl, hs⟩
  · exact sk_shown _ rfl
  · exact sk_shown _ rfl
  · decide +kernel
  · rcases hx with rfl | rfl
    · exact sk_shown _ (small_plain hs)
    · exact sk_shown _ (small_plain hs)
theorem valOk_flat {d : PyData} (h : valOk d) : flatSeq d := by
  intro xs hx x hm
  rcases h with rfl | rfl | rfl | ⟨ys, hy, hl, hs⟩
  · cases hx
  · cases hx
  · cases hx
  · have e : ys = xs := by rcases hy with rfl | rfl <;> exact Option.some.inj hx
    subst e
    rcases hs x hm with rfl | ⟨b, rfl⟩ | ⟨i, rfl, _⟩ <;> rfl
theorem valOk_ints {d : PyData} {l : List Int} (h : valOk d) (hv : seqOf d = some (intsD l)) : ∀ x ∈ l, -10000 ≤ x ∧ x ≤ 10000 := by
  intro x hx
  rcases h with rfl | rfl | rfl | ⟨ys, hy, hl, hs⟩
  · cases hv
  · cases hv
  · cases hv
  · have e : ys = intsD l := by rcases hy with rfl | rfl <;> exact Option.some.inj hv
    rcases hs (.int x) (by rw [e]; exact List.mem_map.mpr ⟨x, hx, rfl⟩) with z | ⟨b, z⟩ | ⟨i, z, h1, h2⟩
    · cases z
    · cases z
    · cases z
      exact ⟨h1, h2⟩
theorem ex_bound {b : Int} (hb : 0 ≤ b) (v : Nat) : ∀ (as : List Arc) (l : List Int), (∀ x ∈ l, -b ≤ x ∧ x ≤ b) → -(b * (as.length : Nat)) ≤ ex as l v ∧ ex as l v ≤ b * (as.length : Nat)
  | [], _, _ => by
    show -(b * ((0 : Nat) : Int)) ≤ (0 : Int) ∧ (0 : Int) ≤ b * ((0 : Nat) : Int)
    simp
  | a :: as, [], _ => by
    show -(b * (((a :: as).length : Nat) : Int)) ≤ (0 : Int) ∧ (0 : Int) ≤ b * (((a :: as).length : Nat) : Int)
    have : 0 ≤ b * (((a :: as).length : Nat) : Int) := Int.mul_nonneg hb (by omega)
    omega
  | a :: as, x :: l, h => by
    have ih := ex_bound hb v as l fun y hy => h y (List.mem_cons_of_mem _ hy)
    have hx := h x (List.mem_cons_self ..)
    have e : b * (((a :: as).length : Nat) : Int) = b * ((as.length : Nat) : Int) + b := by
      rw [List.length_cons, Int.natCast_add, Int.mul_add]
      show _ + b * 1 = _
      rw [Int.mul_one]
    rw [e]
    show _ ≤ (if a.h = v then x else 0) - (if a.t = v then x else 0) + ex as l v ∧ (if a.h = v then x else 0) - (if a.t = v then x else 0) + ex as l v ≤ _
    split <;> split <;> omega
theorem heft_ints {l : List Int} (h : ∀ x ∈ l, -(10 ^ 20) ≤ x ∧ x ≤ 10 ^ 20) : heft (.tuple (intsD l)) ≤ 1 + l.length ∧ (PyData.tuple (intsD l)).depth ≤ 1 := by
  have h1 : heftAll (intsD l) ≤ 1 * (intsD l).length := heftAll_le fun x hx => by
    obtain ⟨i, hi, rfl⟩ := List.mem_map.mp hx
    rw [heft_int (h i hi).1 (h i hi).2]
    exact Nat.le_refl _
  have h2 : PyData.depthAll (intsD l) ≤ 0 := depthAll_le fun x hx => by
    obtain ⟨i, hi, rfl⟩ := List.mem_map.mp hx
    exact Nat.le_refl _
  rw [intsD_len] at h1
  refine ⟨?_, ?_⟩
  · show 1 + heftAll (intsD l) ≤ _
    omega
  · show PyData.depthAll (intsD l) + 1 ≤ 1
    omega
theorem sh_ints {l : List Int} (h : ∀ x ∈ l, -(10 ^ 20) ≤ x ∧ x ≤ 10 ^ 20) (hl : l.length ≤ 2000) : ShOk (.tuple (intsD l)) := by
  obtain ⟨h1, h2⟩ := heft_ints h
  exact .of (by omega) (by omega)
theorem sh_two {l : List Int} (h : ∀ x ∈ l, -(10 ^ 20) ≤ x ∧ x ≤ 10 ^ 20) (hl : l.length ≤ 1000) : ShOk (.list [.tuple (intsD l), .tuple (intsD l)]) := by
  obtain ⟨h1, h2⟩ := heft_ints h
  refine .of ?_ ?_
  · show 1 + (heft (.tuple (intsD l)) + (heft (.tuple (intsD l)) + 0)) ≤ 2400
    omega
  · show max (PyData.tuple (intsD l)).depth (max (PyData.tuple (intsD l)).depth 0) + 1 ≤ 60
    omega
/-- draws from the box, writes the table -/
def spVal (PV : Addr) (q : Str) : Sp := fun vs H Q _ => ∃ (G : Hp) (p : Addr) (vn vh vst ve vm : V) (n s : Nat) (as : List Arc) (es : List Nat) (dh : PyData), vs = [.ref p, vn, vh, vst, ve, vm] ∧ Same G H ∧ Rep G vn (netD n as) ∧ Rep G vh dh ∧ Rep G vst (natD s) ∧ Rep G ve (.list (natsD es)) ∧ Rep G vm (.list ((List.range es.length).map fun k => capD (leastK n as s es k))) ∧
  Good n as s es ∧ netOf dh = some (n, as) ∧ 2 ≤ n ∧ n ≤ 20 ∧ as.length ≤ 50 ∧ es.length ≤ 50 ∧ p ≠ PV ∧ G p = none ∧ (∃ o, H p = some o ∧ MOk G .box o) ∧ G PV = none ∧ (∃ o, H PV = some o ∧ MOk G (.tab q) o) ∧
  ∀ (G' H' : Hp), Ev [p, PV] G H G' H' → (∃ o, H' p = some o ∧ MOk G' .box o) → (∃ o, H' PV = some o ∧ MOk G' (.tab q) o) → Q (.bl true) H'
theorem lenVal {PV : Addr} {q : Str} {vs : List V} {H : Hp} {Q : VK} {E : XK} (h : spVal PV q vs H Q E) : vs.length = 6 := by
  obtain ⟨G, p, vn, vh, vst, ve, vm, n, s, as, es, dh, rfl, _⟩ := h
  rfl
section
variable {P : Program} {w : World} {K : PySem.W.Frag} {mg : Str → Option Value} {base : Heap} {C fI O : Addr}
abbrev s__law_value_right : Stmt := topS 54
abbrev N__law_value_right : List Str := ["_law_box_here", "_law_net_here", "_law_handed", "_law_start_here", "_law_ends_here", "_law_most_here", "_law_value_here", "_law_due", "_law_some", "_law_node", "_law_told", "_law_at"]
theorem sc__law_value_right : FnScope N__law_value_right ["_law_box_here", "_law_net_here", "_law_handed", "_law_start_here", "_law_ends_here", "_law_most_here"] (defScope s__law_value_right) := ⟨rfl, rfl, rfl, by decide +kernel, rfl, by decide +kernel, by decide +kernel⟩
def lsVal (_ : Fin 1) : LamT := lamIn ((defBody s__law_value_right).getD 4 (.Pass ⟨0, 0, 0, 0⟩))
theorem lsVal_sc : ∀ j : Fin 1, LamX.lamSB (defScope s__law_value_right) (lsVal j).scope = true := by decide +kernel
abbrev qVal : Str := ("_law_value_right" : Str) ++ ".<locals>." ++ "<lambda>"
theorem h__law_value_right {cV PV g : Addr} {fdg : FuncData} (B : Bl mg) (R : RefT P K mg C fI O) (EC : ExcC K C) (exm : PySem.W.exmOne K (.ref C) (.ref C) = some true) (kit : PySem.W.kitOne K (.ref C) (.ref O) = some true) (T : TopC K mg "_law_value_right" s__law_value_right cV) (TB : LamX.TabB base mg cV PV) (TH : HeardT K mg g fdg)
    (h__law_value : HLawValue P w K mg base) (h__law_is_to : HIsTo P w K mg base) (h__law_more : HMore P w K mg base) (hf_ends_fit : HasF P w K mg base "ends_fit" s_ends_fit (L2.CX P w) 6 ["net", "start", "ends", "value"] (sX4 C isNet2 endsFitD)) (h_ends_fit : HEndsFit P w K mg base C)
    (hf_brought : HasF P w K mg base "brought" s_brought (L2.CX P w) 7 ["net", "start", "ends", "flow"] (sX4 C isNet2 broughtD)) (h_brought : HBrought P w K mg base C) : HasG P w K mg base "_law_value_right" 11 ["_law_box_here", "_law_net_here", "_law_handed", "_law_start_here", "_law_ends_here", "_law_most_here"] (spVal PV qVal) := by
  obtain ⟨f, fd, hm, F, hcode⟩ := T
  refine ⟨f, fd, hm, F.kp, F.binds (ps := ["_law_box_here", "_law_net_here", "_law_handed", "_law_start_here", "_law_ends_here", "_law_most_here"]) fun _ _ _ _ _ _ us hl => match us, hl with | [_, _, _, _, _, _], _ => rfl, okGc F hcode sc__law_value_right (fun vs H Q E h => lenVal h) (fun A outer s_1 H vs Q E hg hr h => ?_)⟩
  have nd := sc__law_value_right.nd
  have hu := hu_of hr
  have hrH := hr
  obtain ⟨G, p, vn, vh, vst, ve, vm, n, s, as, es, dh, rfl, gh, rn, rh, rs, re, rm, GG, hdh, hn2, hn, hal, hel, hpP, hgp, hbp, hgP, hbP, k⟩ := h
  have LK1 : ∀ j : Fin 1, LamOk (cxOf CX0 P w K mg base N__law_value_right "_law_value_right" (defScope s__law_value_right) f (.ref cV) A outer s_1 H E).nox (lsVal j) 8 (tbX (sX4 C isNet2 broughtD) (tCons (tVar 1) (tCons (tVar 3) (tCons (tVar 4) (tCons (tVar 6) tNil))))) := by
    intro j
    match j with
    | 0 => exact ⟨LamX.lamS_by (lsVal_sc 0), fun _ _ _ => rfl, fun E A outer s H f b hr => pe_callHX h_brought (hr.mono (by decide)) (takes_of rfl rfl rfl rfl) (pa_cons (pv 1) (pa_cons (pv 3) (pa_cons (pv 4) (pa_cons (pv 6) pa_nil))))⟩
  refine ⟨_, (pss_cons (ps_set (i := 6) nd rfl (by first | exact Or.inl rfl | exact Or.inr rfl) (pe_callH h__law_value (hr.mono (by decide)) (pa_cons (pv 0) (pa_cons (pv 1) (pa_cons (pv 3) (pa_cons (pv 4) pa_nil))))))
    (pss_cons (ps_set (i := 7) nd rfl (by first | exact Or.inl rfl | exact Or.inr rfl) (pe_callH h__law_is_to (hr.mono (by decide)) (pa_cons (pv 1) (pa_cons (pv 3) (pa_cons (pv 4) (pa_cons (pv 6) pa_nil))))))
    (pss_cons (ps_if (pt_cmpR op_ne (pe_callB (krepr (K := K) (by exact hg) (by exact hr.units)) (by rfl) B.repr (by decide +kernel) (pa_cons (pe_callHL h_ends_fit (hr.mono (by decide)) (pa_cons (pv 1) (pa_cons (pv 3) (pa_cons (pv 4) (pa_cons (pv 6) pa_nil))))) pa_nil)) (pe_callB (krepr (K := K) (by exact hg) (by exact hr.units)) (by rfl) B.repr (by decide +kernel) (pa_cons (pv 7) pa_nil)) (nomark _)) (pss_one (ps_ret pe_bl)) pss_nil)
    (pss_cons (ps_if (pt_cmpR op_ne (pe_callB (krepr (K := K) (by exact hg) (by exact hr.units)) (by rfl) B.repr (by decide +kernel) (pa_cons (pe_callKw (ks := ["value", "ends", "start", "net"]) hf_ends_fit (hr.mono (by decide)) (pk_cons (pv 6) (pk_cons (pe_callTy (ktup (K := K)) (by rfl) B.tuple (by decide +kernel) (pa_cons (pv 4) pa_nil)) (pk_cons (pv 3) (pk_cons (pv 2) pk_nil)))) (fun _ _ _ _ _ _ us hl => match us, hl with | [_, _, _, _], _ => rfl)) pa_nil)) (pe_callB (krepr (K := K) (by exact hg) (by exact hr.units)) (by rfl) B.repr (by decide +kernel) (pa_cons (pv 7) pa_nil)) (nomark _)) (pss_one (ps_ret pe_bl)) pss_nil)
    (pss_cons (ps_if (pt_not (pt_val (pv 7))) (pss_one (ps_ret (pe_cmpR (keq hr.units (K := K)) (pe_heardX TH B R EC hg LK1 hrH exm kit (pe_lamb TB rfl rfl (LamX.lamS_by (sc := defScope s__law_value_right) (by decide +kernel)).free)) (pe_tup (pa_cons pe_str (pa_cons (pe_callB (krepr (K := K) (by exact hg) (by exact hr.units)) (by rfl) B.repr (by decide +kernel) (pa_cons (pv 6) pa_nil)) (pa_cons pe_bl pa_nil)))) (nomark _)))) pss_nil)
    (pss_cons (ps_set (i := 8) nd rfl (by first | exact Or.inl rfl | exact Or.inr rfl) (pe_callTy (ktup (K := K)) (by rfl) B.tuple (by decide +kernel) (pa_cons (pe_lc (own := [("_law_node", 9)]) rfl nd (kseq (K := K) (pv 4)) (blkOk_by (N := N__law_value_right) (sc := defScope s__law_value_right) (by decide +kernel)) (fun _ _ _ _ _ => (pg_name (i := 9) nd rfl (by first | exact Or.inl rfl | exact Or.inr rfl))) (fun _ _ _ _ _ => pts_nil) (fun _ _ _ _ _ => (pe_callH h__law_more (hr.mono (by decide)) (pa_cons (pv 1) (pa_cons (pv 6) (pa_cons (pv 9) pa_nil)))))) pa_nil)))
    (pss_cons (ps_set (i := 10) nd rfl (by first | exact Or.inl rfl | exact Or.inr rfl) (pe_lst (pa_cons (pe_callHL h_brought (hr.mono (by decide)) (pa_cons (pv 1) (pa_cons (pv 3) (pa_cons (pv 4) (pa_cons (pv 6) pa_nil))))) (pa_cons (pe_callKw (ks := ["flow", "ends", "start", "net"]) hf_brought (hr.mono (by decide)) (pk_cons (pv 6) (pk_cons (pe_callTy (ktup (K := K)) (by rfl) B.tuple (by decide +kernel) (pa_cons (pv 4) pa_nil)) (pk_cons (pv 3) (pk_cons (pv 2) pk_nil)))) (fun _ _ _ _ _ _ us hl => match us, hl with | [_, _, _, _], _ => rfl)) pa_nil))))
    (pss_cons (ps_if (pt_cmpR op_ne (pe_callB (krepr (K := K) (by exact hg) (by exact hr.units)) (by rfl) B.repr (by decide +kernel) (pa_cons (pv 10) pa_nil)) (pe_callB (krepr (K := K) (by exact hg) (by exact hr.units)) (by rfl) B.repr (by decide +kernel) (pa_cons (pe_lst (pa_cons (pv 8) (pa_cons (pv 8) pa_nil))) pa_nil)) (nomark _)) (pss_one (ps_ret pe_bl)) pss_nil)
    (pss_one (ps_ret (pe_cmpR (keq hr.units (K := K)) (pe_lc (own := [("_law_at", 11)]) rfl nd (pi_range1 (by rfl) B.range (pa_cons (pe_callB (klen (K := K)) (by rfl) B.len (by decide +kernel) (pa_cons (pv 4) pa_nil)) pa_nil)) (blkOk_by (N := N__law_value_right) (sc := defScope s__law_value_right) (by decide +kernel)) (fun _ _ _ _ _ => (pg_name (i := 11) nd rfl (by first | exact Or.inl rfl | exact Or.inr rfl))) (fun _ _ _ _ _ => (pts_one (PW.pt (pw_and (pt_cmp (pc_notN (pe_ix (kix (K := K)) (pv 5) (pv 11) (fun _ _ => rfl))) rfl) (pw_and1 (pt_cmpR op_gt (pe_callB (ksumT (K := K)) (by rfl) B.sum (by decide +kernel) (pa_cons (pe_slice (kslT (K := K)) (pv 8) po_none (po_some (pe_op op_add (pv 11) pe_int))) pa_nil)) (pe_ix (kix (K := K)) (pv 5) (pv 11) (fun _ _ => rfl)) (nomark _))))))) (fun _ _ _ _ _ => (pv 11))) (pe_lst pa_nil) (nomark _)))))))))))), ?_⟩
  have A0 := at_startG (N := N__law_value_right) (ss := [.val (.ref p), .dat (netD n as), .dat dh, .dat (natD s), .dat (.list (natsD es)), .dat (.list ((List.range es.length).map fun k => capD (leastK n as s es k)))]) (S := [p, PV]) (M := [(p, .box), (PV, .tab qVal)]) gh (.val (.dat rn (.dat rh (.dat rs (.dat re (.dat rm .nil)))))) (Nat.le_of_ble_eq_true rfl) (fun a o h => by
    rcases List.mem_cons.mp h with h | h
    · cases h
      exact ⟨hgp, .inl (List.mem_cons_self ..), hbp⟩
    · rw [List.mem_singleton] at h
      cases h
      exact ⟨hgP, .inl (List.mem_cons_of_mem _ (List.mem_cons_self ..)), hbP⟩) (List.nodup_cons.mpr ⟨by simpa using hpP, List.nodup_cons.mpr ⟨by simp, List.nodup_nil⟩⟩) (fun a h => by
    rcases List.mem_cons.mp h with h | h
    · rw [h]
      exact ⟨_, hbp.choose_spec.1⟩
    · rw [List.mem_singleton.mp h]
      exact ⟨_, hbP.choose_spec.1⟩)
  have hT : (PV, MO.tab qVal) ∈ [(p, MO.box), (PV, .tab qVal)] := List.mem_cons_of_mem _ (List.mem_cons_self ..)
  have fin : ∀ (lo : Hp) (δ : List Sl) (G' H' : Hp) (σ' : L2.St), At ⟨[p, PV], G, H, lo⟩ δ [(p, .box), (PV, .tab qVal)] G' H' σ' → Q (.bl true) H' := fun lo δ G' H' σ' B => k G' H' B.ev (B.mem p _ (List.mem_cons_self ..)).2.2 (B.mem PV _ hT).2.2
  have hnet : netOf (netD n as) = some (n, as) := netOf_D GG.ok (by omega) GG.caps
  have sm : ∀ d, netOf d = some (n, as) → netSmall d := fun d hd n' as' h' => by
    rw [hd] at h'
    cases h'
    omega
  refine s_setsq (P := valOk) A0 ((gs_b3 (R := valR) (P := isValQ) rfl (List.mem_cons_self ..) (ga_v3 rfl rfl rfl) ⟨n, as, s, es, rfl, rfl, rfl, hn, hal, hel⟩).imp fun d h => h) fun d G1 H1 σ1 hd A1 => ?_
  have hshn := valOk_shn hd
  refine s_setq (d := .bool (isToL n as s es d)) A1 (Gv.cast (g_c4 (ga_v4 rfl rfl rfl rfl) ⟨n, as, s, es, rfl, rfl, rfl, by omega, valOk_flat hd⟩) (by
    unfold isToD
    rw [nodesOfNet_D, arcsOfNet_D, natOf_D, natsOf_list])) fun G2 H2 σ2 A2 => ?_
  refine s_sameq (d := .bool (isToL n as s es d)) A2 (g_cL4 (ga_v4 rfl rfl rfl rfl) (sm _ hnet) (endsFit_is hnet rfl GG)) (g_var rfl) (shn_bool _).ok fun G3 H3 A3 => ?_
  refine s_sameq (d := .bool (isToL n as s es d)) A3 (g_kw (ga_cons (g_var rfl) (ga_cons (g_tupOf (ga_v (a := .list (natsD es)) rfl) rfl) (ga_cons (g_var rfl) (ga_cons (g_var rfl) ga_nil)))) ⟨_, _, _, _, rfl, sm _ hdh⟩ (endsFit_is hdh rfl GG)) (g_var rfl) (shn_bool _).ok fun G4 H4 A4 => ?_
  refine s_ifq A4 (gt_not (gt_b (g_var (d := .bool (isToL n as s es d)) rfl))) (fun z G5 H5 A5 => ?_) fun z G5 H5 A5 => ?_
  · have z1 : isToL n as s es d = false := (Bool.not_eq_true' _).mp z
    unfold tRet tOp
    refine at_heardT (J := Fin 1) (q := qVal) (LO := fun j => LOX (cxOf CX0 P w K mg base N__law_value_right "_law_value_right" (defScope s__law_value_right) f (.ref cV) A outer s_1 H E).nox (lsVal j)) (d0 := d) A5 (fun G' H' B s' => B) hshn.ok (fun j => rfs_X (ga_v4 rfl rfl rfl rfl) ⟨_, _, _, _, rfl, sm _ hnet⟩ (brought_no hnet rfl GG z1)) (fun Q' kk => at_lamb A5 hT fun f b G' H' A' s' e c => kk 0 f b G' H' A' s' e c) fun G6 H6 v6 A6 s6 r6 => ?_
    refine (g_tup (ga_cons g_str (ga_cons (g_repr (ga_v rfl) hshn.ok) (ga_cons g_bl ga_nil))) (by show 3 ≤ 100000; decide) : Gv _ _ _ (toldD d)) _ G6 H6 _ _ A6 fun G7 H7 v7 A7 s7 r7 => ?_
    refine ⟨toldD d, toldD d, (r6.up s7).dp A7.gh, r7.dp A7.gh, told_shaped hshn.sk, told_shaped hshn.sk, ?_⟩
    rw [told_eqv]
    exact fin _ _ G7 H7 _ A7
  · have z1 : isToL n as s es d = true := (Bool.not_eq_false' _).mp z
    obtain ⟨l, hl, hv, F⟩ := isToL_flo GG z1
    have small := valOk_ints hd hv
    have esl : (natsD es).length ≤ 100000 := by rw [natsD_len]; omega
    have big : ∀ x ∈ es.map (moreL as l), -(10 ^ 20) ≤ x ∧ x ≤ 10 ^ 20 := fun x hx => by
      obtain ⟨u, _, rfl⟩ := List.mem_map.mp hx
      rw [more_ex F.ok.1]
      have := ex_bound (b := 10000) (by decide) u as l small
      omega
    have brD := brought_is (d := netD n as) (e := .list (natsD es)) hnet rfl GG hv F.ok.1 z1
    have brK := brought_is (d := dh) (e := .tuple (natsD es)) hdh rfl GG hv F.ok.1 z1
    refine s_setq (d := .tuple (intsD (es.map (moreL as l)))) A5 (g_tupOf (ga_cons (Gv.cast (g_map (ds := natsD es) (fun y => moreD (netD n as) d y) (δ' := fun y => [.val (.ref p), .dat (netD n as), .dat dh, .dat (natD s), .dat (.list (natsD es)), .dat (.list ((List.range es.length).map fun k => capD (leastK n as s es k))), .dat d, .dat (.bool (isToL n as s es d)), .any, .dat y, .any, .any]) (gi_seq (g_var rfl) rfl) esl (fun x y _ => gg_name) (fun x y hy => ?_)) (d := .list (intsD (es.map (moreL as l)))) ?_) ga_nil) rfl) fun G6 H6 σ6 A6 => ?_
    · obtain ⟨u, _, rfl⟩ := natsD_mem hy
      exact g_c3 (ga_v3 rfl rfl rfl) ⟨n, as, l, u, rfl, hv, F.ok.1, rfl⟩
    · unfold natsD intsD
      rw [List.map_map, List.map_map]
      congr 1
      exact List.map_congr_left fun u _ => moreD_eq hv
    refine s_setq (d := .list [.tuple (intsD (es.map (moreL as l))), .tuple (intsD (es.map (moreL as l)))]) A6 (g_lst (ga_cons (g_cL4 (ga_v4 rfl rfl rfl rfl) (sm _ hnet) brD) (ga_cons (g_kw (ga_cons (g_var rfl) (ga_cons (g_tupOf (ga_v (a := .list (natsD es)) rfl) rfl) (ga_cons (g_var rfl) (ga_cons (g_var rfl) ga_nil)))) ⟨_, _, _, _, rfl, sm _ hdh⟩ brK) ga_nil)) (by show 2 ≤ 100000; decide)) fun G7 H7 σ7 A7 => ?_
    refine s_sameq (d := .list [.tuple (intsD (es.map (moreL as l))), .tuple (intsD (es.map (moreL as l)))]) A7 (g_var rfl) (g_lst (ga_cons (g_var rfl) (ga_cons (g_var rfl) ga_nil)) (by show 2 ≤ 100000; decide)) (sh_two big (by rw [List.length_map]; omega)) fun G8 H8 A8 => ?_
    refine s_ret (d := .bool true) A8 (Gv.cast (g_eqNil (ds := []) (Gv.cast (g_lc (ds := rangeD es.length) (fun _ => false) id (δ' := fun y => [.val (.ref p), .dat (netD n as), .dat dh, .dat (natD s), .dat (.list (natsD es)), .dat (.list ((List.range es.length).map fun k => capD (leastK n as s es k))), .dat d, .dat (.bool (isToL n as s es d)), .dat (.tuple (intsD (es.map (moreL as l)))), .any, .dat (.list [.tuple (intsD (es.map (moreL as l))), .tuple (intsD (es.map (moreL as l)))]), .dat y]) (gi_range (n := es.length) (ga_cons (Gv.cast (g_len (ga_v (a := .list (natsD es)) rfl) rfl) (by rw [natsD_len])) ga_nil) (by omega)) (by rw [rangeD_len]; omega) (fun x y _ => gg_name) (fun x y hy => ?_) (fun x y _ z => nomatch z)) ?_) (fun x hx => by cases hx)) rfl) fun G9 H9 v9 A9 r9 => ?_
    · obtain ⟨i, hi, rfl⟩ := List.mem_map.mp hy
      have hi := List.mem_range.mp hi
      have most : ∀ M, Gv [.val (.ref p), .dat (netD n as), .dat dh, .dat (natD s), .dat (.list (natsD es)), .dat (.list ((List.range es.length).map fun k => capD (leastK n as s es k))), .dat d, .dat (.bool (isToL n as s es d)), .dat (.tuple (intsD (es.map (moreL as l)))), .any, .dat (.list [.tuple (intsD (es.map (moreL as l))), .tuple (intsD (es.map (moreL as l)))]), .dat (.int (i : Nat))] M (tOp (rIx K) (tVar 5) (tVar 11)) (capD (leastK n as s es i)) := fun M => g_ix (n := i) (g_var rfl) (g_var rfl) rfl (by rw [List.getElem?_map, List.getElem?_range hi]; rfl)
      cases hc : leastK n as s es i with
      | none =>
        rw [hc] at most
        exact Gt.cast (gt_and (a := false) (b := true) (Gt.cast (gt_b (g_notN (most _))) rfl) fun z => nomatch z) rfl
      | some c =>
        rw [hc] at most
        have le := flow_le GG F hc
        refine Gt.cast (gt_and (a := true) (Gt.cast (gt_b (g_notN (most _))) rfl) fun _ => gt_test (g_opB (g_sumT (ns := (es.map (moreL as l)).take (i + 1)) (ga_cons (Gv.cast (g_slTupTo (n := i + 1) (ds := intsD (es.map (moreL as l))) (g_var rfl) (Gv.cast (g_op0 (g_var (d := .int (i : Nat)) rfl) g_int) (natD_succ i))) (show PyData.tuple ((intsD (es.map (moreL as l))).take (i + 1)) = .tuple (((es.map (moreL as l)).take (i + 1)).map PyData.int) by unfold intsD; rw [List.map_take])) ga_nil)) (most _))) ?_
        show (true && decide (c < _)) = false
        rw [Bool.true_and]
        exact decide_eq_false (by omega)
    · rw [List.filter_eq_nil_iff.mpr (by simp)]
      rfl
    · have := r9.blV
      subst this
      exact fin _ _ G9 H9 _ A9
end
end Od
set_option Elab.async false
set_option linter.all false
set_option autoImplicit false
set_option maxRecDepth 100000
set_option maxHeartbeats 4000000
/-! W26: it is so of many nodes. -/
namespace Od
open PySem PySem.Spec L2
section
variable {c : Ct} {δ : List Sl} {M : Mem} {K : PySem.W.Frag} {ta tb te : TE} {G H : Hp} {σ : L2.St} {D : Ends} {P : PyData → Prop}
theorem g_neB {a b : Bool} (ha : Gv δ M ta (.bool a)) (hb : Gv δ M tb (.bool b)) : Gv δ M (tOp rNe ta tb) (.bool (!decide (a = b))) := Gv.cast (g_ne ha hb rfl rfl rfl) (by simp)
/-- xs[:n], xs drawn -/
theorem gs_slTo {n : Nat} (ha : Gs δ M ta P) (hP : ∀ d, P d → ∃ ds, d = .list ds) : Gs δ M (tSl (rSlL K) ta tNoPart (tPart (tC (.int (n : Nat))))) (fun x => ∃ ds, P (.list ds) ∧ x = .list (ds.take n)) := fun c G H σ Q A k =>
  ha c G H σ _ A fun d G1 H1 v hd A1 s1 r1 => by
    obtain ⟨ds, rfl⟩ := hP d hd
    cases r1 with
    | @lst a xs _ e z ra =>
      refine ⟨n, rfl, a, xs, rfl, SqL.of (A1.gh _ _ e), fun p q => ?_⟩
      have rc := cutV_rep ra none (some (n : Int))
      rw [cut_to] at rc
      obtain ⟨A2, s2, r2⟩ := at_newL A1 q (by rw [List.length_take]; omega) rc
      exact k _ _ _ _ ⟨ds, hd, rfl⟩ A2 (s1.trans s2) r2
end
theorem good_drawn {n s : Nat} {as : List Arc} {es : List Nat} (hd : drawn n as) (h2 : n ≤ 2000) (hs : s < n) (en : ∀ u ∈ es, u < n ∧ u ≠ s) (nd : es.Nodup) : Good n as s es :=
  ⟨⟨h2, fun a ha => ⟨(hd a ha).1, (hd a ha).2.1⟩⟩, fun a ha c hc => ((hd a ha).2.2 c hc).1, hs, en, nd⟩
/-- what is come to, as a lot -/
def wallN (n : Nat) (as : List Arc) (s : Nat) (l : List Int) : List Nat := (reachedL n as l s).map Int.toNat
theorem wallN_mem {n s : Nat} {as : List Arc} {l : List Int} (v : Nat) : v ∈ wallN n as s l ↔ ((comeBy n as l s).lookup v).isSome = true := by
  have e : v ∈ wallN n as s l ↔ v ∈ keys (comeBy n as l s) := by
    unfold wallN reachedL
    rw [((sortI_perm _).map Int.toNat).mem_iff]
    unfold keysI
    rw [List.map_map]
    constructor
    · intro h
      obtain ⟨u, hu, e⟩ := List.mem_map.mp h
      have e : ((u : Int)).toNat = v := e
      rw [Int.toNat_natCast] at e
      rw [← e]
      exact hu
    · intro h
      exact List.mem_map.mpr ⟨v, h, Int.toNat_natCast v⟩
  rw [e]
  cases h : (comeBy n as l s).lookup v with
  | none => exact ⟨fun z => absurd z (lookup_none.mp h), fun z => nomatch z⟩
  | some o =>
    refine ⟨fun _ => rfl, fun _ => ?_⟩
    refine Classical.byContradiction fun z => ?_
    rw [lookup_none.mpr z] at h
    cases h
theorem wall_data {n s : Nat} {as : List Arc} (l : List Int) : wallD n as s (some l) = .tuple (natsD (wallN n as s l)) := by
  show loadD (reachedL n as l s) = _
  unfold loadD natsD intsD wallN
  rw [List.map_map]
  congr 1
  refine List.map_congr_left fun x hx => ?_
  have : x ∈ keysI (comeBy n as l s) := (sortI_perm _).mem_iff.mp hx
  obtain ⟨u, _, rfl⟩ := List.mem_map.mp this
  show PyData.int (u : Int) = natD ((u : Int)).toNat
  rw [Int.toNat_natCast]
  rfl
theorem wall_fact {n s : Nat} {as : List Arc} {es : List Nat} {k : Nat} {l : List Int} (G : Good n as s es) (h : flowK n as s es (k + 1) = some l) : s ∈ wallN n as s l ∧ (∀ u ∈ es.take (k + 1), u ∉ wallN n as s l) ∧ ∃ c, worthL as (wallN n as s l) = some c ∧ leastK n as s es k = some c := by
  obtain ⟨F, _⟩ := flowK_fk G _ l h
  obtain ⟨h1, h2, h3⟩ := strong (lot := wallN n as s l) G.ok G.sn F.flo ((List.take_sublist ..).nodup G.nd) (fun u hu => (G.en u (List.mem_of_mem_take hu)).1) F.far fun v => wallN_mem v
  exact ⟨h1, h2, _, h3, (most_least G k).2 l h⟩
def wallsL (n s : Nat) (as : List Arc) (es : List Nat) : List PyData := (List.range es.length).map fun k => wallD n as s (flowK n as s es (k + 1))
theorem wallsD_is {d e : PyData} {n s : Nat} {as : List Arc} {es : List Nat} (hd : netOf d = some (n, as)) (he : seqOf e = some (natsD es)) (G : Good n as s es) : wallsD d (natD s) e = .ok (.tuple (wallsL n s as es)) := by
  unfold wallsD
  rw [ask_good hd he G]
  show Except.ok (PyData.tuple ((flowsOf n as s es).map (wallD n as s))) = _
  unfold flowsOf wallsL
  rw [List.map_map]
  rfl
def mostsL (n s : Nat) (as : List Arc) (es : List Nat) : List PyData := (List.range es.length).map fun k => capD (leastK n as s es k)
def sB0 (R : PyData → Prop) : Sp := spBx (fun ds => ds = []) fun _ => R
theorem lenB0 {R : PyData → Prop} {vs : List V} {H : Hp} {Q : VK} {E : XK} (h : sB0 R vs H Q E) : vs.length = 1 := by
  obtain ⟨G, p, us, ds, rfl, _, ra, rfl, _⟩ := h
  cases ra
  rfl
section
variable {P : Program} {w : World} {K : PySem.W.Frag} {mg : Str → Option Value} {base : Heap} {C fI O : Addr}
abbrev s__law_many_right : Stmt := topS 56
abbrev N__law_many_right : List Str := ["_law_box_here", "_law_net_here", "_law_ends_here", "_law_lots_here", "_law_most_here", "_law_told", "_law_at", "_law_node"]
theorem sc__law_many_right : FnScope N__law_many_right ["_law_box_here"] (defScope s__law_many_right) := ⟨rfl, rfl, rfl, by decide +kernel, rfl, by decide +kernel, by decide +kernel⟩
abbrev HMany (P : Program) (w : World) (K : PySem.W.Frag) (mg : Str → Option Value) (base : Heap) : Prop := Has P w K mg base "_law_many_right" CX0 9 ["_law_box_here"] (sB0 fun d => d = .bool true)
theorem h__law_many_right (B : Bl mg) (T : TopF K mg "_law_many_right" s__law_many_right) (h__law_net : HNet P w K mg base) (h__law_ends : HEndsQ P w K mg base) (h_walls : HWalls P w K mg base C) (h_most_to : HMost P w K mg base C) (h_soonest_to : HSoon P w K mg base C) (h__law_is_to : HIsTo P w K mg base) (h__law_worth : HWorth P w K mg base) (h__law_more : HMore P w K mg base) : HMany P w K mg base := by
  obtain ⟨f, fd, hm, F⟩ := T
  refine ⟨f, fd, hm, F.kp, F.binds (ps := ["_law_box_here"]) fun _ _ _ _ _ _ us hl => match us, hl with | [_], _ => rfl, F.ok sc__law_many_right (fun vs H Q E h => lenB0 h) (fun cdv A outer s H vs Q E hr h => ?_)⟩
  have nd := sc__law_many_right.nd
  have hu := hu_of hr
  obtain ⟨G, p, us, ds, rfl, gh, ra, rfl, hg, hb, k⟩ := h
  refine ⟨_, (pss_cons (ps_set (i := 1) nd rfl (by first | exact Or.inl rfl | exact Or.inr rfl) (pe_callH h__law_net (hr.mono (by decide)) (pa_cons (pv 0) (pa_cons pe_int (pa_cons pe_int pa_nil)))))
    (pss_cons (ps_set (i := 2) nd rfl (by first | exact Or.inl rfl | exact Or.inr rfl) (pe_slice (ksl (K := K)) (pe_callH h__law_ends (hr.mono (by decide)) (pa_cons (pv 0) (pa_cons (pv 1) (pa_cons pe_int pa_nil)))) po_none (po_some pe_int)))
    (pss_cons (ps_asg (pe_tup (pa_cons (pe_callHL h_walls (hr.mono (by decide)) (pa_cons (pv 1) (pa_cons pe_int (pa_cons (pv 2) pa_nil)))) (pa_cons (pe_callHL h_most_to (hr.mono (by decide)) (pa_cons (pv 1) (pa_cons pe_int (pa_cons (pv 2) pa_nil)))) (pa_cons (pe_callHL h_soonest_to (hr.mono (by decide)) (pa_cons (pv 1) (pa_cons pe_int (pa_cons (pv 2) pa_nil)))) pa_nil)))) (ktg (K := K) (n := 3) (pgs_cons (pg_name (i := 3) nd rfl (by first | exact Or.inl rfl | exact Or.inr rfl)) (pgs_cons (pg_name (i := 4) nd rfl (by first | exact Or.inl rfl | exact Or.inr rfl)) (pgs_cons (pg_name (i := 5) nd rfl (by first | exact Or.inl rfl | exact Or.inr rfl)) pgs_nil)))))
    (pss_cons (ps_if (PW.pt (pw_or (pt_cmpR op_ne (pe_cmp (pc_isN (pv 5)) rfl) (pe_cmpR (kin (K := K)) pe_non (pv 4) (by with_unfolding_all rfl)) (nomark _)) (pw_or (pt_cmpR op_ne (pe_callB (klen (K := K)) (by rfl) B.len (by decide +kernel) (pa_cons (pv 3) pa_nil)) (pe_callB (klen (K := K)) (by rfl) B.len (by decide +kernel) (pa_cons (pv 2) pa_nil)) (nomark _)) (pw_or1 (pt_cmpR op_ne (pe_callB (klen (K := K)) (by rfl) B.len (by decide +kernel) (pa_cons (pv 4) pa_nil)) (pe_callB (klen (K := K)) (by rfl) B.len (by decide +kernel) (pa_cons (pv 2) pa_nil)) (nomark _)))))) (pss_one (ps_ret pe_bl)) pss_nil)
    (pss_cons (ps_if (PW.pt (pw_and (pt_cmp (pc_notN (pv 5)) rfl) (pw_and1 (pt_not (pt_val (pe_callH h__law_is_to (hr.mono (by decide)) (pa_cons (pv 1) (pa_cons pe_int (pa_cons (pv 2) (pa_cons (pv 5) pa_nil)))))))))) (pss_one (ps_ret pe_bl)) pss_nil)
    (pss_cons (ps_for PassesOwn.never rfl (pi_range1 (by rfl) B.range (pa_cons (pe_callB (klen (K := K)) (by rfl) B.len (by decide +kernel) (pa_cons (pv 2) pa_nil)) pa_nil)) (pg_name (i := 6) nd rfl (by first | exact Or.inl rfl | exact Or.inr rfl))
      (pss_cons (ps_if (pt_cmpR op_ne (pe_cmp (pc_isN (pe_ix (kix (K := K)) (pv 4) (pv 6) (fun _ _ => rfl))) rfl) (pe_cmp (pc_isN (pe_ix (kix (K := K)) (pv 3) (pv 6) (fun _ _ => rfl))) rfl) (nomark _)) (pss_one (ps_ret pe_bl)) pss_nil)
    (pss_one (ps_if (pt_cmp (pc_notN (pe_ix (kix (K := K)) (pv 4) (pv 6) (fun _ _ => rfl))) rfl) (pss_cons (ps_if (PW.pt (pw_or (pt_cmpR (knotin (K := K)) pe_int (pe_ix (kix (K := K)) (pv 3) (pv 6) (fun _ _ => rfl)) (by with_unfolding_all rfl)) (pw_or1 (pt_cmpR (kne hr.units (K := K)) (pe_lc (own := [("_law_node", 7)]) rfl nd (kseq (K := K) (pe_slice (ksl (K := K)) (pv 2) po_none (po_some (pe_op op_add (pv 6) pe_int)))) (blkOk_by (N := N__law_many_right) (sc := defScope s__law_many_right) (by decide +kernel)) (fun _ _ _ _ _ => (pg_name (i := 7) nd rfl (by first | exact Or.inl rfl | exact Or.inr rfl))) (fun _ _ _ _ _ => (pts_one (pt_cmpR (kin (K := K)) (pv 7) (pe_ix (kix (K := K)) (pv 3) (pv 6) (fun _ _ => rfl)) (by with_unfolding_all rfl)))) (fun _ _ _ _ _ => (pv 7))) (pe_lst pa_nil) (nomark _))))) (pss_one (ps_ret pe_bl)) pss_nil)
    (pss_cons (ps_if (pt_cmpR op_ne (pe_callH h__law_worth (hr.mono (by decide)) (pa_cons (pv 1) (pa_cons (pe_ix (kix (K := K)) (pv 3) (pv 6) (fun _ _ => rfl)) pa_nil))) (pe_ix (kix (K := K)) (pv 4) (pv 6) (fun _ _ => rfl)) (nomark _)) (pss_one (ps_ret pe_bl)) pss_nil)
    (pss_one (ps_if (PW.pt (pw_and (pt_cmp (pc_notN (pv 5)) rfl) (pw_and1 (pt_cmpR op_ne (pe_callB (ksum (K := K)) (by rfl) B.sum (by decide +kernel) (pa_cons (pe_lc (own := [("_law_node", 7)]) rfl nd (kseq (K := K) (pe_slice (ksl (K := K)) (pv 2) po_none (po_some (pe_op op_add (pv 6) pe_int)))) (blkOk_by (N := N__law_many_right) (sc := defScope s__law_many_right) (by decide +kernel)) (fun _ _ _ _ _ => (pg_name (i := 7) nd rfl (by first | exact Or.inl rfl | exact Or.inr rfl))) (fun _ _ _ _ _ => pts_nil) (fun _ _ _ _ _ => (pe_callH h__law_more (hr.mono (by decide)) (pa_cons (pv 1) (pa_cons (pv 5) (pa_cons (pv 7) pa_nil)))))) pa_nil)) (pe_ix (kix (K := K)) (pv 4) (pv 6) (fun _ _ => rfl)) (nomark _))))) (pss_one (ps_ret pe_bl)) pss_nil)))) pss_nil))))
    (pss_one (ps_ret pe_bl)))))))), ?_⟩
  have A0 := at_startB (N := N__law_many_right) gh ra (Nat.le_of_ble_eq_true rfl) hg hb
  have bm : (p, MO.box) ∈ [(p, MO.box)] := List.mem_singleton_self _
  have fin : ∀ (lo : Hp) (δ : List Sl) (G' H' : Hp) (σ' : L2.St) (v : V), At ⟨[p], G, H, lo⟩ δ [(p, .box)] G' H' σ' → Rep G' v (.bool true) → Q v H' := fun lo δ G' H' σ' v A' r => k G' H' v _ rfl A'.ev (A'.box bm) r
  refine s_setsq (P := netR (natD 20) (natD 50)) A0 (gs_b2 (R := netR) (P := isNetQ) rfl bm (ga_cons g_int (ga_cons g_int ga_nil)) ⟨20, 50, rfl, rfl, by decide, by decide, by decide⟩) fun d1 G1 H1 σ1 hd1 A1 => ?_
  obtain ⟨n, as, rfl, hn2, hn, hal, hdr⟩ := hd1
  rw [natOf_D] at hn hal
  refine s_setsq (P := fun x => ∃ es : List Nat, x = .list (natsD es) ∧ es.Nodup ∧ es.length ≤ 6 ∧ ∀ u ∈ es, u < n ∧ u ≠ 0) A1 ((gs_slTo (n := 6) (gs_b2 (R := endsR) (P := isEndsQ) rfl bm (ga_cons (g_var rfl) (ga_cons g_int ga_nil)) ⟨n, as, 0, rfl, rfl, hn⟩) fun d hd => ⟨_, hd.choose_spec.1⟩).imp ?_) fun d2 G2 H2 σ2 hd2 A2 => ?_
  · rintro d ⟨ds, ⟨es, e1, nd1, h1⟩, rfl⟩
    cases e1
    rw [nodesOfNet_D] at h1
    refine ⟨es.take 6, ?_, (List.take_sublist ..).nodup nd1, by rw [List.length_take]; omega, fun u hu => h1 u (List.mem_of_mem_take hu)⟩
    unfold natsD
    rw [List.map_take]
  obtain ⟨es, rfl, nde, hel, hen⟩ := hd2
  have GG : Good n as 0 es := good_drawn hdr (by omega) (by omega) hen nde
  have hnet : netOf (netD n as) = some (n, as) := netOf_D GG.ok (by omega) GG.caps
  have sm : netSmall (netD n as) := fun n' as' h' => by
    rw [hnet] at h'
    cases h'
    omega
  refine s_asgq (d := .tuple [.tuple (wallsL n 0 as es), .tuple (mostsL n 0 as es), flowD (flowK n as 0 es es.length)]) A2 (g_tup (ga_cons (g_cL3 (ga_cons (g_var rfl) (ga_cons (g_int (i := 0)) (ga_cons (g_var rfl) ga_nil))) sm (wallsD_is (s := 0) hnet rfl GG)) (ga_cons (g_cL3 (ga_cons (g_var rfl) (ga_cons (g_int (i := 0)) (ga_cons (g_var rfl) ga_nil))) sm (mostD_is (s := 0) hnet rfl GG)) (ga_cons (g_cL3 (ga_cons (g_var rfl) (ga_cons (g_int (i := 0)) (ga_cons (g_var rfl) ga_nil))) sm (soonD_is (s := 0) hnet rfl GG)) ga_nil))) (by show 3 ≤ 100000; decide)) (gg_tup (ggs_cons gg_name (ggs_cons gg_name (ggs_cons gg_name ggs_nil))) rfl) fun G3 H3 σ3 A3 => ?_
  have hsn := soon_none GG
  obtain ⟨o, ho⟩ : ∃ o, flowK n as 0 es es.length = o := ⟨_, rfl⟩
  rw [ho] at A3 hsn
  have el1 : (natsD es).length = es.length := natsD_len es
  have el2 : (wallsL n 0 as es).length = es.length := by unfold wallsL; rw [List.length_map, List.length_range]
  have el3 : (mostsL n 0 as es).length = es.length := by unfold mostsL; rw [List.length_map, List.length_range]
  have isN : isNone (flowD o) = o.isNone := by cases o <;> rfl
  have cs : mostsL n 0 as es = ((List.range es.length).map fun k => leastK n as 0 es k).map capD := by unfold mostsL; rw [List.map_map]; rfl
  refine s_ifq (b := false) A3 (Gt.cast (gt_or (gt_test (g_neB (g_isN (g_var rfl)) (g_noneIn (cs := (List.range es.length).map fun k => leastK n as 0 es k) g_non (g_var rfl) (by rw [← cs]; rfl)))) fun _ => gt_or (gt_test (g_neI (g_len (ga_v rfl) rfl) (g_len (ga_v (a := .list (natsD es)) rfl) rfl))) fun _ => gt_test (g_neI (g_len (ga_v rfl) rfl) (g_len (ga_v (a := .list (natsD es)) rfl) rfl))) ?_) (fun z => nomatch z) fun _ G4 H4 A4 => ?_
  · rw [isN, hsn, el1, el2, el3]
    simp
  have tldN : ∀ (δ : List Sl) (M : Mem), δ[5]? = some (.dat (flowD o)) → Gt δ M (tB (tNotN (tVar 5))) o.isSome := fun δ M h => Gt.cast (gt_b (g_notN (g_var h))) (by cases o <;> rfl)
  have flw : ∀ l, o = some l → seqOf (loadD l) = some (intsD l) ∧ as.length = l.length ∧ isToL n as 0 es (loadD l) = true ∧ ∀ k, k < es.length → leastK n as 0 es k = some (((es.map (moreL as l)).take (k + 1)).sum) := fun l hl => by
    rw [hl] at ho
    obtain ⟨h1, h2, h3, h4⟩ := soon_some GG ho
    exact ⟨rfl, h3, h2, h4⟩
  refine s_ifq (b := false) A4 ?_ (fun z => nomatch z) fun _ G5 H5 A5 => ?_
  · cases ho2 : o with
    | none =>
      refine Gt.cast (gt_and (a := false) (b := true) ?_ fun z => nomatch z) rfl
      have := tldN
      rw [ho2] at this
      exact this _ _ rfl
    | some l =>
      obtain ⟨f1, f2, f3, f4⟩ := flw l ho2
      refine Gt.cast (gt_and (a := true) ?_ fun _ => gt_not (gt_b (Gv.cast (d := .bool true) (g_c4 (ga_cons (g_var rfl) (ga_cons (g_int (i := 0)) (ga_cons (g_var rfl) (ga_cons (g_var rfl) ga_nil)))) ⟨n, as, 0, es, rfl, rfl, rfl, by omega, ?_⟩) ?_))) rfl
      · have := tldN
        rw [ho2] at this
        exact this _ _ rfl
      · intro xs hx x hm
        cases hx
        obtain ⟨i, _, rfl⟩ := List.mem_map.mp hm
        rfl
      · unfold isToD
        rw [nodesOfNet_D, arcsOfNet_D, natsOf_list]
        show PyData.bool (isToL n as 0 es (loadD l)) = _
        rw [f3]
  refine s_forq (ds := rangeD es.length) (fun j δ' M' => ∃ s6 s7 : Sl, δ' = [.val (.ref p), .dat (netD n as), .dat (.list (natsD es)), .dat (.tuple (wallsL n 0 as es)), .dat (.tuple (mostsL n 0 as es)), .dat (flowD o), s6, s7] ∧ M' = [(p, .box)]) A5 (gi_range (n := es.length) (ga_cons (Gv.cast (g_len (ga_v (a := .list (natsD es)) rfl) rfl) (by rw [el1])) ga_nil) (by omega)) ⟨_, _, rfl, rfl⟩ ?_ ?_
  · rintro c' j dj δ' M' G6 H6 σ6 v e1 e2 e3 hd ⟨s6, s7, rfl, rfl⟩ A6 rv
    obtain ⟨hj, rfl⟩ := rangeD_get hd
    refine gg_name c' G6 H6 σ6 v _ A6 rv fun G7 H7 σ7 A7 _ _ _ => ?_
    have most : ∀ (s7 : Sl) (M : Mem), Gv [.val (.ref p), .dat (netD n as), .dat (.list (natsD es)), .dat (.tuple (wallsL n 0 as es)), .dat (.tuple (mostsL n 0 as es)), .dat (flowD o), .dat (.int (j : Nat)), s7] M (tOp (rIx K) (tVar 4) (tVar 6)) (capD (leastK n as 0 es j)) := fun s7 M => g_ix (n := j) (g_var rfl) (g_var rfl) rfl (by unfold mostsL; rw [List.getElem?_map, List.getElem?_range hj]; rfl)
    have wall : ∀ (s7 : Sl) (M : Mem), Gv [.val (.ref p), .dat (netD n as), .dat (.list (natsD es)), .dat (.tuple (wallsL n 0 as es)), .dat (.tuple (mostsL n 0 as es)), .dat (flowD o), .dat (.int (j : Nat)), s7] M (tOp (rIx K) (tVar 3) (tVar 6)) (wallD n as 0 (flowK n as 0 es (j + 1))) := fun s7 M => g_ix (n := j) (g_var rfl) (g_var rfl) rfl (by unfold wallsL; rw [List.getElem?_map, List.getElem?_range hj]; rfl)
    cases hK : flowK n as 0 es (j + 1) with
    | none =>
      have hl := (most_least GG j).1 hK
      rw [hl] at most
      rw [hK] at wall
      exact s_ifq (b := false) A7 (Gt.cast (gt_test (g_neB (g_isN (most _ _)) (g_isN (wall _ _)))) rfl) (fun z => nomatch z) fun _ G8 H8 A8 => s_if (b := false) A8 (Gt.cast (gt_b (g_notN (most _ _))) rfl) (fun z => nomatch z) fun _ G9 H9 A9 => ⟨_, _, G9, ⟨_, _, rfl, rfl⟩, A9⟩
    | some l =>
      obtain ⟨w1, w2, c, w3, w4⟩ := wall_fact GG hK
      rw [w4] at most
      rw [hK, wall_data] at wall
      refine s_ifq (b := false) A7 (Gt.cast (gt_test (g_neB (g_isN (most _ _)) (g_isN (wall _ _)))) rfl) (fun z => nomatch z) fun _ G8 H8 A8 => s_if (b := true) A8 (Gt.cast (gt_b (g_notN (most _ _))) rfl) (fun _ G9 H9 A9 => ?_) fun z => nomatch z
      have slc : ∀ (s7 : Sl) (M : Mem), Gv [.val (.ref p), .dat (netD n as), .dat (.list (natsD es)), .dat (.tuple (wallsL n 0 as es)), .dat (.tuple (mostsL n 0 as es)), .dat (flowD o), .dat (.int (j : Nat)), s7] M (tSl (rSlL K) (tVar 2) tNoPart (tPart (tOp (rI0 fun i j => .int (i + j)) (tVar 6) (tC (.int 1))))) (.list (natsD (es.take (j + 1)))) := fun s7 M => Gv.cast (Gf.v (gf_slTo (n := j + 1) (ds := natsD es) (g_var rfl) (Gv.cast (g_op0 (g_var (d := .int (j : Nat)) rfl) g_int) (natD_succ j)))) (by unfold natsD; rw [List.map_take])
      have tkl : (natsD (es.take (j + 1))).length ≤ 100000 := by rw [natsD_len, List.length_take]; omega
      refine s_ifq (b := false) A9 (Gt.cast (gt_or (a := false) (b := false) (Gt.cast (gt_test (g_notinN (v := 0) (l := wallN n as 0 l) (g_int (i := 0)) (wall _ _) rfl)) (by rw [decide_eq_true w1]; rfl)) fun _ => Gt.cast (gt_test (g_neNil (ds := natsD ((es.take (j + 1)).filter fun u => decide (u ∈ wallN n as 0 l))) (Gv.cast (g_lc (ds := natsD (es.take (j + 1))) (fun y => decide (natOf y ∈ wallN n as 0 l)) id (δ' := fun y => [.val (.ref p), .dat (netD n as), .dat (.list (natsD es)), .dat (.tuple (wallsL n 0 as es)), .dat (.tuple (mostsL n 0 as es)), .dat (flowD o), .dat (.int (j : Nat)), .dat y]) (gi_seq (slc _ _) rfl) tkl (fun x y _ => gg_name) (fun x y hy => ?_) (fun x y _ _ => g_var rfl)) (by rw [natsFilter (es.take (j + 1)) fun u => decide (u ∈ wallN n as 0 l)])) (flatD_nats _))) ?_) rfl) (fun z => nomatch z) fun _ G10 H10 A10 => ?_
      · obtain ⟨u, _, rfl⟩ := natsD_mem hy
        rw [natOf_D]
        exact gt_test (g_inN (g_var rfl) (wall _ _) rfl)
      · rw [natsD_empty, List.filter_eq_nil_iff.mpr fun u hu => by rw [decide_eq_false (w2 u hu)]; decide]
        rfl
      refine s_ifq (b := false) A10 (Gt.cast (gt_test (g_neI (i := c) (j := c) (Gv.cast (g_c2 (ga_cons (g_var rfl) (ga_cons (wall _ _) ga_nil)) ⟨n, as, wallN n as 0 l, rfl, rfl⟩) (by rw [worthD_eq rfl, w3]; rfl)) (most _ _))) (by simp)) (fun z => nomatch z) fun _ G11 H11 A11 => ?_
      refine s_if (b := false) A11 ?_ (fun z => nomatch z) fun _ G12 H12 A12 => ⟨_, _, G12, ⟨_, _, rfl, rfl⟩, A12⟩
      cases ho2 : o with
      | none =>
        refine Gt.cast (gt_and (a := false) (b := true) ?_ fun z => nomatch z) rfl
        have := tldN
        rw [ho2] at this
        exact this _ _ rfl
      | some lt =>
        obtain ⟨f1, f2, f3, f4⟩ := flw lt ho2
        have f5 := f4 j hj
        rw [w4, take_sum] at f5
        have f5 := Option.some.inj f5
        rw [ho2] at slc most
        refine Gt.cast (gt_and (a := true) ?_ fun _ => gt_test (g_neI (i := c) (j := c) (Gv.cast (g_sum (ns := (es.take (j + 1)).map (moreL as lt)) (ga_cons (Gv.cast (g_map (ds := natsD (es.take (j + 1))) (fun y => moreD (netD n as) (loadD lt) y) (δ' := fun y => [.val (.ref p), .dat (netD n as), .dat (.list (natsD es)), .dat (.tuple (wallsL n 0 as es)), .dat (.tuple (mostsL n 0 as es)), .dat (flowD (some lt)), .dat (.int (j : Nat)), .dat y]) (gi_seq (slc _ _) rfl) tkl (fun x y _ => gg_name) (fun x y hy => ?_)) ?_) ga_nil)) (by rw [f5])) (most _ _))) (by simp)
        · have := tldN
          rw [ho2] at this
          exact this _ _ rfl
        · obtain ⟨u, _, rfl⟩ := natsD_mem hy
          exact g_c3 (ga_v3 rfl rfl rfl) ⟨n, as, lt, u, rfl, f1, f2, rfl⟩
        · unfold natsD
          rw [List.map_map, List.map_map]
          congr 1
          exact List.map_congr_left fun u _ => moreD_eq f1
  · rintro δ' M' G6 H6 σ6 ⟨s6, s7, rfl, rfl⟩ A6
    exact s_ret A6 g_bl fun G7 H7 v A7 r => fin _ _ G7 H7 _ v A7 r
end
end Od
set_option Elab.async false
set_option linter.all false
set_option autoImplicit false
set_option maxRecDepth 100000
set_option maxHeartbeats 4000000
/-! W27: the law. -/
namespace Od
open PySem PySem.Spec L2
/-! ### what is handed as lists -/
def arcL (a : Arc) : PyData := .list [natD a.t, natD a.h, capD a.c]
def handD (n : Nat) (as : List Arc) : PyData := .list [natD n, .list (as.map arcL)]
theorem hand_net {n : Nat} {as : List Arc} (ok : okArcs n as) (h0 : 0 < n) (caps : ∀ a ∈ as, ∀ c, a.c = some c → 0 ≤ c) : netOf (handD n as) = some (n, as) := netOf_seq (f := arcL) rfl rfl (fun _ => rfl) ok h0 caps
/-! ### bounds -/
theorem caps_bd {n : Nat} {as : List Arc} (hd : drawn n as) (p : Nat → Bool) : 0 ≤ capSum (outP p as) ∧ capSum (outP p as) ≤ 100000000 * (as.length : Nat) := by
  induction as with
  | nil =>
    show (0 : Int) ≤ 0 ∧ (0 : Int) ≤ _
    omega
  | cons a as ih =>
    have ih := ih fun b hb => hd b (List.mem_cons_of_mem _ hb)
    have ha := (hd a (List.mem_cons_self ..)).2.2
    rw [outP_cons]
    have e : 100000000 * (((a :: as).length : Nat) : Int) = 100000000 * ((as.length : Nat) : Int) + 100000000 := by
      rw [List.length_cons]
      omega
    rw [e]
    by_cases h : (p a.t && !p a.h) = true
    · rw [if_pos h]
      show 0 ≤ ((a :: outP p as).map fun a => a.c.getD 0).sum ∧ ((a :: outP p as).map fun a => a.c.getD 0).sum ≤ _
      rw [List.map_cons, List.sum_cons]
      have ih : 0 ≤ ((outP p as).map fun a => a.c.getD 0).sum ∧ ((outP p as).map fun a => a.c.getD 0).sum ≤ _ := ih
      cases hc : a.c with
      | none =>
        show 0 ≤ (0 : Int) + _ ∧ (0 : Int) + _ ≤ _
        omega
      | some x =>
        have := ha x hc
        show 0 ≤ x + _ ∧ x + _ ≤ _
        omega
    · rw [if_neg h]
      omega
theorem least_bd {n s : Nat} {as : List Arc} {es : List Nat} {k : Nat} {c : Int} (hd : drawn n as) (h : leastK n as s es k = some c) : 0 ≤ c ∧ c ≤ 100000000 * (as.length : Nat) := by
  obtain ⟨lot, _, h3⟩ := List.mem_map.mp (best_some h)
  obtain ⟨_, h4⟩ := worth_some h3
  rw [h4]
  exact caps_bd hd _
theorem heft_cap {o : Option Int} (h : ∀ c, o = some c → -(10 ^ 20) ≤ c ∧ c ≤ 10 ^ 20) : heft (capD o) ≤ 1 ∧ (capD o).depth ≤ 0 := by
  cases o with
  | none => exact ⟨Nat.le_refl _, Nat.le_refl _⟩
  | some c => exact ⟨Nat.le_of_eq (heft_int (h c rfl).1 (h c rfl).2), Nat.le_refl _⟩
theorem mosts_heft {n s : Nat} {as : List Arc} {es : List Nat} (hd : drawn n as) (hal : as.length ≤ 1000) : ∀ x ∈ mostsL n s as es, heft x ≤ 1 ∧ x.depth ≤ 0 := by
  intro x hx
  obtain ⟨k, _, rfl⟩ := List.mem_map.mp hx
  exact heft_cap fun c hc => by
    have := least_bd hd hc
    omega
theorem mosts_two {n s : Nat} {as : List Arc} {es : List Nat} (hd : drawn n as) (hal : as.length ≤ 1000) (hel : es.length ≤ 1000) : ShOk (.list [.tuple (mostsL n s as es), .tuple (mostsL n s as es)]) := by
  have h1 : heftAll (mostsL n s as es) ≤ 1 * (mostsL n s as es).length := heftAll_le fun x hx => (mosts_heft hd hal x hx).1
  have h2 : PyData.depthAll (mostsL n s as es) ≤ 0 := depthAll_le fun x hx => (mosts_heft hd hal x hx).2
  have h3 : (mostsL n s as es).length = es.length := by unfold mostsL; rw [List.length_map, List.length_range]
  refine .of ?_ ?_
  · show 1 + ((1 + heftAll (mostsL n s as es)) + ((1 + heftAll (mostsL n s as es)) + 0)) ≤ 2400
    omega
  · show max (PyData.depthAll (mostsL n s as es) + 1) (max (PyData.depthAll (mostsL n s as es) + 1) 0) + 1 ≤ 60
    omega
/-- what all beginnings of some numbers sum to bounds each -/
theorem each_bd {B : Int} : ∀ {l : List Int}, (∀ x ∈ l, 0 ≤ x) → (∀ k, k < l.length → (l.take (k + 1)).sum ≤ B) → ∀ x ∈ l, x ≤ B := by
  intro l h0 h x hx
  obtain ⟨k, hk, e⟩ := List.mem_iff_getElem.mp hx
  have h1 := h k hk
  have h2 : 0 ≤ (l.take k).sum := by
    have : ∀ {l : List Int}, (∀ x ∈ l, 0 ≤ x) → 0 ≤ l.sum := by
      intro l
      induction l with
      | nil => intro _; exact Int.le_refl _
      | cons a l ih =>
        intro h
        have := h a (List.mem_cons_self ..)
        have := ih fun y hy => h y (List.mem_cons_of_mem _ hy)
        rw [List.sum_cons]
        omega
    exact this fun y hy => h0 y (List.mem_of_mem_take hy)
  rw [List.take_succ, List.getElem?_eq_getElem hk, List.sum_append] at h1
  have h3 : (l.take k).sum + (l[k] + 0) ≤ B := h1
  omega
theorem eqv_flat {xs : List PyData} (h : ∀ x ∈ xs, isFlat x = true) : PyData.eqv (.list xs) (.list xs) = true := by
  show PyData.eqvAll xs xs = true
  induction xs with
  | nil => rfl
  | cons x xs ih =>
    show (PyData.eqv x x && PyData.eqvAll xs xs) = true
    rw [ih fun y hy => h y (List.mem_cons_of_mem _ hy), Bool.and_true]
    have hx := h x (List.mem_cons_self ..)
    cases x with
    | none => rfl
    | bool b => show (b == b) = true; simp
    | int i => show (i == i) = true; simp
    | _ => cases hx
theorem mosts_flat {n s : Nat} {as : List Arc} {es : List Nat} : ∀ x ∈ mostsL n s as es, isFlat x = true := by
  intro x hx
  obtain ⟨k, _, rfl⟩ := List.mem_map.mp hx
  cases leastK n as s es k <;> rfl
/-- the law -/
def spLaw (K : PySem.W.Frag) (PV PN : Addr) : Sp := fun vs H Q _ => ∃ (a : Addr) (ns : List Int), vs = [.ref a] ∧ SqL K H a (ns.map V.int) ∧ ns.length ≤ 63 ∧ H PV = some (.tbl #[]) ∧ H PN = some (.tbl #[]) ∧ PV ≠ PN ∧ a ≠ PV ∧ a ≠ PN ∧ ∀ H', Q (.bl true) H'
theorem lenLaw {K : PySem.W.Frag} {PV PN : Addr} {vs : List V} {H : Hp} {Q : VK} {E : XK} (h : spLaw K PV PN vs H Q E) : vs.length = 1 := by
  obtain ⟨a, ns, rfl, _⟩ := h
  rfl
section
variable {c : Ct} {δ : List Sl} {M : Mem} {K : PySem.W.Frag} {G H G' H' : Hp} {σ : L2.St} {i : Nat} {p PV : Addr} {tr : TA} {q : Str}
/-- behind a call that draws and writes a table -/
theorem At.two (A : At c δ M G H σ) (hm : (p, MO.box) ∈ M) (hP : (PV, MO.tab q) ∈ M) (ev : Ev [p, PV] G H G' H') (hb : ∃ o, H' p = some o ∧ MOk G' .box o) (ht : ∃ o, H' PV = some o ∧ MOk G' (.tab q) o) : At c δ M G' H' σ :=
  A.extM ev (fun b hb => by
    rcases List.mem_cons.mp hb with rfl | hb
    · exact ⟨_, hm, rfl⟩
    · rw [List.mem_singleton.mp hb]
      exact ⟨_, hP, rfl⟩) rfl fun a o ha => by
    by_cases e1 : a = p
    · subst e1
      rw [mem_val A.nd ha hm]
      exact .inr ⟨List.mem_cons_self .., hb⟩
    · by_cases e2 : a = PV
      · subst e2
        rw [mem_val A.nd ha hP]
        exact .inr ⟨List.mem_cons_of_mem _ (List.mem_cons_self ..), ht⟩
      · exact .inl ⟨by simp [e1, e2], ha⟩
theorem At.apart (A : At c δ M G H σ) (hm : (p, MO.box) ∈ M) (hP : (PV, MO.tab q) ∈ M) : p ≠ PV := fun e => by
  subst e
  cases mem_val A.nd hm hP
theorem val_call {E : XK} {Q : VK} {n s : Nat} {as : List Arc} {es : List Nat} {dh : PyData} (A : At c δ M G H σ) (hp : δ[i]? = some (.val (.ref p))) (hm : (p, MO.box) ∈ M) (hP : (PV, MO.tab q) ∈ M) (ga : Ga δ M tr [netD n as, dh, natD s, .list (natsD es), .list (mostsL n s as es)])
    (GG : Good n as s es) (hdh : netOf dh = some (n, as)) (h2 : 2 ≤ n) (hn : n ≤ 20) (hal : as.length ≤ 50) (hel : es.length ≤ 50) (kk : ∀ G' H', At c δ M G' H' σ → Q (.bl true) H') : tCall (spVal PV q) [] E (tCons (tVar i) tr) σ H Q :=
  ⟨_, A.sl i _ hp, ga c G H σ _ A fun G1 H1 vs A1 s1 r1 => by
    cases r1 with
    | cons r1 rr =>
    cases rr with
    | cons r2 rr =>
    cases rr with
    | cons r3 rr =>
    cases rr with
    | cons r4 rr =>
    cases rr with
    | cons r5 rr =>
    cases rr
    obtain ⟨hg1, _, hb1⟩ := A1.mem p _ hm
    obtain ⟨hg2, _, hb2⟩ := A1.mem PV _ hP
    exact ⟨G1, p, _, _, _, _, _, n, s, as, es, dh, rfl, A1.gh, r1, r2, r3, r4, r5, GG, hdh, h2, hn, hal, hel, A1.apart hm hP, hg1, hb1, hg2, hb2, fun G' H' ev hb ht => kk G' H' (A1.two hm hP ev hb ht)⟩⟩
theorem none_call {E : XK} {Q : VK} {n : Nat} {as : List Arc} {de : PyData} (A : At c δ M G H σ) (hp : δ[i]? = some (.val (.ref p))) (hm : (p, MO.box) ∈ M) (hP : (PV, MO.tab q) ∈ M) (ga : Ga δ M tr [netD n as, de])
    (hnet : netOf (netD n as) = some (n, as)) (h2 : 2 ≤ n) (hn : n ≤ 2000) (hal : as.length ≤ 1000) (kk : ∀ G' H', At c δ M G' H' σ → Q (.bl true) H') : tCall (spNone PV q) [] E (tCons (tVar i) tr) σ H Q :=
  ⟨_, A.sl i _ hp, ga c G H σ _ A fun G1 H1 vs A1 s1 r1 => by
    cases r1 with
    | cons r1 rr =>
    cases rr with
    | cons r2 rr =>
    cases rr
    obtain ⟨hg1, _, hb1⟩ := A1.mem p _ hm
    obtain ⟨hg2, _, hb2⟩ := A1.mem PV _ hP
    exact ⟨G1, p, _, _, n, as, de, rfl, A1.gh, r1, r2, h2, hn, hal, hnet, A1.apart hm hP, hg1, hb1, hg2, hb2, fun G' H' ev hb ht => kk G' H' (A1.two hm hP ev hb ht)⟩⟩
end
section
variable {P : Program} {w : World} {K : PySem.W.Frag} {mg : Str → Option Value} {base : Heap} {C fI O : Addr}
abbrev s_law : Stmt := topS 57
abbrev N_law : List Str := ["_law_script", "_law_k", "_law_box_here", "_law_net_here", "_law_handed", "_law_arc", "_law_start_here", "_law_turn", "_law_ends_here", "_law_most_here", "_law_told", "_law_some", "_law_node", "_law_at", "_law_again"]
theorem sc_law : FnScope N_law ["_law_script"] (defScope s_law) := ⟨rfl, rfl, rfl, by decide +kernel, rfl, by decide +kernel, by decide +kernel⟩
theorem h_law {PV PN f : Addr} {fd : FuncData} (B : Bl mg) (F : Fun K "law" "law" s_law f fd) (h__law_many_right : HMany P w K mg base) (h__law_box : HBox P w K mg base) (h__law_net : HNet P w K mg base) (h__law_pick : HPick P w K mg base) (h__law_ends : HEndsQ P w K mg base) (h__law_most : HLawMost P w K mg base)
    (hf_most_to : HasF P w K mg base "most_to" s_most_to (L2.CX P w) 8 ["net", "start", "ends"] (sX3 C isNet1 mostD)) (h_most_to : HMost P w K mg base C) (hf_soonest_to : HasF P w K mg base "soonest_to" s_soonest_to (L2.CX P w) 8 ["net", "start", "ends"] (sX3 C isNet1 soonestD)) (h_soonest_to : HSoon P w K mg base C)
    (h__law_is_to : HIsTo P w K mg base) (h__law_more : HMore P w K mg base) (h_brought : HBrought P w K mg base C)
    (h__law_value_right : HasG P w K mg base "_law_value_right" 11 ["_law_box_here", "_law_net_here", "_law_handed", "_law_start_here", "_law_ends_here", "_law_most_here"] (spVal PV qVal))
    (h__law_none_right : HasG P w K mg base "_law_none_right" 11 ["_law_box_here", "_law_net_here", "_law_ends_here"] (spNone PN qNone)) : FnG P w K mg base CX0 12 f fd ["_law_script"] (spLaw K PV PN) := by
  refine okG F sc_law (fun vs H Q E h => lenLaw h) (fun cdv A outer s_1 H vs Q E hg hr h => ?_)
  have nd := sc_law.nd
  have hu := hu_of hr
  obtain ⟨a, ns, rfl, hs, hn, hPV, hPN, hVN, haV, haN, k⟩ := h
  refine ⟨_, (pss_cons (ps_if (pt_not (pt_val (pe_callH h__law_many_right (hr.mono (by decide)) (pa_cons (pe_callH h__law_box (hr.mono (by decide)) (pa_cons (pv 0) (pa_cons pe_int pa_nil))) pa_nil)))) (pss_one (ps_ret pe_bl)) pss_nil)
    (pss_cons (ps_for PassesOwn.never rfl (pi_range1 (by rfl) B.range (pa_cons pe_int pa_nil)) (pg_name (i := 1) nd rfl (by first | exact Or.inl rfl | exact Or.inr rfl))
      (pss_cons (ps_set (i := 2) nd rfl (by first | exact Or.inl rfl | exact Or.inr rfl) (pe_callH h__law_box (hr.mono (by decide)) (pa_cons (pv 0) (pa_cons (pv 1) pa_nil))))
    (pss_cons (ps_set (i := 3) nd rfl (by first | exact Or.inl rfl | exact Or.inr rfl) (pe_callH h__law_net (hr.mono (by decide)) (pa_cons (pv 2) (pa_cons pe_int (pa_cons pe_int pa_nil)))))
    (pss_cons (ps_set (i := 4) nd rfl (by first | exact Or.inl rfl | exact Or.inr rfl) (pe_lst (pa_cons (pe_ix (kix (K := K)) (pv 3) pe_int (fun _ _ => rfl)) (pa_cons (pe_lc (own := [("_law_arc", 5)]) rfl nd (kseq (K := K) (pe_ix (kix (K := K)) (pv 3) pe_int (fun _ _ => rfl))) (blkOk_by (N := N_law) (sc := defScope s_law) (by decide +kernel)) (fun _ _ _ _ _ => (pg_name (i := 5) nd rfl (by first | exact Or.inl rfl | exact Or.inr rfl))) (fun _ _ _ _ _ => pts_nil) (fun _ _ _ _ _ => (pe_callTy (klst (K := K)) (by rfl) B.list (by decide +kernel) (pa_cons (pv 5) pa_nil)))) pa_nil))))
    (pss_cons (ps_set (i := 6) nd rfl (by first | exact Or.inl rfl | exact Or.inr rfl) (pe_callH h__law_pick (hr.mono (by decide)) (pa_cons (pv 2) (pa_cons (pe_lst (pa_cons pe_int (pa_cons pe_int (pa_cons pe_int (pa_cons pe_int pa_nil))))) pa_nil))))
    (pss_cons (ps_for PassesOwn.never rfl (pi_range1 (by rfl) B.range (pa_cons pe_int pa_nil)) (pg_name (i := 7) nd rfl (by first | exact Or.inl rfl | exact Or.inr rfl))
      (pss_cons (ps_set (i := 8) nd rfl (by first | exact Or.inl rfl | exact Or.inr rfl) (pe_callH h__law_ends (hr.mono (by decide)) (pa_cons (pv 2) (pa_cons (pv 3) (pa_cons (pv 6) pa_nil)))))
    (pss_cons (ps_set (i := 9) nd rfl (by first | exact Or.inl rfl | exact Or.inr rfl) (pe_callH h__law_most (hr.mono (by decide)) (pa_cons (pv 3) (pa_cons (pv 6) (pa_cons (pv 8) pa_nil)))))
    (pss_cons (ps_if (pt_cmpR op_ne (pe_callB (krepr (K := K) (by exact hg) (by exact hr.units)) (by rfl) B.repr (by decide +kernel) (pa_cons (pe_lst (pa_cons (pe_callHL h_most_to (hr.mono (by decide)) (pa_cons (pv 3) (pa_cons (pv 6) (pa_cons (pv 8) pa_nil)))) (pa_cons (pe_callKw (ks := ["ends", "start", "net"]) hf_most_to (hr.mono (by decide)) (pk_cons (pe_callTy (ktup (K := K)) (by rfl) B.tuple (by decide +kernel) (pa_cons (pv 8) pa_nil)) (pk_cons (pv 6) (pk_cons (pv 4) pk_nil))) (fun _ _ _ _ _ _ us hl => match us, hl with | [_, _, _], _ => rfl)) pa_nil))) pa_nil)) (pe_callB (krepr (K := K) (by exact hg) (by exact hr.units)) (by rfl) B.repr (by decide +kernel) (pa_cons (pe_op op_rep (pe_lst (pa_cons (pe_callTy (ktup (K := K)) (by rfl) B.tuple (by decide +kernel) (pa_cons (pv 9) pa_nil)) pa_nil)) pe_int) pa_nil)) (nomark _)) (pss_one (ps_ret pe_bl)) pss_nil)
    (pss_cons (ps_for PassesOwn.never rfl (kseq (K := K) (pe_lst (pa_cons (pe_callHL h_soonest_to (hr.mono (by decide)) (pa_cons (pv 3) (pa_cons (pv 6) (pa_cons (pv 8) pa_nil)))) (pa_cons (pe_callKw (ks := ["ends", "start", "net"]) hf_soonest_to (hr.mono (by decide)) (pk_cons (pe_callTy (ktup (K := K)) (by rfl) B.tuple (by decide +kernel) (pa_cons (pv 8) pa_nil)) (pk_cons (pv 6) (pk_cons (pv 4) pk_nil))) (fun _ _ _ _ _ _ us hl => match us, hl with | [_, _, _], _ => rfl)) pa_nil)))) (pg_name (i := 10) nd rfl (by first | exact Or.inl rfl | exact Or.inr rfl))
      (pss_cons (ps_if (pt_cmpR (kin (K := K)) pe_non (pv 9) (by with_unfolding_all rfl)) (pss_cons (ps_if (pt_cmp (pc_notN (pv 10)) rfl) (pss_one (ps_ret pe_bl)) pss_nil)
    (pss_one ps_continue)) pss_nil)
    (pss_cons (ps_if (PW.pt (pw_or (pt_not (pt_val (pe_callB (kisi (K := K)) (by rfl) B.isi (by decide +kernel) (pa_cons (pv 10) (pa_cons (pe_bltn (v := .ty "tuple") (by rfl) B.tuple (by decide +kernel) rfl) pa_nil))))) (pw_or1 (pt_not (pt_val (pe_callH h__law_is_to (hr.mono (by decide)) (pa_cons (pv 3) (pa_cons (pv 6) (pa_cons (pv 8) (pa_cons (pv 10) pa_nil)))))))))) (pss_one (ps_ret pe_bl)) pss_nil)
    (pss_cons (ps_set (i := 11) nd rfl (by first | exact Or.inl rfl | exact Or.inr rfl) (pe_lc (own := [("_law_node", 12)]) rfl nd (kseq (K := K) (pv 8)) (blkOk_by (N := N_law) (sc := defScope s_law) (by decide +kernel)) (fun _ _ _ _ _ => (pg_name (i := 12) nd rfl (by first | exact Or.inl rfl | exact Or.inr rfl))) (fun _ _ _ _ _ => pts_nil) (fun _ _ _ _ _ => (pe_callH h__law_more (hr.mono (by decide)) (pa_cons (pv 3) (pa_cons (pv 10) (pa_cons (pv 12) pa_nil)))))))
    (pss_cons (ps_if (pt_cmpR (kne hr.units (K := K)) (pe_lc (own := [("_law_at", 13)]) rfl nd (pi_range1 (by rfl) B.range (pa_cons (pe_callB (klen (K := K)) (by rfl) B.len (by decide +kernel) (pa_cons (pv 8) pa_nil)) pa_nil)) (blkOk_by (N := N_law) (sc := defScope s_law) (by decide +kernel)) (fun _ _ _ _ _ => (pg_name (i := 13) nd rfl (by first | exact Or.inl rfl | exact Or.inr rfl))) (fun _ _ _ _ _ => pts_nil) (fun _ _ _ _ _ => (pe_callB (ksum (K := K)) (by rfl) B.sum (by decide +kernel) (pa_cons (pe_slice (ksl (K := K)) (pv 11) po_none (po_some (pe_op op_add (pv 13) pe_int))) pa_nil)))) (pv 9) (nomark _)) (pss_one (ps_ret pe_bl)) pss_nil)
    (pss_one (ps_if (pt_cmpR op_ne (pe_callB (krepr (K := K) (by exact hg) (by exact hr.units)) (by rfl) B.repr (by decide +kernel) (pa_cons (pe_callHL h_brought (hr.mono (by decide)) (pa_cons (pv 3) (pa_cons (pv 6) (pa_cons (pv 8) (pa_cons (pv 10) pa_nil))))) pa_nil)) (pe_callB (krepr (K := K) (by exact hg) (by exact hr.units)) (by rfl) B.repr (by decide +kernel) (pa_cons (pe_callTy (ktup (K := K)) (by rfl) B.tuple (by decide +kernel) (pa_cons (pv 11) pa_nil)) pa_nil)) (nomark _)) (pss_one (ps_ret pe_bl)) pss_nil)))))))
    (pss_one (ps_for PassesOwn.never rfl (pi_range1 (by rfl) B.range (pa_cons pe_int pa_nil)) (pg_name (i := 14) nd rfl (by first | exact Or.inl rfl | exact Or.inr rfl))
      (pss_one (ps_if (pt_not (pt_val (pe_callG h__law_value_right (by exact hg) (hr.mono (by decide)) (pa_cons (pv 2) (pa_cons (pv 3) (pa_cons (pv 4) (pa_cons (pv 6) (pa_cons (pv 8) (pa_cons (pv 9) pa_nil))))))))) (pss_one (ps_ret pe_bl)) pss_nil)))))))))
    (pss_one (ps_if (pt_not (pt_val (pe_callG h__law_none_right (by exact hg) (hr.mono (by decide)) (pa_cons (pv 2) (pa_cons (pv 3) (pa_cons (pv 8) pa_nil)))))) (pss_one (ps_ret pe_bl)) pss_nil))))))))
    (pss_one (ps_ret pe_bl)))), ?_⟩
  have tab0 : ∀ q : Str, MOk (fun _ => none) (.tab q) (.tbl #[]) := fun q => ⟨#[], rfl, True.intro, fun pos cv hc => by
    have hc : codeAmong pos [] = some cv := hc
    simp [codeAmong] at hc⟩
  have A0 := at_startG (N := N_law) (G := fun _ => none) (ss := [.val (.ref a)]) (S := [PV, PN]) (M := [(PV, .tab qVal), (PN, .tab qNone)]) (fun b o h => by cases h) (.val .nil) (Nat.le_of_ble_eq_true rfl) (fun b o h => by
    rcases List.mem_cons.mp h with h | h
    · cases h
      exact ⟨rfl, .inl (List.mem_cons_self ..), _, hPV, tab0 _⟩
    · rw [List.mem_singleton] at h
      cases h
      exact ⟨rfl, .inl (List.mem_cons_of_mem _ (List.mem_cons_self ..)), _, hPN, tab0 _⟩) (List.nodup_cons.mpr ⟨by simpa using hVN, List.nodup_cons.mpr ⟨by simp, List.nodup_nil⟩⟩) (fun b h => by
    rcases List.mem_cons.mp h with h | h
    · rw [h]
      exact ⟨_, hPV⟩
    · rw [List.mem_singleton.mp h]
      exact ⟨_, hPN⟩)
  have haS : a ∉ [PV, PN] := by simp [haV, haN]
  refine box_call A0 rfl hs haS (g_int (i := 4)) hn (by decide) fun p0 G1 H1 h0 A1 s1 => ?_
  obtain ⟨hgp, _, hbp⟩ := A1.mem p0 _ (List.mem_cons_self ..)
  refine ⟨G1, p0, [], [], rfl, A1.gh, .nil, rfl, hgp, hbp, fun G2 H2 v d hd ev hb rv => ?_⟩
  subst hd
  have A2 := A1.extB (List.mem_cons_self ..) ev hb
  refine ⟨true, rv.blV, iteF ?_⟩
  refine s_forq (ds := rangeD 4) (fun j δ' M' => (∃ s1 s2 s3 s4 s5 s6 s7 s8 s9 s10 s11 s12 s13 s14 : Sl, δ' = [.val (.ref a), s1, s2, s3, s4, s5, s6, s7, s8, s9, s10, s11, s12, s13, s14]) ∧ (PV, MO.tab qVal) ∈ M' ∧ (PN, MO.tab qNone) ∈ M') A2 (gi_range (n := 4) (ga_cons g_int ga_nil) (by omega)) ⟨⟨_, _, _, _, _, _, _, _, _, _, _, _, _, _, rfl⟩, List.mem_cons_of_mem _ (List.mem_cons_self ..), List.mem_cons_of_mem _ (List.mem_cons_of_mem _ (List.mem_cons_self ..))⟩ ?_ ?_
  · rintro c' jk dj δ' M' G3 H3 σ3 v3 e1 e2 e3 hd ⟨⟨s1, s2, s3, s4, s5, s6, s7, s8, s9, s10, s11, s12, s13, s14, rfl⟩, hV, hN⟩ A3 rv
    obtain ⟨hj, rfl⟩ := rangeD_get hd
    refine gg_name c' G3 H3 σ3 v3 _ A3 rv fun G4 H4 σ4 A4 _ _ _ => ?_
    refine box_call A4 rfl (by rw [e3]; exact hs) (by rw [e1]; exact haS) (g_var (d := natD jk) rfl) hn (by omega) fun p G5 H5 h05 A5 s5 => ?_
    have A6 := A5.set (i := 2) (s := .val (.ref p)) (v := .ref p) rfl
    have bm : (p, MO.box) ∈ (p, MO.box) :: M' := List.mem_cons_self ..
    have hV := List.mem_cons_of_mem (p, MO.box) hV
    have hN := List.mem_cons_of_mem (p, MO.box) hN
    refine s_setsq (P := netR (natD 6) (natD 10)) A6 (gs_b2 (R := netR) (P := isNetQ) rfl bm (ga_cons g_int (ga_cons g_int ga_nil)) ⟨6, 10, rfl, rfl, by decide, by decide, by decide⟩) fun d1 G7 H7 σ7 hd1 A7 => ?_
    obtain ⟨n, as, rfl, hn2, hn6, hal, hdr⟩ := hd1
    rw [natOf_D] at hn6 hal
    have okA : okArcs n as := ⟨by omega, fun a ha => ⟨(hdr a ha).1, (hdr a ha).2.1⟩⟩
    have okC : ∀ a ∈ as, ∀ c, a.c = some c → 0 ≤ c := fun a ha c hc => ((hdr a ha).2.2 c hc).1
    have hnet : netOf (netD n as) = some (n, as) := netOf_D okA (by omega) okC
    have hhand : netOf (handD n as) = some (n, as) := hand_net okA (by omega) okC
    have sm : ∀ d, netOf d = some (n, as) → netSmall d := fun d hd n' as' h' => by
      rw [hd] at h'
      cases h'
      omega
    refine s_setq (d := handD n as) A7 (g_lst (ga_cons (g_ix (n := 0) (d := natD n) (g_var (d := netD n as) rfl) g_int rfl rfl) (ga_cons (Gv.cast (g_map (ds := as.map arcD) (fun y => .list ((seqOf y).getD [])) (δ' := fun y => [.val (.ref a), .dat (.int (jk : Nat)), .val (.ref p), .dat (netD n as), s4, .dat y, s6, s7, s8, s9, s10, s11, s12, s13, s14]) (gi_seq (g_ix (n := 1) (d := arcsD as) (g_var (d := netD n as) rfl) g_int rfl rfl) rfl) (by rw [List.length_map]; omega) (fun x y _ => gg_name) (fun x y hy => ?_)) ?_) ga_nil)) (by show 2 ≤ 100000; decide)) fun G8 H8 σ8 A8 => ?_
    · obtain ⟨b, _, rfl⟩ := List.mem_map.mp hy
      exact g_lstOf (d := arcD b) (ga_v rfl) rfl
    · rw [List.map_map]
      rfl
    refine s_setsq (P := fun d => ∃ s : Nat, d = natD s ∧ s < n) A8 ((gs_b1 (R := pickR) (P := isPick) rfl bm (ga_cons (g_lst (ds := [natD 0, natD 0, natD 0, natD 1]) (ga_cons g_int (ga_cons g_int (ga_cons g_int (ga_cons g_int ga_nil)))) (by show 4 ≤ 100000; decide)) ga_nil) ⟨_, rfl, by show 1 ≤ 4; decide, by show 4 ≤ 1000; decide⟩).imp ?_) fun d2 G9 H9 σ9 hd2 A9 => ?_
    · rintro d ⟨xs, hx, hm⟩
      cases hx
      rcases List.mem_cons.mp hm with rfl | hm
      · exact ⟨0, rfl, by omega⟩
      rcases List.mem_cons.mp hm with rfl | hm
      · exact ⟨0, rfl, by omega⟩
      rcases List.mem_cons.mp hm with rfl | hm
      · exact ⟨0, rfl, by omega⟩
      rcases List.mem_cons.mp hm with rfl | hm
      · exact ⟨1, rfl, by omega⟩
      · cases hm
    obtain ⟨s, rfl, hsn⟩ := hd2
    refine s_forq (ds := rangeD 2) (fun j δ' M'' => (∃ s5 s7 s8 s9 s10 s11 s12 s13 s14 : Sl, δ' = [.val (.ref a), .dat (.int (jk : Nat)), .val (.ref p), .dat (netD n as), .dat (handD n as), s5, .dat (natD s), s7, s8, s9, s10, s11, s12, s13, s14] ∧ (1 ≤ j → ∃ de, s8 = .dat de)) ∧ M'' = (p, MO.box) :: M') A9 (gi_range (n := 2) (ga_cons g_int ga_nil) (by omega)) ⟨⟨_, _, _, _, _, _, _, _, _, rfl, fun z => absurd z (by omega)⟩, rfl⟩ ?_ ?_
    · rintro c2 jt dt δ' M'' G10 H10 σ10 v10 f1 f2 f3 hd ⟨⟨s5, s7, s8, s9, s10, s11, s12, s13, s14, rfl, _⟩, rfl⟩ A10 rv10
      obtain ⟨hjt, rfl⟩ := rangeD_get hd
      refine gg_name c2 G10 H10 σ10 v10 _ A10 rv10 fun G11 H11 σ11 A11 _ _ _ => ?_
      refine s_setsq (P := endsR (netD n as) (natD s)) A11 (gs_b2 (R := endsR) (P := isEndsQ) rfl bm (ga_v2 rfl rfl) ⟨n, as, s, rfl, rfl, by omega⟩) fun d3 G12 H12 σ12 hd3 A12 => ?_
      obtain ⟨es, rfl, nde, hen⟩ := hd3
      rw [nodesOfNet_D, natOf_D] at hen
      have GG : Good n as s es := good_drawn hdr (by omega) hsn hen nde
      have hel : es.length ≤ n := nodup_lt n es nde fun u hu => (hen u hu).1
      have el1 : (natsD es).length = es.length := natsD_len es
      refine s_setq (d := .list (mostsL n s as es)) A12 (Gv.cast (g_c3 (ga_v3 rfl rfl rfl) ⟨n, as, s, es, rfl, rfl, rfl, hn6⟩) (by
        unfold lawMostD mostsL
        rw [natsOf_list, nodesOfNet_D, arcsOfNet_D, natOf_D])) fun G13 H13 σ13 A13 => ?_
      refine s_sameq (d := .list [.tuple (mostsL n s as es), .tuple (mostsL n s as es)]) A13 (g_lst (ga_cons (g_cL3 (ga_v3 rfl rfl rfl) (sm _ hnet) (mostD_is hnet rfl GG)) (ga_cons (g_kw (ga_cons (g_tupOf (ga_v (a := .list (natsD es)) rfl) rfl) (ga_cons (g_var rfl) (ga_cons (g_var rfl) ga_nil))) ⟨_, _, _, rfl, sm _ hhand⟩ (mostD_is hhand rfl GG)) ga_nil)) (by show 2 ≤ 100000; decide)) (Gf.v (gf_rep (n := 2) (ds := [.tuple (mostsL n s as es)]) (g_lst (ga_cons (g_tupOf (ga_v (a := .list (mostsL n s as es)) rfl) rfl) ga_nil) (by show 1 ≤ 100000; decide)) g_int (by show 1 * 2 ≤ 100000; decide) (by decide))) (mosts_two hdr (by omega) (by omega)) fun G14 H14 A14 => ?_
      obtain ⟨o, ho⟩ : ∃ o, flowK n as s es es.length = o := ⟨_, rfl⟩
      have hsn2 := soon_none GG
      rw [ho] at hsn2
      have cs : mostsL n s as es = ((List.range es.length).map fun k => leastK n as s es k).map capD := by unfold mostsL; rw [List.map_map]; rfl
      have sn1 := soonD_is (d := netD n as) (e := .list (natsD es)) hnet rfl GG
      have sn2 := soonD_is (d := handD n as) (e := .tuple (natsD es)) hhand rfl GG
      rw [ho] at sn1 sn2
      refine s_forq (ds := [flowD o, flowD o]) (fun j δ' M'' => ∃ s10 s11 s12 s13 : Sl, δ' = [.val (.ref a), .dat (.int (jk : Nat)), .val (.ref p), .dat (netD n as), .dat (handD n as), s5, .dat (natD s), .dat (.int (jt : Nat)), .dat (.list (natsD es)), .dat (.list (mostsL n s as es)), s10, s11, s12, s13, s14] ∧ M'' = (p, MO.box) :: M') A14 (gi_seq (g_lst (ga_cons (g_cL3 (ga_v3 rfl rfl rfl) (sm _ hnet) sn1) (ga_cons (g_kw (ga_cons (g_tupOf (ga_v (a := .list (natsD es)) rfl) rfl) (ga_cons (g_var rfl) (ga_cons (g_var rfl) ga_nil))) ⟨_, _, _, rfl, sm _ hhand⟩ sn2) ga_nil)) (by show 2 ≤ 100000; decide)) rfl) ⟨_, _, _, _, rfl, rfl⟩ ?_ ?_
      · rintro c3 jo dd δ' M'' G15 H15 σ15 v15 g1 g2 g3 hd ⟨s10, s11, s12, s13, rfl, rfl⟩ A15 rv15
        have hdd : dd = flowD o := by
          rcases List.mem_cons.mp (List.mem_of_getElem? hd) with h | h
          · exact h
          · exact List.mem_singleton.mp h
        subst hdd
        refine gg_name c3 G15 H15 σ15 v15 _ A15 rv15 fun G16 H16 σ16 A16 _ _ _ => ?_
        have inN : ∀ M, Gt [.val (.ref a), .dat (.int (jk : Nat)), .val (.ref p), .dat (netD n as), .dat (handD n as), s5, .dat (natD s), .dat (.int (jt : Nat)), .dat (.list (natsD es)), .dat (.list (mostsL n s as es)), .dat (flowD o), s11, s12, s13, s14] M (tTest (tOp (rIn K false) (tC .non) (tVar 9))) o.isNone := fun M => Gt.cast (gt_test (g_noneIn (cs := (List.range es.length).map fun k => leastK n as s es k) g_non (g_var rfl) (by rw [← cs]; rfl))) hsn2.symm
        cases ho2 : o with
        | none =>
          rw [ho2] at inN A16
          exact s_ifq A16 (inN _) (fun _ G17 H17 A17 => s_ifq (b := false) A17 (Gt.cast (gt_b (g_notN (g_var (d := flowD none) rfl))) rfl) (fun z => nomatch z) fun _ G18 H18 A18 => ⟨_, _, G18, ⟨_, _, _, _, rfl, rfl⟩, A18⟩) fun z => nomatch z
        | some l =>
          rw [ho2] at inN A16 ho
          obtain ⟨h1, h2, h3, h4⟩ := soon_some GG ho
          refine s_ifq A16 (inN _) (fun z => nomatch z) fun _ G17 H17 A17 => ?_
          refine s_ifq (b := false) A17 (Gt.cast (gt_or (a := false) (b := false) (Gt.cast (gt_not (gt_b (g_isi (g_var (d := loadD l) rfl) (kit_T _)))) rfl) fun _ => Gt.cast (gt_not (gt_b (g_c4 (ga_v4 rfl rfl rfl (d := loadD l) rfl) ⟨n, as, s, es, rfl, rfl, rfl, by omega, ?_⟩))) ?_) rfl) (fun z => nomatch z) fun _ G18 H18 A18 => ?_
          · intro xs hx x hm
            cases hx
            obtain ⟨i, _, rfl⟩ := List.mem_map.mp hm
            rfl
          · show (!isToL (nodesOfNet (netD n as)) (arcsOfNet (netD n as)) (natOf (natD s)) (natsOf (.list (natsD es))) (loadD l)) = false
            rw [nodesOfNet_D, arcsOfNet_D, natOf_D, natsOf_list, h2]
            rfl
          have F := (isToL_flo GG h2)
          obtain ⟨l', hl', _, F⟩ := F
          rw [h1] at hl'
          cases hl'
          have esl : (natsD es).length ≤ 100000 := by rw [natsD_len]; omega
          refine s_setq (d := .list (intsD (es.map (moreL as l)))) A18 (Gv.cast (g_map (ds := natsD es) (fun y => moreD (netD n as) (loadD l) y) (δ' := fun y => [.val (.ref a), .dat (.int (jk : Nat)), .val (.ref p), .dat (netD n as), .dat (handD n as), s5, .dat (natD s), .dat (.int (jt : Nat)), .dat (.list (natsD es)), .dat (.list (mostsL n s as es)), .dat (loadD l), s11, .dat y, s13, s14]) (gi_seq (g_var rfl) rfl) esl (fun x y _ => gg_name) (fun x y hy => ?_)) ?_) fun G19 H19 σ19 A19 => ?_
          · obtain ⟨u, _, rfl⟩ := natsD_mem hy
            exact g_c3 (ga_v3 rfl (b := loadD l) rfl rfl) ⟨n, as, l, u, rfl, rfl, h3, rfl⟩
          · unfold natsD intsD
            rw [List.map_map, List.map_map]
            congr 1
            exact List.map_congr_left fun u _ => moreD_eq rfl
          have msI : mostsL n s as es = (List.range es.length).map fun k => PyData.int (((es.map (moreL as l)).take (k + 1)).sum) := by
            unfold mostsL
            refine List.map_congr_left fun k hk => ?_
            rw [h4 k (List.mem_range.mp hk)]
            rfl
          refine s_ifq (b := false) A19 (Gt.cast (gt_test (g_neD (da := .list (mostsL n s as es)) (db := .list (mostsL n s as es)) (Gv.cast (g_map (ds := rangeD es.length) (fun y => .int (((es.map (moreL as l)).take (natOf y + 1)).sum)) (δ' := fun y => [.val (.ref a), .dat (.int (jk : Nat)), .val (.ref p), .dat (netD n as), .dat (handD n as), s5, .dat (natD s), .dat (.int (jt : Nat)), .dat (.list (natsD es)), .dat (.list (mostsL n s as es)), .dat (loadD l), .dat (.list (intsD (es.map (moreL as l)))), s12, .dat y, s14]) (gi_range (n := es.length) (ga_cons (Gv.cast (g_len (ga_v (a := .list (natsD es)) rfl) rfl) (by rw [el1])) ga_nil) (by omega)) (by rw [rangeD_len]; omega) (fun x y _ => gg_name) (fun x y hy => ?_)) ?_) (g_var rfl) (shaped_flat mosts_flat) (shaped_flat mosts_flat))) ?_) (fun z => nomatch z) fun _ G20 H20 A20 => ?_
          · obtain ⟨i, _, rfl⟩ := List.mem_map.mp hy
            rw [show natOf (PyData.int (i : Nat)) = i from natOf_D i]
            exact g_sum (ns := (es.map (moreL as l)).take (i + 1)) (ga_cons (Gv.cast (Gf.v (gf_slTo (n := i + 1) (ds := intsD (es.map (moreL as l))) (g_var rfl) (Gv.cast (g_op0 (g_var (d := .int (i : Nat)) rfl) g_int) (natD_succ i)))) (by unfold intsD; rw [List.map_take])) ga_nil)
          · rw [msI]
            unfold rangeD
            rw [List.map_map]
            congr 1
          · rw [eqv_flat mosts_flat]
            rfl
          have big : ∀ x ∈ es.map (moreL as l), -(10 ^ 20) ≤ x ∧ x ≤ 10 ^ 20 := fun x hx => by
            have nn : ∀ y ∈ es.map (moreL as l), 0 ≤ y := fun y hy => by
              obtain ⟨u, hu, rfl⟩ := List.mem_map.mp hy
              rw [more_ex F.ok.1]
              exact F.nn u hu
            have := each_bd (B := 100000000 * (as.length : Nat)) nn (fun k hk => (least_bd hdr (h4 k (by rw [List.length_map] at hk; exact hk))).2) x hx
            have := nn x hx
            omega
          exact s_if (b := false) A20 (gt_same (d := .tuple (intsD (es.map (moreL as l)))) (g_cL4 (ga_v4 rfl rfl rfl (d := loadD l) rfl) (sm _ hnet) (brought_is hnet rfl GG rfl h3 h2)) (g_tupOf (ga_v (a := .list (intsD (es.map (moreL as l)))) rfl) rfl) (sh_ints big (by rw [List.length_map]; omega))) (fun z => nomatch z) fun _ G21 H21 A21 => ⟨_, _, G21, ⟨_, _, _, _, rfl, rfl⟩, A21⟩
      · rintro δ' M'' G15 H15 σ15 ⟨s10, s11, s12, s13, rfl, rfl⟩ A15
        refine s_for (ds := rangeD 3) (fun j δ' M'' => (∃ s14 : Sl, δ' = [.val (.ref a), .dat (.int (jk : Nat)), .val (.ref p), .dat (netD n as), .dat (handD n as), s5, .dat (natD s), .dat (.int (jt : Nat)), .dat (.list (natsD es)), .dat (.list (mostsL n s as es)), s10, s11, s12, s13, s14]) ∧ M'' = (p, MO.box) :: M') A15 (gi_range (n := 3) (ga_cons g_int ga_nil) (by omega)) ⟨⟨_, rfl⟩, rfl⟩ ?_ ?_
        · rintro c3 jv dv δ' M'' G16 H16 σ16 v16 g1 g2 g3 hd ⟨⟨s14, rfl⟩, rfl⟩ A16 rv16
          refine gg_name c3 G16 H16 σ16 v16 _ A16 rv16 fun G17 H17 σ17 A17 _ _ _ => ?_
          refine val_call A17 rfl bm hV (ga_cons (g_var rfl) (ga_cons (g_var rfl) (ga_cons (g_var rfl) (ga_cons (g_var rfl) (ga_cons (g_var rfl) ga_nil))))) GG hhand hn2 (by omega) (by omega) (by omega) fun G18 H18 A18 => ?_
          exact ⟨true, rfl, iteF ⟨_, _, G18, ⟨⟨_, rfl⟩, rfl⟩, A18⟩⟩
        · rintro δ' M'' G16 H16 σ16 ⟨⟨s14, rfl⟩, rfl⟩ A16
          exact ⟨_, _, G16, ⟨⟨_, _, _, _, _, _, _, _, _, rfl, fun _ => ⟨_, rfl⟩⟩, rfl⟩, A16⟩
    · rintro δ' M'' G10 H10 σ10 ⟨⟨s5, s7, s8, s9, s10, s11, s12, s13, s14, rfl, hs8⟩, rfl⟩ A10
      obtain ⟨de, rfl⟩ := hs8 (by rw [rangeD_len]; decide)
      refine none_call A10 rfl bm hN (ga_v2 rfl rfl) hnet hn2 (by omega) (by omega) fun G11 H11 A11 => ?_
      exact ⟨true, rfl, iteF ⟨_, _, G11, ⟨⟨_, _, _, _, _, _, _, _, _, _, _, _, _, _, rfl⟩, hV, hN⟩, A11⟩⟩
  · rintro δ' M' G3 H3 σ3 ⟨⟨s1, s2, s3, s4, s5, s6, s7, s8, s9, s10, s11, s12, s13, s14, rfl⟩, hV, hN⟩ A3
    exact s_ret A3 g_bl fun G4 H4 v4 A4 r4 => by
      rw [r4.blV]
      exact k H4
end
end Od
set_option Elab.async false
set_option linter.all false
set_option autoImplicit false
set_option maxRecDepth 100000
set_option maxHeartbeats 4000000
/-! E0: the end of a law whose promise holds where no repr is under way. -/
namespace Od
open PySem PySem.Spec L2 PyProof.Rows
/-- what is seen of a code object and its empty table -/
structure TabE (K : PySem.W.Frag) (h : Heap) (q : Addr × Addr) : Prop where
  mt : h.get? q.2 = some { cls := .none, data := .fields #[] }
  no : K.lookup q.2 = none
  hd : PySem.W.CodeHd h q.1 q.2
/-- the abstract heap at the law's call: the tables, the script where the written part does not hold it -/
def startH (K : PySem.W.Frag) (ts : List Addr) (a : Addr) (u : HO) : Hp := fun b => if b ∈ ts then some (.tbl #[]) else if b = a ∧ (K.lookup a).isNone = true then some u else none
section
variable {K : PySem.W.Frag} {ts : List Addr} {a b : Addr} {u : HO}
theorem startH_tab (h : b ∈ ts) : startH K ts a u b = some (.tbl #[]) := if_pos h
theorem startH_scr (h : a ∉ ts) (hk : K.lookup a = none) : startH K ts a u a = some u := (if_neg h).trans (if_pos ⟨rfl, by rw [hk]; rfl⟩)
theorem startH_cases : (b ∈ ts ∧ startH K ts a u b = some (.tbl #[])) ∨ (b ∉ ts ∧ b = a ∧ K.lookup a = none ∧ startH K ts a u b = some u) ∨ (b ∉ ts ∧ startH K ts a u b = none) := by
  unfold startH
  by_cases h1 : b ∈ ts
  · exact .inl ⟨h1, if_pos h1⟩
  · by_cases h2 : b = a ∧ (K.lookup a).isNone = true
    · exact .inr (.inl ⟨h1, h2.1, Option.isNone_iff_eq_none.mp h2.2, (if_neg h1).trans (if_pos h2)⟩)
    · exact .inr (.inr ⟨h1, (if_neg h1).trans (if_neg h2)⟩)
end
theorem end_call {P : Program} {w : World} {K : PySem.W.Frag} {mg mb : Str → Option Value} {k : Nat} {fa a : Addr} {cs : List (Addr × Addr)} {fd : FuncData} {x : Str} {sp : Sp} {s : Shared} {vs : List Value} {ns : List Int}
    (KX : K.In s.heap) (hns : s.heap.Ns mainGlobals mg) (hb : s.heap.Ns builtinsNs mb) (hbb : ∀ y : Str, y ≠ "__name__" → mb y = bootBuiltins y) (hlim : s.heap.NoLimit) (hg : s.gens = #[]) (T : ∀ q ∈ cs, TabE K s.heap q)
    (hbm : ∃ (bm : Addr) (ob : Obj), mg "__builtins__" = some (.ref bm) ∧ bm ≠ builtinsNs ∧ s.heap.get? bm = some ob ∧ ob.cls = .type "module" ∧ ob.dict = some builtinsNs ∧ ob.data = .plain)
    (scr : s.heap.get? a = some { cls := .type "list", data := .seq vs.toArray }) (hi : IntsAre vs ns) (hl : ns.length ≤ sizeLine) (hr : Room k callerA)
    (F : ∀ base : Heap, K.In base → base.Ns mainGlobals mg → (∀ q ∈ cs, LamX.TabB base mg q.1 q.2) → FnG P w K mg base CX0 k fa fd [x] sp) (hbind : ∀ (s : Shared) (u : Value), BindsTo s fd ⟨[u], []⟩ [(x, u)])
    (hsp : ∀ H : Hp, (∀ q ∈ cs, H q.2 = some (.tbl #[]) ∧ a ≠ q.2) → SqL K H a (ns.map V.int) → sp [.ref a] H (fun v _ => v = .bl true) fun _ _ _ => False) :
    codeAny (model P w) callerA (.call (.ref fa) ⟨[.ref a], []⟩) (fun r s' => r = .ok (.ret (.bool true)) ∧ OldK s.heap s'.heap ∧ s'.os = s.os ∧ AllBare s'.gens) s := by
  have vals := vals_ints hi
  have len := hi.length
  generalize hts : cs.map (·.2) = ts
  have inT : ∀ {b : Addr}, b ∈ ts → ∃ q ∈ cs, q.2 = b := fun {b} h => by
    rw [← hts] at h
    exact List.mem_map.mp h
  have ofT : ∀ q ∈ cs, q.2 ∈ ts := fun q hq => by
    rw [← hts]
    exact List.mem_map.mpr ⟨q, hq, rfl⟩
  have tabAt : ∀ {b : Addr}, b ∈ ts → s.heap.get? b = some { cls := .none, data := .fields #[] } := fun h => by
    obtain ⟨q, hq, e⟩ := inT h
    rw [← e]
    exact (T q hq).mt
  have aT : a ∉ ts := fun z => by
    have e := tabAt z
    rw [scr] at e
    cases congrArg Obj.data (Option.some.inj e)
  generalize hu : HO.frz { cls := .type "list", data := .seq vs.toArray } (.lst (ns.map V.int)) = u
  have cas := fun b => startH_cases (K := K) (ts := ts) (a := a) (b := b) (u := u)
  generalize hH : startH K ts a u = H at cas
  have hTab : ∀ {b : Addr}, b ∈ ts → H b = some (.tbl #[]) := fun h => by
    rw [← hH]
    exact startH_tab h
  -- what is no table and no list is untracked
  have clear : ∀ {b : Addr} {o : Obj}, s.heap.get? b = some o → (∀ its n, o.data ≠ .seq its n) → o.data ≠ .fields #[] → H b = none := fun {b o} e h1 h2 => by
    rcases cas b with ⟨h, _⟩ | ⟨_, rfl, _⟩ | ⟨_, h⟩
    · rw [tabAt h] at e
      cases e
      exact absurd rfl h2
    · rw [scr] at e
      cases e
      exact absurd rfl (h1 _ _)
    · exact h
  have clearD : ∀ {b : Addr} {o : Obj} {es : Array DictEntry} {n : Nat}, s.heap.get? b = some o → o.data = .dict es n → H b = none := fun e d => clear e (fun its m z => by rw [d] at z; cases z) fun z => by rw [d] at z; cases z
  have hid : ∀ {b : Addr} {o : Obj}, s.heap.get? b = some o → H b = none → (hidT s.heap H).get? b = some o := fun e n => hidT_get e n
  have hidN : ∀ {b : Addr} {m : Str → Option Value}, s.heap.Ns b m → (hidT s.heap H).Ns b m := fun z => by
    obtain ⟨o, es, n, e, d, r⟩ := z
    exact ⟨o, es, n, hid e (clearD e d), d, r⟩
  have kB : K.In (hidT s.heap H) := fun b o e => hid (KX b o e) (by
    rcases cas b with ⟨h, _⟩ | ⟨_, rfl, hk, _⟩ | ⟨_, h⟩
    · obtain ⟨q, hq, eq⟩ := inT h
      rw [← eq, (T q hq).no] at e
      cases e
    · rw [hk] at e
      cases e
    · exact h)
  have ok : HOk P w H s.heap := fun b v e => by
    rcases cas b with ⟨h, h2⟩ | ⟨_, rfl, _, h2⟩ | ⟨_, h2⟩
    · rw [h2] at e
      cases e
      exact tabAt h
    · rw [h2] at e
      cases e
      rw [← hu]
      exact ⟨scr, by rw [List.length_map]; exact hl, vs, _, vals, scr⟩
    · rw [h2] at e
      cases e
  have md : L2.Mod K mg (hidT s.heap H) := ⟨kB, hidN hns, ⟨mb, hidN hb, hbb⟩, by
    obtain ⟨mc, z1, z2⟩ := hlim
    exact ⟨mc, hidN z1, z2⟩⟩
  have tabB : ∀ q ∈ cs, LamX.TabB (hidT s.heap H) mg q.1 q.2 := fun q hq => by
    have t := T q hq
    refine ⟨?_, ?_, fun z => ?_⟩
    · obtain ⟨o, us, file, tf, flags, tg, inF, text, tt, c1, c2, c3, c4, c5⟩ := t.hd
      refine ⟨o, us, file, tf, flags, tg, inF, text, tt, hid c1 (clear c1 (fun its n z => by rw [c3] at z; cases z) fun z => ?_), c2, c3, c4, c5⟩
      rw [c3] at z
      cases z
      simp at c4
    · obtain ⟨bm, ob, b1, b2, b3, b4, b5, b6⟩ := hbm
      refine ⟨bm, ob, b1, b2, fun z => ?_, fun z => ?_, hid b3 (clear b3 (fun its n z => by rw [b6] at z; cases z) fun z => by rw [b6] at z; cases z), b4, b5, b6⟩
      · obtain ⟨o, es, n, e, d, _⟩ := hns
        rw [z, e] at b3
        cases b3
        rw [d] at b6
        cases b6
      · rw [z, t.mt] at b3
        cases b3
        cases b6
    · obtain ⟨o, es, n, e, d, _⟩ := hns
      rw [z, t.mt] at e
      cases e
      cases d
  have e0 : Env0 P w K mg (hidT s.heap H) callerA [] s H := ⟨rfl, md, fun b o e => of_hidT e, Nat.le_of_eq (hidT_size _ _), trivial, fun b hb => absurd (show b ∈ ([] : List Addr) from hb) (by simp), ok, .of_eq hg⟩
  have sq : SqL K H a (ns.map V.int) := by
    cases hk : K.lookup a with
    | none => exact .inl (.inr ⟨{ cls := .type "list", data := .seq vs.toArray }, by rw [← hH, startH_scr aT hk, hu]⟩)
    | some o =>
      have e := KX a o hk
      rw [scr] at e
      cases e
      exact .inr ⟨_, vs.toArray, _, hk, rfl, rfl, rfl, by rw [List.size_toArray, len]; exact hl, by simpa using vals⟩
  refine codeAny_mono ((F _ kB (hidN hns) tabB).run callerA [] s H ⟨[.ref a], []⟩ [.ref a] [.ref a] _ _ rfl hr e0 (hbind s (.ref a)) (.cons rfl .nil) (hsp H (fun q hq => ⟨hTab (ofT q hq), fun z => aT (by rw [z]; exact ofT q hq)⟩) sq)) fun r s' hR => ?_
  rcases r with e | fl
  · exact absurd hR (fun z => z)
  · cases fl with
    | ret v =>
      obtain ⟨v', H', os, bare, un, ok', rel, q⟩ := hR
      have q : v' = .bl true := q
      subst q
      obtain rfl : v = Value.bool true := rel
      have same : ∀ {b : Addr} {o : Obj}, b ∉ ts → s.heap.get? b = some o → s'.heap.get? b = some o := fun {b o} nb e => by
        rcases cas b with ⟨h, _⟩ | ⟨_, rfl, _, h2⟩ | ⟨_, h2⟩
        · exact absurd h nb
        · rw [← hu] at h2
          obtain ⟨z1, _⟩ := ok' _ _ (un.frzs _ _ _ h2)
          rw [scr] at e
          cases e
          exact z1
        · exact un.keep b o e h2 (fun z => absurd (show b ∈ ([] : List Addr) from z) (by simp)) (by simp)
      have grow : ∀ {b : Addr}, b ∈ ts → ∃ more : Array Value, s'.heap.get? b = some { cls := .none, data := .fields more } := fun {b} h => by
        obtain ⟨more, z⟩ := un.tbls b #[] (hTab h)
        exact ⟨_, ok' b _ z⟩
      refine ⟨rfl, ⟨fun b o e => ?_, fun b o e => ?_⟩, os, bare⟩
      · by_cases h : b ∈ ts
        · obtain ⟨q, hq, eq⟩ := inT h
          obtain ⟨more, z⟩ := grow h
          have t := T q hq
          rw [tabAt h] at e
          cases e
          rw [← eq] at z ⊢
          exact .inr (.inl ⟨(t.hd.tab t.mt).isCodeTable, rfl, #[], more, rfl, by rw [Array.empty_append]; exact z⟩)
        · exact .inl (same h e)
      · by_cases h : b ∈ ts
        · obtain ⟨more, z⟩ := grow h
          exact ⟨_, z⟩
        · exact ⟨o, same h e⟩
    | _ => exact absurd hR (fun z => z)
end Od
set_option Elab.async false
set_option linter.all false
set_option autoImplicit false
set_option maxRecDepth 100000
set_option maxHeartbeats 0
/-! E1: what stands behind the top: the defs, the class Refused, the tables. -/
namespace Od
open PySem PySem.Spec L2 PySem.W PySem.Calls PyProof.Rows PySem.HandSPX
/-- what two roots reach in n steps -/
def asE (g : Addr → Option Obj) : Nat → List Addr
  | 0 => [mainGlobals, cStatics]
  | n + 1 => He.growD g (asE g n)
def frE (n : Nat) (g : Addr → Option Obj) : Frag := He.frT g (asE g n)
/-! ### the class Refused -/
def aC (K : Frag) : Addr := He.ga K "Refused"
def aO (K : Frag) : Addr := He.ga K "OutError"
def aI (K : Frag) : Addr := He.ma K (aC K) "__init__"
def clsB (K : Frag) (C : Addr) : Bool := match K.lookup C with
  | some ⟨.type t, _, .cls cd, sl⟩ => decide (t = "type") && (match cd.mro, sl.toList with
    | .ref C2 :: bm, [_, _, _, _, some (.builtin n), _] => decide (C2 = C) && (decide (n = "ValueError.__new__") && (!cd.hasDel && (cd.hasDict && refsVE bm)))
    | _, _ => false)
  | _ => false
abbrev IniW : Type := Option (Str × Str × Arguments × FuncBody × Scope × Addr × List Str × Addr)
def iniW (K : Frag) : IniW := match K.lookup (aI K) with
  | some ⟨_, _, .func fd, _⟩ => some (fd.name, fd.qualname, fd.params, fd.body, fd.scope, fd.globals, fd.closure.map (·.1), fd.builtins)
  | _ => none
def iniV : IniW := some ("__init__", "Refused.__init__", defArgs sIni, .stmts (defBody sIni), defScope sIni, mainGlobals, ["__class__"], builtinsNs)
def iniB (P : Program) (K : Frag) : Bool := match K.lookup (aI K) with
  | some ⟨_, _, .func fd, _⟩ => (match fd.defaults, fd.code, fd.closure with
    | .none, .ref c, [(_, cc)] => codeIn K (.ref c) "Refused.__init__" && ((match K.lookup c with
      | some ⟨_, _, .fields vs, _⟩ => (match (vs[2]? : Option Value) with
        | some (Value.str file _) => (P.main.file : Str) == file
        | _ => false)
      | _ => false) && (match K.lookup cc with
      | some ⟨_, _, .cell (some (.ref C)), _⟩ => decide (C = aC K)
      | _ => false))
    | _, _, _ => false)
  | _ => false
def refB (P : Program) (K : Frag) : Bool :=
  clsB K (aC K) && (decide (findIn K (.ref (aC K)) "__setattr__" = some (some (.builtin "object.__setattr__"))) && (decide (findIn K (.ref (aC K)) "__getattribute__" = some (some (.builtin "BaseException.__getattribute__"))) && (decide (findIn K (.ref (aC K)) "__getattr__" = some none) && (decide (findIn K (.ref (aC K)) "at" = some none) &&
  (decide (findIn K (.ref (aC K)) "__init__" = some (some (.ref (aI K)))) && (decide (typeIn K (.ref (aI K)) = some (.type "function")) && (keepIn K (.ref (aC K)) && (decide (subIn K (.ref (aC K)) (.type "BaseException") = some true) && (decide (subIn K (.ref (aC K)) (.type "ValueError") = some true) &&
  (decide (typeIn K (.ref (aC K)) = some (.type "type")) && (hasDictIn K (aC K) && (decide (exmOne K (.ref (aC K)) (.ref (aC K)) = some true) && (decide (subIn K (.ref (aC K)) (.ref (aO K)) = some true) && (decide (mroIn K (aC K) (.ref (aC K)) = some true) && (decide (nsIn K cStatics "thirdparty.any" = some none) &&
  (decide (ks_superIn K (aC K) (aC K) "__init__" = some (some (.builtin "ValueError.__init__"))) && (!(P.main.scope.names.lookup ("super" : Str)).isSome && (iniB P K && (decide (findIn K (.ref (aC K)) "__class__" = some (some (.builtin "object.__class__"))) && (decide (specialIn K (.builtin "object.__class__") "__get__" = some (some (.builtin "getset_descriptor.__get__"))) &&
  (decide (takesIn K (.builtin "object.__class__") = some true) && (decide (mroIn K (aC K) (.type "object") = some true) && decide (kitOne K (.ref (aC K)) (.ref (aO K)) = some true)))))))))))))))))))))))
theorem cls_of {K : Frag} {C : Addr} (h : clsB K C = true) : ∃ nm q N bs bm sn sub ab col dd k0 k1 k2 k3 k5, K.lookup C = some (excClassObj nm q C N bs bm true sn sub ab col dd k0 k1 k2 k3 k5 "ValueError.__new__") ∧ refsVE bm = true := by
  unfold clsB at h
  split at h
  · rename_i t dd cd sl ho
    obtain ⟨h1, h2⟩ := He.ba h
    have h1 := of_decide_eq_true h1
    subst h1
    split at h2
    · rename_i C2 bm k0 k1 k2 k3 n k5 hm hs
      obtain ⟨h3, h4⟩ := He.ba h2
      obtain ⟨h5, h6⟩ := He.ba h4
      obtain ⟨h7, h8⟩ := He.ba h6
      obtain ⟨h9, h10⟩ := He.ba h8
      have h3 := of_decide_eq_true h3
      have h5 := of_decide_eq_true h5
      have k7 : cd.hasDel = false := (Bool.not_eq_true' _).mp h7
      have k9 : cd.hasDict = true := h9
      clear h h2 h4 h6 h8 h7 h9
      subst h3 h5
      obtain ⟨nm, bs, mro, ns, qn, hd, sn, sub, ab, col, del⟩ := cd
      dsimp only at hm k7 k9
      subst hm k7 k9
      obtain ⟨l⟩ := sl
      have hs : l = _ := hs
      subst hs
      exact ⟨nm, qn, ns, bs, bm, sn, sub, ab, col, dd, k0, k1, k2, k3, k5, ho, h10⟩
    · cases h2
  · cases h
theorem ref_of {P : Program} {K : Frag} {mg : Str → Option Value} (gC : mg "Refused" = some (.ref (aC K))) (gO : mg "OutError" = some (.ref (aO K))) (gS : mg "super" = none) (h : refB P K = true) (hi : iniW K = iniV) : RefT P K mg (aC K) (aI K) (aO K) ∧ L2.ExcC K (aC K) ∧ exmOne K (.ref (aC K)) (.ref (aC K)) = some true ∧ kitOne K (.ref (aC K)) (.ref (aO K)) = some true := by
  obtain ⟨a1, h⟩ := He.ba h
  obtain ⟨a2, h⟩ := He.ba h
  obtain ⟨a3, h⟩ := He.ba h
  obtain ⟨a4, h⟩ := He.ba h
  obtain ⟨a5, h⟩ := He.ba h
  obtain ⟨a6, h⟩ := He.ba h
  obtain ⟨a7, h⟩ := He.ba h
  obtain ⟨a8, h⟩ := He.ba h
  obtain ⟨a9, h⟩ := He.ba h
  obtain ⟨b0, h⟩ := He.ba h
  obtain ⟨b1, h⟩ := He.ba h
  obtain ⟨b2, h⟩ := He.ba h
  obtain ⟨b3, h⟩ := He.ba h
  obtain ⟨b4, h⟩ := He.ba h
  obtain ⟨b5, h⟩ := He.ba h
  obtain ⟨b6, h⟩ := He.ba h
  obtain ⟨b7, h⟩ := He.ba h
  obtain ⟨b8, h⟩ := He.ba h
  obtain ⟨b9, h⟩ := He.ba h
  obtain ⟨c0, h⟩ := He.ba h
  obtain ⟨c1, h⟩ := He.ba h
  obtain ⟨c2, h⟩ := He.ba h
  obtain ⟨c3, c4⟩ := He.ba h
  refine ⟨⟨gC, gO, gS, cls_of a1, of_decide_eq_true a2, of_decide_eq_true a3, of_decide_eq_true a4, of_decide_eq_true a5, of_decide_eq_true a6, of_decide_eq_true a7, a8, of_decide_eq_true a9, of_decide_eq_true b0, of_decide_eq_true b1, b2, of_decide_eq_true b3, of_decide_eq_true b4, of_decide_eq_true b5, of_decide_eq_true b6, of_decide_eq_true b7, (Bool.not_eq_true' _).mp b8, ?_⟩,
    ⟨of_decide_eq_true a3, of_decide_eq_true a4, of_decide_eq_true a9, b2, of_decide_eq_true c0, of_decide_eq_true c1, of_decide_eq_true c2, of_decide_eq_true c3⟩, of_decide_eq_true b3, of_decide_eq_true c4⟩
  unfold iniB at b9
  unfold iniW iniV at hi
  cases lk : K.lookup (aI K) with
  | none => rw [lk] at b9; cases b9
  | some o =>
    obtain ⟨oc, od, dt, osl⟩ := o
    rw [lk] at b9 hi
    cases dt with
    | func fd =>
      obtain ⟨n1, n2, n3, n4, n5, n6, n7, n8, n9, n10, n11, n12, n13, n14, n15⟩ := fd
      have hi : (some (n1, n2, n3, n4, n5, n6, n7.map (·.1), n15) : IniW) = iniV := hi
      unfold iniV at hi
      simp only [Option.some.injEq, Prod.mk.injEq] at hi
      obtain ⟨i1, i2, i3, i4, i5, i6, i7, i8⟩ := hi
      subst i1 i2 i3 i4 i5 i6 i8
      dsimp only at b9
      split at b9
      · rename_i c nm cc
        have i7 : ([nm] : List Str) = [("__class__" : Str)] := i7
        obtain rfl : nm = ("__class__" : Str) := (List.cons.inj i7).1
        obtain ⟨j1, j2⟩ := He.ba b9
        obtain ⟨j3, j4⟩ := He.ba j2
        split at j3
        · rename_i ccl cdd vs ccs lc
          split at j3
          · rename_i file tf lf
            split at j4
            · rename_i cl cld CC csl lcc
              have j4 := of_decide_eq_true j4
              subst j4
              exact ⟨oc, od, n9, n10, n11, n12, c, cc, n14, osl, vs, file, tf, ccl, cl, cdd, cld, ccs, csl, rfl, j1, lc, lf, j3, lcc⟩
            · cases j4
          · cases j3
        · cases j3
      · cases b9
    | _ => cases b9
/-! ### the defs -/
def d_is_integer : He.DefD := ⟨("is_integer", none), "is_integer", "is_integer", defArgs s_is_integer, defBody s_is_integer, defScope s_is_integer, [], []⟩
def d_is_number : He.DefD := ⟨("is_number", none), "is_number", "is_number", defArgs s_is_number, defBody s_is_number, defScope s_is_number, [], []⟩
def d_is_below : He.DefD := ⟨("is_below", none), "is_below", "is_below", defArgs s_is_below, defBody s_is_below, defScope s_is_below, [], []⟩
def d_is_sequence : He.DefD := ⟨("is_sequence", none), "is_sequence", "is_sequence", defArgs s_is_sequence, defBody s_is_sequence, defScope s_is_sequence, [], []⟩
def d_is_arc : He.DefD := ⟨("is_arc", none), "is_arc", "is_arc", defArgs s_is_arc, defBody s_is_arc, defScope s_is_arc, [], []⟩
def d_check_net : He.DefD := ⟨("check_net", none), "check_net", "check_net", defArgs s_check_net, defBody s_check_net, defScope s_check_net, [], []⟩
def d_need_node : He.DefD := ⟨("need_node", none), "need_node", "need_node", defArgs s_need_node, defBody s_need_node, defScope s_need_node, [], []⟩
def d_need_ends : He.DefD := ⟨("need_ends", none), "need_ends", "need_ends", defArgs s_need_ends, defBody s_need_ends, defScope s_need_ends, [], []⟩
def d_are_borne : He.DefD := ⟨("are_borne", none), "are_borne", "are_borne", defArgs s_are_borne, defBody s_are_borne, defScope s_are_borne, [], []⟩
def d_need_load : He.DefD := ⟨("need_load", none), "need_load", "need_load", defArgs s_need_load, defBody s_need_load, defScope s_need_load, [], []⟩
def d_surplus : He.DefD := ⟨("surplus", none), "surplus", "surplus", defArgs s_surplus, defBody s_surplus, defScope s_surplus, [], []⟩
def d_no_flow : He.DefD := ⟨("no_flow", none), "no_flow", "no_flow", defArgs s_no_flow, defBody s_no_flow, defScope s_no_flow, [], []⟩
def d_fits : He.DefD := ⟨("fits", none), "fits", "fits", defArgs s_fits, defBody s_fits, defScope s_fits, [], []⟩
def d_left_of : He.DefD := ⟨("left_of", none), "left_of", "left_of", defArgs s_left_of, defBody s_left_of, defScope s_left_of, [], []⟩
def d_can_go : He.DefD := ⟨("can_go", none), "can_go", "can_go", defArgs s_can_go, defBody s_can_go, defScope s_can_go, [], []⟩
def d_side_of : He.DefD := ⟨("side_of", none), "side_of", "side_of", defArgs s_side_of, defBody s_side_of, defScope s_side_of, [], []⟩
def d_leads_of : He.DefD := ⟨("leads_of", none), "leads_of", "leads_of", defArgs s_leads_of, defBody s_leads_of, defScope s_leads_of, [], []⟩
def d_come_by : He.DefD := ⟨("come_by", none), "come_by", "come_by", defArgs s_come_by, defBody s_come_by, defScope s_come_by, [], []⟩
def d_traced : He.DefD := ⟨("traced", none), "traced", "traced", defArgs s_traced, defBody s_traced, defScope s_traced, [], []⟩
def d_reached : He.DefD := ⟨("reached", none), "reached", "reached", defArgs s_reached, defBody s_reached, defScope s_reached, [], []⟩
def d_least_left : He.DefD := ⟨("least_left", none), "least_left", "least_left", defArgs s_least_left, defBody s_least_left, defScope s_least_left, [], []⟩
def d_gone : He.DefD := ⟨("gone", none), "gone", "gone", defArgs s_gone, defBody s_gone, defScope s_gone, [], []⟩
def d_led_by : He.DefD := ⟨("led_by", none), "led_by", "led_by", defArgs s_led_by, defBody s_led_by, defScope s_led_by, [], []⟩
def d_ends_fit : He.DefD := ⟨("ends_fit", none), "ends_fit", "ends_fit", defArgs s_ends_fit, defBody s_ends_fit, defScope s_ends_fit, [], []⟩
def d_brought : He.DefD := ⟨("brought", none), "brought", "brought", defArgs s_brought, defBody s_brought, defScope s_brought, [], []⟩
def d_flows_by_end : He.DefD := ⟨("flows_by_end", none), "flows_by_end", "flows_by_end", defArgs s_flows_by_end, defBody s_flows_by_end, defScope s_flows_by_end, [], []⟩
def d_most_to : He.DefD := ⟨("most_to", none), "most_to", "most_to", defArgs s_most_to, defBody s_most_to, defScope s_most_to, [], []⟩
def d_soonest_to : He.DefD := ⟨("soonest_to", none), "soonest_to", "soonest_to", defArgs s_soonest_to, defBody s_soonest_to, defScope s_soonest_to, [], []⟩
def d_walls : He.DefD := ⟨("walls", none), "walls", "walls", defArgs s_walls, defBody s_walls, defScope s_walls, [], []⟩
def d__law_box : He.DefD := ⟨("_law_box", none), "_law_box", "_law_box", defArgs s__law_box, defBody s__law_box, defScope s__law_box, [], []⟩
def d__law_take : He.DefD := ⟨("_law_take", none), "_law_take", "_law_take", defArgs s__law_take, defBody s__law_take, defScope s__law_take, [], []⟩
def d__law_pick : He.DefD := ⟨("_law_pick", none), "_law_pick", "_law_pick", defArgs s__law_pick, defBody s__law_pick, defScope s__law_pick, [], []⟩
def d__law_heard : He.DefD := ⟨("_law_heard", none), "_law_heard", "_law_heard", defArgs s__law_heard, defBody s__law_heard, defScope s__law_heard, [], []⟩
def d__law_net : He.DefD := ⟨("_law_net", none), "_law_net", "_law_net", defArgs s__law_net, defBody s__law_net, defScope s__law_net, [], []⟩
def d__law_gone : He.DefD := ⟨("_law_gone", none), "_law_gone", "_law_gone", defArgs s__law_gone, defBody s__law_gone, defScope s__law_gone, [], []⟩
def d__law_more : He.DefD := ⟨("_law_more", none), "_law_more", "_law_more", defArgs s__law_more, defBody s__law_more, defScope s__law_more, [], []⟩
def d__law_is_load : He.DefD := ⟨("_law_is_load", none), "_law_is_load", "_law_is_load", defArgs s__law_is_load, defBody s__law_is_load, defScope s__law_is_load, [], []⟩
def d__law_worth : He.DefD := ⟨("_law_worth", none), "_law_worth", "_law_worth", defArgs s__law_worth, defBody s__law_worth, defScope s__law_worth, [], []⟩
def d__law_lots : He.DefD := ⟨("_law_lots", none), "_law_lots", "_law_lots", defArgs s__law_lots, defBody s__law_lots, defScope s__law_lots, [], []⟩
def d__law_best : He.DefD := ⟨("_law_best", none), "_law_best", "_law_best", defArgs s__law_best, defBody s__law_best, defScope s__law_best, [], []⟩
def d__law_ends : He.DefD := ⟨("_law_ends", none), "_law_ends", "_law_ends", defArgs s__law_ends, defBody s__law_ends, defScope s__law_ends, [], []⟩
def d__law_is_to : He.DefD := ⟨("_law_is_to", none), "_law_is_to", "_law_is_to", defArgs s__law_is_to, defBody s__law_is_to, defScope s__law_is_to, [], []⟩
def d__law_value : He.DefD := ⟨("_law_value", none), "_law_value", "_law_value", defArgs s__law_value, defBody s__law_value, defScope s__law_value, [], []⟩
def d__law_most : He.DefD := ⟨("_law_most", none), "_law_most", "_law_most", defArgs s__law_most, defBody s__law_most, defScope s__law_most, [], []⟩
def d__law_value_right : He.DefD := ⟨("_law_value_right", none), "_law_value_right", "_law_value_right", defArgs s__law_value_right, defBody s__law_value_right, defScope s__law_value_right, [], []⟩
def d__law_none_right : He.DefD := ⟨("_law_none_right", none), "_law_none_right", "_law_none_right", defArgs s__law_none_right, defBody s__law_none_right, defScope s__law_none_right, [], []⟩
def d__law_many_right : He.DefD := ⟨("_law_many_right", none), "_law_many_right", "_law_many_right", defArgs s__law_many_right, defBody s__law_many_right, defScope s__law_many_right, [], []⟩
def d_law : He.DefD := ⟨("law", none), "law", "law", defArgs s_law, defBody s_law, defScope s_law, [], []⟩
def fnE : List He.DefD := [d_is_integer, d_is_number, d_is_below, d_is_sequence, d_is_arc, d_check_net, d_need_node, d_need_ends, d_are_borne, d_need_load, d_surplus, d_no_flow, d_fits, d_left_of, d_can_go, d_side_of, d_leads_of, d_come_by, d_traced, d_reached, d_least_left, d_gone, d_led_by, d_ends_fit] ++ [d_brought, d_flows_by_end, d_most_to, d_soonest_to, d_walls, d__law_box, d__law_take, d__law_pick, d__law_heard, d__law_net, d__law_gone, d__law_more, d__law_is_load, d__law_worth, d__law_lots, d__law_best, d__law_ends, d__law_is_to, d__law_value, d__law_most, d__law_value_right, d__law_none_right, d__law_many_right, d_law]
def faE : List He.Fa := ([.glo "is_integer", .glo "is_number", .glo "is_below", .glo "is_sequence", .glo "is_arc", .glo "check_net", .glo "need_node", .glo "need_ends", .glo "are_borne", .glo "need_load", .glo "surplus", .glo "no_flow", .glo "fits", .glo "left_of", .glo "can_go", .glo "side_of", .glo "leads_of", .glo "come_by", .glo "traced", .glo "reached", .glo "least_left", .glo "gone", .glo "led_by", .glo "ends_fit"] ++ [.glo "brought", .glo "flows_by_end", .glo "most_to", .glo "soonest_to", .glo "walls", .glo "_law_box", .glo "_law_take", .glo "_law_pick", .glo "_law_heard", .glo "_law_net", .glo "_law_gone", .glo "_law_more", .glo "_law_is_load", .glo "_law_worth", .glo "_law_lots", .glo "_law_best", .glo "_law_ends", .glo "_law_is_to", .glo "_law_value", .glo "_law_most", .glo "_law_value_right", .glo "_law_none_right", .glo "_law_many_right", .glo "law"]) ++ [.glo "Refused", .glo "OutError", .free "super", .free "len", .free "isinstance", .free "int", .free "bool", .free "list", .free "tuple", .free "all", .free "zip", .free "range", .free "enumerate", .free "sum", .free "min", .free "sorted", .free "abs", .free "repr", .int "MOST_NODES" 2000, .int "FORTH" 1, .int "BACK" (-1)]
def tfE : List He.Defn := [("_law_value_right", none), ("_law_none_right", none)]
def looseE : List Str := (["OutError", "Refused", "MOST_NODES", "FORTH", "BACK", "is_integer", "is_number", "is_below", "is_sequence", "is_arc", "check_net", "need_node", "need_ends", "are_borne", "need_load", "surplus", "no_flow", "fits", "left_of", "can_go", "side_of", "leads_of", "come_by", "traced", "reached", "least_left"] : List Str) ++ (["gone", "led_by", "ends_fit", "brought", "flows_by_end", "most_to", "soonest_to", "walls", "_law_box", "_law_take", "_law_pick", "_law_heard", "_law_net", "_law_gone", "_law_more", "_law_is_load", "_law_worth", "_law_lots", "_law_best", "_law_ends", "_law_is_to", "_law_value", "_law_most", "_law_value_right", "_law_none_right", "_law_many_right"] : List Str)
/-! ### the Hook -/
abbrev R1 : OpenRow := OpenLaw.row PySem.Challenge.rw_outsoonest_k17_whole_all_beginnings_of_a
abbrev P1 : Program := R1.prog
structure SaysE (h : Heap) (K : Frag) : Prop where
  d : He.SaysD faE fnE K
  ref : refB P1 K = true
  ini : iniW K = iniV
  hd : ∀ p ∈ tfE, codeHdIn K (He.cT K p).1 (He.cT K p).2 = true
  out : ∀ p ∈ tfE, K.lookup (He.cT K p).2 = none
  ne : (He.cT K ("_law_value_right", none)).2 ≠ (He.cT K ("_law_none_right", none)).2
  mt : ∀ p ∈ tfE, h.get? (He.cT K p).2 = some { cls := .none, data := .fields #[] }
abbrev AlE : Type := He.AlD × (Bool × IniW)
def neB (K : Frag) : Bool := decide ((He.cT K ("_law_value_right", none)).2 ≠ (He.cT K ("_law_none_right", none)).2)
def obsE (n : Nat) (g : Addr → Option Obj) : AlE := (He.obsD faE fnE (frE n g), ((refB P1 (frE n g) && neB (frE n g)) && He.tabsB g tfE (frE n g), iniW (frE n g)))
def valE : AlE := (He.valD fnE, (true, iniV))
theorem saysE_of {n : Nat} {h : Heap} (e : obsE n h.get? = valE) : SaysE h (frE n h.get?) := by
  have e1 : He.obsD faE fnE (frE n h.get?) = He.valD fnE := congrArg (fun z : AlE => z.1) e
  have e2 : ((refB P1 (frE n h.get?) && neB (frE n h.get?)) && He.tabsB h.get? tfE (frE n h.get?)) = true := congrArg (fun z : AlE => z.2.1) e
  have e3 : iniW (frE n h.get?) = iniV := congrArg (fun z : AlE => z.2.2) e
  obtain ⟨h0, h2⟩ := He.ba e2
  obtain ⟨h1, hne⟩ := He.ba h0
  have key : ∀ p ∈ tfE, codeHdIn (frE n h.get?) (He.cT (frE n h.get?) p).1 (He.cT (frE n h.get?) p).2 = true ∧ ∃ o, h.get? (He.cT (frE n h.get?) p).2 = some o ∧ He.emptyTab o = true := fun p hp => by
    obtain ⟨h3, h4⟩ := He.ba (List.all_eq_true.mp h2 p hp)
    refine ⟨h3, ?_⟩
    cases q : h.get? (He.cT (frE n h.get?) p).2 with
    | none =>
      rw [q] at h4
      cases h4
    | some o =>
      rw [q] at h4
      exact ⟨o, rfl, h4⟩
  refine ⟨e1, h1, e3, fun p hp => (key p hp).1, fun p hp => ?_, of_decide_eq_true hne, fun p hp => ?_⟩
  · obtain ⟨_, o, q, z⟩ := key p hp
    exact He.frT_none q z
  · obtain ⟨_, o, q, z⟩ := key p hp
    rw [q, He.emptyTab_eq z]
def hookE (n : Nat) : Hook where
  α := AlE
  obs := fun s => obsE n s.heap.get?
  val := fun _ => valE
  says := fun _ h => ∃ K : Frag, K.In h ∧ SaysE h K
  of := fun _ _ e => ⟨_, He.frT_in, saysE_of e⟩
  keeps := fun _ _ _ z k => by
    obtain ⟨K, hK, c⟩ := z
    exact ⟨K, Frag.In.keeps hK k, c.d, c.ref, c.ini, c.hd, c.out, c.ne, fun p hp => k _ _ (c.mt p hp)⟩
def obE (s : SharedT) : AlE := obsE 5 (HandSHeadRun.getT s)
theorem obE_eq (s : SharedT) : obE s = (hookE 5).obs s.abs := by
  have e : HandSHeadRun.getT s = s.abs.heap.get? := funext (HandSHeadRun.getT_eq s)
  unfold obE
  rw [e]
  rfl
end Od
set_option Elab.async false
set_option linter.all false
set_option autoImplicit false
set_option maxRecDepth 100000
set_option maxHeartbeats 0
/-! E2: the run of the top. -/
namespace Od
open PySem PySem.Spec PySem.W
theorem runE (w : World) : HandSHeadRun.RunEq R1 (view P1 [57]) (hookE 5) obE 4000 looseE w := by
  intro os
  kernel_rfl
end Od
set_option Elab.async false
set_option linter.all false
set_option autoImplicit false
set_option maxRecDepth 100000
set_option maxHeartbeats 4000000
/-! E3: all defs, from what stands behind the top; the end. -/
namespace Od
open PySem PySem.Spec L2 PySem.W PySem.Calls PyProof.Rows
theorem fun_of {K : Frag} {x : Str} {st : Stmt} {f : Addr} {fd : FuncData} (F : FunD K x x (defArgs st) (defBody st) (defScope st) [] [] f fd) : L2.Fun K x x st f fd := by
  obtain ⟨oc, od, dV, kV, doc, pm, an, cdv, ct, osl, e, lk, hcd, hD, _⟩ := F.ex
  rcases hD with ⟨_, rfl⟩ | ⟨e, _⟩
  · exact ⟨⟨oc, od, kV, doc, pm, an, cdv, ct, osl, e, lk, hcd⟩, F.kp⟩
  · exact absurd rfl e
/-- a def of the text, as the Hook tells it -/
abbrev defE (x : Str) (st : Stmt) : He.DefD := ⟨(x, none), x, x, defArgs st, defBody st, defScope st, [], []⟩
section
variable {K : Frag} {h : Heap} {mg : Str → Option Value} {x : Str} {st : Stmt}
theorem tellE (X : K.In h) (G : h.Ns mainGlobals mg) (c : SaysE h K) (hd : defE x st ∈ fnE) (hg : He.Fa.glo x ∈ faE) : ∃ fd, mg x = some (.ref (He.fAd K (x, none))) ∧ L2.Fun K x x st (He.fAd K (x, none)) fd := by
  obtain ⟨fd, F⟩ := c.d.defs hd
  exact ⟨fd, He.glo_ok X G (c.d.facts hg), fun_of F⟩
theorem topE (X : K.In h) (G : h.Ns mainGlobals mg) (c : SaysE h K) (hd : defE x st ∈ fnE) (hg : He.Fa.glo x ∈ faE) : TopF K mg x st := by
  obtain ⟨fd, a, b⟩ := tellE X G c hd hg
  exact ⟨_, fd, a, b⟩
theorem topCE (X : K.In h) (G : h.Ns mainGlobals mg) (c : SaysE h K) (hd : defE x st ∈ fnE) (hg : He.Fa.glo x ∈ faE) : TopC K mg x st (He.cT K (x, none)).1 := by
  obtain ⟨fd, a, b⟩ := tellE X G c hd hg
  refine ⟨_, fd, a, b, ?_⟩
  obtain ⟨oc, od, kV, doc, pm, an, cdv, ct, osl, rfl, lk, hcd⟩ := b.ex
  obtain ⟨cc, rfl⟩ := He.codeIn_ref hcd
  show Value.ref cc = .ref (He.codeOf K (x, none))
  rw [He.codeOf_eq lk rfl]
end
abbrev tV (K : Frag) : Addr × Addr := He.cT K ("_law_value_right", none)
abbrev tN (K : Frag) : Addr × Addr := He.cT K ("_law_none_right", none)
theorem allE {w : World} {K : Frag} {h : Heap} {mg : Str → Option Value} {base : Heap} {f : Addr} {fd : FuncData} (X : K.In h) (G : h.Ns mainGlobals mg) (c : SaysE h K) (TV : LamX.TabB base mg (tV K).1 (tV K).2) (TN : LamX.TabB base mg (tN K).1 (tN K).2)
    (F : L2.Fun K "law" "law" s_law f fd) : FnG P1 w K mg base CX0 12 f fd ["_law_script"] (spLaw K (tV K).2 (tN K).2) := by
  have free : ∀ y, He.Fa.free y ∈ faE → mg y = none := fun y hy => He.free_ok X G (c.d.facts hy)
  have mem : ∀ i fa, faE[i]? = some fa → fa ∈ faE := fun i fa e => List.mem_of_getElem? e
  have B : Bl mg := ⟨free _ (mem 51 _ rfl), free _ (mem 52 _ rfl), free _ (mem 53 _ rfl), free _ (mem 54 _ rfl), free _ (mem 55 _ rfl), free _ (mem 56 _ rfl), free _ (mem 57 _ rfl), free _ (mem 58 _ rfl), free _ (mem 59 _ rfl), free _ (mem 60 _ rfl), free _ (mem 61 _ rfl), free _ (mem 62 _ rfl), free _ (mem 63 _ rfl), free _ (mem 64 _ rfl), free _ (mem 65 _ rfl),
    He.int_ok X G (c.d.facts (mem 66 _ rfl)), He.int_ok X G (c.d.facts (mem 67 _ rfl)), He.int_ok X G (c.d.facts (mem 68 _ rfl))⟩
  obtain ⟨R, EC, exm, kit⟩ := ref_of (P := P1) (He.glo_ok X G (c.d.facts (mem 48 _ rfl))) (He.glo_ok X G (c.d.facts (mem 49 _ rfl))) (free _ (mem 50 _ rfl)) c.ref c.ini
  have T_is_integer : TopF K mg "is_integer" s_is_integer := topE X G c (x := "is_integer") (List.mem_of_getElem? (i := 0) rfl) (List.mem_of_getElem? (i := 0) rfl)
  have T_is_number : TopF K mg "is_number" s_is_number := topE X G c (x := "is_number") (List.mem_of_getElem? (i := 1) rfl) (List.mem_of_getElem? (i := 1) rfl)
  have T_is_below : TopF K mg "is_below" s_is_below := topE X G c (x := "is_below") (List.mem_of_getElem? (i := 2) rfl) (List.mem_of_getElem? (i := 2) rfl)
  have T_is_sequence : TopF K mg "is_sequence" s_is_sequence := topE X G c (x := "is_sequence") (List.mem_of_getElem? (i := 3) rfl) (List.mem_of_getElem? (i := 3) rfl)
  have T_is_arc : TopF K mg "is_arc" s_is_arc := topE X G c (x := "is_arc") (List.mem_of_getElem? (i := 4) rfl) (List.mem_of_getElem? (i := 4) rfl)
  have T_check_net : TopF K mg "check_net" s_check_net := topE X G c (x := "check_net") (List.mem_of_getElem? (i := 5) rfl) (List.mem_of_getElem? (i := 5) rfl)
  have T_need_node : TopF K mg "need_node" s_need_node := topE X G c (x := "need_node") (List.mem_of_getElem? (i := 6) rfl) (List.mem_of_getElem? (i := 6) rfl)
  have T_need_ends : TopF K mg "need_ends" s_need_ends := topE X G c (x := "need_ends") (List.mem_of_getElem? (i := 7) rfl) (List.mem_of_getElem? (i := 7) rfl)
  have T_are_borne : TopF K mg "are_borne" s_are_borne := topE X G c (x := "are_borne") (List.mem_of_getElem? (i := 8) rfl) (List.mem_of_getElem? (i := 8) rfl)
  have T_need_load : TopF K mg "need_load" s_need_load := topE X G c (x := "need_load") (List.mem_of_getElem? (i := 9) rfl) (List.mem_of_getElem? (i := 9) rfl)
  have T_surplus : TopF K mg "surplus" s_surplus := topE X G c (x := "surplus") (List.mem_of_getElem? (i := 10) rfl) (List.mem_of_getElem? (i := 10) rfl)
  have T_no_flow : TopF K mg "no_flow" s_no_flow := topE X G c (x := "no_flow") (List.mem_of_getElem? (i := 11) rfl) (List.mem_of_getElem? (i := 11) rfl)
  have T_fits : TopF K mg "fits" s_fits := topE X G c (x := "fits") (List.mem_of_getElem? (i := 12) rfl) (List.mem_of_getElem? (i := 12) rfl)
  have T_left_of : TopF K mg "left_of" s_left_of := topE X G c (x := "left_of") (List.mem_of_getElem? (i := 13) rfl) (List.mem_of_getElem? (i := 13) rfl)
  have T_can_go : TopF K mg "can_go" s_can_go := topE X G c (x := "can_go") (List.mem_of_getElem? (i := 14) rfl) (List.mem_of_getElem? (i := 14) rfl)
  have T_side_of : TopF K mg "side_of" s_side_of := topE X G c (x := "side_of") (List.mem_of_getElem? (i := 15) rfl) (List.mem_of_getElem? (i := 15) rfl)
  have T_least_left : TopF K mg "least_left" s_least_left := topE X G c (x := "least_left") (List.mem_of_getElem? (i := 20) rfl) (List.mem_of_getElem? (i := 20) rfl)
  have T_gone : TopF K mg "gone" s_gone := topE X G c (x := "gone") (List.mem_of_getElem? (i := 21) rfl) (List.mem_of_getElem? (i := 21) rfl)
  have T_leads_of : TopF K mg "leads_of" s_leads_of := topE X G c (x := "leads_of") (List.mem_of_getElem? (i := 16) rfl) (List.mem_of_getElem? (i := 16) rfl)
  have T_come_by : TopF K mg "come_by" s_come_by := topE X G c (x := "come_by") (List.mem_of_getElem? (i := 17) rfl) (List.mem_of_getElem? (i := 17) rfl)
  have T_traced : TopF K mg "traced" s_traced := topE X G c (x := "traced") (List.mem_of_getElem? (i := 18) rfl) (List.mem_of_getElem? (i := 18) rfl)
  have T_reached : TopF K mg "reached" s_reached := topE X G c (x := "reached") (List.mem_of_getElem? (i := 19) rfl) (List.mem_of_getElem? (i := 19) rfl)
  have T_led_by : TopF K mg "led_by" s_led_by := topE X G c (x := "led_by") (List.mem_of_getElem? (i := 22) rfl) (List.mem_of_getElem? (i := 22) rfl)
  have T_ends_fit : TopF K mg "ends_fit" s_ends_fit := topE X G c (x := "ends_fit") (List.mem_of_getElem? (i := 23) rfl) (List.mem_of_getElem? (i := 23) rfl)
  have T_brought : TopF K mg "brought" s_brought := topE X G c (x := "brought") (List.mem_of_getElem? (i := 24) rfl) (List.mem_of_getElem? (i := 24) rfl)
  have T_flows_by_end : TopF K mg "flows_by_end" s_flows_by_end := topE X G c (x := "flows_by_end") (List.mem_of_getElem? (i := 25) rfl) (List.mem_of_getElem? (i := 25) rfl)
  have T_most_to : TopF K mg "most_to" s_most_to := topE X G c (x := "most_to") (List.mem_of_getElem? (i := 26) rfl) (List.mem_of_getElem? (i := 26) rfl)
  have T_soonest_to : TopF K mg "soonest_to" s_soonest_to := topE X G c (x := "soonest_to") (List.mem_of_getElem? (i := 27) rfl) (List.mem_of_getElem? (i := 27) rfl)
  have T_walls : TopF K mg "walls" s_walls := topE X G c (x := "walls") (List.mem_of_getElem? (i := 28) rfl) (List.mem_of_getElem? (i := 28) rfl)
  have T__law_more : TopF K mg "_law_more" s__law_more := topE X G c (x := "_law_more") (List.mem_of_getElem? (i := 35) rfl) (List.mem_of_getElem? (i := 35) rfl)
  have T__law_is_load : TopF K mg "_law_is_load" s__law_is_load := topE X G c (x := "_law_is_load") (List.mem_of_getElem? (i := 36) rfl) (List.mem_of_getElem? (i := 36) rfl)
  have T__law_worth : TopF K mg "_law_worth" s__law_worth := topE X G c (x := "_law_worth") (List.mem_of_getElem? (i := 37) rfl) (List.mem_of_getElem? (i := 37) rfl)
  have T__law_lots : TopF K mg "_law_lots" s__law_lots := topE X G c (x := "_law_lots") (List.mem_of_getElem? (i := 38) rfl) (List.mem_of_getElem? (i := 38) rfl)
  have T__law_best : TopF K mg "_law_best" s__law_best := topE X G c (x := "_law_best") (List.mem_of_getElem? (i := 39) rfl) (List.mem_of_getElem? (i := 39) rfl)
  have T__law_is_to : TopF K mg "_law_is_to" s__law_is_to := topE X G c (x := "_law_is_to") (List.mem_of_getElem? (i := 41) rfl) (List.mem_of_getElem? (i := 41) rfl)
  have T__law_most : TopF K mg "_law_most" s__law_most := topE X G c (x := "_law_most") (List.mem_of_getElem? (i := 43) rfl) (List.mem_of_getElem? (i := 43) rfl)
  have T__law_take : TopF K mg "_law_take" s__law_take := topE X G c (x := "_law_take") (List.mem_of_getElem? (i := 30) rfl) (List.mem_of_getElem? (i := 30) rfl)
  have T__law_pick : TopF K mg "_law_pick" s__law_pick := topE X G c (x := "_law_pick") (List.mem_of_getElem? (i := 31) rfl) (List.mem_of_getElem? (i := 31) rfl)
  have T__law_net : TopF K mg "_law_net" s__law_net := topE X G c (x := "_law_net") (List.mem_of_getElem? (i := 33) rfl) (List.mem_of_getElem? (i := 33) rfl)
  have T__law_ends : TopF K mg "_law_ends" s__law_ends := topE X G c (x := "_law_ends") (List.mem_of_getElem? (i := 40) rfl) (List.mem_of_getElem? (i := 40) rfl)
  have T__law_gone : TopF K mg "_law_gone" s__law_gone := topE X G c (x := "_law_gone") (List.mem_of_getElem? (i := 34) rfl) (List.mem_of_getElem? (i := 34) rfl)
  have T__law_value : TopF K mg "_law_value" s__law_value := topE X G c (x := "_law_value") (List.mem_of_getElem? (i := 42) rfl) (List.mem_of_getElem? (i := 42) rfl)
  have T__law_box : TopF K mg "_law_box" s__law_box := topE X G c (x := "_law_box") (List.mem_of_getElem? (i := 29) rfl) (List.mem_of_getElem? (i := 29) rfl)
  have TcV : TopC K mg "_law_value_right" s__law_value_right (tV K).1 := topCE X G c (List.mem_of_getElem? (i := 44) rfl) (List.mem_of_getElem? (i := 44) rfl)
  have TcN : TopC K mg "_law_none_right" s__law_none_right (tN K).1 := topCE X G c (List.mem_of_getElem? (i := 45) rfl) (List.mem_of_getElem? (i := 45) rfl)
  have T_many : TopF K mg "_law_many_right" s__law_many_right := topE X G c (List.mem_of_getElem? (i := 46) rfl) (List.mem_of_getElem? (i := 46) rfl)
  obtain ⟨fdh, gh, Fh⟩ := tellE X G c (x := "_law_heard") (st := s__law_heard) (List.mem_of_getElem? (i := 32) rfl) (List.mem_of_getElem? (i := 32) rfl)
  have TH : HeardT K mg _ fdh := ⟨gh, Fh⟩
  have h_is_integer := h_is_integer (P := P1) (w := w) (base := base) B T_is_integer
  have h_is_number := h_is_number (P := P1) (w := w) (base := base) B T_is_number h_is_integer
  have h_is_below := h_is_below (P := P1) (w := w) (base := base) B T_is_below h_is_number
  have h_is_sequence := h_is_sequence (P := P1) (w := w) (base := base) B T_is_sequence
  have h_is_arc := h_is_arc (P := P1) (w := w) (base := base) B T_is_arc h_is_sequence h_is_number h_is_below
  have h_check_net := h_check_net (P := P1) (w := w) (base := base) B R T_check_net h_is_sequence h_is_below h_is_arc
  have h_need_node := h_need_node (P := P1) (w := w) (base := base) B R T_need_node h_is_below
  have h_need_ends := h_need_ends (P := P1) (w := w) (base := base) B R T_need_ends h_is_below h_is_sequence h_need_node
  have h_are_borne := h_are_borne (P := P1) (w := w) (base := base) B T_are_borne h_is_number h_is_sequence
  have h_need_load := h_need_load (P := P1) (w := w) (base := base) B R T_need_load h_are_borne
  have h_surplus := h_surplus (P := P1) (w := w) (base := base) B T_surplus
  have h_no_flow := h_no_flow (P := P1) (w := w) (base := base) B R T_no_flow h_check_net
  have h_fits := h_fits (P := P1) (w := w) (base := base) B T_fits h_are_borne h_surplus
  have h_left_of := h_left_of (P := P1) (w := w) (base := base) B T_left_of
  have h_can_go := h_can_go (P := P1) (w := w) (base := base) B T_can_go h_left_of
  have h_side_of := h_side_of (P := P1) (w := w) (base := base) B T_side_of
  have h_least_left := h_least_left (P := P1) (w := w) (base := base) B T_least_left h_left_of
  have h_gone := h_gone (P := P1) (w := w) (base := base) B T_gone
  have h_leads_of := h_leads_of (P := P1) (w := w) (base := base) B T_leads_of
  have h_come_by := h_come_by (P := P1) (w := w) (base := base) B T_come_by h_can_go
  have h_traced := h_traced (P := P1) (w := w) (base := base) B T_traced h_side_of
  have h_reached := h_reached (P := P1) (w := w) (base := base) B R T_reached h_check_net h_need_load h_need_node h_come_by h_leads_of
  have h_led_by := h_led_by (P := P1) (w := w) (base := base) ledStep B T_led_by h_leads_of h_come_by h_traced h_least_left h_gone
  have hf_ends_fit := hf_ends_fit (P := P1) (w := w) (base := base) B R T_ends_fit h_check_net h_need_ends h_fits h_surplus
  have h_ends_fit := h_ends_fit (P := P1) (w := w) (base := base) B R T_ends_fit h_check_net h_need_ends h_fits h_surplus
  have hf_brought := hf_brought (P := P1) (w := w) (base := base) B R T_brought h_ends_fit h_check_net h_surplus
  have h_brought := h_brought (P := P1) (w := w) (base := base) B R T_brought h_ends_fit h_check_net h_surplus
  have h_flows_by_end := h_flows_by_end (P := P1) (w := w) (base := base) ledStep B R T_flows_by_end h_check_net h_need_ends h_no_flow h_led_by
  have hf_most_to := hf_most_to (P := P1) (w := w) (base := base) ledStep flowFit B R T_most_to h_flows_by_end h_brought
  have h_most_to := h_most_to (P := P1) (w := w) (base := base) ledStep flowFit B R T_most_to h_flows_by_end h_brought
  have hf_soonest_to := hf_soonest_to (P := P1) (w := w) (base := base) B R T_soonest_to h_no_flow h_flows_by_end
  have h_soonest_to := h_soonest_to (P := P1) (w := w) (base := base) B R T_soonest_to h_no_flow h_flows_by_end
  have h_walls := h_walls (P := P1) (w := w) (base := base) ledStep B R T_walls h_flows_by_end h_reached
  have h__law_more := h__law_more (P := P1) (w := w) (base := base) B T__law_more
  have h__law_is_load := h__law_is_load (P := P1) (w := w) (base := base) B T__law_is_load
  have h__law_worth := h__law_worth (P := P1) (w := w) (base := base) B T__law_worth
  have h__law_lots := h__law_lots (P := P1) (w := w) (base := base) B T__law_lots h__law_worth
  have h__law_best := h__law_best (P := P1) (w := w) (base := base) B T__law_best
  have h__law_is_to := h__law_is_to (P := P1) (w := w) (base := base) B T__law_is_to h__law_is_load h__law_more
  have h__law_most := h__law_most (P := P1) (w := w) (base := base) B T__law_most h__law_best h__law_lots
  have h__law_take := h__law_take (P := P1) (w := w) (base := base) B T__law_take
  have h__law_pick := h__law_pick (P := P1) (w := w) (base := base) B T__law_pick h__law_take
  have h__law_net := h__law_net (P := P1) (w := w) (base := base) B T__law_net h__law_take h__law_pick
  have h__law_ends := h__law_ends (P := P1) (w := w) (base := base) B T__law_ends h__law_take
  have h__law_gone := h__law_gone (P := P1) (w := w) (base := base) B T__law_gone h__law_pick
  have h__law_value := h__law_value (P := P1) (w := w) (base := base) B T__law_value h__law_take h__law_pick h__law_gone
  have h__law_box := h__law_box (P := P1) (w := w) (base := base) B T__law_box
  have h__law_value_right := h__law_value_right (P := P1) (w := w) (base := base) B R EC exm kit TcV TV TH h__law_value h__law_is_to h__law_more hf_ends_fit h_ends_fit hf_brought h_brought
  have h__law_none_right := h__law_none_right (P := P1) (w := w) (base := base) B R EC exm kit TcN TN TH h__law_pick h_most_to h_soonest_to h_ends_fit h_brought
  have h__law_many_right := h__law_many_right (P := P1) (w := w) (base := base) B T_many h__law_net h__law_ends h_walls h_most_to h_soonest_to h__law_is_to h__law_worth h__law_more
  exact h_law B F h__law_many_right h__law_box h__law_net h__law_pick h__law_ends h__law_most hf_most_to h_most_to hf_soonest_to h_soonest_to h__law_is_to h__law_more h_brought h__law_value_right h__law_none_right
theorem walkE {q : Program} {loose : List Str} {XP : (Str → Option Value) → Heap → Prop} {d : DefRec} (hdf : d.params.defaults = []) (hn : d.name = ("law" : Str)) : WalkO q loose XP (hookE 5).says R1.toRowW d [] (fun f vs => PySem.call f vs) := by
  refine Att.attach_callB (l := PySem.Challenge.rw_outsoonest_k17_whole_all_beginnings_of_a) (n := 63) rfl hdf fun w s₀ s₁ mg mb fa o pm cd doc a vs ns G Y ho hd hcd hmg hobj hints hlen hbits hg => ?_
  obtain ⟨K, KX, c⟩ := Y
  obtain ⟨fd, gl, F⟩ := tellE KX G.T.g c (x := "law") (st := s_law) (List.mem_of_getElem? (i := 47) rfl) (List.mem_of_getElem? (i := 47) rfl)
  rw [hn, gl] at hmg
  cases hmg
  have tab : ∀ p ∈ tfE, TabE K s₁.heap (He.cT K p) := fun p hp => ⟨c.mt p hp, c.out p hp, codeHd_of_K KX (c.hd p hp)⟩
  have bnd : ∀ (s : Shared) (u : Value), BindsTo s fd ⟨[u], []⟩ [(("_law_script" : Str), u)] := fun s u => by
    obtain ⟨oc, od, kV, doc, pm, an, cdv, ct, osl, rfl, lk, hcd⟩ := F.ex
    exact .of_eq rfl
  have hVN : (tV K).2 ≠ (tN K).2 := c.ne
  exact end_call (P := P1) (cs := [tV K, tN K]) (k := 12) KX G.T.g G.T.b G.T.builtins G.T.nolimit hg (fun q hq => by
    rcases List.mem_cons.mp hq with rfl | hq
    · exact tab _ (List.mem_cons_self ..)
    · rw [List.mem_singleton.mp hq]
      exact tab _ (List.mem_cons_of_mem _ (List.mem_cons_self ..))) G.T.bmain hobj hints (Nat.le_trans hlen (by decide)) ⟨rfl, by decide, by decide⟩
    (fun base kb nsb tb => allE KX G.T.g c (tb _ (List.mem_cons_self ..)) (tb _ (List.mem_cons_of_mem _ (List.mem_cons_self ..))) F) bnd
    fun H hT hS => ⟨a, ns, rfl, hS, hlen, (hT _ (List.mem_cons_self ..)).1, (hT _ (List.mem_cons_of_mem _ (List.mem_cons_self ..))).1, hVN, (hT _ (List.mem_cons_self ..)).2, (hT _ (List.mem_cons_of_mem _ (List.mem_cons_self ..))).2, fun _ => rfl⟩
end Od
set_option Elab.async false
set_option maxRecDepth 100000
set_option maxHeartbeats 0
open PySem PySem.W PySem.Calls PyProof.Rows
theorem PySem.Challenge.cw_outsoonest_k17_whole_all_beginnings_of_a_holds : PySem.Challenge.rw_outsoonest_k17_whole_all_beginnings_of_a.Holds := by
  w_on; o_law
  refine HandSHeadRun.head_any (r := OpenLaw.row PySem.Challenge.rw_outsoonest_k17_whole_all_beginnings_of_a) (q := view (OpenLaw.row PySem.Challenge.rw_outsoonest_k17_whole_all_beginnings_of_a).prog [57]) (H := Od.hookE 5) (ob := Od.obE) (M := 4000) (loose := Od.looseE) (d := HandSHeadRun.topDef (OpenLaw.row PySem.Challenge.rw_outsoonest_k17_whole_all_beginnings_of_a).prog 57) (kwd := []) Od.obE_eq
    (by kernel_rfl) (fun s => by kernel_rfl) Od.runE (by kernel_rfl) (by kernel_rfl) (by kernel_rfl) (by rfl) (by first | assumption | decide +kernel) (by decide +kernel) ⟨rfl, rfl, rfl, rfl, rfl, by decide +kernel⟩ ?hw ?hc
  case hw => w_witness2
  case hc => exact Od.walkE (by kernel_rfl) (by kernel_rfl)
