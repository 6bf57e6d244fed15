import PyProof.Rows.All
import HandS.ForMost
import HandS.Exc
import HandS.ExcOwn
import HandS.WordsExc
import HandS.HeadHook1
import HandS.ExcValue
import KE.KExcIs
import PyProof.ReprRoads
import HandS.Style
import HandS.Iter
import HandS.Zip
import PyProof.Draws
import PyProof.TupleIter
import PyProof.EnumMake
import HandS.TupAny
import HandS.TupMul
import HandS.Deep
import HandS.TupLe
import HandS.IsInst
import HandS.RaiseMore
import HandS.Wide
import KE.SortData
import HandS.Flt
import HandS.Dict
import HandS.More
import HandS.HeadHook3
import HandS.SetBool
import HandS.TupSets
import HandS.SetFor
import HandS.Strs
import HandS.Text
import HandS.TryOnly
import HandS.Defaults
import HandS.HeadHook2
import HandS.Ends
import HandS.HeadHook4
import HandS.Head0
import HandS.Head1
import HandS.Head2
import HandS.HeadEnd
import PySem.Challenge.RW_openfew_k14_pairs_known
import PyProof.ReprReads
import PyProof.StrLawsRepr
set_option Elab.async false
set_option linter.all false
set_option maxRecDepth 100000
set_option maxHeartbeats 1000000
/-! Q layer, part A: data, stores, results; how they lie in HandS's abstract heap. -/
namespace L2.Q
open PySem PySem.Spec PyProof.Rows

/-- a value: a tree of data (lists in it are never changed again), or an object of the store -/
inductive Vv where
  | d (x : PyData)
  | ref (n : Nat)
/-- an object of the store -/
inductive Ob where
  | lst (xs : List PyData)
  | frz (xs : List PyData)
abbrev Sto := List Ob
structure Exn where
  cls : Str
  fld : Option (Str × PyData)
inductive Res (α : Type) where
  | ok (a : α) (st : Sto)
  | exc (e : Exn) (st : Sto)
  | fail
abbrev Env := List (Option Vv)
@[inline] def Res.bind {α β : Type} (m : Res α) (k : α → Sto → Res β) : Res β := match m with
  | .ok a st => k a st
  | .exc e st => .exc e st
  | .fail => .fail

/-- a list that may be read: tracked, known, or an object of the module -/
def RdL (K : PySem.W.Frag) (H : Hp) (a : Addr) (xs : List V) : Prop := Rd H a (.lst xs) ∨ ∃ (its : Array Value) (n : Nat), K.lookup a = some { cls := .type "list", data := .seq its n } ∧ its.size ≤ sizeLine ∧ Vals xs its.toList
theorem RdL.of {K : PySem.W.Frag} {H : Hp} {a : Addr} {xs : List V} (h : H a = some (.lst xs)) : RdL K H a xs := .inl (Rd.of h)
theorem RdL.sq {K : PySem.W.Frag} {H : Hp} {a : Addr} {xs : List V} : RdL K H a xs → SqL K H a xs
  | .inl h => .inl h
  | .inr ⟨its, n, h, z, r⟩ => .inr ⟨_, its, n, h, rfl, rfl, rfl, z, r⟩
theorem RdL.ok {X : Cx} {pins : List (Addr × Obj)} {σ : List (Option V)} {H : Hp} {s : Shared} {a : Addr} {xs : List V} (h : RdL X.K H a xs) (I : Inv X pins σ H s) : xs.length ≤ sizeLine ∧ ∃ (its : List Value) (n : Nat), Vals xs its ∧ s.heap.get? a = some { cls := .type "list", data := .seq its.toArray n } := by
  rcases h with h | ⟨its, n, e, z, r⟩
  · exact h.ok I.hok
  · refine ⟨?_, its.toList, n, r, by simpa using I.kIn a _ e⟩
    have := r.length
    simp only [Array.length_toList] at this
    omega
/-- an exception object of a class, with its dict -/
def ExV (a : Addr) (cls : Value) (d : Option Addr) : HO := .ext fun h => ∃ (oe : Obj) (vs : Array Value), h.get? a = some oe ∧ Zc cls d oe ∧ oe.data = .fields vs
theorem exV_ok {P : Program} {w : World} {H : Hp} {h : Heap} {a : Addr} {cls : Value} {d : Option Addr} {oe : Obj} {vs : Array Value} (e : h.get? a = some oe) (z : Zc cls d oe) (hd : oe.data = .fields vs) : ObjOk P w H h a (ExV a cls d) :=
  ⟨⟨oe, vs, e, z, hd⟩, ⟨oe, e⟩, fun _ _ ⟨o, v, q, r⟩ k => ⟨o, v, k o q, r⟩⟩
def bts : List String := ["int", "bool", "str", "tuple", "list", "dict"]
def someO {α : Type} [DecidableEq α] (a : Option α) (b : α) : Bool := decide (a = some b)
/-- what is known of a class: is e.__class__ it, is it none of the built-in ones -/
def kinB (K : PySem.W.Frag) (C : Addr) : Bool :=
  decide (PySem.W.findIn K (.ref C) "__class__" = some (some (.builtin "object.__class__"))) && decide (PySem.W.specialIn K (.builtin "object.__class__") "__get__" = some (some (.builtin "getset_descriptor.__get__"))) &&
  decide (PySem.W.takesIn K (.builtin "object.__class__") = some true) && decide (PySem.W.mroIn K C (.type "object") = some true) && PySem.W.hasDictIn K C && bts.all fun n => decide (PySem.W.kitOne K (.ref C) (.type n) = some false)
def exKB (K : PySem.W.Frag) (C : Addr) : Bool :=
  kinB K C && (PySem.W.clsIn K C).isSome && decide (PySem.W.findIn K (.ref C) "__getattribute__" = some (some (.builtin "BaseException.__getattribute__"))) && decide (PySem.W.findIn K (.ref C) "__getattr__" = some none) && decide (PySem.W.subIn K (.ref C) (.type "BaseException") = some true)
def insKB (K : PySem.W.Frag) (C : Addr) : Bool :=
  kinB K C && PySem.W.plainGet K C Str.empty && PySem.W.plainOver K C && decide (PySem.W.findIn K (.ref C) "__setattr__" = some (some (.builtin "object.__setattr__")))
/-! a value that is a tree of data: tuples are read in any way, lists are tracked or known; an exception, an instance are dicts with a key None -/
mutual
inductive DQ (K : PySem.W.Frag) (H : Hp) : V → PyData → Prop
  | non : DQ K H .non .none
  | bl (b : Bool) : DQ K H (.bl b) (.bool b)
  | int (i : Int) : DQ K H (.int i) (.int i)
  | str (x : Str) : DQ K H (.str x) (.str x)
  | lst {a : Addr} {xs : List V} {ds : List PyData} : RdL K H a xs → ds.length ≤ sizeLine → DQAll K H xs ds → DQ K H (.ref a) (.list ds)
  | tup {a : Addr} {xs : List V} {ds : List PyData} : SqT K H a xs → ds.length ≤ sizeLine → DQAll K H xs ds → DQ K H (.ref a) (.tuple ds)
  | dct {a : Addr} {kvs : List (Key × V)} {ps : List (PyData × PyData)} : Rd H a (.dK kvs) → DQAll K H (kvs.map fun q => kV q.1) (ps.map (·.1)) → DQAll K H (kvs.map (·.2)) (ps.map (·.2)) → DQ K H (.ref a) (.dict ps)
  | exc {a : Addr} {C : Str} : exKB K (He.ga K C) = true → H a = some (ExV a (.ref (He.ga K C)) none) → DQ K H (.ref a) (.dict [(.none, .str C)])
  | excF {a dx : Addr} {C f : Str} {v : V} {x : PyData} : exKB K (He.ga K C) = true → H a = some (ExV a (.ref (He.ga K C)) (some dx)) → H dx = some (.xd [(f, v)]) → DQ K H v x → DQ K H (.ref a) (.dict [(.none, .str C), (.str f, x)])
  | ins {a dx : Addr} {C : Str} {fs : List (Str × V)} {ps : List (PyData × PyData)} : insKB K (He.ga K C) = true → H a = some (.ins (He.ga K C) dx fs) → ps.map (·.1) = fs.map (fun q => PyData.str q.1) → DQAll K H (fs.map (·.2)) (ps.map (·.2)) → DQ K H (.ref a) (.dict ((.none, .tuple [.str C]) :: ps))
inductive DQAll (K : PySem.W.Frag) (H : Hp) : List V → List PyData → Prop
  | nil : DQAll K H [] []
  | cons {v : V} {vs : List V} {d : PyData} {ds : List PyData} : DQ K H v d → DQAll K H vs ds → DQAll K H (v :: vs) (d :: ds)
end
section
variable {K : PySem.W.Frag} {H : Hp}
mutual
theorem DQ.dp : ∀ {v : V} {d : PyData}, DQ K H v d → d.hasDict = false → Dp K H v d
  | _, _, .non, _ => .non
  | _, _, .bl b, _ => .bl b
  | _, _, .int i, _ => .int i
  | _, _, .str x, _ => .str x
  | _, _, .lst h _ r, n => .lst h.sq (DQAll.dp r (by simpa only [PyData.hasDict] using n))
  | _, _, .tup h _ r, n => .tup h (DQAll.dp r (by simpa only [PyData.hasDict] using n))
  | _, _, .dct _ _ _, n => by simp only [PyData.hasDict] at n; cases n
  | _, _, .exc _ _, n => by simp only [PyData.hasDict] at n; cases n
  | _, _, .excF _ _ _ _, n => by simp only [PyData.hasDict] at n; cases n
  | _, _, .ins _ _ _ _, n => by simp only [PyData.hasDict] at n; cases n
theorem DQAll.dp : ∀ {vs : List V} {ds : List PyData}, DQAll K H vs ds → PyData.hasDictAll ds = false → DpAll K H vs ds
  | _, _, .nil, _ => .nil
  | _, _, .cons a r, n => by
    simp only [PyData.hasDictAll, Bool.or_eq_false_iff] at n
    exact .cons (DQ.dp a n.1) (DQAll.dp r n.2)
end
end
/-- ghost: what is frozen, where the store's objects stand -/
structure Cfg where
  G : Hp
  φ : List Addr
def Live : Ob → Prop
  | .lst _ => True
  | .frz _ => False
section
variable (K : PySem.W.Frag)
def RV (c : Cfg) : Vv → V → Prop
  | .d x, v => DQ K c.G v x
  | .ref n, v => ∃ a, c.φ[n]? = some a ∧ v = .ref a
def RObj (c : Cfg) (H : Hp) (a : Addr) : Ob → Prop
  | .lst xs => xs.length ≤ sizeLine ∧ ∃ vs, H a = some (.lst vs) ∧ DQAll K c.G vs xs
  | .frz xs => c.G a ≠ none ∧ DQ K c.G (.ref a) (.list xs)
structure Rel (c : Cfg) (H : Hp) (st : Sto) : Prop where
  sub : ∀ a o, c.G a = some o → H a = some o
  len : c.φ.length = st.length
  nd : c.φ.Nodup
  obj : ∀ (n : Nat) a o, c.φ[n]? = some a → st[n]? = some o → RObj K c H a o
  free : ∀ (n : Nat) a o, c.φ[n]? = some a → st[n]? = some o → Live o → c.G a = none
end
/-- from one state to a later one -/
structure Go (c : Cfg) (H : Hp) (c' : Cfg) (H' : Hp) : Prop where
  mono : ∀ a o, c.G a = some o → c'.G a = some o
  pre : ∃ l, c'.φ = c.φ ++ l
  keep : ∀ a o, H a = some o → a ∉ c.φ → H' a = some o
  gnew : ∀ a, c'.G a ≠ none → c.G a ≠ none ∨ H a = none ∨ a ∈ c.φ
  fnew : ∀ a, a ∈ c'.φ → a ∈ c.φ ∨ H a = none
theorem Go.refl {c : Cfg} {H : Hp} : Go c H c H := ⟨fun _ _ h => h, ⟨[], by simp⟩, fun _ _ h _ => h, fun _ h => .inl h, fun _ h => .inl h⟩
theorem Go.trans {c c1 c2 : Cfg} {H H1 H2 : Hp} (a : Go c H c1 H1) (b : Go c1 H1 c2 H2) : Go c H c2 H2 where
  mono := fun x o h => b.mono x o (a.mono x o h)
  pre := by
    obtain ⟨l, e⟩ := a.pre
    obtain ⟨l2, e2⟩ := b.pre
    exact ⟨l ++ l2, by rw [e2, e, List.append_assoc]⟩
  keep := fun x o h n => by
    have h1 := a.keep x o h n
    refine b.keep x o h1 fun m => ?_
    rcases a.fnew x m with z | z
    · exact n z
    · rw [h] at z; cases z
  gnew := fun x h => by
    rcases b.gnew x h with z | z | z
    · exact a.gnew x z
    · by_cases hx : x ∈ c.φ
      · exact .inr (.inr hx)
      · refine .inr (.inl ?_)
        cases q : H x with
        | none => rfl
        | some o => rw [a.keep x o q hx] at z; cases z
    · rcases a.fnew x z with z | z
      · exact .inr (.inr z)
      · exact .inr (.inl z)
  fnew := fun x h => by
    rcases b.fnew x h with z | z
    · exact a.fnew x z
    · by_cases hx : x ∈ c.φ
      · exact .inl hx
      · refine .inr ?_
        cases q : H x with
        | none => rfl
        | some o => rw [a.keep x o q hx] at z; cases z

section
variable {K : PySem.W.Frag}
theorem _root_.L2.Rd.mono' {H H' : Hp} (s : ∀ a o, H a = some o → H' a = some o) {a : Addr} {o : HO} (h : Rd H a o) : Rd H' a o := by
  rcases h with h | ⟨o, h⟩
  · exact .inl (s _ _ h)
  · exact .inr ⟨o, s _ _ h⟩
theorem RdL.mono' {H H' : Hp} (s : ∀ a o, H a = some o → H' a = some o) {a : Addr} {xs : List V} (h : RdL K H a xs) : RdL K H' a xs := by
  rcases h with h | h
  · exact .inl (h.mono' s)
  · exact .inr h
theorem _root_.L2.SqT.mono' {H H' : Hp} (s : ∀ a o, H a = some o → H' a = some o) {a : Addr} {xs : List V} (h : SqT K H a xs) : SqT K H' a xs := by
  rcases h with (h | ⟨o, h⟩) | h
  · exact .inl (.inl (s _ _ h))
  · exact .inl (.inr ⟨o, s _ _ h⟩)
  · exact .inr h
mutual
theorem dq_mono {H H' : Hp} (s : ∀ a o, H a = some o → H' a = some o) : ∀ {v : V} {d : PyData}, DQ K H v d → DQ K H' v d
  | _, _, .non => .non
  | _, _, .bl b => .bl b
  | _, _, .int i => .int i
  | _, _, .str x => .str x
  | _, _, .lst h z r => .lst (h.mono' s) z (dq_all_mono s r)
  | _, _, .tup h z r => .tup (h.mono' s) z (dq_all_mono s r)
  | _, _, .dct h r t => .dct (h.mono' s) (dq_all_mono s r) (dq_all_mono s t)
  | _, _, .exc k h => .exc k (s _ _ h)
  | _, _, .excF k h h2 r => .excF k (s _ _ h) (s _ _ h2) (dq_mono s r)
  | _, _, .ins k h e r => .ins k (s _ _ h) e (dq_all_mono s r)
theorem dq_all_mono {H H' : Hp} (s : ∀ a o, H a = some o → H' a = some o) : ∀ {vs : List V} {ds : List PyData}, DQAll K H vs ds → DQAll K H' vs ds
  | _, _, .nil => .nil
  | _, _, .cons a r => .cons (dq_mono s a) (dq_all_mono s r)
end
theorem DQAll.length' {H : Hp} : ∀ {vs : List V} {ds : List PyData}, DQAll K H vs ds → vs.length = ds.length
  | _, _, .nil => rfl
  | _, _, .cons _ r => congrArg (· + 1) (DQAll.length' r)
theorem DQAll.append {H : Hp} : ∀ {vs ws : List V} {ds es : List PyData}, DQAll K H vs ds → DQAll K H ws es → DQAll K H (vs ++ ws) (ds ++ es)
  | _, _, _, _, .nil, r => r
  | _, _, _, _, .cons a t, r => .cons a (DQAll.append t r)
theorem DQAll.get {H : Hp} : ∀ {vs : List V} {ds : List PyData}, DQAll K H vs ds → ∀ {i : Nat} {x : PyData}, ds[i]? = some x → ∃ v, vs[i]? = some v ∧ DQ K H v x
  | _, _, .nil, i, x, e => by simp at e
  | _, _, .cons a t, 0, x, e => by simp at e; subst e; exact ⟨_, rfl, a⟩
  | _, _, .cons a t, i + 1, x, e => by
    obtain ⟨v, h1, h2⟩ := DQAll.get t (i := i) (x := x) (by simpa using e)
    exact ⟨v, by simpa using h1, h2⟩
theorem DQAll.get' {H : Hp} : ∀ {vs : List V} {ds : List PyData}, DQAll K H vs ds → ∀ {i : Nat} {v : V}, vs[i]? = some v → ∃ x, ds[i]? = some x ∧ DQ K H v x
  | _, _, .nil, i, x, e => by simp at e
  | _, _, .cons a t, 0, x, e => by simp at e; subst e; exact ⟨_, rfl, a⟩
  | _, _, .cons a t, i + 1, x, e => by
    obtain ⟨v, h1, h2⟩ := DQAll.get' t (i := i) (v := x) (by simpa using e)
    exact ⟨v, by simpa using h1, h2⟩
theorem DQAll.set {H : Hp} {v : V} {x : PyData} (h : DQ K H v x) : ∀ {vs : List V} {ds : List PyData}, DQAll K H vs ds → ∀ (i : Nat), DQAll K H (vs.set i v) (ds.set i x)
  | _, _, .nil, _ => .nil
  | _, _, .cons a t, 0 => .cons h t
  | _, _, .cons a t, i + 1 => .cons a (DQAll.set h t i)
theorem DQAll.take {H : Hp} : ∀ {vs : List V} {ds : List PyData} (n : Nat), DQAll K H vs ds → DQAll K H (vs.take n) (ds.take n)
  | _, _, 0, _ => .nil
  | _, _, _ + 1, .nil => .nil
  | _, _, n + 1, .cons a t => .cons a (DQAll.take n t)
theorem DQAll.drop {H : Hp} : ∀ {vs : List V} {ds : List PyData} (n : Nat), DQAll K H vs ds → DQAll K H (vs.drop n) (ds.drop n)
  | _, _, 0, h => h
  | _, _, _ + 1, .nil => .nil
  | _, _, n + 1, .cons a t => DQAll.drop n t
theorem DQAll.reverse {H : Hp} {vs : List V} {ds : List PyData} (h : DQAll K H vs ds) : DQAll K H vs.reverse ds.reverse := by
  induction h using DQAll.rec (motive_1 := fun _ _ _ => True) with
  | non | bl | int | str | lst | tup | dct | exc | excF | ins => trivial
  | nil => exact .nil
  | cons a t _ ih =>
    rw [List.reverse_cons, List.reverse_cons]
    exact DQAll.append ih (.cons a .nil)

theorem RV.mono {c c' : Cfg} (s : ∀ a o, c.G a = some o → c'.G a = some o) (p : ∃ l, c'.φ = c.φ ++ l) : ∀ {x : Vv} {v : V}, RV K c x v → RV K c' x v
  | .d x, v, h => dq_mono s h
  | .ref n, v, ⟨a, e, q⟩ => by
    obtain ⟨l, el⟩ := p
    refine ⟨a, ?_, q⟩
    rw [el, List.getElem?_append_left]
    · exact e
    · exact (List.getElem?_eq_some_iff.mp e).1
theorem RV.go {c c' : Cfg} {H H' : Hp} (g : Go c H c' H') {x : Vv} {v : V} (h : RV K c x v) : RV K c' x v := h.mono g.mono g.pre

/-- the frame's slots -/
structure EnvR (K : PySem.W.Frag) (c : Cfg) (σ : St) (ρ : Env) : Prop where
  len : σ.length = ρ.length
  val : ∀ (i : Nat) x, ρ[i]? = some (some x) → ∃ v, σ[i]? = some (some v) ∧ RV K c x v
theorem EnvR.go {c c' : Cfg} {H H' : Hp} (g : Go c H c' H') {σ : St} {ρ : Env} (h : EnvR K c σ ρ) : EnvR K c' σ ρ :=
  ⟨h.len, fun i x e => let ⟨v, q, r⟩ := h.val i x e; ⟨v, q, r.go g⟩⟩
theorem EnvR.set {c : Cfg} {σ : St} {ρ : Env} (h : EnvR K c σ ρ) {x : Vv} {v : V} (r : RV K c x v) (i : Nat) : EnvR K c (σ.set i (some v)) (ρ.set i (some x)) := by
  refine ⟨by rw [List.length_set, List.length_set]; exact h.len, fun j y e => ?_⟩
  by_cases hj : i = j
  · subst hj
    by_cases hi : i < ρ.length
    · rw [List.getElem?_set_self hi] at e
      cases e
      exact ⟨v, List.getElem?_set_self (by rw [h.len]; exact hi), r⟩
    · rw [List.getElem?_eq_none (by rw [List.length_set]; omega)] at e
      cases e
  · rw [List.getElem?_set_ne hj] at e ⊢
    exact h.val j y e
end

/-! ### how the state grows -/
section
variable {K : PySem.W.Frag} {c : Cfg} {H : Hp} {st : Sto}
theorem Rel.obj' (r : Rel K c H st) {n : Nat} {a : Addr} {o : Ob} (h1 : c.φ[n]? = some a) (h2 : st[n]? = some o) : RObj K c H a o := r.obj n a o h1 h2
theorem RObj.mono {c c' : Cfg} {H H' : Hp} {a : Addr} {o : Ob} (s : ∀ a o, c.G a = some o → c'.G a = some o) (k : Live o → ∀ u, H a = some u → H' a = some u) (h : RObj K c H a o) : RObj K c' H' a o := by
  cases o with
  | lst xs =>
    obtain ⟨z, vs, e, r⟩ := h
    exact ⟨z, vs, k trivial _ e, dq_all_mono s r⟩
  | frz x =>
    refine ⟨?_, dq_mono s h.2⟩
    cases q : c.G a with
    | none => exact absurd q h.1
    | some o => rw [s a o q]; simp
theorem Rel.there (r : Rel K c H st) {n : Nat} {a : Addr} (h : c.φ[n]? = some a) : ∃ o, st[n]? = some o := by
  have := (List.getElem?_eq_some_iff.mp h).1
  rw [r.len] at this
  exact ⟨_, List.getElem?_eq_getElem this⟩
theorem Rel.addr (r : Rel K c H st) {n : Nat} {o : Ob} (h : st[n]? = some o) : ∃ a, c.φ[n]? = some a := by
  have := (List.getElem?_eq_some_iff.mp h).1
  rw [← r.len] at this
  exact ⟨_, List.getElem?_eq_getElem this⟩
theorem upd_sub {H : Hp} {p : Addr} {o : HO} (hp : H p = none) : ∀ a u, H a = some u → upd H p o a = some u := fun a u e => by rw [upd_ne (ne_of_none e hp)]; exact e
/-- every object of the store stands in the heap -/
def InH (c : Cfg) (H : Hp) (st : Sto) : Prop := ∀ (n : Nat) a o, c.φ[n]? = some a → st[n]? = some o → Live o → H a ≠ none
theorem Rel.inH (r : Rel K c H st) : InH c H st := fun n a o h1 h2 hl => by
  have q := r.obj n a o h1 h2
  cases o with
  | lst xs =>
    obtain ⟨_, vs, e, _⟩ := q
    rw [e]; simp
  | frz x => exact hl.elim
/-- a new immutable thing -/
theorem Rel.frozen (r : Rel K c H st) {p : Addr} {o : HO} (hp : H p = none) : Go c H ⟨upd c.G p o, c.φ⟩ (upd H p o) ∧ Rel K ⟨upd c.G p o, c.φ⟩ (upd H p o) st := by
  have hG : c.G p = none := by
    cases q : c.G p with
    | none => rfl
    | some u => rw [r.sub p u q] at hp; cases hp
  have m : ∀ a u, c.G a = Option.some u → upd c.G p o a = Option.some u := upd_sub hG
  refine ⟨⟨m, ⟨[], by simp⟩, fun a u e _ => upd_sub hp a u e, fun a h => ?_, fun a h => .inl h⟩, ⟨fun a u e => ?_, r.len, r.nd, fun n a ob h1 h2 => ?_, fun n a ob h1 h2 hl => ?_⟩⟩
  · by_cases e : a = p
    · rw [e]; exact .inr (.inl hp)
    · have h' : upd c.G p o a ≠ none := h
      rw [upd_ne e] at h'
      exact .inl h'
  · have e' : upd c.G p o a = Option.some u := e
    by_cases q : a = p
    · subst q
      rw [upd_same] at e' ⊢; exact e'
    · rw [upd_ne q] at e' ⊢
      exact r.sub a u e'
  · exact (r.obj n a ob h1 h2).mono m fun _ u e => upd_sub hp a u e
  · have q := r.free n a ob h1 h2 hl
    have ne : a ≠ p := fun e => by
      subst e
      exact r.inH n a ob h1 h2 hl hp
    show upd c.G p o a = none
    rw [upd_ne ne]; exact q
/-- a new object of the store -/
theorem Rel.alloc (r : Rel K c H st) {p : Addr} (hp : H p = none) {vs : List V} {xs : List PyData} (hz : xs.length ≤ sizeLine) (hr : DQAll K c.G vs xs) (hnp : p ∉ c.φ) :
    Go c H ⟨c.G, c.φ ++ [p]⟩ (upd H p (.lst vs)) ∧ Rel K ⟨c.G, c.φ ++ [p]⟩ (upd H p (.lst vs)) (st ++ [.lst xs]) := by
  have hG : c.G p = none := by
    cases q : c.G p with
    | none => rfl
    | some u => rw [r.sub p u q] at hp; cases hp
  refine ⟨⟨fun _ _ e => e, ⟨[p], rfl⟩, fun a u e _ => upd_sub hp a u e, fun a h => .inl h, fun a h => ?_⟩, ⟨fun a u e => upd_sub hp a u (r.sub a u e), by simp [r.len], ?_, fun n a ob h1 h2 => ?_, fun n a ob h1 h2 hl => ?_⟩⟩
  · rcases List.mem_append.mp h with z | z
    · exact .inl z
    · rw [List.mem_singleton.mp z]; exact .inr hp
  · exact List.nodup_append.mpr ⟨r.nd, by simp, fun a ha b hb => by rw [List.mem_singleton.mp hb]; rintro rfl; exact hnp ha⟩
  · by_cases hn : n < c.φ.length
    · rw [List.getElem?_append_left hn] at h1
      rw [List.getElem?_append_left (by rw [← r.len]; exact hn)] at h2
      exact (r.obj n a ob h1 h2).mono (c' := ⟨c.G, c.φ ++ [p]⟩) (fun _ _ e => e) fun _ u e => upd_sub hp a u e
    · rw [List.getElem?_append_right (by omega)] at h1
      rw [List.getElem?_append_right (by rw [← r.len]; omega)] at h2
      have e0 : n - c.φ.length = 0 := by
        cases q : n - c.φ.length with
        | zero => rfl
        | succ k => rw [q] at h1; simp at h1
      rw [e0] at h1
      rw [← r.len, e0] at h2
      simp at h1 h2
      subst h1 h2
      exact ⟨hz, vs, upd_same, hr⟩
  · by_cases hn : n < c.φ.length
    · rw [List.getElem?_append_left hn] at h1
      rw [List.getElem?_append_left (by rw [← r.len]; exact hn)] at h2
      exact r.free n a ob h1 h2 hl
    · rw [List.getElem?_append_right (by omega)] at h1
      have e0 : n - c.φ.length = 0 := by
        cases q : n - c.φ.length with
        | zero => rfl
        | succ k => rw [q] at h1; simp at h1
      rw [e0] at h1
      simp at h1
      subst h1
      exact hG
/-- an object of the store is changed -/
theorem Rel.write (r : Rel K c H st) {n : Nat} {a : Addr} {o : Ob} (h1 : c.φ[n]? = Option.some a) (h2 : st[n]? = Option.some o) (hl : Live o) {vs : List V} {xs : List PyData} (hz : xs.length ≤ sizeLine) (hr : DQAll K c.G vs xs) :
    Go c H c (upd H a (.lst vs)) ∧ Rel K c (upd H a (.lst vs)) (st.set n (.lst xs)) := by
  have hG := r.free n a o h1 h2 hl
  have ha : a ∈ c.φ := List.mem_of_getElem? h1
  refine ⟨⟨fun _ _ e => e, ⟨[], by simp⟩, fun b u e hb => by rw [upd_ne (by rintro rfl; exact hb ha)]; exact e, fun b h => .inl h, fun b h => .inl h⟩, ⟨fun b u e => ?_, by rw [List.length_set]; exact r.len, r.nd, fun m b ob h3 h4 => ?_, fun m b ob h3 h4 hl' => ?_⟩⟩
  · rw [upd_ne (by rintro rfl; rw [hG] at e; cases e)]
    exact r.sub b u e
  · by_cases hm : n = m
    · subst hm
      rw [h1] at h3; cases h3
      rw [List.getElem?_set_self (List.getElem?_eq_some_iff.mp h2).1] at h4
      cases h4
      exact ⟨hz, vs, upd_same, hr⟩
    · rw [List.getElem?_set_ne hm] at h4
      have hab : b ≠ a := by
        rintro rfl
        have i1 := (List.getElem?_eq_some_iff.mp h1)
        have i3 := (List.getElem?_eq_some_iff.mp h3)
        exact hm ((List.getElem_inj (h₀ := i1.1) (h₁ := i3.1) r.nd).mp (i1.2.trans i3.2.symm))
      exact (r.obj m b ob h3 h4).mono (fun _ _ e => e) fun _ u e => by rw [upd_ne hab]; exact e
  · by_cases hm : n = m
    · subst hm
      rw [h1] at h3; cases h3
      exact hG
    · rw [List.getElem?_set_ne hm] at h4
      exact r.free m b ob h3 h4 hl'
/-- an object of the store is frozen -/
theorem Rel.freeze (r : Rel K c H st) {n : Nat} {a : Addr} {xs : List PyData} (h1 : c.φ[n]? = Option.some a) (h2 : st[n]? = Option.some (.lst xs)) :
    ∃ c', Go c H c' H ∧ Rel K c' H (st.set n (.frz xs)) ∧ DQ K c'.G (.ref a) (.list xs) := by
  obtain ⟨hz, vs, e, hr⟩ := r.obj n a _ h1 h2
  have hG := r.free n a _ h1 h2 trivial
  have ha : a ∈ c.φ := List.mem_of_getElem? h1
  have m : ∀ b u, c.G b = Option.some u → upd c.G a (.lst vs) b = Option.some u := upd_sub hG
  have hd : DQ K (upd c.G a (.lst vs)) (.ref a) (.list xs) := .lst (RdL.of upd_same) hz (dq_all_mono m hr)
  refine ⟨⟨upd c.G a (.lst vs), c.φ⟩, ⟨m, ⟨[], by simp⟩, fun _ _ h _ => h, fun b h => ?_, fun b h => .inl h⟩, ⟨fun b u q => ?_, by rw [List.length_set]; exact r.len, r.nd, fun k b ob h3 h4 => ?_, fun k b ob h3 h4 hl => ?_⟩, hd⟩
  · by_cases q : b = a
    · rw [q]; exact .inr (.inr ha)
    · have h' : upd c.G a (.lst vs) b ≠ none := h
      rw [upd_ne q] at h'
      exact .inl h'
  · have q' : upd c.G a (.lst vs) b = Option.some u := q
    by_cases z : b = a
    · subst z
      rw [upd_same] at q'; cases q'; exact e
    · rw [upd_ne z] at q'
      exact r.sub b u q'
  · by_cases hm : n = k
    · subst hm
      rw [h1] at h3; cases h3
      rw [List.getElem?_set_self (List.getElem?_eq_some_iff.mp h2).1] at h4
      cases h4
      exact ⟨by show upd c.G a (.lst vs) a ≠ none; rw [upd_same]; simp, hd⟩
    · rw [List.getElem?_set_ne hm] at h4
      exact (r.obj k b ob h3 h4).mono m fun _ _ e => e
  · by_cases hm : n = k
    · subst hm
      rw [List.getElem?_set_self (List.getElem?_eq_some_iff.mp h2).1] at h4
      cases h4
      exact hl.elim
    · rw [List.getElem?_set_ne hm] at h4
      have hab : b ≠ a := by
        rintro rfl
        have i1 := (List.getElem?_eq_some_iff.mp h1)
        have i3 := (List.getElem?_eq_some_iff.mp h3)
        exact hm ((List.getElem_inj (h₀ := i1.1) (h₁ := i3.1) r.nd).mp (i1.2.trans i3.2.symm))
      show upd c.G a (.lst vs) b = none
      rw [upd_ne hab]
      exact r.free k b ob h3 h4 hl
theorem Rel.all_in (r : Rel K c H st) : ∀ a ∈ c.φ, H a ≠ none := fun a ha => by
  obtain ⟨n, hn, e⟩ := List.getElem_of_mem ha
  have h1 : c.φ[n]? = Option.some a := by rw [List.getElem?_eq_getElem hn, e]
  obtain ⟨o, h2⟩ := r.there h1
  have q := r.obj n a o h1 h2
  cases o with
  | lst xs =>
    obtain ⟨_, vs, e, _⟩ := q
    rw [e]; simp
  | frz xs =>
    cases e2 : c.G a with
    | none => exact absurd e2 q.1
    | some u => rw [r.sub _ _ e2]; simp
theorem Rel.out (r : Rel K c H st) {p : Addr} (hp : H p = none) : p ∉ c.φ := fun m => r.all_in p m hp
end
end L2.Q

set_option maxHeartbeats 1000000
/-! Q layer: what a display of data with dicts asks: of the dicts alone that they are not the table of modules. -/
namespace L2.Q
open PySem PySem.Spec PyProof.Rows
mutual
inductive RdN (h : Heap) : Value → PyData → Prop
  | non : RdN h .none .none
  | bl (b : Bool) : RdN h (.bool b) (.bool b)
  | int (i : Int) (t : Tok) : RdN h (.int i t) (.int i)
  | str (x : Str) (t : Tok) : RdN h (.str x t) (.str x)
  | lst {a : Addr} {o : Obj} {vs : Array Value} {n : Nat} {xs : List PyData} (e : h.get? a = some o) (ec : o.cls = .type "list") (ed : o.data = .seq vs n) (r : RdNs h vs.toList xs) : RdN h (.ref a) (.list xs)
  | tup {a : Addr} {o : Obj} {vs : Array Value} {n : Nat} {xs : List PyData} (e : h.get? a = some o) (ec : o.cls = .type "tuple") (ed : o.data = .seq vs n) (r : RdNs h vs.toList xs) : RdN h (.ref a) (.tuple xs)
  | dct {a : Addr} {o : Obj} {es : Array DictEntry} {n : Nat} {ps : List (PyData × PyData)} (e : h.get? a = some o) (ec : o.cls = .type "dict") (ed : o.data = .dict es n) (ns : (a == sysModules) = false) (rk : RdNs h (es.toList.map (·.key)) (ps.map (·.1)))
      (rv : RdNs h (es.toList.map (·.val)) (ps.map (·.2))) : RdN h (.ref a) (.dict ps)
inductive RdNs (h : Heap) : List Value → List PyData → Prop
  | nil : RdNs h [] []
  | cons {v : Value} {vs : List Value} {d : PyData} {ds : List PyData} (r : RdN h v d) (t : RdNs h vs ds) : RdNs h (v :: vs) (d :: ds)
end
section
variable {h : Heap}
mutual
theorem RdN.reads : ∀ {v : Value} {d : PyData}, RdN h v d → ∃ as, Reads h v d as
  | _, _, .non => ⟨_, .none⟩
  | _, _, .bl b => ⟨_, .bool b⟩
  | _, _, .int i t => ⟨_, .int i t⟩
  | _, _, .str x t => ⟨_, .str x t⟩
  | _, _, .lst e ec ed r => let ⟨_, q⟩ := RdNs.reads r; ⟨_, .list e ec ed q⟩
  | _, _, .tup e ec ed r => let ⟨_, q⟩ := RdNs.reads r; ⟨_, .tuple e ec ed q⟩
  | _, _, .dct e ec ed _ rk rv => let ⟨_, q⟩ := RdNs.reads rk; let ⟨_, q2⟩ := RdNs.reads rv; ⟨_, .dict e ec ed q q2⟩
theorem RdNs.reads : ∀ {vs : List Value} {ds : List PyData}, RdNs h vs ds → ∃ as, ReadsAll h vs ds as
  | _, _, .nil => ⟨_, .nil⟩
  | _, _, .cons r t => let ⟨_, q⟩ := RdN.reads r; let ⟨_, q2⟩ := RdNs.reads t; ⟨_, .cons q q2⟩
end
variable {P : Program} {w : World}
mutual
theorem RdN.disp : ∀ {v : Value} {d : PyData}, RdN h v d → d.showable = true → d.shown.length ≤ sizeLine → ∃ bs, ReadAtMost h d.depth bs ∧ ReprK P w bs h d.depth v d.shown
  | _, _, .non, _, _ => ReprK.of_reads .none rfl (fun z => nomatch z) (by decide)
  | _, _, .bl b, _, _ => ReprK.of_reads (.bool b) rfl (fun z => nomatch z) (by cases b <;> decide)
  | _, _, .int i t, g, z => ReprK.of_reads (.int i t) g (fun z => nomatch z) z
  | _, _, .str x t, g, z => ReprK.of_reads (.str x t) g (fun z => nomatch z) z
  | _, _, .lst (a := a) (vs := vs) (xs := xs) e ec ed r, g, z => by
    simp only [PyData.shown] at z
    simp only [PyData.showable] at g
    obtain ⟨bs, q, k⟩ := RdNs.disp r g fun t ht => Nat.le_trans (listText_mem_le ht) z
    obtain ⟨as, rr⟩ := RdN.reads (.lst e ec ed r)
    have no : a ∉ bs := not_mem_of_deeper rr (by simp only [PyData.depth]; omega) q
    refine ⟨a :: bs, .cons rr (by simp only [PyData.depth]; omega) q, ?_⟩
    simp only [PyData.depth, PyData.shown]
    obtain ⟨l⟩ := vs
    cases l with
    | nil =>
      obtain rfl : xs = [] := by cases (show RdNs h [] xs from r); rfl
      simp only [PyData.shownAll, listText_nil]
      exact .listEmpty e ec ed
    | cons x l => exact .list e ec ed no (by simpa using k.length_eq) fun i y e => k.item i y (by simpa using e)
  | _, _, .tup (a := a) (xs := xs) e ec ed r, g, z => by
    simp only [PyData.shown] at z
    simp only [PyData.showable] at g
    obtain ⟨bs, q, k⟩ := RdNs.disp r g fun t ht => Nat.le_trans (tupleText_mem_le ht) z
    obtain ⟨as, rr⟩ := RdN.reads (.tup e ec ed r)
    have no : a ∉ bs := not_mem_of_deeper rr (by simp only [PyData.depth]; omega) q
    refine ⟨a :: bs, .cons rr (by simp only [PyData.depth]; omega) q, ?_⟩
    simp only [PyData.depth, PyData.shown]
    exact .tuple e ec ed no k
  | _, _, .dct (a := a) (es := es) (ps := ps) e ec ed ns rk rv, g, z => by
    simp only [PyData.shown] at z
    simp only [PyData.showable] at g
    obtain ⟨g1, g2⟩ := PyData.showableKv_split ps g
    obtain ⟨b1, q1, k1⟩ := RdNs.disp rk g1 fun t ht => by
      obtain ⟨p, hp, l⟩ := PyData.shownKv_key_le ps t ht
      exact Nat.le_trans l (Nat.le_trans (dictText_mem_le hp) z)
    obtain ⟨b2, q2, k2⟩ := RdNs.disp rv g2 fun t ht => by
      obtain ⟨p, hp, l⟩ := PyData.shownKv_val_le ps t ht
      exact Nat.le_trans l (Nat.le_trans (dictText_mem_le hp) z)
    obtain ⟨as, rr⟩ := RdN.reads (.dct e ec ed ns rk rv)
    have q : ReadAtMost h (PyData.depthKv ps) (b1 ++ b2) := (q1.mono (PyData.depthAll_keys_le _)).append (q2.mono (PyData.depthAll_vals_le _))
    have no : a ∉ b1 ++ b2 := not_mem_of_deeper rr (by simp only [PyData.depth]; omega) q
    refine ⟨a :: (b1 ++ b2), .cons rr (by simp only [PyData.depth]; omega) q, ?_⟩
    simp only [PyData.depth, PyData.shown, PyData.shownKv_eq]
    exact .dict e ec ed ns no (.of_two es.toList _ _ (k1.more_le (fun b i => List.mem_append.mpr (.inl i)) (PyData.depthAll_keys_le _)) (k2.more_le (fun b i => List.mem_append.mpr (.inr i)) (PyData.depthAll_vals_le _)))
theorem RdNs.disp : ∀ {vs : List Value} {ds : List PyData}, RdNs h vs ds → PyData.showableAll ds = true → (∀ t ∈ PyData.shownAll ds, t.length ≤ sizeLine) → ∃ bs, ReadAtMost h (PyData.depthAll ds) bs ∧ ReprAllK P w bs h (PyData.depthAll ds) vs (PyData.shownAll ds)
  | _, _, .nil, _, _ => ReprAllK.of_readsAll .nil rfl (fun z => nomatch z) fun t i => nomatch i
  | _, _, .cons (d := d) (ds := ds) r t, g, z => by
    simp only [PyData.showableAll, Bool.and_eq_true] at g
    simp only [PyData.shownAll, List.forall_mem_cons] at z
    obtain ⟨b1, q1, k1⟩ := RdN.disp r g.1 z.1
    obtain ⟨b2, q2, k2⟩ := RdNs.disp t g.2 z.2
    simp only [PyData.depthAll, PyData.shownAll]
    exact ⟨b1 ++ b2, (q1.mono (Nat.le_max_left ..)).append (q2.mono (Nat.le_max_right ..)), .cons ((k1.more fun b i => List.mem_append.mpr (.inl i)).level_le (Nat.le_max_left ..)) (k2.more_le (fun b i => List.mem_append.mpr (.inr i)) (Nat.le_max_right ..))⟩
end
/-- repr of data that is a list, a tuple or a dict -/
theorem repr_of_rdn {A : Around} {E : Value → Shared → Prop} {s : Shared} {Q : Value → Shared → Prop} {a : Addr} {d : PyData} (r : RdN s.heap (.ref a) d) (g : d.showable = true) (z : d.shown.length ≤ sizeLine) (hg : A.guards = some []) (hu : A.units + (d.depth + 1) < cLine)
    (q : ∀ h' u tk, (∀ b o, s.heap.get? b = some o → h'.get? b = some o) → Q (.str d.shown u) { s with heap := h', toks := tk }) : wpAny (model P w) A (call (.builtin "repr") [.ref a]) Q E s := by
  have hk : ∀ b o, s.heap.get? b = some o → s.heap.get? b = some o := fun _ _ e => e
  cases r with
  | @lst _ o vs n xs e ec ed r =>
    have g' := g
    have z' := z
    simp only [PyData.shown] at z'
    simp only [PyData.showable] at g'
    obtain ⟨bs, b, k⟩ := RdNs.disp (P := P) (w := w) r g' fun t ht => Nat.le_trans (listText_mem_le ht) z'
    obtain ⟨as, rr⟩ := RdN.reads (.lst e ec ed r)
    have no : a ∉ bs := not_mem_of_deeper rr (by simp only [PyData.depth]; omega) b
    simp only [PyData.depth] at hu
    simp only [PyData.shown] at q
    refine call_repr_slot (T := "list") (idr := "list.__repr__") (by omega) ⟨o, e, ec⟩ F.slot_list_repr.toG ?_
    obtain ⟨l⟩ := vs
    cases l with
    | nil =>
      obtain rfl : xs = [] := by cases (show RdNs _ [] xs from r); rfl
      simp only [PyData.shownAll, listText_nil] at q
      exact call_list_repr_empty ⟨o, e, ec⟩ e ed ⟨_, _, rfl, q s.heap _ _ hk⟩
    | cons x l => exact call_list_reprK e ec ed no (by simpa using k.length_eq) (fun i y e => k.item i y (by simpa using e)) hg (fun b _ => Clear.nil b) (by show A.units + 1 + _ < cLine; omega) hk (fun h' u tk k => ⟨_, _, rfl, q h' u tk k⟩) z'
  | @tup _ o vs n xs e ec ed r =>
    have g' := g
    have z' := z
    simp only [PyData.shown] at z'
    simp only [PyData.showable] at g'
    obtain ⟨bs, b, k⟩ := RdNs.disp (P := P) (w := w) r g' fun t ht => Nat.le_trans (tupleText_mem_le ht) z'
    obtain ⟨as, rr⟩ := RdN.reads (.tup e ec ed r)
    have no : a ∉ bs := not_mem_of_deeper rr (by simp only [PyData.depth]; omega) b
    simp only [PyData.depth] at hu
    simp only [PyData.shown] at q
    refine call_repr_slot (T := "tuple") (idr := "tuple.__repr__") (by omega) ⟨o, e, ec⟩ F.slot_tuple_repr ?_
    exact call_tuple_reprK e ec ed no k hg (fun b _ => Clear.nil b) (by show A.units + 1 + _ < cLine; omega) hk (fun h' u tk k => ⟨_, _, rfl, q h' u tk k⟩) z'
  | @dct _ o es n ps e ec ed ns rk rv =>
    have g' := g
    have z' := z
    simp only [PyData.shown] at z'
    simp only [PyData.showable] at g'
    obtain ⟨g1, g2⟩ := PyData.showableKv_split ps g'
    obtain ⟨b1, q1, k1⟩ := RdNs.disp (P := P) (w := w) rk g1 fun t ht => by
      obtain ⟨p, hp, l⟩ := PyData.shownKv_key_le ps t ht
      exact Nat.le_trans l (Nat.le_trans (dictText_mem_le hp) z')
    obtain ⟨b2, q2, k2⟩ := RdNs.disp (P := P) (w := w) rv g2 fun t ht => by
      obtain ⟨p, hp, l⟩ := PyData.shownKv_val_le ps t ht
      exact Nat.le_trans l (Nat.le_trans (dictText_mem_le hp) z')
    obtain ⟨as, rr⟩ := RdN.reads (.dct e ec ed ns rk rv)
    have b : ReadAtMost s.heap (PyData.depthKv ps) (b1 ++ b2) := (q1.mono (PyData.depthAll_keys_le _)).append (q2.mono (PyData.depthAll_vals_le _))
    have no : a ∉ b1 ++ b2 := not_mem_of_deeper rr (by simp only [PyData.depth]; omega) b
    simp only [PyData.depth] at hu
    simp only [PyData.shown, PyData.shownKv_eq] at q
    refine call_repr_slot (T := "dict") (idr := "dict.__repr__") (by omega) ⟨o, e, ec⟩ F.slot_dict_repr ?_
    exact call_dict_reprK e ec ed ns no (.of_two es.toList _ _ (k1.more_le (fun b i => List.mem_append.mpr (.inl i)) (PyData.depthAll_keys_le _)) (k2.more_le (fun b i => List.mem_append.mpr (.inr i)) (PyData.depthAll_vals_le _))) hg (fun b _ => Clear.nil b)
      (by show A.units + 1 + _ < cLine; omega) hk (fun h' u tk k => ⟨_, _, rfl, q h' u tk k⟩) (by rw [← PyData.shownKv_eq]; exact z')
end
end L2.Q

set_option maxHeartbeats 1000000
/-! Q layer: t[::-1] of a tuple. -/
namespace L2.Q
open PySem PySem.Spec PyProof.Rows HT
section
variable {prog : Program} {w : World} {A : Around} {E : Value → Shared → Prop} {s : Shared}
theorem places_rev (n : Nat) : Builtin.Slice.slicePlaces ((n : Int) - 1) (-1) (-1) = n := by
  unfold Builtin.Slice.slicePlaces
  simp
  omega
theorem adjust_rev (n : Nat) : Builtin.Slice.sliceAdjust none none (-1) (n : Int) = ((n : Int) - 1, -1) := by
  unfold Builtin.Slice.sliceAdjust
  simp
theorem rev_applied {sl : Addr} {vs : Value} {n : Nat} {Q : Int × Int × Nat → Shared → Prop} (hs : s.heap.IsSliceOf sl .none .none vs) (pv : IsPart vs (some (-1))) (h : Q ((n : Int) - 1, -1, n) s) :
    wpAny (model prog w) A (Builtin.Slice.sliceApplied (.ref sl) (pure (n : Int))) Q E s := by
  obtain ⟨os, hos, hcs, hds⟩ := id hs
  unfold Builtin.Slice.sliceApplied Builtin.Slice.sliceFields
  refine wpAny_bind (wpAny_bind (wpAny_field hos hds (x := .none) rfl (wpAny_bind (wpAny_field hos hds (x := .none) rfl (wpAny_bind (wpAny_field hos hds (x := vs) rfl (wpAny_pure ?_)))))))
  refine wpAny_bind (slicePart_ pv ?_)
  show wpAny _ _ (if ((-1 : Int) == 0) = true then _ else _) _ _ s
  rw [if_neg (by decide)]
  refine wpAny_bind (slicePart_none (wpAny_bind (slicePart_none (wpAny_bind (wpAny_pure ?_)))))
  show wpAny _ _ (match Builtin.Slice.sliceAdjust none none (-1) (n : Int) with | (lo, hi) => pure (lo, (-1 : Int), Builtin.Slice.slicePlaces lo hi (-1))) _ _ s
  rw [adjust_rev n]
  show wpAny _ _ (pure ((n : Int) - 1, (-1 : Int), Builtin.Slice.slicePlaces ((n : Int) - 1) (-1) (-1))) _ _ s
  rw [places_rev]
  exact wpAny_pure h
theorem pick_rev (xs : Array Value) : ((List.range xs.size).filterMap fun (m : Nat) => xs[(((xs.size : Int) - 1) + (m : Int) * (-1)).toNat]?).toArray = xs.toList.reverse.toArray := by
  have e : (fun (m : Nat) => xs[(((xs.size : Int) - 1) + (m : Int) * (-1)).toNat]?) = (fun k => xs[k]?) ∘ fun m => xs.size - 1 - m := by
    funext m
    show _ = xs[xs.size - 1 - m]?
    congr 1
    omega
  rw [e, ← List.filterMap_map, PySem.W.krv_range, List.filterMap_reverse, PySem.W.krv_all]
theorem getItem_tuple_rev {t sl : Addr} {items : Array Value} {vs : Value} {Q : Value → Shared → Prop} (ht : IsTup s.heap t items) (hs : s.heap.IsSliceOf sl .none .none vs) (pv : IsPart vs (some (-1)))
    (h : Q (.ref s.heap.objs.size) { s with heap := s.heap.push { cls := .type "tuple", data := .seq items.toList.reverse.toArray } }) (hz : items.size ≤ sizeLine) : wpAny (model prog w) A (getItem (.ref t) (.ref sl)) Q E s := by
  have hk : sizeOk (.seq items.toList.reverse.toArray) := by
    show items.toList.reverse.toArray.size ≤ sizeLine
    rw [List.size_toArray, List.length_reverse, Array.length_toList]
    exact hz
  obtain ⟨os, hos, hcs, hds⟩ := id hs
  have hT : s.TypeIs (.ref sl) "slice" := ⟨os, hos, hcs⟩
  unfold getItem
  try with_reducible refine wpAny_holding ?_
  first | refine wpAny_bind (wpAny_pure ?_) | skip
  refine wpAny_bind (wpAny_sequenceKey ht.typeIs (by decide) ?_)
  refine wpAny_bind (wpAny_callSpecial?_slot (name := Str.ofString "__getitem__") ht.typeIs slot_tuple_getitem (wpAny_call_entry slot_tuple_getitem ht.typeIs entry_tuple_getitem ?_ (args_tuple_getitem _ _)))
  show wpAny _ _ (Builtin.Tuple.tupleItemsOf (.ref t) >>= _) _ _ s
  refine wpAny_bind (tupleItemsOf_ ht (wpAny_bind (wpAny_typeOf hT ?_)))
  rw [if_pos (by decide)]
  refine wpAny_bind (rev_applied hs pv ?_)
  have no : ¬ ((((items.size : Int) - 1) == 0 && (-1 : Int) == 1 && items.size == items.size) = true) := by simp
  show wpAny _ _ (if (((items.size : Int) - 1) == 0 && (-1 : Int) == 1 && items.size == items.size) = true then _ else _) _ _ s
  rw [if_neg no, pick_rev]
  first
    | exact wpAny_bind (m := Builtin.Tuple.tupleExact _) (wpAny_newObj_type (wpAny_pure ⟨_, rfl, wpAny_pure h⟩) hk)
    | exact wpAny_bind (m := Builtin.Tuple.tupleExact _) (wpAny_newObj_type (wpAny_bind (wpAny_pure (wpAny_pure ⟨_, rfl, wpAny_pure h⟩))) hk)
    | exact wpAny_bind (wpAny_bind (m := Builtin.Tuple.tupleExact _) (wpAny_newObj_type (wpAny_pure (wpAny_pure ⟨_, rfl, wpAny_pure h⟩)) hk))
    | exact wpAny_bind (wpAny_bind (m := Builtin.Tuple.tupleExact _) (wpAny_newObj_type (wpAny_pure ⟨_, rfl, wpAny_pure h⟩) hk))
end
/-- xs[::-1] of a list or a tuple -/
def tRev (K : PySem.W.Frag) (te : TE) : TE := fun σ H Q => te σ H fun x H1 => ∃ a xs, x = .ref a ∧ xs.length ≤ sizeLine ∧ ((SqL K H1 a xs ∧ ∀ p, H1 p = none → Q (.ref p) (upd H1 p (.lst xs.reverse))) ∨ (SqT K H1 a xs ∧ ∀ p, H1 p = none → Q (.ref p) (upd H1 p (.tup xs.reverse))))
section
variable {X : Cx} {W : WX}
theorem pe_rev {e : Expr} {te : TE} {k : Nat} {p1 p2 p3 pos : Pos} (he : PE X e te) : PE X (.Subscript e (.Slice none none (some (.UnaryOp .USub (.Constant (.int 1) k p1) p2)) p3) pos) (tRev X.K te) := by
  constructor
  intro pins s σ H Q I h
  refine Subscript_ (thn (he.run pins s σ H _ I h) fun v s1 ⟨x, H1, I1, r1, q1⟩ => ?_)
  obtain ⟨a, xs, rfl, hl, q⟩ := q1
  cases r1
  have hst : PO X (some (.UnaryOp .USub (.Constant (.int 1) k p1) p2)) (tPart (tUn (rU fun i => .int (-i)) (tC (.int 1)))) := po_some (pe_un un_neg pe_int)
  refine wpAny_Slice (thn (po_none.run pins s1 σ H1 (fun o H2 => o = none ∧ H2 = H1) I1 ⟨rfl, rfl⟩) fun vl s2 ⟨l, H2, I2, pl, el, e2⟩ => ?_)
  subst el e2
  refine thn (po_none.run pins s2 σ H2 (fun o H3 => o = none ∧ H3 = H2) I2 ⟨rfl, rfl⟩) fun vu s3 ⟨u, H3, I3, pu, eu, e3⟩ => ?_
  subst eu e3
  refine thn (hst.run pins s3 σ H3 (fun o H4 => o = some (-1) ∧ H4 = H3) I3 ⟨1, rfl, -1, rfl, rfl, rfl⟩) fun vs s4 ⟨o, H4, I4, ps, eo, e4⟩ => ?_
  subst eo e4
  have I5 : Inv X pins σ H4 { s4 with heap := s4.heap.push { cls := .type "slice", data := .fields #[vl, vu, vs] } } := I4.kept (t' := s4.toks) fun b ob q => Heap.get?_push_of_some _ q
  show wpAny (model X.prog X.w) X.A (subscriptTail e (.Slice none none (some (.UnaryOp .USub (.Constant (.int 1) k p1) p2)) p3) (.ref a) (.ref s4.heap.objs.size)) (EP X pins σ Q) X.xe { s4 with heap := s4.heap.push { cls := .type "slice", data := .fields #[vl, vu, vs] } }
  rcases q with ⟨hx, q⟩ | ⟨hx, q⟩
  · obtain ⟨its, r, ht, hz⟩ := I5.list hx
    refine tail_any (ops := [.ref a, .ref s4.heap.objs.size]) ht.isList.typeIs (PySem.slot_list_getitem.lookup) ?_ (by with_unfolding_all rfl)
    refine wpAny_getItem_list_slice ht.isList (Heap.IsSliceOf.new _ vl vu vs) pl pu ps (by decide) ?_ (by have := r.length; rw [List.size_toArray]; omega)
    rw [PySem.W.krv_pick]
    refine ⟨.ref _, _, I5.laid (t' := s4.toks) (o := .lst xs.reverse) (fun b ob q => Heap.get?_push_of_some _ q) (Nat.le_refl _) ?_, rfl, q _ (I5.hok.fresh (Nat.le_refl _))⟩
    exact ⟨by rw [List.length_reverse]; exact hz, _, 0, r.reverse, Heap.get?_push_size _ rfl⟩
  · obtain ⟨its, r, ht, _⟩ := I5.tuple hx
    have hlen := r.length
    cases pl
    cases pu
    refine tail_any (ops := [.ref a, .ref s4.heap.objs.size]) ht.typeIs (PyProof.Rows.slot_tuple_getitem.lookup) ?_ (by with_unfolding_all rfl)
    refine getItem_tuple_rev ht (Heap.IsSliceOf.new _ .none .none vs) ps ?_ (by rw [List.size_toArray]; omega)
    refine ⟨.ref _, _, I5.laid (t' := s4.toks) (o := .tup xs.reverse) (fun b ob q => Heap.get?_push_of_some _ q) (Nat.le_refl _) ?_, rfl, q _ (I5.hok.fresh (Nat.le_refl _))⟩
    exact ⟨by rw [List.length_reverse]; exact hl, _, r.reverse, IsTup.new _ _⟩
end
end L2.Q

set_option maxHeartbeats 2000000
/-! Q layer: enumerate of a tuple. -/
namespace L2.Q
open PySem PySem.Spec PyProof.Rows
section
variable {prog : Program} {w : World} {A : Around} {E : Value → Shared → Prop} {s : Shared}
theorem next_tup_item {it t : Addr} {i : Nat} {vs : Array Value} {x : Value} {Q : Value → Shared → Prop} (hi : s.heap.IsTupleIter it t i) (ht : s.heap.IsTuple t vs) (hx : vs[i]? = some x)
    (q : ∀ h', h'.IsTupleIter it t (i + 1) → Heap.SameBut it s.heap h' → Q x { s with heap := h' }) : wpAny (model prog w) A (Builtin.SmallTypes.nextOf (.ref it)) Q E s := by
  obtain ⟨o, g, gc, gd⟩ := id hi
  obtain ⟨u, gu, _, m, ud⟩ := ht
  unfold Builtin.SmallTypes.nextOf
  refine wpAny_bind (wpAny_callSpecial?_slot (name := Str.ofString "__next__") hi.typeIs F.slot_tuple_iterator_next (wpAny_call_entry F.slot_tuple_iterator_next hi.typeIs F.entry_tuple_iterator_next ?_ (F.args_tuple_iterator_next_1 _)))
  show wpAny _ _ (field (.ref it) 0 >>= _) _ _ s; refine wpAny_bind (wpAny_field g gd (x := .ref t) rfl ?_)
  show wpAny _ _ (if (Value.ref t == Value.none) = true then _ else _) _ _ s; rw [if_neg (show ¬ ((Value.ref t == Value.none) = true) from Bool.false_ne_true)]
  show wpAny _ _ (field (.ref it) 1 >>= _) _ _ s; refine wpAny_bind (wpAny_field g gd (x := .int i 0) rfl ?_)
  show wpAny _ _ (seqItems? (.ref t) >>= _) _ _ s; refine wpAny_bind (wpAny_seqItems gu ud ?_)
  simp only [Int.toNat_natCast, hx]
  refine wpAny_bind (wpAny_setField g gd (by simp) (wpAny_pure ⟨x, rfl, wpAny_pure (q _ ⟨_, Heap.get?_update_self _ g (Obj.isFreed_of_fields (Obj.data_mapFields gd _)), (Obj.cls_mapFields ..).trans gc, ?_⟩ (Heap.SameBut.update ..))⟩))
  rw [Obj.data_mapFields gd]; simp [rawInt]
theorem next_tup_end {it t : Addr} {i : Nat} {vs : Array Value} {Q : Value → Shared → Prop} (hh : A.handled = none) (hi : s.heap.IsTupleIter it t i) (ht : s.heap.IsTuple t vs) (hx : vs[i]? = none)
    (q : ∀ h' e, Heap.ExtBut it s.heap h' → (∃ o, h'.get? e = some o ∧ o.cls = .type "StopIteration") → E (.ref e) { s with heap := h' }) : wpAny (model prog w) A (Builtin.SmallTypes.nextOf (.ref it)) Q E s := by
  obtain ⟨o, g, gc, gd⟩ := id hi
  obtain ⟨u, gu, _, m, ud⟩ := ht
  unfold Builtin.SmallTypes.nextOf
  refine wpAny_bind (wpAny_callSpecial?_slot (name := Str.ofString "__next__") hi.typeIs F.slot_tuple_iterator_next (wpAny_call_entry F.slot_tuple_iterator_next hi.typeIs F.entry_tuple_iterator_next ?_ (F.args_tuple_iterator_next_1 _)))
  show wpAny _ _ (field (.ref it) 0 >>= _) _ _ s; refine wpAny_bind (wpAny_field g gd (x := .ref t) rfl ?_)
  show wpAny _ _ (if (Value.ref t == Value.none) = true then _ else _) _ _ s; rw [if_neg (show ¬ ((Value.ref t == Value.none) = true) from Bool.false_ne_true)]
  show wpAny _ _ (field (.ref it) 1 >>= _) _ _ s; refine wpAny_bind (wpAny_field g gd (x := .int i 0) rfl ?_)
  show wpAny _ _ (seqItems? (.ref t) >>= _) _ _ s; refine wpAny_bind (wpAny_seqItems gu ud ?_)
  simp only [Int.toNat_natCast, hx]
  refine wpAny_bind (wpAny_rule (wpAny_bind (wpAny_setField g gd (by simp) ?_)))
  show wpAny _ _ (newExc (.type "StopIteration") [] >>= _) _ _ _; refine wpAny_bind ?_
  simp only [newExc, newTuple]; refine wpAny_bind (wpAny_newObj_type ?_ (by size_fits))
  refine wpAny_bind (m := firstArgMember _ _) (wpAny_of_eq (a := Value.none) (by first | rfl | (simp only [firstArgMember]; rfl)) (wpAny_newObj_type ?_ (by size_fits)))
  simp only [raiseNew]; refine wpAny_bind (wpAny_handled ?_)
  first | rw [show A.in1.handled = none from hh] | rw [hh]
  exact wpAny_bind (wpAny_pure (wpAny_throw (q _ _ (((Heap.SameBut.update ..).extBut.push _).push _) ⟨_, Heap.get?_push_size _ rfl, rfl⟩)))
theorem new_enumT (t : Addr) (vs : Array Value) (n : Nat) (dct : Option Addr) (sl : Array (Option Value)) :
    Meets (Builtin.«enumerate.__new__» ⟨[.type "enumerate", .ref t], []⟩) (fun _ R s => s.heap.get? t = some { cls := .type "tuple", dict := dct, data := .seq vs n, slots := sl } ∧
      R (.ok (.ret (.ref (s.heap.push { cls := .type "tuple_iterator", data := .fields #[.ref t, .int 0 0] }).objs.size)))
        { s with heap := (s.heap.push { cls := .type "tuple_iterator", data := .fields #[.ref t, .int 0 0] }).push { cls := .type "enumerate", data := .fields #[.none, .bool false, .ref s.heap.objs.size, rawInt 0, .none, .none] } }) :=
  .of_wp fun prog w A R s h => by
    obtain ⟨hp, g, d, tk, os⟩ := s; obtain ⟨ht, h⟩ := h
    have sub := sub_enumerate
    have hT : Heap.IsTuple (Shared.heap ⟨hp, g, d, tk, os⟩) t vs := ⟨_, ht, rfl, n, rfl⟩
    wp_walk using AutoSeq1.wpAny_loadPart' ht
    refine wpAny_stack_any fun st => wpAny_pure ?_
    split
    · rename_i c _ _ _ _ _
      cases (c == Value.type "enumerate") <;>
      · wp_walk using AutoSeq1.wpAny_loadPart' ht, wpAny_pyIter_tuple hT
        exact ⟨_, rfl, h⟩
    · wp_walk using AutoSeq1.wpAny_loadPart' ht, wpAny_pyIter_tuple hT
      exact ⟨_, rfl, h⟩
theorem call_enumT {t : Addr} {vs : Array Value} {Q : Value → Shared → Prop} (hT : s.heap.IsTuple t vs)
    (q : ∀ h', IsEnum h' (s.heap.objs.size + 1) s.heap.objs.size 0 .none → h'.IsTupleIter s.heap.objs.size t 0 → (∀ b o, s.heap.get? b = some o → h'.get? b = some o) → Q (.ref (s.heap.objs.size + 1)) { s with heap := h' }) :
    wpAny (model prog w) A (call (.type "enumerate") [.ref t]) Q E s := by
  obtain ⟨⟨c, dct, dt, sl⟩, ht, hc, n, hd⟩ := hT
  dsimp only at hc hd
  subst hc hd
  refine callType_new F.called_enumerate (by decide) (F.typeCall_enumerate_1 _) (F.newCall_enumerate_1 _) (fun obj => F.args_object_init_2 obj _) F.entry_enumerate_new (new_enumT t vs n dct sl) ⟨ht, ?_⟩
  have z : (s.heap.push { cls := .type "tuple_iterator", data := .fields #[.ref t, .int 0 0] }).objs.size = s.heap.objs.size + 1 := Heap.size_push ..
  show _ ∧ _
  rw [z]
  have he : IsEnum ((s.heap.push { cls := .type "tuple_iterator", data := .fields #[.ref t, .int 0 0] }).push { cls := .type "enumerate", data := .fields #[.none, .bool false, .ref s.heap.objs.size, rawInt 0, .none, .none] }) (s.heap.objs.size + 1) s.heap.objs.size 0 .none := by
    have := Heap.get?_push_size (s.heap.push { cls := .type "tuple_iterator", data := .fields #[.ref t, .int 0 0] }) (o := { cls := .type "enumerate", data := .fields #[.none, .bool false, .ref s.heap.objs.size, rawInt 0, .none, .none] }) rfl
    rw [z] at this
    exact this
  exact ⟨⟨_, he, rfl⟩, q _ he ⟨_, Heap.get?_push_of_some _ (Heap.get?_push_size _ rfl), rfl, rfl⟩ fun b o x => Heap.get?_push_of_some _ (Heap.get?_push_of_some _ x)⟩
/-- what a tuple's iterator draws -/
theorem draws_tup {it t : Addr} {vs : Array Value} (hh : A.handled = none) (hne : it ≠ t) : Draws prog w A it [it, t] vs.size (fun i x => vs[i]? = some x) (fun i h => h.IsTupleIter it t i ∧ h.IsTuple t vs) where
  live := fun i h st => by obtain ⟨⟨o, e, _⟩, _⟩ := st; exact ⟨o, e⟩
  frame := fun i h h' st k => ⟨st.1.at fun o e => k it (by simp) o e, by obtain ⟨_, o, e, r⟩ := st; exact ⟨o, k t (by simp) o e, r⟩⟩
  item := fun i s Q E hi st q => by
    obtain ⟨a, b⟩ := st
    refine next_tup_item a b (Array.getElem?_eq_getElem hi) fun h' x y => ?_
    refine q _ h' s.toks (Array.getElem?_eq_getElem hi) ⟨x, ?_⟩ y
    obtain ⟨o, e, r⟩ := b
    exact ⟨o, (y.2 t (Ne.symm hne)).trans e, r⟩
  done := fun s Q E st q => next_tup_end hh st.1 st.2 (by simp) q
end
/-- a tuple's items with their places, each pair new -/
def IteT (K : PySem.W.Frag) (a : Addr) : It :=
  ⟨fun i H => ∃ (xs : List V) (x : V), SqT K H a xs ∧ xs[i]? = some x, fun i H v H' => ∃ T x, v = .ref T ∧ H T = none ∧ H' = upd H T (.tup [.int (i : Nat), x]) ∧ ∀ xs, SqT K H a xs → xs[i]? = some x, fun i H => ∃ xs : List V, SqT K H a xs ∧ xs.length ≤ i⟩
theorem turn_enumT {P : Program} {w : World} {K : PySem.W.Frag} {elts : List Expr} {kk : Nat} {tpos : Pos} (a e it : Addr) :
    Turn P w K (.Tuple elts kk tpos) (IteT K a) [e, it] e (fun i h => (∃ old, IsEnum h e it ((i : Nat) : Int) old) ∧ h.IsTupleIter it a i ∧ e ≠ it) where
  mem := List.mem_cons_self
  obj := fun i h st b hb => by
    obtain ⟨⟨old, he⟩, ⟨o, g, _, gd⟩, _⟩ := st
    rcases (by simpa using hb : b = e ∨ b = it) with rfl | rfl
    · exact ⟨_, he, fun v q => nomatch q⟩
    · exact ⟨o, g, fun v q => by rw [gd] at q; cases q⟩
  keep := fun i h h' st k => by
    obtain ⟨⟨old, he⟩, hi, hne⟩ := st
    exact ⟨⟨old, k e (by simp) _ he⟩, hi.at fun o q => k it (by simp) o q, hne⟩
  item := by
    intro X hP hw hK hc i pins s σ H E I hf st hg
    subst hP hw hK
    obtain ⟨⟨old, he⟩, hit, hne⟩ := st
    obtain ⟨xs, x, hq, hx⟩ := hg
    obtain ⟨its, rv, p, hz⟩ := I.tuple hq
    obtain ⟨u, hu, ru⟩ := rv.get hx
    have hT : s.heap.IsTuple a its.toArray := p
    have nae : e ≠ a := fun z => by
      obtain ⟨o, g, gc, _⟩ := hT
      rw [← z, he] at g
      cases g
      have h2 : (Value.type "enumerate" : Value) = .type "tuple" := gc
      injection h2 with h2
      exact absurd h2 (by decide)
    have nai : it ≠ a := fun z => by
      obtain ⟨o, g, gc, _⟩ := hT
      obtain ⟨o', g', gc', _⟩ := hit
      rw [← z, g'] at g
      cases g
      rw [gc'] at gc
      injection gc with gc
      exact absurd gc (by decide)
    have hel : e < s.heap.objs.size := Heap.lt_size he
    have hil : it < s.heap.objs.size := by obtain ⟨_, q, _⟩ := hit; exact Heap.lt_size q
    have hlt : i < its.toArray.size := by
      have := (List.getElem?_eq_some_iff.mp hu).1
      simpa using this
    refine wpAny_pyNext_enum_itemD (draws_tup (prog := X.prog) (w := X.w) (A := X.A.in1) (I.ok.hd hc) nai) he ⟨hit, hT⟩ hlt hne (by simp [hne, nae]) fun y h' tk hy ho st' hTp hsz hk => ?_
    have eu : y = u := by
      have : its.toArray[i]? = some u := by simpa using hu
      rw [this] at hy
      cases hy
      rfl
    subst eu
    refine ⟨_, rfl, wpAny_letOwnedTupleGo_enum (s := { s with heap := h', toks := tk + 1 }) ho fun h2 he' sb => ?_⟩
    have hT2 : h2.get? s.heap.objs.size = some { cls := .type "tuple", data := .seq #[.int i tk, y] } := (sb.2 _ (Nat.ne_of_gt hel)).trans hTp
    have new : ObjOk X.prog X.w (upd H s.heap.objs.size (.tup [.int (i : Nat), x])) h2 s.heap.objs.size (.tup [.int (i : Nat), x]) :=
      ⟨by show 2 ≤ sizeLine; decide, [.int i tk, y], .cons ⟨_, rfl⟩ (.cons ru .nil), ⟨_, hT2, rfl, _, rfl⟩⟩
    have I1 : Inv X pins σ (upd H s.heap.objs.size (.tup [.int (i : Nat), x])) { s with heap := h2, toks := tk + 1 } :=
      I.turnedNew (ch := [e, it]) (fun b ob hb q => (sb.2 b (fun z => hb (by simp [z]))).trans (hk b ob (fun z => hb (by simp [z])) (fun z => hb (by simp [z])) q)) hf (Nat.le_refl _) new
    refine ⟨.ref s.heap.objs.size, _, I1, rfl, ⟨_, x, rfl, I.hok.fresh (Nat.le_refl _), rfl, fun ys hy => by rw [I.tuple_inj hy hq]; exact hx⟩, ⟨⟨y, ?_⟩, st'.1.at fun o q => (sb.2 it (Ne.symm hne)).trans q, hne⟩, fun b hb => ?_⟩
    · rw [show ((i + 1 : Nat) : Int) = (i : Int) + 1 from by omega]
      exact he'
    · have hb' : b < s.heap.objs.size := by
        rcases (by simpa using hb : b = e ∨ b = it) with rfl | rfl
        · exact hel
        · exact hil
      rw [upd_ne (Nat.ne_of_lt hb')]
      exact (hf b hb).1
  done := by
    intro X hP hw hK hc i pins s σ H E I hf st hg
    subst hP hw hK
    obtain ⟨⟨old, he⟩, hit, hne⟩ := st
    obtain ⟨xs, hq, hx⟩ := hg
    obtain ⟨its, rv, p, hz⟩ := I.tuple hq
    obtain ⟨f0, f1, f2, f3, f4, f5⟩ := hf it (by simp)
    have hl := rv.length
    have hT : s.heap.IsTuple a its.toArray := p
    have hT' : s.TypeIs (.ref e) "enumerate" := ⟨_, he, rfl⟩
    unfold pyNext
    refine wpAny_bind (wpAny_attempt (wpAny_callSpecial?_slot (name := Str.ofString "__next__") hT' F.slot_enumerate_next (wpAny_call_entry F.slot_enumerate_next hT' F.entry_enumerate_next ?_ (F.args_enumerate_next_1 _))))
    show wpAny _ _ (field (.ref e) 2 >>= _) _ _ _; refine wpAny_bind (wpAny_field he rfl (x := .ref it) rfl ?_)
    refine wpAny_bind (next_tup_end (I.ok.hd hc) hit hT (by simp; omega) fun h' x eb ⟨o, ho, hc'⟩ => ?_)
    refine wpAny_bind (wpAny_isInstance (T := "StopIteration") (b := true) ⟨o, ho, hc'⟩ isSubtype_stop (wpAny_pure ?_))
    exact ⟨rfl, I.turned (t' := s.toks) (fun b o hb q => eb b o hb q) f0 f1 f3 f4 f5⟩
  self := fun A i s Q E st h => by
    obtain ⟨⟨_, he⟩, _⟩ := st
    exact wpAny_pyIter_enum he h
def iEnumT (K : PySem.W.Frag) (ta : TA) : TI := fun σ H R => ta σ H fun vs H1 => ∃ a xs, vs = [.ref a] ∧ ((SqL K H1 a xs ∧ R (Ite K a) H1) ∨ (SqT K H1 a xs ∧ R (IteT K a) H1))
theorem pi_enumT {X : Cx} {e : Expr} {ta : TA} {p pos tpos : Pos} {elts : List Expr} {kk : Nat} (hg : Gl X "enumerate") (hm : X.mg "enumerate" = none) (ha : PA X [e] ta) (hs : starEach [e] X.env = [(false, eval e X.env)] := by rfl) :
    PI X (.Tuple elts kk tpos) (.Call (.Name "enumerate" p) [e] [] pos) (iEnumT X.K ta) := by
  refine ⟨fun pins s σ H R I h => Call_ (ld_blt I hg hm boot_enumerate (PyProof.Rows.callWith_type1 (thn (ha.run pos pins s σ H _ I h) fun us s1 ⟨vs, H1, I1, r1, a, xs, ex, q1⟩ => ?_) hs rfl))⟩
  subst ex
  cases r1 with
  | cons r rr =>
    cases rr
    cases r
    have fp : ∀ h' : Heap, (∀ b o, s1.heap.get? b = some o → h'.get? b = some o) → ∀ b ∈ [s1.heap.objs.size + 1, s1.heap.objs.size], s1.heap.objs.size ≤ b := fun h' k b hb => by
      rcases (by simpa using hb : b = s1.heap.objs.size + 1 ∨ b = s1.heap.objs.size) with z | z
      · rw [z]; exact Nat.le_add_right _ _
      · rw [z]; exact Nat.le_refl _
    rcases q1 with ⟨hq, q⟩ | ⟨hq, q⟩
    · obtain ⟨its, rv, p', hz⟩ := I1.list hq
      refine call_enumerate_list p'.isList fun h' he hit hsz hk => wpAny_pyIter_enum he ?_
      exact ⟨s1.heap.objs.size + 1, [s1.heap.objs.size + 1, s1.heap.objs.size], _, _, H1, rfl, I1.kept (t' := s1.toks) hk, turn_enum a (s1.heap.objs.size + 1) s1.heap.objs.size, ⟨⟨.none, he⟩, hit, Nat.succ_ne_self _⟩,
        fun b hb => I1.fpOk (fp h' hk b hb) (I1.hok.fresh (fp h' hk b hb)), q⟩
    · obtain ⟨its, rv, p', hz⟩ := I1.tuple hq
      refine call_enumT (show s1.heap.IsTuple a its.toArray from p') fun h' he hit hk => wpAny_pyIter_enum he ?_
      exact ⟨s1.heap.objs.size + 1, [s1.heap.objs.size + 1, s1.heap.objs.size], _, _, H1, rfl, I1.kept (t' := s1.toks) hk, turn_enumT a (s1.heap.objs.size + 1) s1.heap.objs.size, ⟨⟨.none, he⟩, hit, Nat.succ_ne_self _⟩,
        fun b hb => I1.fpOk (fp h' hk b hb) (I1.hok.fresh (fp h' hk b hb)), q⟩
end L2.Q

set_option maxHeartbeats 1000000
/-! Q layer, part B: readings by results. -/
namespace L2.Q
open PySem PySem.Spec PyProof.Rows

/-- how an exception lies -/
def ExR (K : PySem.W.Frag) (mg : Str → Option Value) (c : Cfg) (H : Hp) (e : Exn) (cls : Value) (d : Option Addr) : Prop :=
  mg e.cls = some cls ∧ cls = .ref (He.ga K e.cls) ∧ exKB K (He.ga K e.cls) = true ∧ match e.fld with
    | none => d = none
    | some (f, x) => ∃ dx v, d = some dx ∧ c.G dx = some (.xd [(f, v)]) ∧ DQ K c.G v x
/-- a result, wished for -/
def Out {α : Type} (K : PySem.W.Frag) (mg : Str → Option Value) (c : Cfg) (H : Hp) (r : Res α) (Qo : α → Sto → Cfg → Hp → Prop) (Qe : Value → Option Addr → Hp → Prop) : Prop := match r with
  | .ok a st' => ∀ c' H', Go c H c' H' → Rel K c' H' st' → Qo a st' c' H'
  | .exc e st' => ∀ cls d c' H', Go c H c' H' → Rel K c' H' st' → ExR K mg c' H' e cls d → Qe cls d H'
  | .fail => False
section
variable {K : PySem.W.Frag} {mg : Str → Option Value} {c c1 : Cfg} {H H1 : Hp} {α β : Type} {r : Res α} {Qo Qo' : α → Sto → Cfg → Hp → Prop} {Qe : Value → Option Addr → Hp → Prop}
theorem Out.later (g : Go c H c1 H1) (h : Out K mg c H r Qo Qe) : Out K mg c1 H1 r Qo Qe := by
  cases r with
  | ok a st => exact fun c' H' g' r' => h c' H' (g.trans g') r'
  | exc e st => exact fun cls d c' H' g' r' x => h cls d c' H' (g.trans g') r' x
  | fail => exact h
theorem Out.mono (h : Out K mg c H r Qo Qe) (k : ∀ a st c' H', Go c H c' H' → Rel K c' H' st → Qo a st c' H' → Qo' a st c' H') : Out K mg c H r Qo' Qe := by
  cases r with
  | ok a st => exact fun c' H' g' r' => k a st c' H' g' r' (h c' H' g' r')
  | exc e st => exact h
  | fail => exact h
theorem Out.bind {k : α → Sto → Res β} {Qb : β → Sto → Cfg → Hp → Prop} (h : Out K mg c H (r.bind k) Qb Qe) : Out K mg c H r (fun a st1 c1 H1 => Out K mg c1 H1 (k a st1) Qb Qe) Qe := by
  cases r with
  | ok a st => exact fun c' H' g' r' => Out.later g' (show Out K mg c H (k a st) Qb Qe from h)
  | exc e st => exact h
  | fail => exact h
theorem Out.okI {a : α} {st : Sto} (h : Out K mg c H (.ok a st) Qo Qe) : ∀ c' H', Go c H c' H' → Rel K c' H' st → Qo a st c' H' := h
end

/-- a result of an optional value -/
def ofO (o : Option PyData) (st : Sto) : Res Vv := match o with
  | some x => .ok (.d x) st
  | none => .fail
abbrev EM := Env → Sto → Res Vv
abbrev LM := Env → Sto → Res (List Vv)
section
variable (X : Cx) (W : WX)
def tM (m : EM) : TE := fun σ H Q => ∃ c st ρ, EnvR X.K c σ ρ ∧ Rel X.K c H st ∧ Out X.K X.mg c H (m ρ st) (fun a _ c' H' => ∀ x, RV X.K c' a x → Q x H') fun cls d H' => W cls d σ H'
/-- a test: the value is a truth -/
def tT (m : EM) : TT := fun σ H Q => ∃ c st ρ, EnvR X.K c σ ρ ∧ Rel X.K c H st ∧ Out X.K X.mg c H (m ρ st) (fun a _ c' H' => ∃ b, a = .d (.bool b) ∧ Q b H') fun cls d H' => W cls d σ H'
def RVs (K : PySem.W.Frag) (c : Cfg) : List Vv → List V → Prop
  | [], vs => vs = []
  | a :: as, vs => ∃ v r, vs = v :: r ∧ RV K c a v ∧ RVs K c as r
def tL (m : LM) : TA := fun σ H Q => ∃ c st ρ, EnvR X.K c σ ρ ∧ Rel X.K c H st ∧ Out X.K X.mg c H (m ρ st) (fun as _ c' H' => ∀ xs, RVs X.K c' as xs → Q xs H') fun cls d H' => W cls d σ H'
end
section
variable {X : Cx} {W : WX}
theorem _root_.L2.PE.imp {e : Expr} {t t' : TE} (h : PE X e t) (k : ∀ σ H Q, t' σ H Q → t σ H Q) : PE X e t' := ⟨fun pins s σ H Q I q => h.run pins s σ H Q I (k σ H Q q)⟩
theorem _root_.L2.PT.imp {e : Expr} {t t' : TT} (h : PT X e t) (k : ∀ σ H Q, t' σ H Q → t σ H Q) : PT X e t' := ⟨fun pins s σ H Q I q => h.run pins s σ H Q I (k σ H Q q)⟩
theorem _root_.L2.PW.imp {e : Expr} {t t' : TT} (h : PW X e t) (k : ∀ σ H Q, t' σ H Q → t σ H Q) : PW X e t' := ⟨fun wh pins s σ H Q I q => h.run wh pins s σ H Q I (k σ H Q q)⟩
theorem _root_.L2.PA.imp {es : List Expr} {t t' : TA} (h : PA X es t) (k : ∀ σ H Q, t' σ H Q → t σ H Q) : PA X es t' := ⟨fun pos pins s σ H Q I q => h.run pos pins s σ H Q I (k σ H Q q)⟩
theorem _root_.L2.PS.imp {e : Stmt} {t t' : TS} (h : PS X e t) (k : ∀ D σ H, t' D σ H → t D σ H) : PS X e t' := ⟨fun pins s σ H D I q => h.run pins s σ H D I (k D σ H q)⟩
theorem _root_.L2.PSs.imp {e : List Stmt} {t t' : TS} (h : PSs X e t) (k : ∀ D σ H, t' D σ H → t D σ H) : PSs X e t' := ⟨fun pins s σ H D I q => h.run pins s σ H D I (k D σ H q)⟩
theorem RVs.go {K : PySem.W.Frag} {c c' : Cfg} {H H' : Hp} (g : Go c H c' H') : ∀ {as : List Vv} {vs : List V}, RVs K c as vs → RVs K c' as vs
  | [], _, h => h
  | _ :: _, _, ⟨v, r, e, a, t⟩ => ⟨v, r, e, a.go g, RVs.go g t⟩

/-! ### values and data -/
def deref : Vv → Sto → Option PyData
  | .d x, _ => some x
  | .ref n, st => match st[n]? with
    | some (.lst xs) => some (.list xs)
    | some (.frz xs) => some (.list xs)
    | none => none
/-- outside at the heap, inside frozen -/
def DV (K : PySem.W.Frag) (c : Cfg) (H : Hp) (x : V) : PyData → Prop
  | .list xs => ∃ a vs, x = .ref a ∧ RdL K H a vs ∧ xs.length ≤ sizeLine ∧ DQAll K c.G vs xs
  | d => DQ K c.G x d
theorem DV.of {K : PySem.W.Frag} {c : Cfg} {H : Hp} {st : Sto} {x : V} {d : PyData} (r : Rel K c H st) (h : DQ K c.G x d) : DV K c H x d := by
  cases d with
  | list xs =>
    cases h with
    | lst a z b => exact ⟨_, _, rfl, a.mono' r.sub, z, b⟩
  | _ => exact h
theorem deref_dv {K : PySem.W.Frag} {c : Cfg} {H : Hp} {st : Sto} {a : Vv} {x : V} {d : PyData} (r : Rel K c H st) (h : RV K c a x) (e : deref a st = some d) : DV K c H x d := by
  cases a with
  | d y => cases e; exact DV.of r h
  | ref n =>
    obtain ⟨p, e1, rfl⟩ := h
    have e' : (match st[n]? with
      | some (.lst xs) => some (PyData.list xs)
      | some (.frz xs) => some (PyData.list xs)
      | none => none) = some d := e
    cases q : st[n]? with
    | none => rw [q] at e'; cases e'
    | some o =>
      have ob := r.obj n p o e1 q
      rw [q] at e'
      cases o with
      | lst xs =>
        cases e'
        obtain ⟨z, vs, h1, h2⟩ := ob
        exact ⟨p, vs, rfl, RdL.of h1, z, h2⟩
      | frz y =>
        cases e'
        exact DV.of r ob.2
theorem DV.dp {K : PySem.W.Frag} {c : Cfg} {H : Hp} {st : Sto} {x : V} {d : PyData} (r : Rel K c H st) (h : DV K c H x d) : DQ K H x d := by
  cases d with
  | list xs =>
    obtain ⟨a, vs, rfl, h1, z, h2⟩ := h
    exact .lst h1 z (dq_all_mono r.sub h2)
  | _ => exact dq_mono r.sub h
theorem DV.go {K : PySem.W.Frag} {c : Cfg} {H : Hp} {c' : Cfg} {H' : Hp} {x : V} {d : PyData} (g : Go c H c' H') (hl : ∀ xs, d ≠ .list xs) (h : DV K c H x d) : DV K c' H' x d := by
  cases d with
  | list xs => exact absurd rfl (hl xs)
  | _ => exact dq_mono g.mono h

/-! ### names and constants -/
theorem se_var {i : Nat} {x : Str} {pos : Pos} (hN : X.N[i]? = some x) (hv : Vis X.env.scope x) (hd : (x == ("__debug__" : Str)) = false) (hcd : (x == ("__classdict__" : Str)) = false) :
    PE X (.Name x pos) (tM X W fun ρ st => match ρ[i]? with
      | some (some v) => .ok v st
      | _ => .fail) := (pe_var hN hv hd hcd).imp fun σ H Q ⟨c, st, ρ, en, rel, o⟩ => by
  cases q : ρ[i]? with
  | none => simp only [q] at o; exact o.elim
  | some u =>
    cases u with
    | none => simp only [q] at o; exact o.elim
    | some v =>
      simp only [q] at o
      obtain ⟨w, h1, h2⟩ := en.val i v q
      exact ⟨w, h1, o c H Go.refl rel w h2⟩
theorem se_const {e : Expr} {v : V} {d : PyData} (h : PE X e (tC v)) (hd : ∀ G, DQ X.K G v d) : PE X e (tM X W fun _ st => .ok (.d d) st) := h.imp fun σ H Q ⟨c, st, ρ, en, rel, o⟩ => o c H Go.refl rel v (hd _)
theorem se_int {i : Int} {j : Nat} {pos : Pos} : PE X (.Constant (.int i) j pos) (tM X W fun _ st => .ok (.d (.int i)) st) := se_const pe_int fun _ => .int i
theorem se_bl {i : Bool} {j : Nat} {pos : Pos} : PE X (.Constant (.bool i) j pos) (tM X W fun _ st => .ok (.d (.bool i)) st) := se_const pe_bl fun _ => .bl i
theorem se_non {j : Nat} {pos : Pos} : PE X (.Constant .none j pos) (tM X W fun _ st => .ok (.d .none) st) := se_const pe_non fun _ => .non
theorem se_str {x : Str} {j : Nat} {pos : Pos} : PE X (.Constant (.str x) j pos) (tM X W fun _ st => .ok (.d (.str x)) st) := se_const pe_str fun _ => .str x
theorem se_gint {x : Str} {i : Int} {pos : Pos} (hg : Gl X x) (hm : ∃ t, X.mg x = some (.int i t)) (hd : (x == ("__debug__" : Str)) = false) : PE X (.Name x pos) (tM X W fun _ st => .ok (.d (.int i)) st) :=
  let ⟨t, e⟩ := hm
  se_const (pe_glob (v := .int i) hg e ⟨t, rfl⟩ hd) fun _ => .int i
theorem se_gstr {x z : Str} {pos : Pos} (hg : Gl X x) (hm : ∃ t, X.mg x = some (.str z t)) (hd : (x == ("__debug__" : Str)) = false) : PE X (.Name x pos) (tM X W fun _ st => .ok (.d (.str z)) st) :=
  let ⟨t, e⟩ := hm
  se_const (pe_glob (v := .str z) hg e ⟨t, rfl⟩ hd) fun _ => .str z

/-! ### operations on data -/
def mBin (f : PyData → PyData → Option PyData) (ma mb : EM) : EM := fun ρ st => (ma ρ st).bind fun x st1 => (mb ρ st1).bind fun y st2 => match deref x st2, deref y st2 with
  | some d, some e => ofO (f d e) st2
  | _, _ => .fail
/-- what an operation on data asks -/
def rD (K : PySem.W.Frag) (f : PyData → PyData → Option PyData) : R2 := fun x y H Q => ∃ c st d e r, Rel K c H st ∧ DV K c H x d ∧ DV K c H y e ∧ f d e = some r ∧ ∀ z c' H', Go c H c' H' → Rel K c' H' st → DQ K c'.G z r → Q z H'
theorem tM_bin {f : PyData → PyData → Option PyData} {ma mb : EM} {σ : St} {H : Hp} {Q : VK} (h : tM X W (mBin f ma mb) σ H Q) : tOp (rD X.K f) (tM X W ma) (tM X W mb) σ H Q := by
  obtain ⟨c, st, ρ, en, rel, o⟩ := h
  refine ⟨c, st, ρ, en, rel, (Out.bind o).mono fun a st1 c1 H1 g1 r1 o1 x hx => ?_⟩
  refine ⟨c1, st1, ρ, en.go g1, r1, (Out.bind o1).mono fun b st2 c2 H2 g2 r2 o2 y hy => ?_⟩
  have hx2 := hx.go g2
  try dsimp only at o2
  cases q1 : deref a st2 with
  | none => simp only [q1] at o2; exact o2.elim
  | some d =>
    cases q2 : deref b st2 with
    | none => simp only [q1, q2] at o2; exact o2.elim
    | some e =>
      simp only [q1, q2] at o2
      cases q3 : f d e with
      | none => simp only [q3, ofO] at o2; exact o2.elim
      | some r =>
        simp only [q3, ofO] at o2
        exact ⟨c2, st2, d, e, r, r2, deref_dv r2 hx2 q1, deref_dv r2 hy q2, q3, fun z c' H' g' r' hz => o2 c' H' g' r' z hz⟩
theorem se_bin {op : Operator} {f : PyData → PyData → Option PyData} {a b : Expr} {ma mb : EM} {pos : Pos} (ho : OpR X (binaryOp op) (rD X.K f)) (ha : PE X a (tM X W ma)) (hb : PE X b (tM X W mb)) : PE X (.BinOp a op b pos) (tM X W (mBin f ma mb)) :=
  (pe_op ho ha hb).imp fun σ H Q h => tM_bin h
theorem se_cmp {op : CmpOp} {f : PyData → PyData → Option PyData} {a b : Expr} {ma mb : EM} {pos : Pos} (ho : OpR X (compareOp op) (rD X.K f)) (ha : PE X a (tM X W ma)) (hb : PE X b (tM X W mb)) (h1 : behindInMarks op b = false) : PE X (.Compare a [op] [b] pos) (tM X W (mBin f ma mb)) :=
  (pe_cmpR ho ha hb h1).imp fun σ H Q h => tM_bin h

/-! ### argument lists -/
def mNil : LM := fun _ st => .ok [] st
def mCons (m : EM) (ms : LM) : LM := fun ρ st => (m ρ st).bind fun x st1 => (ms ρ st1).bind fun xs st2 => .ok (x :: xs) st2
theorem sl_nil : PA X [] (tL X W mNil) := pa_nil.imp fun σ H Q ⟨c, st, ρ, en, rel, o⟩ => o c H Go.refl rel [] rfl
theorem sl_cons {e : Expr} {es : List Expr} {m : EM} {ms : LM} (ha : PE X e (tM X W m)) (hr : PA X es (tL X W ms)) (hs : starEach (e :: es) X.env = (false, eval e X.env) :: starEach es X.env) : PA X (e :: es) (tL X W (mCons m ms)) :=
  (pa_cons ha hr hs).imp fun σ H Q ⟨c, st, ρ, en, rel, o⟩ => by
    refine ⟨c, st, ρ, en, rel, (Out.bind o).mono fun a st1 c1 H1 g1 r1 o1 x hx => ?_⟩
    refine ⟨c1, st1, ρ, en.go g1, r1, (Out.bind o1).mono fun as st2 c2 H2 g2 r2 o2 xs hxs => ?_⟩
    exact o2 c2 H2 Go.refl r2 (x :: xs) ⟨x, xs, rfl, hx.go g2, hxs⟩

/-! ### calls of built-ins on data -/
def derefs : List Vv → Sto → Option (List PyData)
  | [], _ => some []
  | a :: as, st => match deref a st, derefs as st with
    | some d, some ds => some (d :: ds)
    | _, _ => none
def DVs (K : PySem.W.Frag) (c : Cfg) (H : Hp) : List V → List PyData → Prop
  | vs, [] => vs = []
  | vs, d :: ds => ∃ v r, vs = v :: r ∧ DV K c H v d ∧ DVs K c H r ds
theorem derefs_dv {K : PySem.W.Frag} {c : Cfg} {H : Hp} {st : Sto} (r : Rel K c H st) : ∀ {as : List Vv} {xs : List V} {ds : List PyData}, RVs K c as xs → derefs as st = some ds → DVs K c H xs ds
  | [], xs, ds, h, e => by
    cases e
    exact h
  | a :: as, xs, ds, h, e => by
    obtain ⟨v, t, rfl, h1, h2⟩ := h
    unfold derefs at e
    cases q1 : deref a st with
    | none => simp [q1] at e
    | some d =>
      cases q2 : derefs as st with
      | none => simp [q1, q2] at e
      | some es =>
        simp only [q1, q2, Option.some.injEq] at e
        subst e
        exact ⟨v, t, rfl, deref_dv r h1 q1, derefs_dv r h2 q2⟩
def mCall (f : List PyData → Option PyData) (ms : LM) : EM := fun ρ st => (ms ρ st).bind fun xs st1 => match derefs xs st1 with
  | some ds => ofO (f ds) st1
  | none => .fail
def rC (K : PySem.W.Frag) (f : List PyData → Option PyData) : List V → Hp → VK → Prop := fun xs H Q => ∃ c st ds r, Rel K c H st ∧ DVs K c H xs ds ∧ f ds = some r ∧ ∀ z c' H', Go c H c' H' → Rel K c' H' st → DQ K c'.G z r → Q z H'
theorem tM_call {f : List PyData → Option PyData} {ms : LM} {σ : St} {H : Hp} {Q : VK} (h : tM X W (mCall f ms) σ H Q) : tCB (rC X.K f) (tL X W ms) σ H Q := by
  obtain ⟨c, st, ρ, en, rel, o⟩ := h
  refine ⟨c, st, ρ, en, rel, (Out.bind o).mono fun as st1 c1 H1 g1 r1 o1 xs hx => ?_⟩
  try dsimp only at o1
  cases q1 : derefs as st1 with
  | none => simp only [q1] at o1; exact o1.elim
  | some ds =>
    simp only [q1] at o1
    cases q3 : f ds with
    | none => simp only [q3, ofO] at o1; exact o1.elim
    | some r =>
      simp only [q3, ofO] at o1
      exact ⟨c1, st1, ds, r, r1, derefs_dv r1 hx q1, q3, fun z c' H' g' r' hz => o1 c' H' g' r' z hz⟩

/-! ### and, or, not, if as values and tests -/
def mAnd (ma mb : EM) : EM := fun ρ st => (ma ρ st).bind fun x st1 => match x with
  | .d (.bool true) => mb ρ st1
  | .d (.bool false) => .ok (.d (.bool false)) st1
  | _ => .fail
def mOr (ma mb : EM) : EM := fun ρ st => (ma ρ st).bind fun x st1 => match x with
  | .d (.bool true) => .ok (.d (.bool true)) st1
  | .d (.bool false) => mb ρ st1
  | _ => .fail
def mNot (ma : EM) : EM := fun ρ st => (ma ρ st).bind fun x st1 => match x with
  | .d (.bool b) => .ok (.d (.bool (!b))) st1
  | _ => .fail
def mIf (mc ma mb : EM) : EM := fun ρ st => (mc ρ st).bind fun x st1 => match x with
  | .d (.bool true) => ma ρ st1
  | .d (.bool false) => mb ρ st1
  | _ => .fail
theorem dp_bool {K : PySem.W.Frag} {G : Hp} {b : Bool} {v : V} (h : DQ K G v (.bool b)) : v = .bl b := by cases h; rfl
theorem se_and {a b : Expr} {rest : List Expr} {ma mb : EM} {pos : Pos} (ha : PE X a (tM X W ma)) (hb : PE X (.BoolOp .And (b :: rest) pos) (tM X W mb)) : PE X (.BoolOp .And (a :: b :: rest) pos) (tM X W (mAnd ma mb)) :=
  (pe_and ha hb).imp fun σ H Q ⟨c, st, ρ, en, rel, o⟩ => by
    refine ⟨c, st, ρ, en, rel, (Out.bind o).mono fun a st1 c1 H1 g1 r1 o1 x hx => ?_⟩
    try dsimp only at o1
    split at o1
    · obtain rfl := dp_bool hx
      exact ⟨true, rfl, iteT (⟨c1, st1, ρ, en.go g1, r1, o1⟩)⟩
    · obtain rfl := dp_bool hx
      exact ⟨false, rfl, iteF (o1 c1 H1 Go.refl r1 _ (.bl false))⟩
    · exact o1.elim
theorem se_or {a b : Expr} {rest : List Expr} {ma mb : EM} {pos : Pos} (ha : PE X a (tM X W ma)) (hb : PE X (.BoolOp .Or (b :: rest) pos) (tM X W mb)) : PE X (.BoolOp .Or (a :: b :: rest) pos) (tM X W (mOr ma mb)) :=
  (pe_or ha hb).imp fun σ H Q ⟨c, st, ρ, en, rel, o⟩ => by
    refine ⟨c, st, ρ, en, rel, (Out.bind o).mono fun a st1 c1 H1 g1 r1 o1 x hx => ?_⟩
    try dsimp only at o1
    split at o1
    · obtain rfl := dp_bool hx
      exact ⟨true, rfl, iteT (o1 c1 H1 Go.refl r1 _ (.bl true))⟩
    · obtain rfl := dp_bool hx
      exact ⟨false, rfl, iteF (⟨c1, st1, ρ, en.go g1, r1, o1⟩)⟩
    · exact o1.elim
theorem se_not {a : Expr} {ma : EM} {pos : Pos} (ha : PE X a (tM X W ma)) : PE X (.UnaryOp .Not a pos) (tM X W (mNot ma)) :=
  (pe_not ha).imp fun σ H Q ⟨c, st, ρ, en, rel, o⟩ => by
    refine ⟨c, st, ρ, en, rel, (Out.bind o).mono fun a st1 c1 H1 g1 r1 o1 x hx => ?_⟩
    try dsimp only at o1
    split at o1
    · rename_i b
      obtain rfl := dp_bool hx
      exact ⟨b, rfl, o1 c1 H1 Go.refl r1 _ (.bl (!b))⟩
    · exact o1.elim
theorem se_if {k a b : Expr} {mc ma mb : EM} {pos : Pos} (hc : PT X k (tT X W mc)) (ha : PE X a (tM X W ma)) (hb : PE X b (tM X W mb)) : PE X (.IfExp k a b pos) (tM X W (mIf mc ma mb)) :=
  (pe_ifExp hc ha hb).imp fun σ H Q ⟨c, st, ρ, en, rel, o⟩ => by
    refine ⟨c, st, ρ, en, rel, (Out.bind o).mono fun a st1 c1 H1 g1 r1 o1 => ?_⟩
    try dsimp only at o1
    split at o1
    · exact ⟨true, rfl, iteT (⟨c1, st1, ρ, en.go g1, r1, o1⟩)⟩
    · exact ⟨false, rfl, iteF (⟨c1, st1, ρ, en.go g1, r1, o1⟩)⟩
    · exact o1.elim
/-- tests -/
theorem st_val {e : Expr} {m : EM} (h : PE X e (tM X W m)) (he : ∀ whole, isTrue e X.env whole = (do let v ← whole; standAt e.pos; holding [v] (truthy v))) : PT X e (tT X W m) :=
  (pt_val h he).imp fun σ H Q ⟨c, st, ρ, en, rel, o⟩ => by
    refine ⟨c, st, ρ, en, rel, o.mono fun a st1 c1 H1 g1 r1 o1 x hx => ?_⟩
    obtain ⟨b, rfl, q⟩ := o1
    obtain rfl := dp_bool hx
    exact ⟨b, rfl, q⟩
theorem st_and1 {a : Expr} {ma : EM} {pos : Pos} (ha : PT X a (tT X W ma)) : PW X (.BoolOp .And [a] pos) (tT X W ma) := pw_and1 ha
theorem st_or1 {a : Expr} {ma : EM} {pos : Pos} (ha : PT X a (tT X W ma)) : PW X (.BoolOp .Or [a] pos) (tT X W ma) := pw_or1 ha
theorem st_and {a b : Expr} {rest : List Expr} {ma mb : EM} {pos : Pos} (ha : PT X a (tT X W ma)) (hb : PW X (.BoolOp .And (b :: rest) pos) (tT X W mb)) : PW X (.BoolOp .And (a :: b :: rest) pos) (tT X W (mAnd ma mb)) :=
  (pw_and ha hb).imp fun σ H Q ⟨c, st, ρ, en, rel, o⟩ => by
    refine ⟨c, st, ρ, en, rel, (Out.bind o).mono fun a st1 c1 H1 g1 r1 o1 => ?_⟩
    try dsimp only at o1
    split at o1
    · exact ⟨true, rfl, iteT (⟨c1, st1, ρ, en.go g1, r1, o1⟩)⟩
    · refine ⟨false, rfl, iteF (by obtain ⟨b, e, q⟩ := o1 c1 H1 Go.refl r1; cases e; exact q)⟩
    · exact o1.elim
theorem st_or {a b : Expr} {rest : List Expr} {ma mb : EM} {pos : Pos} (ha : PT X a (tT X W ma)) (hb : PW X (.BoolOp .Or (b :: rest) pos) (tT X W mb)) : PW X (.BoolOp .Or (a :: b :: rest) pos) (tT X W (mOr ma mb)) :=
  (pw_or ha hb).imp fun σ H Q ⟨c, st, ρ, en, rel, o⟩ => by
    refine ⟨c, st, ρ, en, rel, (Out.bind o).mono fun a st1 c1 H1 g1 r1 o1 => ?_⟩
    try dsimp only at o1
    split at o1
    · refine ⟨true, rfl, iteT (by obtain ⟨b, e, q⟩ := o1 c1 H1 Go.refl r1; cases e; exact q)⟩
    · exact ⟨false, rfl, iteF (⟨c1, st1, ρ, en.go g1, r1, o1⟩)⟩
    · exact o1.elim
theorem st_not {a : Expr} {ma : EM} {pos : Pos} (ha : PT X a (tT X W ma)) : PT X (.UnaryOp .Not a pos) (tT X W (mNot ma)) :=
  (pt_not ha).imp fun σ H Q ⟨c, st, ρ, en, rel, o⟩ => by
    refine ⟨c, st, ρ, en, rel, (Out.bind o).mono fun a st1 c1 H1 g1 r1 o1 => ?_⟩
    try dsimp only at o1
    split at o1
    · rename_i b
      obtain ⟨b', e, q⟩ := o1 c1 H1 Go.refl r1
      cases e
      exact ⟨b, rfl, q⟩
    · exact o1.elim
end
end L2.Q

set_option maxHeartbeats 1000000
/-! Q layer, part C: operations on data. -/
namespace L2.Q
open PySem PySem.Spec PyProof.Rows

/-! ### what they give -/
def mulOk (i j : Int) : Bool := (decide (-(2 ^ 64) < i) && decide (i < 2 ^ 64)) || (decide (-(2 ^ 64) < j) && decide (j < 2 ^ 64))
def opAdd : PyData → PyData → Option PyData
  | .int i, .int j => some (.int (i + j))
  | .str x, .str y => if x.length + y.length ≤ sizeLine then some (.str (x ++ y)) else none
  | .tuple xs, .tuple ys => if xs.length + ys.length ≤ sizeLine then some (.tuple (xs ++ ys)) else none
  | .list xs, .list ys => if xs.length + ys.length ≤ sizeLine then some (.list (xs ++ ys)) else none
  | _, _ => none
def opSub : PyData → PyData → Option PyData
  | .int i, .int j => some (.int (i - j))
  | _, _ => none
def opMul : PyData → PyData → Option PyData
  | .int i, .int j => if mulOk i j = true then some (.int (i * j)) else none
  | .tuple xs, .int k => if xs ≠ [] ∧ 2 ≤ k ∧ k ≤ 1000 ∧ xs.length ≤ 1000 then some (.tuple (List.replicate k.toNat xs).flatten) else if k = 1 ∧ xs ≠ [] ∧ xs.length ≤ 1000 then some (.tuple xs) else if k = 11 ∧ xs = [] then some (.tuple []) else none
  | .list xs, .int k => if 0 ≤ k ∧ k ≤ 1000 ∧ xs.length ≤ 1000 then some (.list (List.replicate k.toNat xs).flatten) else none
  | _, _ => none
def opDiv : PyData → PyData → Option PyData
  | .int i, .int j => if 0 < j ∧ j < 1606938044258990275541962092341162602522202993782792835301376 then some (.int (i / j)) else none
  | _, _ => none
def opMod : PyData → PyData → Option PyData
  | .int i, .int j => if 0 < j then some (.int (i % j)) else none
  | _, _ => none
def opPow : PyData → PyData → Option PyData
  | .int i, .int j => if 0 ≤ j ∧ j ≤ 1000000 ∧ i.natAbs < 2 ^ 64 then some (.int (i ^ j.toNat)) else none
  | _, _ => none
def opBin : Operator → PyData → PyData → Option PyData
  | .Add => opAdd
  | .Sub => opSub
  | .Mult => opMul
  | .FloorDiv => opDiv
  | .Mod => opMod
  | .Pow => opPow
  | _ => fun _ _ => none
/-- == -/
def eqQ : PyData → PyData → Option Bool
  | .int i, .int j => some (i == j)
  | .str x, .str y => some (x == y)
  | .bool a, .bool b => some (a == b)
  | .tuple xs, .tuple [] => some xs.isEmpty
  | .list xs, .list [] => some xs.isEmpty
  | d, e => if SeqAt.shaped d = true ∧ SeqAt.shaped e = true then some (PyData.eqv d e) else none
def ltQ : PyData → PyData → Option Bool
  | .int i, .int j => some (decide (i < j))
  | _, _ => none
def leQ : PyData → PyData → Option Bool
  | .int i, .int j => some (decide (i ≤ j))
  | _, _ => none
def isN : PyData → Bool
  | .none => true
  | _ => false
def isNQ : PyData → PyData → Option Bool
  | d, .none => some (isN d)
  | .bool a, .bool b => some (a == b)
  | _, _ => none
def flatD : PyData → Bool
  | .none => true
  | .bool _ => true
  | .int _ => true
  | .str _ => true
  | _ => false
def inQ : PyData → PyData → Option Bool
  | d, .tuple ys => if flatD d = true ∧ ys.all flatD = true then some (ys.any fun z => PyData.eqv z d) else none
  | d, .list ys => if SeqAt.shaped d = true ∧ SeqAt.shaped (.list ys) = true then some (ys.any fun z => PyData.eqv z d) else none
  | .str x, .str y => some (!(Builtin.Str.occurrences y x 0 y.length 1).isEmpty)
  | _, _ => none
def bO (o : Option Bool) : Option PyData := o.map .bool
def nO (o : Option Bool) : Option PyData := o.map fun b => .bool (!b)
def opCmp : CmpOp → PyData → PyData → Option PyData
  | .Eq => fun d e => bO (eqQ d e)
  | .NotEq => fun d e => nO (eqQ d e)
  | .Lt => fun d e => bO (ltQ d e)
  | .LtE => fun d e => bO (leQ d e)
  | .Gt => fun d e => bO (ltQ e d)
  | .GtE => fun d e => bO (leQ e d)
  | .Is => fun d e => bO (isNQ d e)
  | .IsNot => fun d e => nO (isNQ d e)
  | .In => fun d e => bO (inQ d e)
  | .NotIn => fun d e => nO (inQ d e)

section
variable {K : PySem.W.Frag} {G : Hp} {v : V}
theorem dp_int {i : Int} (h : DQ K G v (.int i)) : v = .int i := by cases h; rfl
theorem dp_str {i : Str} (h : DQ K G v (.str i)) : v = .str i := by cases h; rfl
theorem dp_none (h : DQ K G v .none) : v = .non := by cases h; rfl
theorem dp_tup {ds : List PyData} (h : DQ K G v (.tuple ds)) : ∃ a vs, v = .ref a ∧ SqT K G a vs ∧ ds.length ≤ sizeLine ∧ DQAll K G vs ds := by
  cases h with
  | tup a z b => exact ⟨_, _, rfl, a, z, b⟩
end
section
variable {X : Cx}
/-- a new tuple, a new list -/
theorem new_tup {K : PySem.W.Frag} {c : Cfg} {H : Hp} {st : Sto} {vs : List V} {ds : List PyData} {Q : VK} (rel : Rel K c H st) (hz : ds.length ≤ sizeLine) (r : DQAll K c.G vs ds) (q : ∀ z c' H', Go c H c' H' → Rel K c' H' st → DQ K c'.G z (.tuple ds) → Q z H') :
    ∀ p, H p = none → Q (.ref p) (upd H p (.tup vs)) := fun p hp => by
  obtain ⟨g, r'⟩ := rel.frozen (o := .tup vs) hp
  exact q _ _ _ g r' (.tup (SqT.of upd_same) hz (dq_all_mono g.mono r))
theorem new_lst {K : PySem.W.Frag} {c : Cfg} {H : Hp} {st : Sto} {vs : List V} {ds : List PyData} {Q : VK} (rel : Rel K c H st) (hz : ds.length ≤ sizeLine) (r : DQAll K c.G vs ds) (q : ∀ z c' H', Go c H c' H' → Rel K c' H' st → DQ K c'.G z (.list ds) → Q z H') :
    ∀ p, H p = none → Q (.ref p) (upd H p (.lst vs)) := fun p hp => by
  obtain ⟨g, r'⟩ := rel.frozen (o := .lst vs) hp
  exact q _ _ _ g r' (.lst (RdL.of upd_same) hz (dq_all_mono g.mono r))
/-- list + list, read in any way -/
theorem op_catL : OpR X (binaryOp .Add) (fun x y H Q => ∃ l b xs zs, x = .ref l ∧ y = .ref b ∧ RdL X.K H l xs ∧ RdL X.K H b zs ∧ xs.length + zs.length ≤ sizeLine ∧ ∀ p, H p = none → Q (.ref p) (upd H p (.lst (xs ++ zs)))) := by
  intro pins s σ H x y v u Q I rx ry h
  obtain ⟨l, b, xs, zs, rfl, rfl, hH, hB, hz, q⟩ := h
  cases rx
  cases ry
  obtain ⟨z, its, n, r, e⟩ := hH.ok I
  obtain ⟨z2, its2, n2, r2, e2⟩ := hB.ok I
  have l1 := r.length
  have l2 := r2.length
  refine PySem.P.add_list e e2 ?_ (by rw [List.size_toArray, List.size_toArray]; omega)
  have ea : its.toArray ++ its2.toArray = (its ++ its2).toArray := by simp
  rw [ea]
  exact ⟨.ref _, _, I.lnew (t' := s.toks) (r.append r2) (by rw [List.length_append]; omega), rfl, q _ I.fresh⟩
/-- what a rule is given -/
theorem DV.int {K : PySem.W.Frag} {c : Cfg} {H : Hp} {x : V} {i : Int} (h : DV K c H x (.int i)) : x = .int i := dp_int h
theorem DV.str {K : PySem.W.Frag} {c : Cfg} {H : Hp} {x : V} {i : Str} (h : DV K c H x (.str i)) : x = .str i := dp_str h
theorem DV.bool {K : PySem.W.Frag} {c : Cfg} {H : Hp} {x : V} {i : Bool} (h : DV K c H x (.bool i)) : x = .bl i := dp_bool h
theorem DV.none {K : PySem.W.Frag} {c : Cfg} {H : Hp} {x : V} (h : DV K c H x .none) : x = .non := dp_none h
theorem DV.list {K : PySem.W.Frag} {c : Cfg} {H : Hp} {x : V} {xs : List PyData} (h : DV K c H x (.list xs)) : ∃ a vs, x = .ref a ∧ RdL K H a vs ∧ xs.length ≤ sizeLine ∧ DQAll K c.G vs xs := h
theorem DV.tup {K : PySem.W.Frag} {c : Cfg} {H : Hp} {st : Sto} {x : V} {xs : List PyData} (r : Rel K c H st) (h : DV K c H x (.tuple xs)) : ∃ a vs, x = .ref a ∧ SqT K H a vs ∧ SqT K c.G a vs ∧ xs.length ≤ sizeLine ∧ DQAll K c.G vs xs := by
  obtain ⟨a, vs, rfl, h1, z, h2⟩ := dp_tup h
  exact ⟨a, vs, rfl, h1.mono' r.sub, h1, z, h2⟩
theorem ok_add : OpR X (binaryOp .Add) (rD X.K opAdd) := by
  intro pins s σ H x y v u Q I rx ry ⟨c, st, d, e, r, rel, hx, hy, hf, q⟩
  unfold opAdd at hf
  split at hf
  · cases hf
    obtain rfl := hx.int
    obtain rfl := hy.int
    exact op_add pins s σ H _ _ v u Q I rx ry ⟨_, _, rfl, rfl, q _ c H Go.refl rel (.int _)⟩
  · split at hf
    · cases hf
      obtain rfl := hx.str
      obtain rfl := hy.str
      exact op_add_str pins s σ H _ _ v u Q I rx ry ⟨_, _, rfl, rfl, by assumption, q _ c H Go.refl rel (.str _)⟩
    · cases hf
  · split at hf
    · cases hf
      obtain ⟨a, vs, rfl, h1, h1', z1, h2⟩ := hx.tup rel
      obtain ⟨b, ws, rfl, h3, h3', z2, h4⟩ := hy.tup rel
      rename_i xs ys hz
      have l1 := h2.length'
      have l2 := h4.length'
      refine op_catA pins s σ H _ _ v u Q I rx ry ⟨a, b, vs, ws, rfl, rfl, h1, h3, by omega, fun e => ?_, fun e e' => ?_, fun e e' => ?_⟩
      · subst e
        cases h2
        exact q _ c H Go.refl rel (.tup h3' z2 h4)
      · subst e'
        cases h4
        rw [List.append_nil] at q
        exact q _ c H Go.refl rel (.tup h1' z1 h2)
      · exact new_tup rel (by rw [List.length_append]; exact hz) (h2.append h4) q
    · cases hf
  · split at hf
    · cases hf
      obtain ⟨a, vs, rfl, h1, z1, h2⟩ := hx.list
      obtain ⟨b, ws, rfl, h3, z2, h4⟩ := hy.list
      rename_i xs ys hz
      have l1 := h2.length'
      have l2 := h4.length'
      exact op_catL pins s σ H _ _ v u Q I rx ry ⟨a, b, vs, ws, rfl, rfl, h1, h3, by omega, new_lst rel (by rw [List.length_append]; exact hz) (h2.append h4) q⟩
    · cases hf
  · cases hf
theorem ok_sub : OpR X (binaryOp .Sub) (rD X.K opSub) := by
  intro pins s σ H x y v u Q I rx ry ⟨c, st, d, e, r, rel, hx, hy, hf, q⟩
  unfold opSub at hf
  split at hf
  · cases hf
    obtain rfl := hx.int
    obtain rfl := hy.int
    exact op_sub pins s σ H _ _ v u Q I rx ry ⟨_, _, rfl, rfl, q _ c H Go.refl rel (.int _)⟩
  · cases hf
theorem flat_len {α : Type} (xs : List α) : ∀ n : Nat, (List.replicate n xs).flatten.length = n * xs.length
  | 0 => by simp
  | n + 1 => by
    rw [List.replicate_succ, List.flatten_cons, List.length_append, flat_len xs n, Nat.succ_mul, Nat.add_comm]
theorem rep_all {K : PySem.W.Frag} {G : Hp} {vs : List V} {ds : List PyData} (h : DQAll K G vs ds) : ∀ n : Nat, DQAll K G (List.replicate n vs).flatten (List.replicate n ds).flatten
  | 0 => .nil
  | n + 1 => by
    rw [List.replicate_succ, List.flatten_cons, List.replicate_succ, List.flatten_cons]
    exact h.append (rep_all h n)
/-- a list that is tracked or known, so many times -/
theorem op_repR : OpR X (binaryOp .Mult) (fun x y H Q => ∃ l k xs, x = .ref l ∧ y = .int k ∧ RdL X.K H l xs ∧ 0 ≤ k ∧ k ≤ 1000 ∧ xs.length ≤ 1000 ∧ ∀ p, H p = none → Q (.ref p) (upd H p (.lst (List.replicate k.toNat xs).flatten))) := by
  intro pins s σ H x y v u Q I rx ry ⟨l, k, xs, ex, ey, hH, h1, h2, hz, q⟩
  subst ex ey
  cases rx
  obtain ⟨t, rfl⟩ := ry
  obtain ⟨z, its, n, r, e⟩ := hH.ok I
  have hl := r.length
  have hb : its.toArray.size * k.toNat ≤ 1000000 := by
    rw [List.size_toArray, ← hl]
    exact Nat.mul_le_mul hz (by omega : k.toNat ≤ 1000)
  have line := sizeLine_eq
  have c1 : ¬ its.toArray.size * k.toNat > (2 ^ 63 - 1) / 8 := by omega
  have c2 : ¬ (!Builtin.List.listFitsIndex k) = true := by
    rw [fitsIndex_both (by omega) (by omega)]
    exact Bool.false_ne_true
  have c3 : ¬ Builtin.List.listTooLong (its.toArray.size * k.toNat) = true := by
    rw [notLongL (by omega)]
    exact Bool.false_ne_true
  have made : List.foldl (fun x1 x2 => x1 ++ x2) #[] (List.replicate (if its.toArray.isEmpty = true then 0 else k.toNat) its.toArray) = (List.replicate k.toNat its).flatten.toArray := by
    have each : ∀ m : Nat, List.foldl (fun x1 x2 => x1 ++ x2) #[] (List.replicate m its.toArray) = (List.replicate m its).flatten.toArray := fun m => by
      have w := foldl_rep its m []
      rw [List.nil_append] at w
      exact w
    rw [each]
    cases its with
    | nil => simp
    | cons a r' => rw [if_neg (by simp)]
  refine wpAny_binaryOp_repeat_ref (T := "list") (U := "int") (by decide) ⟨_, e, rfl⟩ (fun s' => typeIs_int s' k t) noFill_list_mul F.fills_int_mul F.slot_int_rmul repeat_list
    F.slot_int_index.lookup (call_meets F.slot_int_rmul (typeIs_int s k t) F.entry_int_rmul (F.args_int_rmul_2 _ _)
      (int___rmul___int_list k t l its.toArray n) ⟨e, rfl, ⟨_, e, rfl⟩,
        call_meets F.slot_list_mul ⟨_, e, rfl⟩ F.entry_list_mul (F.args_list_mul_2 _ _) (AutoListH.list___mul___list_int_3 l its.toArray n k t c2 c1 c3)
          ⟨e, ?_⟩⟩)
  rw [made]
  refine ⟨.ref _, _, I.lnew (t' := s.toks) (r.rep k.toNat) ?_, rfl, q _ I.fresh⟩
  rw [flat_len]
  have : k.toNat * xs.length ≤ 1000 * 1000 := Nat.mul_le_mul (by omega) hz
  omega
theorem once_meets (l : Addr) (items : Array Value) (n : Nat) (dd : Option Addr) (sl : Array (Option Value)) (u : Tok) :
    Meets (Builtin.«tuple.__mul__» ⟨[.ref l, .int 1 u], []⟩) (fun _ R s => s.heap.get? l = some { cls := .type "tuple", dict := dd, data := .seq items n, slots := sl } ∧ R (.ok (.ret (Value.ref l))) s) :=
  .of_wp fun prog w A R s h => by
    obtain ⟨hp, g, d, tk, os⟩ := s
    obtain ⟨hl, h⟩ := h
    have f1 := AutoSeq1.idx_int
    wp_walk using wpAny_loadPart' hl
    exact ⟨_, rfl, h⟩
theorem op_rep1 : OpR X (binaryOp .Mult) (fun x y H Q => ∃ l xs, x = .ref l ∧ y = .int 1 ∧ SqT X.K H l xs ∧ Q (.ref l) H) := by
  intro pins s σ H x y v u Q I rx ry ⟨l, xs, ex, ey, hT, q⟩
  subst ex ey
  cases rx
  obtain ⟨t, rfl⟩ := ry
  obtain ⟨its, r, ⟨⟨cls, dd, data, sl⟩, ho, hc, n, hd⟩, hs⟩ := I.tuple hT
  simp only at hc hd
  subst hc hd
  exact wpAny_binaryOp_repeat_ref (T := "tuple") (U := "int") (by decide) ⟨_, ho, rfl⟩ (fun s' => typeIs_int s' 1 t) noFill_tuple_mul F.fills_int_mul F.slot_int_rmul repeat_tuple
    F.slot_int_index.lookup (call_meets F.slot_int_rmul (typeIs_int s 1 t) F.entry_int_rmul (F.args_int_rmul_2 _ _)
      (int_rmul_tuple 1 t l its.toArray n dd sl) ⟨ho, rfl, ⟨_, ho, rfl⟩,
        call_meets F.slot_tuple_mul ⟨_, ho, rfl⟩ F.entry_tuple_mul (F.args_tuple_mul_2 _ _) (once_meets l its.toArray n dd sl t)
          ⟨ho, .ref l, H, I, rfl, q⟩⟩)
theorem none_meets (l : Addr) (n : Nat) (dd : Option Addr) (sl : Array (Option Value)) (u : Tok) :
    Meets (Builtin.«tuple.__mul__» ⟨[.ref l, .int 11 u], []⟩) (fun _ R s => s.heap.get? l = some { cls := .type "tuple", dict := dd, data := .seq #[] n, slots := sl } ∧ R (.ok (.ret (Value.ref l))) s) :=
  .of_wp fun prog w A R s h => by
    obtain ⟨hp, g, d, tk, os⟩ := s
    obtain ⟨hl, h⟩ := h
    have f1 := AutoSeq1.idx_int
    wp_walk using wpAny_loadPart' hl
    exact ⟨_, rfl, h⟩
theorem op_rep0 : OpR X (binaryOp .Mult) (fun x y H Q => ∃ l, x = .ref l ∧ y = .int 11 ∧ SqT X.K H l [] ∧ Q (.ref l) H) := by
  intro pins s σ H x y v u Q I rx ry ⟨l, ex, ey, hT, q⟩
  subst ex ey
  cases rx
  obtain ⟨t, rfl⟩ := ry
  obtain ⟨its, r, ⟨⟨cls, dd, data, sl⟩, ho, hc, n, hd⟩, hs⟩ := I.tuple hT
  simp only at hc hd
  subst hc hd
  cases r
  exact wpAny_binaryOp_repeat_ref (T := "tuple") (U := "int") (by decide) ⟨_, ho, rfl⟩ (fun s' => typeIs_int s' 11 t) noFill_tuple_mul F.fills_int_mul F.slot_int_rmul repeat_tuple
    F.slot_int_index.lookup (call_meets F.slot_int_rmul (typeIs_int s 11 t) F.entry_int_rmul (F.args_int_rmul_2 _ _)
      (int_rmul_tuple 11 t l #[] n dd sl) ⟨ho, rfl, ⟨_, ho, rfl⟩,
        call_meets F.slot_tuple_mul ⟨_, ho, rfl⟩ F.entry_tuple_mul (F.args_tuple_mul_2 _ _) (none_meets l n dd sl t)
          ⟨ho, .ref l, H, I, rfl, q⟩⟩)
theorem ok_mul : OpR X (binaryOp .Mult) (rD X.K opMul) := by
  intro pins s σ H x y v u Q I rx ry ⟨c, st, d, e, r, rel, hx, hy, hf, q⟩
  unfold opMul at hf
  split at hf
  · split at hf
    · cases hf
      obtain rfl := hx.int
      obtain rfl := hy.int
      rename_i hm
      unfold mulOk at hm
      simp only [Bool.or_eq_true, Bool.and_eq_true, decide_eq_true_eq] at hm
      exact op_mul pins s σ H _ _ v u Q I rx ry ⟨_, _, rfl, rfl, hm, q _ c H Go.refl rel (.int _)⟩
    · cases hf
  · split at hf
    · rename_i xs k hk
      obtain ⟨hk1, hk2, hk3, hk4⟩ := hk
      simp only [Option.some.injEq] at hf
      subst hf
      obtain rfl := hy.int
      obtain ⟨a, vs, rfl, h1, h1', z1, h2⟩ := hx.tup rel
      have hl := h2.length'
      refine op_repT pins s σ H _ _ v u Q I rx ry ⟨a, k, vs, rfl, rfl, h1, fun e => hk1 ?_, hk2, hk3, by omega, new_tup rel ?_ (rep_all h2 k.toNat) q⟩
      · subst e
        cases h2
        rfl
      · rw [flat_len, sizeLine_eq]
        have : k.toNat * xs.length ≤ 1000 * 1000 := Nat.mul_le_mul (by omega) hk4
        omega
    · split at hf
      · rename_i hk
        obtain ⟨rfl, hk2, hk3⟩ := hk
        simp only [Option.some.injEq] at hf
        subst hf
        obtain rfl := hy.int
        obtain ⟨a, vs, rfl, h1, h1', z1, h2⟩ := hx.tup rel
        exact op_rep1 pins s σ H _ _ v u Q I rx ry ⟨a, vs, rfl, rfl, h1, q _ c H Go.refl rel (.tup h1' z1 h2)⟩
      · split at hf
        · rename_i hk
          obtain ⟨rfl, rfl⟩ := hk
          simp only [Option.some.injEq] at hf
          subst hf
          obtain rfl := hy.int
          obtain ⟨a, vs, rfl, h1, h1', z1, h2⟩ := hx.tup rel
          cases h2
          exact op_rep0 pins s σ H _ _ v u Q I rx ry ⟨a, rfl, rfl, h1, q _ c H Go.refl rel (.tup h1' z1 .nil)⟩
        · cases hf
  · split at hf
    · rename_i xs k hk
      obtain ⟨hk1, hk2, hk3⟩ := hk
      simp only [Option.some.injEq] at hf
      subst hf
      obtain rfl := hy.int
      obtain ⟨a, vs, rfl, h1, z1, h2⟩ := hx.list
      have hl := h2.length'
      refine op_repR pins s σ H _ _ v u Q I rx ry ⟨a, k, vs, rfl, rfl, h1, hk1, hk2, by omega, new_lst rel ?_ (rep_all h2 k.toNat) q⟩
      rw [flat_len, sizeLine_eq]
      have : k.toNat * xs.length ≤ 1000 * 1000 := Nat.mul_le_mul (by omega) hk3
      omega
    · cases hf
  · cases hf
theorem ok_div : OpR X (binaryOp .FloorDiv) (rD X.K opDiv) := by
  intro pins s σ H x y v u Q I rx ry ⟨c, st, d, e, r, rel, hx, hy, hf, q⟩
  unfold opDiv at hf
  split at hf
  · split at hf
    · cases hf
      obtain rfl := hx.int
      obtain rfl := hy.int
      rename_i hj
      refine op_fdivW pins s σ H _ _ v u Q I rx ry ⟨_, _, rfl, rfl, wide_div hj.1 (b := 200) ?_ (by decide) (by decide), q _ c H Go.refl rel (.int _)⟩
      have e : (2 : Nat) ^ 200 = 1606938044258990275541962092341162602522202993782792835301376 := by decide +kernel
      rw [e]
      omega
    · cases hf
  · cases hf
theorem ok_mod : OpR X (binaryOp .Mod) (rD X.K opMod) := by
  intro pins s σ H x y v u Q I rx ry ⟨c, st, d, e, r, rel, hx, hy, hf, q⟩
  unfold opMod at hf
  split at hf
  · split at hf
    · cases hf
      obtain rfl := hx.int
      obtain rfl := hy.int
      exact op_mod pins s σ H _ _ v u Q I rx ry ⟨_, _, rfl, rfl, by assumption, q _ c H Go.refl rel (.int _)⟩
    · cases hf
  · cases hf
theorem ok_pow : OpR X (binaryOp .Pow) (rD X.K opPow) := by
  intro pins s σ H x y v u Q I rx ry ⟨c, st, d, e, r, rel, hx, hy, hf, q⟩
  unfold opPow at hf
  split at hf
  · split at hf
    · cases hf
      obtain rfl := hx.int
      obtain rfl := hy.int
      exact op_pow pins s σ H _ _ v u Q I rx ry ⟨_, _, rfl, rfl, by assumption, q _ c H Go.refl rel (.int _)⟩
    · cases hf
  · cases hf
theorem ok_no {f : Value → Value → Sem Value} : OpR X f (rD X.K fun _ _ => none) := by
  intro pins s σ H x y v u Q I rx ry ⟨c, st, d, e, r, rel, hx, hy, hf, q⟩
  cases hf
theorem ok_bin : ∀ op : Operator, OpR X (binaryOp op) (rD X.K (opBin op))
  | .Add => ok_add
  | .Sub => ok_sub
  | .Mult => ok_mul
  | .FloorDiv => ok_div
  | .Mod => ok_mod
  | .Pow => ok_pow
  | .MatMult => ok_no
  | .Div => ok_no
  | .LShift => ok_no
  | .RShift => ok_no
  | .BitOr => ok_no
  | .BitXor => ok_no
  | .BitAnd => ok_no

/-! ### comparisons -/
theorem bO_some {o : Option Bool} {r : PyData} (h : bO o = some r) : ∃ b, o = some b ∧ r = .bool b := by
  cases o with
  | none => cases h
  | some b => cases h; exact ⟨b, rfl, rfl⟩
theorem nO_some {o : Option Bool} {r : PyData} (h : nO o = some r) : ∃ b, o = some b ∧ r = .bool (!b) := by
  cases o with
  | none => cases h
  | some b => cases h; exact ⟨b, rfl, rfl⟩
theorem nod_of {d : PyData} (h : SeqAt.shaped d = true) : d.hasDict = false := by
  unfold SeqAt.shaped at h
  simp only [Bool.and_eq_true] at h
  exact PyData.hasDict_of_canLay d h.1
theorem op_eqT0 (hu : X.A.units < cLine) : OpR X (compareOp .Eq) (fun x y H Q => ∃ a b vs, x = .ref a ∧ y = .ref b ∧ SqT X.K H a vs ∧ SqT X.K H b [] ∧ Q (.bl vs.isEmpty) H) := by
  intro pins s σ H x y v u Q I rx ry ⟨a, b, vs, e1, e2, ha, hb, q⟩
  subst e1
  subst e2
  cases rx
  cases ry
  obtain ⟨its, r, p, z⟩ := I.tuple ha
  obtain ⟨its2, r2, p2, z2⟩ := I.tuple hb
  cases r2
  refine PySem.SeqAt.eq_tupleAt (e := fun _ => true) (show s.heap.IsTuple a its.toArray from p) (show s.heap.IsTuple b #[] from p2) hu (fun j h1 h2 => by simp at h2) ?_
  have e : ((List.range (min its.toArray.size (#[] : Array Value).size)).all (fun _ => true) && its.toArray.size == (#[] : Array Value).size) = vs.isEmpty := by
    have := r.length
    cases vs <;> cases its <;> simp_all
  rw [e]
  exact ⟨.bl _, H, I, rfl, q⟩
theorem op_neT0 (hu : X.A.units < cLine) : OpR X (compareOp .NotEq) (fun x y H Q => ∃ a b vs, x = .ref a ∧ y = .ref b ∧ SqT X.K H a vs ∧ SqT X.K H b [] ∧ Q (.bl (!vs.isEmpty)) H) := by
  intro pins s σ H x y v u Q I rx ry ⟨a, b, vs, e1, e2, ha, hb, q⟩
  subst e1
  subst e2
  cases rx
  cases ry
  obtain ⟨its, r, p, z⟩ := I.tuple ha
  obtain ⟨its2, r2, p2, z2⟩ := I.tuple hb
  cases r2
  refine PySem.SeqAt.RcNeAt.tuples (e := fun _ => true) (show s.heap.IsTuple a its.toArray from p) (show s.heap.IsTuple b #[] from p2) hu (fun j h1 h2 => by simp at h2) _ _ _ _ ?_
  have e : (!((List.range (min its.toArray.size (#[] : Array Value).size)).all (fun _ => true) && its.toArray.size == (#[] : Array Value).size)) = !vs.isEmpty := by
    have := r.length
    cases vs <;> cases its <;> simp_all
  rw [e]
  exact ⟨.bl _, H, I, rfl, q⟩
theorem op_eqL0 (hu : X.A.units < cLine) : OpR X (compareOp .Eq) (fun x y H Q => ∃ a b vs, x = .ref a ∧ y = .ref b ∧ RdL X.K H a vs ∧ RdL X.K H b [] ∧ Q (.bl vs.isEmpty) H) := by
  intro pins s σ H x y v u Q I rx ry ⟨a, b, vs, e1, e2, ha, hb, q⟩
  subst e1
  subst e2
  cases rx
  cases ry
  obtain ⟨z, its, n, r, e⟩ := ha.ok I
  obtain ⟨z2, its2, n2, r2, e2⟩ := hb.ok I
  cases r2
  cases r with
  | nil => exact PySem.SeqAt.RcAt.lists (e := fun _ => true) (show s.heap.IsList a #[] from ⟨_, e, rfl, n, rfl⟩) (show s.heap.IsList b #[] from ⟨_, e2, rfl, n2, rfl⟩) rfl hu (fun j h1 h2 => by simp at h2) _ _ _ _ ⟨.bl _, H, I, rfl, q⟩
  | cons q1 q2 => exact PySem.SeqAt.RcAt.lists_lengths (show s.heap.IsList a _ from ⟨_, e, rfl, n, rfl⟩) (show s.heap.IsList b #[] from ⟨_, e2, rfl, n2, rfl⟩) (by simp) hu _ _ _ _ ⟨.bl _, H, I, rfl, q⟩
theorem op_neL0 (hu : X.A.units < cLine) : OpR X (compareOp .NotEq) (fun x y H Q => ∃ a b vs, x = .ref a ∧ y = .ref b ∧ RdL X.K H a vs ∧ RdL X.K H b [] ∧ Q (.bl (!vs.isEmpty)) H) := by
  intro pins s σ H x y v u Q I rx ry ⟨a, b, vs, e1, e2, ha, hb, q⟩
  subst e1
  subst e2
  cases rx
  cases ry
  obtain ⟨z, its, n, r, e⟩ := ha.ok I
  obtain ⟨z2, its2, n2, r2, e2⟩ := hb.ok I
  cases r2
  cases r with
  | nil => exact PySem.SeqAt.RcNeAt.lists (e := fun _ => true) (show s.heap.IsList a #[] from ⟨_, e, rfl, n, rfl⟩) (show s.heap.IsList b #[] from ⟨_, e2, rfl, n2, rfl⟩) rfl hu (fun j h1 h2 => by simp at h2) _ _ _ _ ⟨.bl _, H, I, rfl, q⟩
  | cons q1 q2 => exact PySem.SeqAt.RcNeAt.lists_lengths (show s.heap.IsList a _ from ⟨_, e, rfl, n, rfl⟩) (show s.heap.IsList b #[] from ⟨_, e2, rfl, n2, rfl⟩) (by simp) hu _ _ _ _ ⟨.bl _, H, I, rfl, q⟩
theorem ok_eq (hu : X.A.units + 64 < cLine) : OpR X (compareOp .Eq) (rD X.K (opCmp .Eq)) := by
  intro pins s σ H x y v u Q I rx ry ⟨c, st, d, e, r, rel, hx, hy, hf, q⟩
  obtain ⟨b, hb, rfl⟩ := bO_some hf
  have qb := q _ c H Go.refl rel (.bl b)
  unfold eqQ at hb
  split at hb
  · cases hb
    obtain rfl := hx.int
    obtain rfl := hy.int
    exact op_eq pins s σ H _ _ v u Q I rx ry ⟨rfl, by rw [dec_int]; exact qb⟩
  · cases hb
    obtain rfl := hx.str
    obtain rfl := hy.str
    exact op_eq pins s σ H _ _ v u Q I rx ry ⟨rfl, by rw [dec_str]; exact qb⟩
  · cases hb
    obtain rfl := hx.bool
    obtain rfl := hy.bool
    exact op_eq pins s σ H _ _ v u Q I rx ry ⟨rfl, by rw [dec_bl]; exact qb⟩
  · rename_i xs
    cases hb
    obtain ⟨a, vs, e1, h1, _, _, hv⟩ := hx.tup rel
    obtain ⟨b, ws, e2, g1, _, _, hw⟩ := hy.tup rel
    cases hw
    have e3 : xs.isEmpty = vs.isEmpty := by cases hv <;> rfl
    rw [e3] at qb
    exact op_eqT0 (by omega) pins s σ H _ _ v u Q I rx ry ⟨a, b, vs, e1, e2, h1, g1, qb⟩
  · rename_i xs
    cases hb
    obtain ⟨a, vs, e1, h1, _, hv⟩ := hx.list
    obtain ⟨b, ws, e2, g1, _, hw⟩ := hy.list
    cases hw
    have e3 : xs.isEmpty = vs.isEmpty := by cases hv <;> rfl
    rw [e3] at qb
    exact op_eqL0 (by omega) pins s σ H _ _ v u Q I rx ry ⟨a, b, vs, e1, e2, h1, g1, qb⟩
  · split at hb
    · rename_i hs
      cases hb
      exact op_eqD hu pins s σ H _ _ v u Q I rx ry ⟨_, _, (hx.dp rel).dp (nod_of hs.1), (hy.dp rel).dp (nod_of hs.2), hs.1, hs.2, qb⟩
    · cases hb
theorem ok_ne (hu : X.A.units + 64 < cLine) : OpR X (compareOp .NotEq) (rD X.K (opCmp .NotEq)) := by
  intro pins s σ H x y v u Q I rx ry ⟨c, st, d, e, r, rel, hx, hy, hf, q⟩
  obtain ⟨b, hb, rfl⟩ := nO_some hf
  have qb := q _ c H Go.refl rel (.bl (!b))
  unfold eqQ at hb
  split at hb
  · cases hb
    obtain rfl := hx.int
    obtain rfl := hy.int
    exact op_ne pins s σ H _ _ v u Q I rx ry ⟨rfl, by rw [dec_int]; exact qb⟩
  · cases hb
    obtain rfl := hx.str
    obtain rfl := hy.str
    exact op_ne pins s σ H _ _ v u Q I rx ry ⟨rfl, by rw [dec_str]; exact qb⟩
  · cases hb
    obtain rfl := hx.bool
    obtain rfl := hy.bool
    exact op_ne pins s σ H _ _ v u Q I rx ry ⟨rfl, by rw [dec_bl]; exact qb⟩
  · rename_i xs
    cases hb
    obtain ⟨a, vs, e1, h1, _, _, hv⟩ := hx.tup rel
    obtain ⟨b, ws, e2, g1, _, _, hw⟩ := hy.tup rel
    cases hw
    have e3 : xs.isEmpty = vs.isEmpty := by cases hv <;> rfl
    rw [e3] at qb
    exact op_neT0 (by omega) pins s σ H _ _ v u Q I rx ry ⟨a, b, vs, e1, e2, h1, g1, qb⟩
  · rename_i xs
    cases hb
    obtain ⟨a, vs, e1, h1, _, hv⟩ := hx.list
    obtain ⟨b, ws, e2, g1, _, hw⟩ := hy.list
    cases hw
    have e3 : xs.isEmpty = vs.isEmpty := by cases hv <;> rfl
    rw [e3] at qb
    exact op_neL0 (by omega) pins s σ H _ _ v u Q I rx ry ⟨a, b, vs, e1, e2, h1, g1, qb⟩
  · split at hb
    · rename_i hs
      cases hb
      exact op_neD hu pins s σ H _ _ v u Q I rx ry ⟨_, _, (hx.dp rel).dp (nod_of hs.1), (hy.dp rel).dp (nod_of hs.2), hs.1, hs.2, qb⟩
    · cases hb
theorem lt_some {d e : PyData} {b : Bool} (h : ltQ d e = some b) : ∃ i j : Int, d = .int i ∧ e = .int j ∧ b = decide (i < j) := by
  unfold ltQ at h
  split at h
  · cases h; exact ⟨_, _, rfl, rfl, rfl⟩
  · cases h
theorem le_some {d e : PyData} {b : Bool} (h : leQ d e = some b) : ∃ i j : Int, d = .int i ∧ e = .int j ∧ b = decide (i ≤ j) := by
  unfold leQ at h
  split at h
  · cases h; exact ⟨_, _, rfl, rfl, rfl⟩
  · cases h
theorem ok_lt : OpR X (compareOp .Lt) (rD X.K (opCmp .Lt)) := by
  intro pins s σ H x y v u Q I rx ry ⟨c, st, d, e, r, rel, hx, hy, hf, q⟩
  obtain ⟨b, hb, rfl⟩ := bO_some hf
  obtain ⟨i, j, rfl, rfl, rfl⟩ := lt_some hb
  obtain rfl := hx.int
  obtain rfl := hy.int
  exact op_lt pins s σ H _ _ v u Q I rx ry ⟨_, _, rfl, rfl, q _ c H Go.refl rel (.bl _)⟩
theorem ok_gt : OpR X (compareOp .Gt) (rD X.K (opCmp .Gt)) := by
  intro pins s σ H x y v u Q I rx ry ⟨c, st, d, e, r, rel, hx, hy, hf, q⟩
  obtain ⟨b, hb, rfl⟩ := bO_some hf
  obtain ⟨i, j, rfl, rfl, rfl⟩ := lt_some hb
  obtain rfl := hx.int
  obtain rfl := hy.int
  exact op_gt pins s σ H _ _ v u Q I rx ry ⟨_, _, rfl, rfl, q _ c H Go.refl rel (.bl _)⟩
theorem ok_le : OpR X (compareOp .LtE) (rD X.K (opCmp .LtE)) := by
  intro pins s σ H x y v u Q I rx ry ⟨c, st, d, e, r, rel, hx, hy, hf, q⟩
  obtain ⟨b, hb, rfl⟩ := bO_some hf
  obtain ⟨i, j, rfl, rfl, rfl⟩ := le_some hb
  obtain rfl := hx.int
  obtain rfl := hy.int
  exact op_le pins s σ H _ _ v u Q I rx ry ⟨_, _, rfl, rfl, q _ c H Go.refl rel (.bl _)⟩
theorem ok_ge : OpR X (compareOp .GtE) (rD X.K (opCmp .GtE)) := by
  intro pins s σ H x y v u Q I rx ry ⟨c, st, d, e, r, rel, hx, hy, hf, q⟩
  obtain ⟨b, hb, rfl⟩ := bO_some hf
  obtain ⟨i, j, rfl, rfl, rfl⟩ := le_some hb
  obtain rfl := hx.int
  obtain rfl := hy.int
  exact op_ge pins s σ H _ _ v u Q I rx ry ⟨_, _, rfl, rfl, q _ c H Go.refl rel (.bl _)⟩
theorem non_of {K : PySem.W.Frag} {c : Cfg} {H : Hp} {st : Sto} {x : V} {d : PyData} (rel : Rel K c H st) (h : DV K c H x d) : decide (x = V.non) = isN d := by
  have h' := h.dp rel
  cases h' <;> simp [isN]
theorem isN_some {d e : PyData} {b : Bool} (h : isNQ d e = some b) : (e = .none ∧ b = isN d) ∨ ∃ x y, d = .bool x ∧ e = .bool y ∧ b = (x == y) := by
  unfold isNQ at h
  split at h
  · cases h; exact .inl ⟨rfl, rfl⟩
  · cases h; exact .inr ⟨_, _, rfl, rfl, rfl⟩
  · cases h
theorem ok_is : OpR X (compareOp .Is) (rD X.K (opCmp .Is)) := by
  intro pins s σ H x y v u Q I rx ry ⟨c, st, d, e, r, rel, hx, hy, hf, q⟩
  obtain ⟨b, hb, rfl⟩ := bO_some hf
  rcases isN_some hb with ⟨rfl, rfl⟩ | ⟨a, b', rfl, rfl, rfl⟩
  · obtain rfl := hy.none
    exact op_isN pins s σ H _ _ v u Q I rx ry ⟨rfl, by rw [non_of rel hx]; exact q _ c H Go.refl rel (.bl _)⟩
  · obtain rfl := hx.bool
    obtain rfl := hy.bool
    exact op_is_bl pins s σ H _ _ v u Q I rx ry ⟨_, _, rfl, rfl, q _ c H Go.refl rel (.bl _)⟩
theorem ok_isnot : OpR X (compareOp .IsNot) (rD X.K (opCmp .IsNot)) := by
  intro pins s σ H x y v u Q I rx ry ⟨c, st, d, e, r, rel, hx, hy, hf, q⟩
  obtain ⟨b, hb, rfl⟩ := nO_some hf
  rcases isN_some hb with ⟨rfl, rfl⟩ | ⟨a, b', rfl, rfl, rfl⟩
  · obtain rfl := hy.none
    exact op_notN pins s σ H _ _ v u Q I rx ry ⟨rfl, by rw [non_of rel hx]; exact q _ c H Go.refl rel (.bl _)⟩
  · obtain rfl := hx.bool
    obtain rfl := hy.bool
    exact op_isnot_bl pins s σ H _ _ v u Q I rx ry ⟨_, _, rfl, rfl, q _ c H Go.refl rel (.bl _)⟩
theorem flat_v {K : PySem.W.Frag} {G : Hp} {v : V} {d : PyData} (h : DQ K G v d) (f : flatD d = true) : flatV v = true := by
  cases h with
  | non => rfl
  | bl => rfl
  | int => rfl
  | str => rfl
  | lst _ _ _ => cases f
  | tup _ _ _ => cases f
  | dct _ _ _ => cases f
  | exc _ _ => cases f
  | excF _ _ _ _ => cases f
  | ins _ _ _ _ => cases f
theorem flat_eq {K : PySem.W.Frag} {G : Hp} {v w : V} {d e : PyData} (h : DQ K G v d) (h' : DQ K G w e) (f : flatD d = true) (f' : flatD e = true) : eqV v w = PyData.eqv d e := by
  cases h with
  | lst _ _ _ => cases f
  | tup _ _ _ => cases f
  | dct _ _ _ => cases f
  | exc _ _ => cases f
  | excF _ _ _ _ => cases f
  | ins _ _ _ _ => cases f
  | _ =>
    cases h' with
    | lst _ _ _ => cases f'
    | tup _ _ _ => cases f'
    | dct _ _ _ => cases f'
    | exc _ _ => cases f'
    | excF _ _ _ _ => cases f'
    | ins _ _ _ _ => cases f'
    | _ => simp only [eqV, PyData.eqv]
theorem flat_all {K : PySem.W.Frag} {G : Hp} : ∀ {vs : List V} {ds : List PyData}, DQAll K G vs ds → ds.all flatD = true → vs.all flatV = true
  | _, _, .nil, _ => rfl
  | _, _, .cons a t, f => by
    simp only [List.all_cons, Bool.and_eq_true] at f ⊢
    exact ⟨flat_v a f.1, flat_all t f.2⟩
theorem flat_in {K : PySem.W.Frag} {G : Hp} {x : V} {d : PyData} (h : DQ K G x d) (f : flatD d = true) : ∀ {vs : List V} {ds : List PyData}, DQAll K G vs ds → ds.all flatD = true → inV x vs = ds.any fun z => PyData.eqv z d
  | _, _, .nil, _ => rfl
  | _, _, .cons a t, g => by
    simp only [List.all_cons, Bool.and_eq_true] at g
    have ih := flat_in h f t g.2
    unfold inV at ih ⊢
    rw [List.any_cons, List.any_cons, ih, flat_eq a h g.1 f]
theorem ok_in (hu : X.A.units + 65 < cLine) : OpR X (compareOp .In) (rD X.K (opCmp .In)) := by
  intro pins s σ H x y v u Q I rx ry ⟨c, st, d, e, r, rel, hx, hy, hf, q⟩
  obtain ⟨b, hb, rfl⟩ := bO_some hf
  have qb := q _ c H Go.refl rel (.bl b)
  unfold inQ at hb
  split at hb
  · split at hb
    · rename_i hs
      cases hb
      have hxd := hx.dp rel
      obtain ⟨a, vs, rfl, h1, h1', z1, h2⟩ := hy.tup rel
      have h3 := dq_all_mono rel.sub h2
      exact op_in_seq pins s σ H _ _ v u Q I rx ry ⟨a, vs, rfl, .inr h1, flat_v hxd hs.1, flat_all h3 hs.2, by
        show Q (.bl (inV x vs)) H
        rw [flat_in hxd hs.1 h3 hs.2]
        exact qb⟩
    · cases hb
  · split at hb
    · rename_i hs
      cases hb
      exact op_inD hu pins s σ H _ _ v u Q I rx ry ⟨_, _, (hx.dp rel).dp (nod_of hs.1), (hy.dp rel).dp (nod_of hs.2), hs.1, hs.2, qb⟩
    · cases hb
  · cases hb
    obtain rfl := hx.str
    obtain rfl := hy.str
    exact op_in_str pins s σ H _ _ v u Q I rx ry ⟨_, _, rfl, rfl, qb⟩
  · cases hb
theorem ok_notin (hu : X.A.units + 65 < cLine) : OpR X (compareOp .NotIn) (rD X.K (opCmp .NotIn)) := by
  intro pins s σ H x y v u Q I rx ry ⟨c, st, d, e, r, rel, hx, hy, hf, q⟩
  obtain ⟨b, hb, rfl⟩ := nO_some hf
  have qb := q _ c H Go.refl rel (.bl (!b))
  unfold inQ at hb
  split at hb
  · split at hb
    · rename_i hs
      cases hb
      have hxd := hx.dp rel
      obtain ⟨a, vs, rfl, h1, h1', z1, h2⟩ := hy.tup rel
      have h3 := dq_all_mono rel.sub h2
      exact op_notIn_seq pins s σ H _ _ v u Q I rx ry ⟨a, vs, rfl, .inr h1, flat_v hxd hs.1, flat_all h3 hs.2, by
        show Q (.bl (!inV x vs)) H
        rw [flat_in hxd hs.1 h3 hs.2]
        exact qb⟩
    · cases hb
  · split at hb
    · rename_i hs
      cases hb
      exact op_notInD hu pins s σ H _ _ v u Q I rx ry ⟨_, _, (hx.dp rel).dp (nod_of hs.1), (hy.dp rel).dp (nod_of hs.2), hs.1, hs.2, qb⟩
    · cases hb
  · cases hb
    obtain rfl := hx.str
    obtain rfl := hy.str
    exact op_notin_str pins s σ H _ _ v u Q I rx ry ⟨_, _, rfl, rfl, qb⟩
  · cases hb
theorem ok_cmp (hu : X.A.units + 65 < cLine) : ∀ op : CmpOp, OpR X (compareOp op) (rD X.K (opCmp op))
  | .Eq => ok_eq (by omega)
  | .NotEq => ok_ne (by omega)
  | .Lt => ok_lt
  | .LtE => ok_le
  | .Gt => ok_gt
  | .GtE => ok_ge
  | .Is => ok_is
  | .IsNot => ok_isnot
  | .In => ok_in hu
  | .NotIn => ok_notin hu
end
end L2.Q

set_option maxHeartbeats 1000000
/-! Q layer, part D: items, slices, built-ins, displays. -/
namespace L2.Q
open PySem PySem.Spec PyProof.Rows

/-! ### items -/
def opIdx : PyData → PyData → Option PyData
  | .tuple xs, .int i => atI xs i
  | .list xs, .int i => atI xs i
  | .str z, .int i => if z.length ≤ sizeLine then (atI z.cps.toList i).map fun c => .str ⟨#[c]⟩ else none
  | _, _ => none
section
variable {K : PySem.W.Frag}
theorem atI_all {G : Hp} {vs : List V} {ds : List PyData} {i : Int} {r : PyData} (h : DQAll K G vs ds) (e : atI ds i = some r) : ∃ v, atI vs i = some v ∧ DQ K G v r := by
  unfold atI at e ⊢
  rw [h.length']
  cases q : ixN ds.length i with
  | none => rw [q] at e; cases e
  | some j =>
    rw [q, Option.bind_some] at e
    obtain ⟨v, h1, h2⟩ := h.get e
    exact ⟨v, by rw [Option.bind_some]; exact h1, h2⟩
end
section
variable {X : Cx} {W : WX}
theorem ok_idx : IxR X (rD X.K opIdx) := by
  intro value slice pins s σ H x y v u Q I rx ry ⟨c, st, d, e, r, rel, hx, hy, hf, q⟩ hs
  unfold opIdx at hf
  split at hf
  · obtain rfl := hy.int
    obtain ⟨a, vs, rfl, h1, h1', z1, h2⟩ := hx.tup rel
    obtain ⟨w, h3, h4⟩ := atI_all h2 hf
    exact ix_tup value slice pins s σ H _ _ v u Q I rx ry ⟨a, vs, _, w, rfl, rfl, h1, h3, q w c H Go.refl rel h4⟩ hs
  · obtain rfl := hy.int
    obtain ⟨a, vs, rfl, h1, z1, h2⟩ := hx.list
    obtain ⟨w, h3, h4⟩ := atI_all h2 hf
    exact ix_list value slice pins s σ H _ _ v u Q I rx ry ⟨a, vs, _, w, rfl, rfl, h1.sq, h3, q w c H Go.refl rel h4⟩ hs
  · split at hf
    · obtain rfl := hy.int
      obtain rfl := hx.str
      obtain ⟨ch, h3, rfl⟩ := Option.map_eq_some_iff.mp hf
      exact ix_str value slice pins s σ H _ _ v u Q I rx ry ⟨_, _, ch, rfl, rfl, by assumption, h3, q _ c H Go.refl rel (.str _)⟩ hs
    · cases hf
  · cases hf
theorem se_idx {a b : Expr} {ma mb : EM} {pos : Pos} (ha : PE X a (tM X W ma)) (hb : PE X b (tM X W mb)) (hs : PlainIx b) : PE X (.Subscript a b pos) (tM X W (mBin opIdx ma mb)) :=
  (pe_ix ok_idx ha hb hs).imp fun σ H Q h => tM_bin h

/-! ### slices -/
def cutD {α : Type} (xs : List α) (lo hi : Option Int) : List α := (xs.drop (HT.sIx xs.length 0 lo)).take (HT.sIx xs.length xs.length hi - HT.sIx xs.length 0 lo)
def opSl (lo hi : Option Int) : PyData → Option PyData
  | .tuple xs => some (.tuple (cutD xs lo hi))
  | .list xs => some (.list (cutD xs lo hi))
  | .str z => if z.length ≤ sizeLine then some (.str (cutS z lo hi)) else none
  | _ => none
theorem cut_all {G : Hp} {vs : List V} {ds : List PyData} (lo hi : Option Int) (h : DQAll X.K G vs ds) : DQAll X.K G (cutV vs lo hi) (cutD ds lo hi) := by
  unfold cutV cutD
  rw [h.length']
  exact (h.drop _).take _
theorem cut_whole {α : Type} {xs : List α} {lo hi : Option Int} (h : HT.sIx xs.length 0 lo = 0 ∧ HT.sIx xs.length xs.length hi = xs.length) : cutD xs lo hi = xs := by
  unfold cutD
  rw [h.1, h.2]
  simp
theorem cutD_len {α : Type} (xs : List α) (lo hi : Option Int) : (cutD xs lo hi).length ≤ xs.length := by
  unfold cutD
  rw [List.length_take, List.length_drop]
  omega
def rSD (K : PySem.W.Frag) : V → Option Int → Option Int → Hp → VK → Prop := fun x lo hi H Q => ∃ c st d r, Rel K c H st ∧ DV K c H x d ∧ opSl lo hi d = some r ∧ ∀ z c' H', Go c H c' H' → Rel K c' H' st → DQ K c'.G z r → Q z H'
theorem ok_sl : SlR X (rSD X.K) := by
  intro pins s σ H x v vl vu lo hi sl Q I rx hs pl pu ⟨c, st, d, r, rel, hx, hf, q⟩
  unfold opSl at hf
  split at hf
  · cases hf
    obtain ⟨a, vs, rfl, h1, h1', z1, h2⟩ := hx.tup rel
    have hl := h2.length'
    refine sl_tupA pins s σ H _ v vl vu lo hi sl Q I rx hs pl pu ⟨a, vs, rfl, h1, fun e => ?_, fun _ => new_tup rel (Nat.le_trans (cutD_len _ lo hi) z1) (cut_all lo hi h2) q⟩
    rw [hl] at e
    rw [cut_whole e] at q
    exact q _ c H Go.refl rel (.tup h1' z1 h2)
  · cases hf
    obtain ⟨a, vs, rfl, h1, z1, h2⟩ := hx.list
    exact sl_list pins s σ H _ v vl vu lo hi sl Q I rx hs pl pu ⟨a, vs, rfl, h1.sq, new_lst rel (Nat.le_trans (cutD_len _ lo hi) z1) (cut_all lo hi h2) q⟩
  · split at hf
    · cases hf
      obtain rfl := hx.str
      exact sl_str pins s σ H _ v vl vu lo hi sl Q I rx hs pl pu ⟨_, rfl, by assumption, q _ c H Go.refl rel (.str _)⟩
    · cases hf
  · cases hf
abbrev OM := Env → Sto → Res (Option Int)
def oNo : OM := fun _ st => .ok none st
def oAt (m : EM) : OM := fun ρ st => (m ρ st).bind fun x st1 => match x with
  | .d (.int i) => .ok (some i) st1
  | _ => .fail
def tO (X : Cx) (W : WX) (m : OM) : TO := fun σ H Q => ∃ c st ρ, EnvR X.K c σ ρ ∧ Rel X.K c H st ∧ Out X.K X.mg c H (m ρ st) (fun a _ c' H' => Q a H') fun cls d H' => W cls d σ H'
theorem so_no : PO X none (tO X W oNo) := ⟨fun pins s σ H Q I ⟨c, st, ρ, en, rel, o⟩ => po_none.run pins s σ H Q I (o c H Go.refl rel)⟩
theorem so_at {e : Expr} {m : EM} (h : PE X e (tM X W m)) : PO X (some e) (tO X W (oAt m)) := ⟨fun pins s σ H Q I ⟨c, st, ρ, en, rel, o⟩ => (po_some h).run pins s σ H Q I (by
  refine ⟨c, st, ρ, en, rel, (Out.bind o).mono fun a st1 c1 H1 g1 r1 o1 x hx => ?_⟩
  try dsimp only at o1
  split at o1
  · obtain rfl := dp_int hx
    exact ⟨_, rfl, o1 c1 H1 Go.refl r1⟩
  · exact o1.elim)⟩
def mSl (m : EM) (lo hi : OM) : EM := fun ρ st => (m ρ st).bind fun x st1 => (lo ρ st1).bind fun l st2 => (hi ρ st2).bind fun h st3 => match deref x st3 with
  | some d => ofO (opSl l h d) st3
  | none => .fail
theorem se_slice {e : Expr} {lo hi : Option Expr} {m : EM} {ml mh : OM} {p2 pos : Pos} (he : PE X e (tM X W m)) (hl : PO X lo (tO X W ml)) (hu : PO X hi (tO X W mh)) : PE X (.Subscript e (.Slice lo hi none p2) pos) (tM X W (mSl m ml mh)) :=
  (pe_slice ok_sl he hl hu).imp fun σ H Q ⟨c, st, ρ, en, rel, o⟩ => by
    refine ⟨c, st, ρ, en, rel, (Out.bind o).mono fun a st1 c1 H1 g1 r1 o1 x hx => ?_⟩
    refine ⟨c1, st1, ρ, en.go g1, r1, (Out.bind o1).mono fun l st2 c2 H2 g2 r2 o2 => ?_⟩
    refine ⟨c2, st2, ρ, (en.go g1).go g2, r2, (Out.bind o2).mono fun h st3 c3 H3 g3 r3 o3 => ?_⟩
    have hx3 := (hx.go g2).go g3
    try dsimp only at o3
    cases q1 : deref a st3 with
    | none => simp only [q1] at o3; exact o3.elim
    | some d =>
      simp only [q1] at o3
      cases q3 : opSl l h d with
      | none => simp only [q3, ofO] at o3; exact o3.elim
      | some r =>
        simp only [q3, ofO] at o3
        exact ⟨c3, st3, d, r, r3, deref_dv r3 hx3 q1, q3, fun z c' H' g' r' hz => o3 c' H' g' r' z hz⟩

/-! ### displays -/
def allD : List Vv → Option (List PyData)
  | [] => some []
  | .d x :: r => (allD r).map (x :: ·)
  | .ref _ :: _ => none
theorem allD_rvs {K : PySem.W.Frag} {c : Cfg} : ∀ {as : List Vv} {vs : List V} {ds : List PyData}, RVs K c as vs → allD as = some ds → DQAll K c.G vs ds
  | [], vs, ds, h, e => by
    have h' : vs = [] := h
    subst h'
    cases e
    exact .nil
  | .d x :: r, vs, ds, h, e => by
    obtain ⟨v, t, rfl, h1, h2⟩ := h
    obtain ⟨es, e1, rfl⟩ := Option.map_eq_some_iff.mp e
    exact .cons h1 (allD_rvs h2 e1)
  | .ref _ :: _, _, _, _, e => by cases e
def mTup (ms : LM) : EM := fun ρ st => (ms ρ st).bind fun xs st1 => match allD xs with
  | some ds => if ds.length ≤ sizeLine then .ok (.d (.tuple ds)) st1 else .fail
  | none => .fail
def mLst (ms : LM) : EM := fun ρ st => (ms ρ st).bind fun xs st1 => match allD xs with
  | some ds => if ds.length ≤ sizeLine then .ok (.d (.list ds)) st1 else .fail
  | none => .fail
/-- a list that will be changed -/
def mNew (ms : LM) : EM := fun ρ st => (ms ρ st).bind fun xs st1 => match allD xs with
  | some ds => if ds.length ≤ sizeLine then .ok (.ref st1.length) (st1 ++ [.lst ds]) else .fail
  | none => .fail
theorem se_tup {es : List Expr} {ms : LM} {k : Nat} {pos : Pos} (h : PA X es (tL X W ms)) : PE X (.Tuple es k pos) (tM X W (mTup ms)) :=
  (pe_tup h).imp fun σ H Q ⟨c, st, ρ, en, rel, o⟩ => by
    refine ⟨c, st, ρ, en, rel, (Out.bind o).mono fun as st1 c1 H1 g1 r1 o1 xs hx => ?_⟩
    try dsimp only at o1
    cases q1 : allD as with
    | none => simp only [q1] at o1; exact o1.elim
    | some ds =>
      simp only [q1] at o1
      split at o1
      · have hd := allD_rvs hx q1
        exact ⟨by rw [hd.length']; assumption, new_tup r1 (by assumption) hd fun z c' H' g' r' hz => o1 c' H' g' r' z hz⟩
      · exact o1.elim
theorem se_lst {es : List Expr} {ms : LM} {pos : Pos} (h : PA X es (tL X W ms)) : PE X (.List es pos) (tM X W (mLst ms)) :=
  (pe_lst h).imp fun σ H Q ⟨c, st, ρ, en, rel, o⟩ => by
    refine ⟨c, st, ρ, en, rel, (Out.bind o).mono fun as st1 c1 H1 g1 r1 o1 xs hx => ?_⟩
    try dsimp only at o1
    cases q1 : allD as with
    | none => simp only [q1] at o1; exact o1.elim
    | some ds =>
      simp only [q1] at o1
      split at o1
      · have hd := allD_rvs hx q1
        exact ⟨by rw [hd.length']; assumption, new_lst r1 (by assumption) hd fun z c' H' g' r' hz => o1 c' H' g' r' z hz⟩
      · exact o1.elim
theorem se_new {es : List Expr} {ms : LM} {pos : Pos} (h : PA X es (tL X W ms)) : PE X (.List es pos) (tM X W (mNew ms)) :=
  (pe_lst h).imp fun σ H Q ⟨c, st, ρ, en, rel, o⟩ => by
    refine ⟨c, st, ρ, en, rel, (Out.bind o).mono fun as st1 c1 H1 g1 r1 o1 xs hx => ?_⟩
    try dsimp only at o1
    cases q1 : allD as with
    | none => simp only [q1] at o1; exact o1.elim
    | some ds =>
      simp only [q1] at o1
      split at o1
      · have hd := allD_rvs hx q1
        refine ⟨by rw [hd.length']; assumption, fun p hp => ?_⟩
        obtain ⟨g, r'⟩ := r1.alloc hp (by assumption) hd (r1.out hp)
        refine o1 _ _ g r' (.ref p) ⟨p, ?_, rfl⟩
        show (c1.φ ++ [p])[st1.length]? = some p
        rw [← r1.len]
        simp
      · exact o1.elim
/-- frozen from now on -/
def mFrz (m : EM) : EM := fun ρ st => (m ρ st).bind fun x st1 => match x with
  | .d x => .ok (.d x) st1
  | .ref n => match st1[n]? with
    | some (.lst xs) => .ok (.d (.list xs)) (st1.set n (.frz xs))
    | some (.frz xs) => .ok (.d (.list xs)) st1
    | none => .fail
theorem se_frz {e : Expr} {m : EM} (h : PE X e (tM X W m)) : PE X e (tM X W (mFrz m)) :=
  h.imp fun σ H Q ⟨c, st, ρ, en, rel, o⟩ => by
    refine ⟨c, st, ρ, en, rel, (Out.bind o).mono fun a st1 c1 H1 g1 r1 o1 x hx => ?_⟩
    try dsimp only at o1
    cases a with
    | d y => exact o1 c1 H1 Go.refl r1 x hx
    | ref n =>
      obtain ⟨p, e1, rfl⟩ := hx
      try dsimp only at o1
      cases q1 : st1[n]? with
      | none => simp only [q1] at o1; exact o1.elim
      | some ob =>
        cases ob with
        | lst xs =>
          simp only [q1] at o1
          obtain ⟨c2, g2, r2, hd⟩ := r1.freeze e1 q1
          exact o1 c2 H1 g2 r2 _ hd
        | frz xs =>
          simp only [q1] at o1
          exact o1 c1 H1 Go.refl r1 _ (r1.obj n p _ e1 q1).2
end
end L2.Q

set_option maxHeartbeats 2000000
/-! Q layer, part Sd: sorted of a list of alike data. -/
namespace L2.Q
open PySem PySem.Spec PyProof.Rows
open PySem.W (AllAlike Sortable EachIs alike dataLe)

def tupNe : PyData → Bool
  | .tuple (_ :: _) => true
  | _ => false
def plainKey : PyData → Bool
  | .none => false
  | .tuple _ => false
  | _ => true
def sortableD (ds : List PyData) : Bool := (ds.all fun d => !d.hasDict && decide (d.depth ≤ 60)) && (ds.all fun d => ds.all fun d' => alike d d') && (ds.all tupNe || ds.all plainKey)
def fSort : List PyData → Option PyData
  | [.list ds] => if sortableD ds = true then some (.list (ds.mergeSort (dataLe false id))) else none
  | _ => none
theorem tupNe_some {d : PyData} (h : tupNe d = true) : ∃ x r, d = .tuple (x :: r) := by
  cases d with
  | tuple xs => cases xs with
    | nil => cases h
    | cons x r => exact ⟨x, r, rfl⟩
  | _ => cases h
theorem sortable_of {ds : List PyData} (h : sortableD ds = true) : (∀ d ∈ ds, d.hasDict = false ∧ d.depth ≤ 60) ∧ AllAlike ds ∧ Sortable ds := by
  unfold sortableD at h
  simp only [Bool.and_eq_true, Bool.or_eq_true, List.all_eq_true, Bool.not_eq_true', decide_eq_true_eq] at h
  obtain ⟨⟨h1, h2⟩, h3⟩ := h
  refine ⟨h1, fun d hd d' hd' => h2 d hd d' hd', h3.imp (fun k d hd => tupNe_some (k d hd)) fun k d hd => ?_⟩
  have q := k d hd
  refine ⟨fun e => ?_, fun xs e => ?_⟩
  · rw [e] at q; cases q
  · rw [e] at q; cases q
theorem zip_snd {α β : Type} : ∀ {as : List α} {bs : List β}, as.length = bs.length → (as.zip bs).map (·.2) = bs
  | [], [], _ => rfl
  | a :: as, b :: bs, h => by
    rw [List.zip_cons_cons, List.map_cons, zip_snd (by simpa using h)]
theorem dq_pairs {K : PySem.W.Frag} {G : Hp} : ∀ {bs : List (V × PyData)}, (∀ b ∈ bs, DQ K G b.1 b.2) → DQAll K G (bs.map (·.1)) (bs.map (·.2))
  | [], _ => .nil
  | b :: bs, h => .cons (h b List.mem_cons_self) (dq_pairs fun c hc => h c (List.mem_cons_of_mem _ hc))
theorem dq_zip {K : PySem.W.Frag} {G : Hp} : ∀ {vs : List V} {ds : List PyData}, DQAll K G vs ds → ∀ b ∈ vs.zip ds, DQ K G b.1 b.2
  | _, _, .nil, b, h => by cases h
  | _, _, .cons a t, b, h => by
    rcases List.mem_cons.mp h with e | h
    · rw [e]; exact a
    · exact dq_zip t b h
theorem vals_each : ∀ {bs : List (V × PyData)} {us : List Value}, EachIs (fun u b => RelV b.1 u) us bs → Vals (bs.map (·.1)) us
  | _, _, .nil => .nil
  | _, _, .cons a t => .cons a (vals_each t)
section
variable {X : Cx} {pins : List (Addr × Obj)} {σ : St} {H : Hp} {s : Shared}
theorem each_zip (I : Inv X pins σ H s) : ∀ {vs : List V} {ds : List PyData} {us : List Value}, DQAll X.K H vs ds → (∀ d ∈ ds, d.hasDict = false) → Vals vs us →
    EachIs (fun u (b : V × PyData) => RelV b.1 u) us (vs.zip ds) ∧ EachIs (fun u (b : V × PyData) => ∃ as, Reads s.heap u b.2 as) us (vs.zip ds)
  | _, _, _, .nil, _, .nil => ⟨.nil, .nil⟩
  | _, _, _, .cons a t, nd, .cons r rs => by
    obtain ⟨h1, h2⟩ := each_zip I t (fun d hd => nd d (List.mem_cons_of_mem _ hd)) rs
    exact ⟨.cons r h1, .cons (Dp.reads I _ _ _ (a.dp (nd _ List.mem_cons_self)) r) h2⟩
theorem ok_sort (hu : X.A.units + 66 < cLine) : CallR X (.builtin "sorted") (rC X.K fSort) := by
  intro pins s σ H xs us Q I r ⟨c, st, ds, z, rel, hx, hf, q⟩
  unfold fSort at hf
  split at hf
  · rename_i ds
    split at hf
    · rename_i hso
      obtain ⟨hnd, hal, hk⟩ := sortable_of hso
      obtain ⟨x, rr, rfl, h, hr⟩ := hx
      obtain rfl : rr = [] := hr
      obtain ⟨a, vs, rfl, h1, z1, h2⟩ := h.list
      rw [Vals.ref1 r]
      obtain ⟨its, rv, pl, hz⟩ := I.list h1.sq
      obtain ⟨e1, e2⟩ := each_zip I (dq_all_mono rel.sub h2) (fun d hd => (hnd d hd).1) rv
      have em : (vs.zip ds).map (fun b => b.2) = ds := zip_snd h2.length'
      have el : (vs.zip ds).length = ds.length := by rw [← List.length_map (f := fun b : V × PyData => b.2), em]
      refine PySem.W.sorted_data (enc := fun b : V × PyData => b.2) (R := fun u b => RelV b.1 u) (bs := vs.zip ds) pl.isList e1 e2 (by rw [em]; exact hal) (by rw [em]; exact hk) (by rw [el]; exact z1) (fun b hb => ?_) fun out ho eo => ?_
      · have hm : b.2 ∈ ds := by rw [← em]; exact List.mem_map.mpr ⟨b, hb, rfl⟩
        have := (hnd _ hm).2
        omega
      · have pm := List.mergeSort_perm (vs.zip ds) (dataLe false fun b : V × PyData => b.2)
        have hsort : ((vs.zip ds).mergeSort (dataLe false fun b : V × PyData => b.2)).map (fun b => b.2) = ds.mergeSort (dataLe false id) := by
          have k := List.map_mergeSort (r := dataLe false fun b : V × PyData => b.2) (s := dataLe false id) (f := fun b : V × PyData => b.2) (l := vs.zip ds) (fun a _ b _ => rfl)
          rw [em] at k
          exact k
        have hq : DQAll X.K c.G (((vs.zip ds).mergeSort (dataLe false fun b : V × PyData => b.2)).map (·.1)) (ds.mergeSort (dataLe false id)) := by
          rw [← hsort]
          exact dq_pairs fun b hb => dq_zip h2 b (pm.mem_iff.mp hb)
        have hlen : (ds.mergeSort (dataLe false id)).length ≤ sizeLine := by rw [List.length_mergeSort]; exact z1
        have hv := vals_each eo
        obtain ⟨ep, hat⟩ := PyProof.Rows.sortedAll_at s.heap its out.toArray
        cases hf
        refine ⟨.ref _, upd H (s.heap.objs.size + 1) (.lst _), I.laid (t' := s.toks) (fun _ _ => PyProof.Rows.sortedAll_old) (Nat.le_succ _) ⟨?_, out, ep, hv, hat⟩, rfl, new_lst rel hlen hq q _ (I.hok.fresh (Nat.le_succ _))⟩
        rw [hq.length']
        exact hlen
    · cases hf
  · cases hf
end
end L2.Q

set_option maxHeartbeats 1000000
/-! Q layer, part E: built-ins called by name. -/
namespace L2.Q
open PySem PySem.Spec PyProof.Rows

inductive BF where
  | len | all | any | sum | max1 | min1 | max2 | min2 | min3 | int | tuple | list | repr | sorted
  deriving DecidableEq
def boolsOf : List PyData → Option (List Bool)
  | [] => some []
  | .bool b :: r => (boolsOf r).map (b :: ·)
  | _ :: _ => none
def intsOf : List PyData → Option (List Int)
  | [] => some []
  | .int b :: r => (intsOf r).map (b :: ·)
  | _ :: _ => none
def minI (i j : Int) : Int := if j < i then j else i
def maxI (i j : Int) : Int := if j > i then j else i
def fLen : List PyData → Option PyData
  | [.str z] => if z.length ≤ sizeLine then some (.int z.length) else none
  | [.tuple xs] => some (.int xs.length)
  | [.list xs] => some (.int xs.length)
  | _ => none
def fAll : List PyData → Option PyData
  | [.list xs] => (boolsOf xs).map fun bs => .bool (bs.all id)
  | _ => none
def fAny : List PyData → Option PyData
  | [.list xs] => (boolsOf xs).map fun bs => .bool (bs.any id)
  | _ => none
def fSum : List PyData → Option PyData
  | [.list xs] => (intsOf xs).map fun ns => .int ns.sum
  | _ => none
def fMax1 : List PyData → Option PyData
  | [.list xs] => (intsOf xs).bind fun ns => ns.max?.map .int
  | _ => none
def fMin1 : List PyData → Option PyData
  | [.list xs] => (intsOf xs).bind fun ns => ns.min?.map .int
  | _ => none
def fMax2 : List PyData → Option PyData
  | [.int i, .int j] => some (.int (maxI i j))
  | _ => none
def fMin2 : List PyData → Option PyData
  | [.int i, .int j] => some (.int (minI i j))
  | _ => none
def fMin3 : List PyData → Option PyData
  | [.int i, .int j, .int k] => some (.int (minI (minI i j) k))
  | _ => none
def fInt : List PyData → Option PyData
  | [.int i] => some (.int i)
  | [.bool b] => some (.int (if b then 1 else 0))
  | _ => none
def fTuple : List PyData → Option PyData
  | [.list xs] => some (.tuple xs)
  | [.tuple xs] => some (.tuple xs)
  | _ => none
def fList : List PyData → Option PyData
  | [.list xs] => some (.list xs)
  | [.tuple xs] => some (.list xs)
  | _ => none
mutual
/-- no exception and no instance in it -/
def noObj : PyData → Bool
  | .list xs => noObjs xs
  | .tuple xs => noObjs xs
  | .dict ps => noObjP ps
  | _ => true
def noObjs : List PyData → Bool
  | [] => true
  | x :: xs => noObj x && noObjs xs
def noObjP : List (PyData × PyData) → Bool
  | [] => true
  | (k, v) :: r => (match k with
    | .none => false
    | _ => true) && noObj k && noObj v && noObjP r
end
theorem noObjP_split : ∀ {ps : List (PyData × PyData)}, noObjP ps = true → noObjs (ps.map (·.1)) = true ∧ noObjs (ps.map (·.2)) = true
  | [], _ => ⟨rfl, rfl⟩
  | (k, v) :: r, h => by
    unfold noObjP at h
    simp only [Bool.and_eq_true] at h
    obtain ⟨⟨⟨_, h1⟩, h2⟩, h3⟩ := h
    obtain ⟨a, b⟩ := noObjP_split h3
    refine ⟨?_, ?_⟩
    · show (noObj k && noObjs (r.map (·.1))) = true
      rw [h1, a]; rfl
    · show (noObj v && noObjs (r.map (·.2))) = true
      rw [h2, b]; rfl
def fRepr : List PyData → Option PyData
  | [d] => if noObj d = true ∧ d.showable = true ∧ d.shown.length ≤ sizeLine ∧ d.depth ≤ 64 then some (.str d.shown) else none
  | _ => none
def fBF : BF → List PyData → Option PyData
  | .len => fLen | .all => fAll | .any => fAny | .sum => fSum | .max1 => fMax1 | .min1 => fMin1 | .max2 => fMax2 | .min2 => fMin2 | .min3 => fMin3 | .int => fInt | .tuple => fTuple | .list => fList | .repr => fRepr | .sorted => fSort
def BF.name : BF → Str
  | .len => "len" | .all => "all" | .any => "any" | .sum => "sum" | .max1 => "max" | .min1 => "min" | .max2 => "max" | .min2 => "min" | .min3 => "min" | .int => "int" | .tuple => "tuple" | .list => "list" | .repr => "repr" | .sorted => "sorted"
def BF.val : BF → Value
  | .len => .builtin "len" | .all => .builtin "all" | .any => .builtin "any" | .sum => .builtin "sum" | .max1 => .builtin "max" | .min1 => .builtin "min" | .max2 => .builtin "max" | .min2 => .builtin "min" | .min3 => .builtin "min"
  | .int => .type "int" | .tuple => .type "tuple" | .list => .type "list" | .repr => .builtin "repr" | .sorted => .builtin "sorted"
theorem BF.boot : ∀ b : BF, bootBuiltins b.name = some b.val
  | .len => by decide +kernel
  | .all => by decide +kernel
  | .any => by decide +kernel
  | .sum => by decide +kernel
  | .max1 => by decide +kernel
  | .min1 => by decide +kernel
  | .max2 => by decide +kernel
  | .min2 => by decide +kernel
  | .min3 => by decide +kernel
  | .int => by decide +kernel
  | .tuple => by decide +kernel
  | .list => by decide +kernel
  | .repr => by decide +kernel
  | .sorted => by decide +kernel
theorem BF.nameOk : ∀ b : BF, b.name ≠ "__name__" ∧ (b.name == ("__debug__" : Str)) = false
  | .len => by decide +kernel
  | .all => by decide +kernel
  | .any => by decide +kernel
  | .sum => by decide +kernel
  | .max1 => by decide +kernel
  | .min1 => by decide +kernel
  | .max2 => by decide +kernel
  | .min2 => by decide +kernel
  | .min3 => by decide +kernel
  | .int => by decide +kernel
  | .tuple => by decide +kernel
  | .list => by decide +kernel
  | .repr => by decide +kernel
  | .sorted => by decide +kernel

section
variable {K : PySem.W.Frag} {G : Hp}
theorem bools_all : ∀ {ds : List PyData} {bs : List Bool} {vs : List V}, boolsOf ds = some bs → DQAll K G vs ds → vs = bs.map V.bl
  | [], _, _, e, h => by cases e; cases h; rfl
  | .bool b :: r, _, _, e, h => by
    obtain ⟨bs, e1, rfl⟩ := Option.map_eq_some_iff.mp e
    cases h with
    | cons a t =>
      rw [bools_all e1 t, dp_bool a]
      rfl
  | .none :: _, _, _, e, _ => by cases e
  | .int _ :: _, _, _, e, _ => by cases e
  | .str _ :: _, _, _, e, _ => by cases e
  | .list _ :: _, _, _, e, _ => by cases e
  | .tuple _ :: _, _, _, e, _ => by cases e
  | .dict _ :: _, _, _, e, _ => by cases e
theorem ints_all : ∀ {ds : List PyData} {bs : List Int} {vs : List V}, intsOf ds = some bs → DQAll K G vs ds → vs = bs.map V.int
  | [], _, _, e, h => by cases e; cases h; rfl
  | .int b :: r, _, _, e, h => by
    obtain ⟨bs, e1, rfl⟩ := Option.map_eq_some_iff.mp e
    cases h with
    | cons a t =>
      rw [ints_all e1 t, dp_int a]
      rfl
  | .none :: _, _, _, e, _ => by cases e
  | .bool _ :: _, _, _, e, _ => by cases e
  | .str _ :: _, _, _, e, _ => by cases e
  | .list _ :: _, _, _, e, _ => by cases e
  | .tuple _ :: _, _, _, e, _ => by cases e
  | .dict _ :: _, _, _, e, _ => by cases e
theorem DVs.one {c : Cfg} {H : Hp} {xs : List V} {d : PyData} (h : DVs K c H xs [d]) : ∃ x, xs = [x] ∧ DV K c H x d := by
  obtain ⟨v, r, rfl, h1, h2⟩ := h
  have h2' : r = [] := h2
  subst h2'
  exact ⟨v, rfl, h1⟩
theorem DVs.two {c : Cfg} {H : Hp} {xs : List V} {d e : PyData} (h : DVs K c H xs [d, e]) : ∃ x y, xs = [x, y] ∧ DV K c H x d ∧ DV K c H y e := by
  obtain ⟨v, r, rfl, h1, h2⟩ := h
  obtain ⟨w, rfl, h3⟩ := h2.one
  exact ⟨v, w, rfl, h1, h3⟩
theorem DVs.three {c : Cfg} {H : Hp} {xs : List V} {d e f : PyData} (h : DVs K c H xs [d, e, f]) : ∃ x y z, xs = [x, y, z] ∧ DV K c H x d ∧ DV K c H y e ∧ DV K c H z f := by
  obtain ⟨v, r, rfl, h1, h2⟩ := h
  obtain ⟨w, z, rfl, h3, h4⟩ := h2.two
  exact ⟨v, w, z, rfl, h1, h3, h4⟩
end
section
variable {X : Cx} {pins : List (Addr × Obj)} {σ : St} {H : Hp} {s : Shared}
theorem pairs_keys {P : Program} {w : World} : ∀ {es : List DictEntry} {kvs : List (Key × V)} {vs : List (Key × Value)}, Pairs (mixKind P w) es vs → KV kvs vs → Vals (kvs.map fun q => kV q.1) (es.map (·.key)) ∧ Vals (kvs.map (·.2)) (es.map (·.val))
  | _, _, _, .nil, r => by cases r; exact ⟨.nil, .nil⟩
  | e :: _, _, _, .cons h1 h2 t, r => by
    cases r with
    | cons a b =>
      obtain ⟨q1, q2⟩ := pairs_keys t b
      obtain ⟨a1, a2⟩ := a
      refine ⟨.cons ?_ q1, .cons ?_ q2⟩
      · rw [← a1] at h1
        dsimp only
        rcases keyIs_shape h1 with ⟨i, u, e1, e2⟩ | ⟨y, u, e1, e2⟩
        · rw [e1, e2]; exact ⟨u, rfl⟩
        · rw [e1, e2]; exact ⟨u, rfl⟩
      · dsimp only
        rw [h2]; exact a2
mutual
theorem DQ.rdn (I : Inv X pins σ H s) : ∀ {v : V} {d : PyData} (u : Value), DQ X.K H v d → RelV v u → noObj d = true → RdN s.heap u d
  | _, _, _, .non, r, _ => by cases r; exact .non
  | _, _, _, .bl b, r, _ => by cases r; exact .bl b
  | _, _, _, .int i, r, _ => by obtain ⟨t, rfl⟩ := r; exact .int i t
  | _, _, _, .str x, r, _ => by obtain ⟨t, rfl⟩ := r; exact .str x t
  | _, _, _, .lst h _ q, r, no => by
    cases r
    obtain ⟨_, its, n, rv, e⟩ := h.ok I
    exact .lst e rfl rfl (DQAll.rdn I _ q rv (by simpa only [noObj] using no))
  | _, _, _, .tup h _ q, r, no => by
    cases r
    obtain ⟨its, rv, ⟨o, ho, hc, n, hd⟩, _⟩ := I.tuple h
    exact .tup ho hc hd (DQAll.rdn I _ q rv (by simpa only [noObj] using no))
  | _, _, _, .dct h q q2, r, no => by
    cases r
    obtain ⟨_, ns, vs, kv, o, es, ep, ho, hx, hd, _, pr, _⟩ := dk_rd I.hok h
    obtain ⟨r1, r2⟩ := pairs_keys pr kv
    exact .dct ho hx.1 hd ns (DQAll.rdn I _ q r1 (noObjP_split (by simpa only [noObj] using no)).1) (DQAll.rdn I _ q2 r2 (noObjP_split (by simpa only [noObj] using no)).2)
  | _, _, _, .exc _ _, r, no => by simp [noObj, noObjP] at no
  | _, _, _, .excF _ _ _ _, r, no => by simp [noObj, noObjP] at no
  | _, _, _, .ins _ _ _ _, r, no => by simp [noObj, noObjP] at no
theorem DQAll.rdn (I : Inv X pins σ H s) : ∀ {vs : List V} {ds : List PyData} (us : List Value), DQAll X.K H vs ds → Vals vs us → noObjs ds = true → RdNs s.heap us ds
  | _, _, _, .nil, r, _ => by cases r; exact .nil
  | _, _, _, .cons a t, r, no => by
    cases r with
    | cons r1 r2 =>
      simp only [noObjs, Bool.and_eq_true] at no
      exact .cons (DQ.rdn I _ a r1 no.1) (DQAll.rdn I _ t r2 no.2)
end
end
section
variable {X : Cx} {W : WX}
theorem ok_len : CallR X (.builtin "len") (rC X.K fLen) := by
  intro pins s σ H xs us Q I r ⟨c, st, ds, z, rel, hx, hf, q⟩
  unfold fLen at hf
  split at hf
  · split at hf
    · cases hf
      obtain ⟨x, rfl, h⟩ := hx.one
      obtain rfl := h.str
      exact call_len pins s σ H _ us Q I r ⟨_, _, rfl, ⟨by assumption, rfl⟩, q _ c H Go.refl rel (.int _)⟩
    · cases hf
  · cases hf
    obtain ⟨x, rfl, h⟩ := hx.one
    obtain ⟨a, vs, rfl, h1, h1', z1, h2⟩ := h.tup rel
    exact call_len pins s σ H _ us Q I r ⟨_, _, rfl, .inr ⟨vs, h1, rfl⟩, by rw [h2.length']; exact q _ c H Go.refl rel (.int _)⟩
  · cases hf
    obtain ⟨x, rfl, h⟩ := hx.one
    obtain ⟨a, vs, rfl, h1, z1, h2⟩ := h.list
    exact call_len pins s σ H _ us Q I r ⟨_, _, rfl, .inl ⟨vs, h1.sq, rfl⟩, by rw [h2.length']; exact q _ c H Go.refl rel (.int _)⟩
  · cases hf
theorem ok_all (hc : X.calm = true) : CallR X (.builtin "all") (rC X.K fAll) := by
  intro pins s σ H xs us Q I r ⟨c, st, ds, z, rel, hx, hf, q⟩
  unfold fAll at hf
  split at hf
  · obtain ⟨bs, e, rfl⟩ := Option.map_eq_some_iff.mp hf
    obtain ⟨x, rfl, h⟩ := hx.one
    obtain ⟨a, vs, rfl, h1, z1, h2⟩ := h.list
    obtain rfl := bools_all e h2
    exact cr_all hc pins s σ H _ us Q I r ⟨a, bs, rfl, h1.sq, q _ c H Go.refl rel (.bl _)⟩
  · cases hf
theorem ok_any (hc : X.calm = true) : CallR X (.builtin "any") (rC X.K fAny) := by
  intro pins s σ H xs us Q I r ⟨c, st, ds, z, rel, hx, hf, q⟩
  unfold fAny at hf
  split at hf
  · obtain ⟨bs, e, rfl⟩ := Option.map_eq_some_iff.mp hf
    obtain ⟨x, rfl, h⟩ := hx.one
    obtain ⟨a, vs, rfl, h1, z1, h2⟩ := h.list
    obtain rfl := bools_all e h2
    exact cr_any hc pins s σ H _ us Q I r ⟨a, bs, rfl, h1.sq, q _ c H Go.refl rel (.bl _)⟩
  · cases hf
theorem ok_sum (hc : X.calm = true) : CallR X (.builtin "sum") (rC X.K fSum) := by
  intro pins s σ H xs us Q I r ⟨c, st, ds, z, rel, hx, hf, q⟩
  unfold fSum at hf
  split at hf
  · obtain ⟨bs, e, rfl⟩ := Option.map_eq_some_iff.mp hf
    obtain ⟨x, rfl, h⟩ := hx.one
    obtain ⟨a, vs, rfl, h1, z1, h2⟩ := h.list
    obtain rfl := ints_all e h2
    exact cr_sum hc pins s σ H _ us Q I r ⟨a, bs, rfl, h1.sq, q _ c H Go.refl rel (.int _)⟩
  · cases hf
theorem ok_max1 (hc : X.calm = true) : CallR X (.builtin "max") (rC X.K fMax1) := by
  intro pins s σ H xs us Q I r ⟨c, st, ds, z, rel, hx, hf, q⟩
  unfold fMax1 at hf
  split at hf
  · obtain ⟨ns, e, e2⟩ := Option.bind_eq_some_iff.mp hf
    obtain ⟨m, e3, rfl⟩ := Option.map_eq_some_iff.mp e2
    obtain ⟨x, rfl, h⟩ := hx.one
    obtain ⟨a, vs, rfl, h1, z1, h2⟩ := h.list
    obtain rfl := ints_all e h2
    have hm := List.max?_eq_some_iff.mp e3
    refine cr_max hc pins s σ H _ us Q I r ⟨a, ns, rfl, h1.sq, ?_, fun m' k1 k2 => ?_⟩
    · cases ns with
      | nil => cases e3
      | cons _ _ => exact Nat.succ_pos _
    · have z1 := hm.2 m' k1
      have z2 := k2 m hm.1
      obtain rfl : m' = m := by omega
      exact q _ c H Go.refl rel (.int _)
  · cases hf
theorem ok_min1 (hc : X.calm = true) : CallR X (.builtin "min") (rC X.K fMin1) := by
  intro pins s σ H xs us Q I r ⟨c, st, ds, z, rel, hx, hf, q⟩
  unfold fMin1 at hf
  split at hf
  · obtain ⟨ns, e, e2⟩ := Option.bind_eq_some_iff.mp hf
    obtain ⟨m, e3, rfl⟩ := Option.map_eq_some_iff.mp e2
    obtain ⟨x, rfl, h⟩ := hx.one
    obtain ⟨a, vs, rfl, h1, z1, h2⟩ := h.list
    obtain rfl := ints_all e h2
    have hm := List.min?_eq_some_iff.mp e3
    refine cr_min hc pins s σ H _ us Q I r ⟨a, ns, rfl, h1.sq, ?_, fun m' k1 k2 => ?_⟩
    · cases ns with
      | nil => cases e3
      | cons _ _ => exact Nat.succ_pos _
    · have z1 := hm.2 m' k1
      have z2 := k2 m hm.1
      obtain rfl : m' = m := by omega
      exact q _ c H Go.refl rel (.int _)
  · cases hf
theorem ok_max2 (hc : X.calm = true) : CallR X (.builtin "max") (rC X.K fMax2) := by
  intro pins s σ H xs us Q I r ⟨c, st, ds, z, rel, hx, hf, q⟩
  unfold fMax2 at hf
  split at hf
  · cases hf
    obtain ⟨x, y, rfl, h1, h2⟩ := hx.two
    obtain rfl := h1.int
    obtain rfl := h2.int
    exact call_max2 hc pins s σ H _ us Q I r ⟨_, _, rfl, q _ c H Go.refl rel (.int _)⟩
  · cases hf
theorem ok_min2 (hc : X.calm = true) : CallR X (.builtin "min") (rC X.K fMin2) := by
  intro pins s σ H xs us Q I r ⟨c, st, ds, z, rel, hx, hf, q⟩
  unfold fMin2 at hf
  split at hf
  · cases hf
    obtain ⟨x, y, rfl, h1, h2⟩ := hx.two
    obtain rfl := h1.int
    obtain rfl := h2.int
    exact call_min2 hc pins s σ H _ us Q I r ⟨_, _, rfl, q _ c H Go.refl rel (.int _)⟩
  · cases hf
theorem nuMin2_int (i j : Int) : nuMin2 (.int i) (.int j) = some (.int (minI i j)) := by
  unfold nuMin2 minI nuLt nuCB
  by_cases h : j < i
  · simp [h]
  · simp [h]
theorem ok_min3 (hc : X.calm = true) : CallR X (.builtin "min") (rC X.K fMin3) := by
  intro pins s σ H xs us Q I r ⟨c, st, ds, z, rel, hx, hf, q⟩
  unfold fMin3 at hf
  split at hf
  · cases hf
    obtain ⟨x, y, w, rfl, h1, h2, h3⟩ := hx.three
    obtain rfl := h1.int
    obtain rfl := h2.int
    obtain rfl := h3.int
    exact call_min3Nu hc pins s σ H _ us Q I r ⟨_, _, _, _, rfl, by unfold nuMin3; rw [nuMin2_int, Option.bind_some, nuMin2_int], q _ c H Go.refl rel (.int _)⟩
  · cases hf
theorem ok_int : CallR X (.type "int") (rC X.K fInt) := by
  intro pins s σ H xs us Q I r ⟨c, st, ds, z, rel, hx, hf, q⟩
  unfold fInt at hf
  split at hf
  · cases hf
    obtain ⟨x, rfl, h⟩ := hx.one
    obtain rfl := h.int
    exact call_int1 pins s σ H _ us Q I r (.inl ⟨_, rfl, q _ c H Go.refl rel (.int _)⟩)
  · cases hf
    obtain ⟨x, rfl, h⟩ := hx.one
    obtain rfl := h.bool
    exact call_int1 pins s σ H _ us Q I r (.inr ⟨_, rfl, q _ c H Go.refl rel (.int _)⟩)
  · cases hf
theorem ok_tuple : CallR X (.type "tuple") (rC X.K fTuple) := by
  intro pins s σ H xs us Q I r ⟨c, st, ds, z, rel, hx, hf, q⟩
  unfold fTuple at hf
  split at hf
  · cases hf
    obtain ⟨x, rfl, h⟩ := hx.one
    obtain ⟨a, vs, rfl, h1, z1, h2⟩ := h.list
    exact call_tuple_of pins s σ H _ us Q I r ⟨a, vs, rfl, .inl ⟨h1.sq, new_tup rel z1 h2 q⟩⟩
  · cases hf
    obtain ⟨x, rfl, h⟩ := hx.one
    obtain ⟨a, vs, rfl, h1, h1', z1, h2⟩ := h.tup rel
    exact call_tuple_of pins s σ H _ us Q I r ⟨a, vs, rfl, .inr ⟨h1, q _ c H Go.refl rel (.tup h1' z1 h2)⟩⟩
  · cases hf
theorem ok_list : CallR X (.type "list") (rC X.K fList) := by
  intro pins s σ H xs us Q I r ⟨c, st, ds, z, rel, hx, hf, q⟩
  unfold fList at hf
  split at hf
  · cases hf
    obtain ⟨x, rfl, h⟩ := hx.one
    obtain ⟨a, vs, rfl, h1, z1, h2⟩ := h.list
    exact call_list_of pins s σ H _ us Q I r ⟨a, vs, rfl, .inl (h1.sq), new_lst rel z1 h2 q⟩
  · cases hf
    obtain ⟨x, rfl, h⟩ := hx.one
    obtain ⟨a, vs, rfl, h1, h1', z1, h2⟩ := h.tup rel
    exact call_list_of pins s σ H _ us Q I r ⟨a, vs, rfl, .inr h1, new_lst rel z1 h2 q⟩
  · cases hf
theorem ok_repr (hg : X.A.guards = some []) (hu : X.A.units + 66 < cLine) : CallR X (.builtin "repr") (rC X.K fRepr) := by
  intro pins s σ H xs us Q I r ⟨c, st, ds, z, rel, hx, hf, q⟩
  unfold fRepr at hf
  split at hf
  · split at hf
    · rename_i d hd
      obtain ⟨hno, hs, hz, hdp⟩ := hd
      cases hf
      obtain ⟨x, rfl, h⟩ := hx.one
      have h' := h.dp rel
      have qs := q _ c H Go.refl rel (.str d.shown)
      obtain ⟨u, rfl, ru⟩ := vals1 r
      have rd := h'.rdn I u ru hno
      cases h' with
      | non => cases ru; exact PySem.P.repr_of_none ⟨.str _, H, I.tok _, ⟨_, rfl⟩, qs⟩
      | bl b => cases ru; exact PySem.P.repr_of_bool ⟨.str _, H, I.tok _, ⟨_, rfl⟩, qs⟩
      | int i =>
        obtain ⟨t, rfl⟩ := ru
        exact PySem.P.repr_of_int (of_decide_eq_true hs) ⟨.str _, H, I.tok _, ⟨_, rfl⟩, qs⟩
      | str y =>
        obtain ⟨t, rfl⟩ := ru
        exact PySem.P.repr_of_str ⟨.str _, H, I.tok _, ⟨_, rfl⟩, qs⟩ hz
      | lst _ _ _ =>
        cases ru
        exact repr_of_rdn rd hs hz hg (by omega) fun h' u tk k => ⟨.str _, H, I.kept k, ⟨_, rfl⟩, qs⟩
      | tup _ _ _ =>
        cases ru
        exact repr_of_rdn rd hs hz hg (by omega) fun h' u tk k => ⟨.str _, H, I.kept k, ⟨_, rfl⟩, qs⟩
      | exc _ _ => simp [noObj, noObjP] at hno
      | excF _ _ _ _ => simp [noObj, noObjP] at hno
      | ins _ _ _ _ => simp [noObj, noObjP] at hno
      | dct _ _ _ =>
        cases ru
        exact repr_of_rdn rd hs hz hg (by omega) fun h' u tk k => ⟨.str _, H, I.kept k, ⟨_, rfl⟩, qs⟩
    · cases hf
  · cases hf
theorem ok_bf (hc : X.calm = true) (hg : X.A.guards = some []) (hu : X.A.units + 66 < cLine) : ∀ b : BF, CallR X b.val (rC X.K (fBF b))
  | .len => ok_len
  | .all => ok_all hc
  | .any => ok_any hc
  | .sum => ok_sum hc
  | .max1 => ok_max1 hc
  | .min1 => ok_min1 hc
  | .max2 => ok_max2 hc
  | .min2 => ok_min2 hc
  | .min3 => ok_min3 hc
  | .int => ok_int
  | .tuple => ok_tuple
  | .list => ok_list
  | .repr => ok_repr hg hu
  | .sorted => ok_sort hu
theorem se_bf (b : BF) (hc : X.calm = true) (hgu : X.A.guards = some []) (hu : X.A.units + 66 < cLine) {x : Str} {p pos : Pos} {e : Expr} {es : List Expr} {ms : LM} (hx : x = b.name) (hg : Gl X x) (hm : X.mg x = none) (ha : PA X (e :: es) (tL X W ms))
    (he : starEach (e :: es) X.env = (false, eval e X.env) :: starEach es X.env) (hpl : (backTo pos (starEach es X.env)).any (·.1) = false) : PE X (.Call (.Name x p) (e :: es) [] pos) (tM X W (mCall (fBF b) ms)) := by
  subst hx
  have k := ok_bf hc hgu hu b
  have n1 := b.nameOk
  have bt := b.boot
  have fin : ∀ {t : TE}, PE X (.Call (.Name b.name p) (e :: es) [] pos) t → (∀ σ H Q, tM X W (mCall (fBF b) ms) σ H Q → t σ H Q) → PE X (.Call (.Name b.name p) (e :: es) [] pos) (tM X W (mCall (fBF b) ms)) := fun h k => h.imp k
  cases b <;> first
    | exact fin (pe_callB k hg hm bt ha n1.1 n1.2 he hpl) fun σ H Q h => tM_call h
    | exact fin (pe_callTy k hg hm bt ha n1.1 n1.2 he hpl) fun σ H Q h => tM_call h
end
end L2.Q

set_option maxHeartbeats 1000000
/-! Q layer, part F: isinstance, defs of one's own, raise. -/
namespace L2.Q
open PySem PySem.Spec PyProof.Rows

/-! ### isinstance of a built-in class -/
inductive BT where
  | int | bool | str | tuple | list | dict
  deriving DecidableEq
def BT.nm : BT → String
  | .int => "int" | .bool => "bool" | .str => "str" | .tuple => "tuple" | .list => "list" | .dict => "dict"
def BT.st : BT → Str
  | .int => "int" | .bool => "bool" | .str => "str" | .tuple => "tuple" | .list => "list" | .dict => "dict"
def isiD : BT → PyData → Bool
  | .int, .int _ => true
  | .int, .bool _ => true
  | .bool, .bool _ => true
  | .str, .str _ => true
  | .tuple, .tuple _ => true
  | .list, .list _ => true
  | .dict, .dict ((.none, _) :: _) => false
  | .dict, .dict _ => true
  | _, _ => false
def tyD : PyData → String
  | .none => "NoneType" | .bool _ => "bool" | .int _ => "int" | .str _ => "str" | .list _ => "list" | .tuple _ => "tuple" | .dict _ => "dict"
def isObj : PyData → Bool
  | .dict ((.none, _) :: _) => true
  | _ => false
theorem isi_kit : ∀ (b : BT) (d : PyData), isObj d = false → kitB (tyD d) b.nm = some (isiD b d)
  | .int, .none, _ => by show kitB "NoneType" "int" = some false; decide +kernel
  | .int, .bool _, _ => by show kitB "bool" "int" = some true; decide +kernel
  | .int, .int _, _ => by show kitB "int" "int" = some true; decide +kernel
  | .int, .str _, _ => by show kitB "str" "int" = some false; decide +kernel
  | .int, .list _, _ => by show kitB "list" "int" = some false; decide +kernel
  | .int, .tuple _, _ => by show kitB "tuple" "int" = some false; decide +kernel
  | .int, .dict _, _ => by show kitB "dict" "int" = some false; decide +kernel
  | .bool, .none, _ => by show kitB "NoneType" "bool" = some false; decide +kernel
  | .bool, .bool _, _ => by show kitB "bool" "bool" = some true; decide +kernel
  | .bool, .int _, _ => by show kitB "int" "bool" = some false; decide +kernel
  | .bool, .str _, _ => by show kitB "str" "bool" = some false; decide +kernel
  | .bool, .list _, _ => by show kitB "list" "bool" = some false; decide +kernel
  | .bool, .tuple _, _ => by show kitB "tuple" "bool" = some false; decide +kernel
  | .bool, .dict _, _ => by show kitB "dict" "bool" = some false; decide +kernel
  | .str, .none, _ => by show kitB "NoneType" "str" = some false; decide +kernel
  | .str, .bool _, _ => by show kitB "bool" "str" = some false; decide +kernel
  | .str, .int _, _ => by show kitB "int" "str" = some false; decide +kernel
  | .str, .str _, _ => by show kitB "str" "str" = some true; decide +kernel
  | .str, .list _, _ => by show kitB "list" "str" = some false; decide +kernel
  | .str, .tuple _, _ => by show kitB "tuple" "str" = some false; decide +kernel
  | .str, .dict _, _ => by show kitB "dict" "str" = some false; decide +kernel
  | .tuple, .none, _ => by show kitB "NoneType" "tuple" = some false; decide +kernel
  | .tuple, .bool _, _ => by show kitB "bool" "tuple" = some false; decide +kernel
  | .tuple, .int _, _ => by show kitB "int" "tuple" = some false; decide +kernel
  | .tuple, .str _, _ => by show kitB "str" "tuple" = some false; decide +kernel
  | .tuple, .list _, _ => by show kitB "list" "tuple" = some false; decide +kernel
  | .tuple, .tuple _, _ => by show kitB "tuple" "tuple" = some true; decide +kernel
  | .tuple, .dict _, _ => by show kitB "dict" "tuple" = some false; decide +kernel
  | .list, .none, _ => by show kitB "NoneType" "list" = some false; decide +kernel
  | .list, .bool _, _ => by show kitB "bool" "list" = some false; decide +kernel
  | .list, .int _, _ => by show kitB "int" "list" = some false; decide +kernel
  | .list, .str _, _ => by show kitB "str" "list" = some false; decide +kernel
  | .list, .list _, _ => by show kitB "list" "list" = some true; decide +kernel
  | .list, .tuple _, _ => by show kitB "tuple" "list" = some false; decide +kernel
  | .list, .dict _, _ => by show kitB "dict" "list" = some false; decide +kernel
  | .dict, .none, _ => by show kitB "NoneType" "dict" = some false; decide +kernel
  | .dict, .bool _, _ => by show kitB "bool" "dict" = some false; decide +kernel
  | .dict, .int _, _ => by show kitB "int" "dict" = some false; decide +kernel
  | .dict, .str _, _ => by show kitB "str" "dict" = some false; decide +kernel
  | .dict, .list _, _ => by show kitB "list" "dict" = some false; decide +kernel
  | .dict, .tuple _, _ => by show kitB "tuple" "dict" = some false; decide +kernel
  | .dict, .dict ps, h => by
    have e : isiD .dict (.dict ps) = true := by
      cases ps with
      | nil => rfl
      | cons p r =>
        obtain ⟨k, v⟩ := p
        cases k <;> first | rfl | cases h
    rw [e]
    show kitB "dict" "dict" = some true
    decide +kernel
theorem BT.boot : ∀ b : BT, bootBuiltins b.st = some (.type b.nm) ∧ b.st ≠ "__name__" ∧ (b.st == ("__debug__" : Str)) = false
  | .int => by decide +kernel
  | .bool => by decide +kernel
  | .str => by decide +kernel
  | .tuple => by decide +kernel
  | .list => by decide +kernel
  | .dict => by decide +kernel
theorem ty_of {K : PySem.W.Frag} {H : Hp} {x : V} {d : PyData} (h : DQ K H x d) (ho : isObj d = false) : TyX K H x (.type (tyD d)) := by
  cases h with
  | exc _ _ => cases ho
  | excF _ _ _ _ => cases ho
  | ins _ _ _ _ => cases ho
  | non => exact .base .non
  | bl b => exact .base (.bl b)
  | int i => exact .base (.int i)
  | str y => exact .base (.str y)
  | lst hr _ _ =>
    rcases hr with (h | ⟨o, h⟩) | ⟨its, n, h, _, _⟩
    · exact .base (.lst h)
    · exact .base (.frz h)
    · exact .kList h rfl
  | tup hr _ _ =>
    rcases hr with (h | ⟨o, h⟩) | ⟨o, its, n, h, hc, _⟩
    · exact .base (.tup h)
    · exact .fTuple h
    · exact .kTuple h hc
  | dct hr _ _ =>
    rcases hr with h | ⟨o, h⟩
    · exact .base (.dK h)
    · exact .fDict h
theorem bt_mem : ∀ b : BT, b.nm ∈ bts
  | .int => by decide
  | .bool => by decide
  | .str => by decide
  | .tuple => by decide
  | .list => by decide
  | .dict => by decide
section
variable {K : PySem.W.Frag} {C : Addr}
structure KinK (K : PySem.W.Frag) (C : Addr) : Prop where
  ha : PySem.W.findIn K (.ref C) "__class__" = some (some (.builtin "object.__class__"))
  hn : PySem.W.specialIn K (.builtin "object.__class__") "__get__" = some (some (.builtin "getset_descriptor.__get__"))
  ht : PySem.W.takesIn K (.builtin "object.__class__") = some true
  hm : PySem.W.mroIn K C (.type "object") = some true
  hd : PySem.W.hasDictIn K C = true
  kits : ∀ n ∈ bts, PySem.W.kitOne K (.ref C) (.type n) = some false
theorem kin_of (h : kinB K C = true) : KinK K C := by
  unfold kinB at h
  simp only [Bool.and_eq_true, decide_eq_true_eq, List.all_eq_true] at h
  obtain ⟨⟨⟨⟨⟨h1, h2⟩, h3⟩, h4⟩, h5⟩, h6⟩ := h
  exact ⟨h1, h2, h3, h4, h5, h6⟩
structure ExK (K : PySem.W.Frag) (C : Addr) : Prop where
  kin : KinK K C
  hc : (PySem.W.clsIn K C).isSome = true
  hg : PySem.W.findIn K (.ref C) "__getattribute__" = some (some (.builtin "BaseException.__getattribute__"))
  hk : PySem.W.findIn K (.ref C) "__getattr__" = some none
  hs : PySem.W.subIn K (.ref C) (.type "BaseException") = some true
theorem exK_of (h : exKB K C = true) : ExK K C := by
  unfold exKB at h
  simp only [Bool.and_eq_true, decide_eq_true_eq] at h
  obtain ⟨⟨⟨⟨h1, h2⟩, h3⟩, h4⟩, h5⟩ := h
  exact ⟨kin_of h1, h2, h3, h4, h5⟩
structure InsK (K : PySem.W.Frag) (C : Addr) : Prop where
  kin : KinK K C
  pg : PySem.W.plainGet K C Str.empty = true
  po : PySem.W.plainOver K C = true
  sa : PySem.W.findIn K (.ref C) "__setattr__" = some (some (.builtin "object.__setattr__"))
theorem insK_of (h : insKB K C = true) : InsK K C := by
  unfold insKB at h
  simp only [Bool.and_eq_true, decide_eq_true_eq] at h
  obtain ⟨⟨⟨h1, h2⟩, h3⟩, h4⟩ := h
  exact ⟨kin_of h1, h2, h3, h4⟩
theorem InsK.cls (h : InsK K C) : Cls K C := ⟨h.pg, h.kin.hd, h.po, h.sa⟩
end
/-- an object with a class of the text -/
inductive ObX (K : PySem.W.Frag) (H : Hp) (a C : Addr) : Prop
  | exc : ExK K C → H a = some (ExV a (.ref C) none) → ObX K H a C
  | excF {dx : Addr} {fs : List (Str × V)} : ExK K C → H a = some (ExV a (.ref C) (some dx)) → H dx = some (.xd fs) → ObX K H a C
  | ins {dx : Addr} {fs : List (Str × V)} : InsK K C → H a = some (.ins C dx fs) → ObX K H a C
theorem ob_of {K : PySem.W.Frag} {H : Hp} {x : V} {d : PyData} (h : DQ K H x d) (ho : isObj d = true) : ∃ a C, x = .ref a ∧ ObX K H a C ∧ ∀ b : BT, isiD b d = false ∧ PySem.W.kitOne K (.ref C) (.type b.nm) = some false := by
  cases h with
  | exc k e => exact ⟨_, _, rfl, .exc (exK_of k) e, fun b => ⟨by cases b <;> rfl, (exK_of k).kin.kits _ (bt_mem b)⟩⟩
  | excF k e e2 _ => exact ⟨_, _, rfl, .excF (exK_of k) e e2, fun b => ⟨by cases b <;> rfl, (exK_of k).kin.kits _ (bt_mem b)⟩⟩
  | ins k e _ _ => exact ⟨_, _, rfl, .ins (insK_of k) e, fun b => ⟨by cases b <;> rfl, (insK_of k).kin.kits _ (bt_mem b)⟩⟩
  | @dct a kvs ps r r1 r2 =>
    exfalso
    unfold isObj at ho
    split at ho
    · rename_i v rest e
      cases e
      cases kvs with
      | nil => cases r1
      | cons q qs =>
        cases r1 with
        | cons a t =>
          obtain ⟨k, y⟩ := q
          cases k <;> cases a
    · cases ho
  | _ => cases ho
section
variable {X : Cx}
/-- isinstance of such an object -/
def rIsO (K : PySem.W.Frag) : List V → Hp → VK → Prop := fun xs H Q => ∃ (a C : Addr) (c : V) (cv : Value) (b : Bool), xs = [.ref a, c] ∧ (∀ u, RelV c u → u = cv) ∧ ObX K H a C ∧ PySem.W.kitOne K (.ref C) cv = some b ∧ Q (.bl b) H
theorem call_isO : CallR X (.builtin "isinstance") (rIsO X.K) := by
  intro pins s σ H xs us Q I r ⟨a, C, c, cv, b, e1, hcv, ob, e, q⟩
  subst e1
  cases r with
  | cons rx rr =>
    cases rr with
    | cons rt rr =>
      cases rr
      cases rx
      have ec := hcv _ rt
      subst ec
      cases ob with
      | exc k ea =>
        obtain ⟨⟨oe, vs, hget, hz, hv⟩, _⟩ := (show ObjOk X.prog X.w H s.heap a (ExV a (.ref C) none) from I.hok a _ ea)
        have J : PySem.W.InstAt s.heap a oe C none := by
          obtain ⟨oc, od, oda, osl⟩ := oe
          obtain ⟨h1, h2⟩ := hz
          dsimp only at h1 h2 hv
          subst h1 h2 hv
          exact ⟨hget, rfl, rfl, trivial⟩
        exact PySem.W.kia_one (PySem.W.kitx_exc k.hc k.hg k.hk k.hs k.kin.ha k.kin.hn k.kin.ht k.kin.hm) I.kIn J e (fun z => nomatch z) fun tk => ⟨.bl b, H, I.kept (t' := tk) fun _ _ z => z, rfl, q⟩
      | @excF dx fs k ea ed =>
        obtain ⟨⟨oe, vs, hget, hz, hv⟩, _⟩ := (show ObjOk X.prog X.w H s.heap a (ExV a (.ref C) (some dx)) from I.hok a _ ea)
        obtain ⟨mA, hns, hr⟩ := (show ObjOk X.prog X.w H s.heap dx (.xd fs) from I.hok dx _ ed)
        obtain ⟨od, ho, hl⟩ := lookIn_ns hns
        have J : PySem.W.InstAt s.heap a oe C (some od) := ⟨hget, hz.1, by unfold PySem.W.notCls; rw [hv] <;> rfl, by rw [hz.2]; exact ho⟩
        exact PySem.W.kia_one (PySem.W.kitx_exc k.hc k.hg k.hk k.hs k.kin.ha k.kin.hn k.kin.ht k.kin.hm) I.kIn J e (fun z => nomatch z) fun tk => ⟨.bl b, H, I.kept (t' := tk) fun _ _ z => z, rfl, q⟩
      | ins k ea =>
        obtain ⟨mA, O, _, _, _, _⟩ := ins_get I.hok ea
        obtain ⟨od, J, _⟩ := O.look
        exact PySem.W.kia_one (PySem.W.kitx_own (k.cls.get "__class__") k.kin.hd k.kin.ha k.kin.hn k.kin.ht k.kin.hm) I.kIn J e (fun z => nomatch z) fun tk => ⟨.bl b, H, I.kept (t' := tk) fun _ _ z => z, rfl, q⟩
def rIsB (K : PySem.W.Frag) : List V → Hp → VK → Prop := fun xs H Q => rIsi K xs H Q ∨ rIsO K xs H Q
theorem call_isB : CallR X (.builtin "isinstance") (rIsB X.K) := by
  intro pins s σ H xs us Q I r h
  rcases h with h | h
  · exact call_isi pins s σ H xs us Q I r h
  · exact call_isO pins s σ H xs us Q I r h
end
section
variable {X : Cx} {W : WX}
def mIsi (b : BT) (m : EM) : EM := fun ρ st => (m ρ st).bind fun x st1 => match deref x st1 with
  | some d => .ok (.d (.bool (isiD b d))) st1
  | none => .fail
theorem se_isi (b : BT) {x y : Str} {p p2 pos : Pos} {e : Expr} {m : EM} (hx : x = "isinstance") (hy : y = b.st) (hg : Gl X x) (hm : X.mg x = none) (hgy : Gl X y) (hmy : X.mg y = none) (ha : PE X e (tM X W m))
    (he : starEach [e, .Name y p2] X.env = (false, eval e X.env) :: starEach [.Name y p2] X.env) (he2 : starEach [.Name y p2] X.env = (false, eval (.Name y p2) X.env) :: starEach [] X.env) (hpl : (backTo pos (starEach [.Name y p2] X.env)).any (·.1) = false) :
    PE X (.Call (.Name x p) [e, .Name y p2] [] pos) (tM X W (mIsi b m)) := by
  subst hx hy
  have bt := b.boot
  refine (pe_callB call_isB hg hm boot_isinstance (pa_cons ha (pa_cons (pe_bltn (v := .ty b.nm) hgy hmy bt.1 rfl bt.2.1 bt.2.2) pa_nil he2) he) (by decide) (by decide) he hpl).imp fun σ H Q ⟨c, st, ρ, en, rel, o⟩ => ?_
  refine ⟨c, st, ρ, en, rel, (Out.bind o).mono fun a st1 c1 H1 g1 r1 o1 x hx => ?_⟩
  try dsimp only at o1
  cases q1 : deref a st1 with
  | none => simp only [q1] at o1; exact o1.elim
  | some d =>
    simp only [q1] at o1
    have hd := (deref_dv r1 hx q1).dp r1
    have o2 := o1 c1 H1 Go.refl r1 _ (.bl _)
    cases ho : isObj d with
    | false => exact .inl ⟨x, .ty b.nm, _, _, _, rfl, .ty _, ty_of hd ho, kit_ty (isi_kit b d ho), o2⟩
    | true =>
      obtain ⟨p, C, rfl, ob, h⟩ := ob_of hd ho
      rw [(h b).1] at o2
      exact .inr ⟨p, C, .ty b.nm, .type b.nm, false, rfl, fun u r => r, ob, (h b).2, o2⟩
end

/-! ### defs of one's own -/
/-- a def keeps a promise wherever no repr is under way -/
structure FnG (P : Program) (w : World) (K : PySem.W.Frag) (mg : Str → Option Value) (base : Heap) (k : Nat) (f : Addr) (fd : FuncData) (ps : List Str) (sp : Sp) : Prop where
  many : ∀ vs H Q E, sp vs H Q E → vs.length = ps.length
  runs : ∀ (A : Around) (outer : List PySem.Env) (s : Shared) (H : Hp) (us : List Value) (vs : List V) (Q : VK) (E : XK), Room k A → A.guards = some [] → Env0 P w K mg base A outer s H → BindsTo s fd ⟨us, []⟩ (ps.zip us) →
    Vals vs us → sp vs H Q E → codeAny (model P w) A (.call (.ref f) ⟨us, []⟩) (CR (L2.CX P w) outer P w H s Q E) s
theorem FnG.more {P : Program} {w : World} {K : PySem.W.Frag} {mg : Str → Option Value} {base : Heap} {j k : Nat} {f : Addr} {fd : FuncData} {ps : List Str} {sp : Sp} (F : FnG P w K mg base j f fd ps sp) (h : j ≤ k) : FnG P w K mg base k f fd ps sp :=
  ⟨F.many, fun A outer s H us vs Q E r => F.runs A outer s H us vs Q E (r.mono h)⟩
/-- what a def's function on results promises -/
def spF (K : PySem.W.Frag) (mg : Str → Option Value) (n : Nat) (F : List Vv → Sto → Res Vv) : Sp := fun vs H Q E => ∃ c st as, as.length = n ∧ RVs K c as vs ∧ Rel K c H st ∧ Out K mg c H (F as st) (fun a _ c' H' => ∀ x, RV K c' a x → Q x H') E
theorem RVs.many {K : PySem.W.Frag} {c : Cfg} : ∀ {as : List Vv} {vs : List V}, RVs K c as vs → vs.length = as.length
  | [], vs, h => by
    have h' : vs = [] := h
    subst h'
    rfl
  | a :: as, vs, h => by
    obtain ⟨v, r, rfl, h1, h2⟩ := h
    show r.length + 1 = as.length + 1
    rw [RVs.many h2]
section
variable {X : Cx} {W : WX}
/-- f(..): the def sees the store as it is, and it is left as it leaves it -/
def mFn (n : Nat) (F : List Vv → Sto → Res Vv) (ms : LM) : EM := fun ρ st => (ms ρ st).bind fun as st1 => if as.length = n then F as st1 else .fail
/-- the call of a def by its promise -/
theorem run_g {k n : Nat} {f : Addr} {fd : FuncData} {ps : List Str} {F : List Vv → Sto → Res Vv} {pins : List (Addr × Obj)} {σ : St} {H : Hp} {s : Shared} {Q : VK} {us : List Value} {vs : List V} (G : FnG X.prog X.w X.K X.mg X.base k f fd ps (spF X.K X.mg n F))
    (hr : Room k X.A) (hgu : X.A.guards = some []) (hb : Binds X.K fd ps []) (tk : Takes X W) (I : Inv X pins σ H s) (r : Vals vs us)
    (h : spF X.K X.mg n F vs H Q fun cls d H' => W cls d σ H') : wpAny (model X.prog X.w) X.A (call (.ref f) us) (EP X pins σ Q) X.xe s := by
  have hl : us.length = ps.length := by rw [← r.length]; exact G.many _ _ _ _ h
  have hbb := hb s us I.kIn (by rw [List.append_nil]; exact hl)
  rw [List.append_nil] at hbb
  refine wpAny_call (codeAny_mono (G.runs X.A X.stack s H us vs Q _ hr hgu I.env0 hbb r h) fun res s' hq => ?_)
  cases res with
  | error e => exact tk e s' (XE.of_call I (fun _ _ _ z => z) hq)
  | ok fl =>
    cases fl with
    | ret u => exact I.after hq
    | next => exact (show False from hq).elim
    | brk => exact (show False from hq).elim
    | cont => exact (show False from hq).elim
theorem se_fn {k n : Nat} {f : Addr} {fd : FuncData} {ps : List Str} {F : List Vv → Sto → Res Vv} {x : Str} {p pos : Pos} {e : Expr} {es : List Expr} {ms : LM} (G : FnG X.prog X.w X.K X.mg X.base k f fd ps (spF X.K X.mg n F)) (hr : Room k X.A) (hgu : X.A.guards = some [])
    (hg : Gl X x) (hm : X.mg x = some (.ref f)) (hk : PySem.W.keepIn X.K (.ref f) = true) (hb : Binds X.K fd ps []) (tk : Takes X W) (ha : PA X (e :: es) (tL X W ms))
    (hdb : (x == ("__debug__" : Str)) = false) (he : starEach (e :: es) X.env = (false, eval e X.env) :: starEach es X.env) (hpl : (backTo pos (starEach es X.env)).any (·.1) = false) : PE X (.Call (.Name x p) (e :: es) [] pos) (tM X W (mFn n F ms)) := by
  constructor
  intro pins s σ H Q I ⟨c, st, ρ, en, rel, o⟩
  have hA : tL X W ms σ H fun vs H1 => spF X.K X.mg n F vs H1 Q fun cls d H' => W cls d σ H' := by
    refine ⟨c, st, ρ, en, rel, (Out.bind o).mono fun as st1 c1 H1 g1 r1 o1 xs hx => ?_⟩
    try dsimp only at o1
    split at o1
    · exact ⟨c1, st1, as, by assumption, hx, r1, o1⟩
    · exact o1.elim
  refine wpAny_Call_Name_kw (ld_glob I hg hm (PySem.W.callWith_K (h₀ := X.base) I.ok.mod.kin hk ?_ he hpl) hdb)
  exact thn (ha.run pos pins s σ H _ I hA) fun us s1 ⟨vs, H1, I1, r, q⟩ => ⟨I1.kIn, run_g G hr hgu hb tk I1 r q⟩
end
end L2.Q

set_option maxHeartbeats 1000000
/-! Q layer, part G: targets, what is walked, comprehensions. -/
namespace L2.Q
open PySem PySem.Spec PyProof.Rows

/-! ### modes of a def: the store is seen and left; seen, new objects forgotten; not seen -/
def scopeF (F : List Vv → Sto → Res Vv) : List Vv → Sto → Res Vv := fun as st => match F as st with
  | .ok (.d x) st' => .ok (.d x) (st'.take st.length)
  | .exc e st' => .exc e (st'.take st.length)
  | _ => .fail
def pureF (F : List Vv → Sto → Res Vv) : List Vv → Sto → Res Vv := fun as st => match allD as with
  | some _ => match F as [] with
    | .ok (.d x) _ => .ok (.d x) st
    | .exc e _ => .exc e st
    | _ => .fail
  | none => .fail
section
variable {K : PySem.W.Frag} {mg : Str → Option Value} {c c' : Cfg} {H H' : Hp} {st st' : Sto}
theorem Rel.cut (r : Rel K c H st) (r' : Rel K c' H' st') (g : Go c H c' H') : Go c H ⟨c'.G, c.φ⟩ H' ∧ Rel K ⟨c'.G, c.φ⟩ H' (st'.take st.length) := by
  obtain ⟨l, e⟩ := g.pre
  have hn : st.length ≤ st'.length := by rw [← r.len, ← r'.len, e, List.length_append]; omega
  have ph : ∀ (n : Nat) a, c.φ[n]? = some a → c'.φ[n]? = some a := fun n a h => by
    rw [e, List.getElem?_append_left (List.getElem?_eq_some_iff.mp h).1]; exact h
  have sh : ∀ (n : Nat) o, (st'.take st.length)[n]? = some o → st'[n]? = some o := fun n o h => by
    rw [List.getElem?_take] at h
    split at h
    · exact h
    · cases h
  refine ⟨⟨g.mono, ⟨[], by simp⟩, g.keep, g.gnew, fun a h => .inl h⟩, ⟨r'.sub, by rw [List.length_take, r.len]; omega, r.nd, fun n a o h1 h2 => ?_, fun n a o h1 h2 hl => ?_⟩⟩
  · exact (r'.obj n a o (ph n a h1) (sh n o h2)).mono (fun _ _ e => e) fun _ _ e => e
  · exact r'.free n a o (ph n a h1) (sh n o h2) hl
theorem Rel.apart (r : Rel K c H st) (g : Go ⟨c.G, []⟩ H c' H') (r' : Rel K c' H' st') : Go c H ⟨c'.G, c.φ⟩ H' ∧ Rel K ⟨c'.G, c.φ⟩ H' st := by
  have k : ∀ a o, H a = some o → H' a = some o := fun a o e => g.keep a o e (by simp)
  refine ⟨⟨g.mono, ⟨[], by simp⟩, fun a o e _ => k a o e, fun a h => ?_, fun a h => .inl h⟩, ⟨r'.sub, r.len, r.nd, fun n a o h1 h2 => (r.obj n a o h1 h2).mono g.mono fun _ u e => k a u e, fun n a o h1 h2 hl => ?_⟩⟩
  · rcases g.gnew a h with z | z | z
    · exact .inl z
    · exact .inr (.inl z)
    · exact absurd (show a ∈ ([] : List Addr) from z) (by simp)
  · cases q : c'.G a with
    | none => rfl
    | some u =>
      rcases g.gnew a (by rw [q]; simp) with z | z | z
      · exact absurd (r.free n a o h1 h2 hl) z
      · exact absurd z (r.inH n a o h1 h2 hl)
      · exact absurd (show a ∈ ([] : List Addr) from z) (by simp)
theorem Rel.bare (r : Rel K c H st) : Rel K ⟨c.G, []⟩ H [] := ⟨r.sub, rfl, List.nodup_nil, fun n a o h => by simp at h, fun n a o h => by simp at h⟩
theorem allD_alone {as : List Vv} {ds : List PyData} {vs : List V} {c2 : Cfg} (e : allD as = some ds) (h : RVs K c as vs) (hG : c2.G = c.G) : RVs K c2 as vs := by
  induction as generalizing vs ds with
  | nil => exact h
  | cons a as ih =>
    obtain ⟨v, r, rfl, h1, h2⟩ := h
    cases a with
    | ref n => cases e
    | d x =>
      obtain ⟨es, e1, _⟩ := Option.map_eq_some_iff.mp e
      exact ⟨v, r, rfl, by show DQ K c2.G v x; rw [hG]; exact h1, ih e1 h2⟩
theorem ExR.at_ {e : Exn} {cls : Value} {d : Option Addr} {φ : List Addr} (h : ExR K mg c' H' e cls d) : ExR K mg ⟨c'.G, φ⟩ H' e cls d := by
  obtain ⟨h1, h2, h3, h4⟩ := h
  exact ⟨h1, h2, h3, h4⟩
theorem sp_pure {n : Nat} {F : List Vv → Sto → Res Vv} {vs : List V} {Q : VK} {E : XK} (h : spF K mg n (pureF F) vs H Q E) : spF K mg n F vs H Q E := by
  obtain ⟨c, st, as, hl, hv, rel, o⟩ := h
  unfold pureF at o
  cases e1 : allD as with
  | none => simp only [e1] at o; exact o.elim
  | some ds =>
    simp only [e1] at o
    refine ⟨⟨c.G, []⟩, [], as, hl, allD_alone e1 hv rfl, rel.bare, ?_⟩
    cases e2 : F as [] with
    | fail => simp only [e2] at o; exact o.elim
    | exc e s =>
      simp only [e2] at o
      intro cls d c' H' g r x
      obtain ⟨g', r'⟩ := rel.apart g r
      exact o cls d _ H' g' r' x.at_
    | ok a s =>
      cases a with
      | ref m => simp only [e2] at o; exact o.elim
      | d x =>
        simp only [e2] at o
        intro c' H' g r v hv
        obtain ⟨g', r'⟩ := rel.apart g r
        exact o _ H' g' r' v hv
theorem sp_scope {n : Nat} {F : List Vv → Sto → Res Vv} {vs : List V} {Q : VK} {E : XK} (h : spF K mg n (scopeF F) vs H Q E) : spF K mg n F vs H Q E := by
  obtain ⟨c, st, as, hl, hv, rel, o⟩ := h
  unfold scopeF at o
  refine ⟨c, st, as, hl, hv, rel, ?_⟩
  cases e2 : F as st with
  | fail => simp only [e2] at o; exact o.elim
  | exc e s =>
    simp only [e2] at o
    intro cls d c' H' g r x
    obtain ⟨g', r'⟩ := rel.cut r g
    exact o cls d _ H' g' r' x.at_
  | ok a s =>
    cases a with
    | ref m => simp only [e2] at o; exact o.elim
    | d x =>
      simp only [e2] at o
      intro c' H' g r v hv
      obtain ⟨g', r'⟩ := rel.cut r g
      exact o _ H' g' r' v hv
end

/-! ### targets -/
inductive Tp where
  | n (i : Nat)
  | t (is : List Nat)
inductive Tg where
  | name (i : Nat)
  | tup (is : List Nat)
  | nest (ts : List Tp)
def setAll : List Nat → List PyData → Env → Option Env
  | [], [], ρ => some ρ
  | i :: is, x :: xs, ρ => setAll is xs (ρ.set i (some (.d x)))
  | _, _, _ => none
def setTps : List Tp → List PyData → Env → Option Env
  | [], [], ρ => some ρ
  | .n i :: ts, x :: xs, ρ => setTps ts xs (ρ.set i (some (.d x)))
  | .t is :: ts, .tuple ys :: xs, ρ => (setAll is ys ρ).bind (setTps ts xs)
  | _, _, _ => none
def Tg.asg : Tg → Vv → Env → Option Env
  | .name i, x, ρ => some (ρ.set i (some x))
  | .tup is, .d (.tuple xs), ρ => setAll is xs ρ
  | .tup _, _, _ => none
  | .nest ts, .d (.tuple xs), ρ => setTps ts xs ρ
  | .nest _, _, _ => none
def Tp.slots : Tp → List Nat
  | .n i => [i]
  | .t is => is
def Tg.slots : Tg → List Nat
  | .name i => [i]
  | .tup is => is
  | .nest ts => ts.flatMap Tp.slots
theorem wipe_set {σ : St} {i : Nat} {x : Option V} : ∀ {vs : List Nat}, i ∈ vs → wipe (σ.set i x) vs = wipe σ vs := by
  intro vs
  induction vs with
  | nil => intro h; cases h
  | cons v vs ih =>
    intro h
    show (wipe (σ.set i x) vs).set v none = (wipe σ vs).set v none
    have gen : ∀ ws : List Nat, i ∉ ws → wipe (σ.set i x) ws = (wipe σ ws).set i x := by
      intro ws
      induction ws with
      | nil => intro _; rfl
      | cons w ws ih2 =>
        intro hn
        simp only [List.mem_cons, not_or] at hn
        show (wipe (σ.set i x) ws).set w none = ((wipe σ ws).set w none).set i x
        rw [ih2 hn.2, List.set_comm _ _ hn.1]
    by_cases hv : i ∈ vs
    · rw [ih hv]
    · have e : i = v := by
        rcases List.mem_cons.mp h with z | z
        · exact z
        · exact absurd z hv
      subst e
      rw [gen vs hv, List.set_set]
/-- what a target's rule is given -/
def GOk (K : PySem.W.Frag) (g : TG) (tg : Tg) : Prop := ∀ (c : Cfg) (H : Hp) (st : Sto) (v : V) (x : Vv) (σ : St) (ρ ρ1 : Env) (Q : St → Hp → Prop), Rel K c H st → EnvR K c σ ρ → RV K c x v → tg.asg x ρ = some ρ1 →
  (∀ σ1, EnvR K c σ1 ρ1 → (∀ vs : List Nat, (∀ i ∈ tg.slots, i ∈ vs) → wipe σ1 vs = wipe σ vs) → Q σ1 H) → g v σ H Q
theorem gok_name {K : PySem.W.Frag} (i : Nat) : GOk K (gName i) (.name i) := fun c H st v x σ ρ ρ1 Q rel en hx e q => by
  cases e
  exact q _ (en.set hx i) fun vs hv => wipe_set (hv i (by simp [Tg.slots]))
def gAll : List Nat → TGs
  | [] => gNil
  | i :: is => gCons (gName i) (gAll is)
theorem gok_all {K : PySem.W.Frag} {c : Cfg} {H : Hp} {st : Sto} {Q : St → Hp → Prop} (rel : Rel K c H st) : ∀ {is : List Nat} {xs : List PyData} {vs : List V} {σ : St} {ρ ρ1 : Env}, EnvR K c σ ρ → DQAll K c.G vs xs → setAll is xs ρ = some ρ1 →
    (∀ σ1, EnvR K c σ1 ρ1 → (∀ ws : List Nat, (∀ i ∈ is, i ∈ ws) → wipe σ1 ws = wipe σ ws) → Q σ1 H) → gAll is vs σ H Q
  | [], [], vs, σ, ρ, ρ1, en, h, e, q => by
    cases h
    cases e
    exact ⟨rfl, q _ en fun _ _ => rfl⟩
  | i :: is, x :: xs, vs, σ, ρ, ρ1, en, h, e, q => by
    cases h with
    | cons a t =>
      refine ⟨_, _, rfl, gok_all rel (en.set (x := .d x) a i) t e fun σ1 en1 hw => q σ1 en1 fun ws hi => ?_⟩
      rw [hw ws fun j hj => hi j (List.mem_cons_of_mem _ hj), wipe_set (hi i List.mem_cons_self)]
  | [], _ :: _, _, _, _, _, _, _, e, _ => by cases e
  | _ :: _, [], _, _, _, _, _, _, e, _ => by cases e
theorem setAll_len : ∀ {is : List Nat} {xs : List PyData} {ρ ρ1 : Env}, setAll is xs ρ = some ρ1 → xs.length = is.length
  | [], [], _, _, _ => rfl
  | _ :: is, _ :: xs, _, _, e => congrArg (· + 1) (setAll_len (is := is) (xs := xs) e)
  | [], _ :: _, _, _, e => by cases e
  | _ :: _, [], _, _, e => by cases e
theorem gok_tup {K : PySem.W.Frag} (is : List Nat) : GOk K (gTup K is.length (gAll is)) (.tup is) := fun c H st v x σ ρ ρ1 Q rel en hx e q => by
  cases x with
  | ref n => cases e
  | d x =>
    cases x with
    | tuple xs =>
      obtain ⟨a, vs, rfl, h1, z1, h2⟩ := dp_tup hx
      have e' : setAll is xs ρ = some ρ1 := e
      refine ⟨a, vs, rfl, h1.mono' rel.sub, ?_, gok_all rel en h2 e' q⟩
      rw [h2.length', setAll_len e']
    | _ => cases e

def gTps (K : PySem.W.Frag) : List Tp → TGs
  | [] => gNil
  | .n i :: ts => gCons (gName i) (gTps K ts)
  | .t is :: ts => gCons (gTup K is.length (gAll is)) (gTps K ts)
theorem gok_tps {K : PySem.W.Frag} {c : Cfg} {H : Hp} {st : Sto} {Q : St → Hp → Prop} (rel : Rel K c H st) : ∀ {ts : List Tp} {xs : List PyData} {vs : List V} {σ : St} {ρ ρ1 : Env}, EnvR K c σ ρ → DQAll K c.G vs xs → setTps ts xs ρ = some ρ1 →
    (∀ σ1, EnvR K c σ1 ρ1 → (∀ ws : List Nat, (∀ i ∈ ts.flatMap Tp.slots, i ∈ ws) → wipe σ1 ws = wipe σ ws) → Q σ1 H) → gTps K ts vs σ H Q
  | [], [], vs, σ, ρ, ρ1, en, h, e, q => by
    cases h
    cases e
    exact ⟨rfl, q _ en fun _ _ => rfl⟩
  | .n i :: ts, x :: xs, vs, σ, ρ, ρ1, en, h, e, q => by
    cases h with
    | cons a t =>
      refine ⟨_, _, rfl, gok_tps rel (en.set (x := .d x) a i) t e fun σ1 en1 hw => q σ1 en1 fun ws hi => ?_⟩
      rw [hw ws fun j hj => hi j (List.mem_append_right _ hj), wipe_set (hi i (List.mem_append_left _ List.mem_cons_self))]
  | .t is :: ts, x :: xs, vs, σ, ρ, ρ1, en, h, e, q => by
    cases h with
    | cons a t =>
      cases x with
      | tuple ys =>
        have e' : (setAll is ys ρ).bind (setTps ts xs) = some ρ1 := e
        obtain ⟨ρ2, e1, e2⟩ := Option.bind_eq_some_iff.mp e'
        refine ⟨_, _, rfl, gok_tup is c H st _ (.d (.tuple ys)) σ ρ ρ2 _ rel en a e1 fun σ2 en2 hw2 => gok_tps rel en2 t e2 fun σ1 en1 hw => q σ1 en1 fun ws hi => ?_⟩
        rw [hw ws fun j hj => hi j (List.mem_append_right _ hj), hw2 ws fun j hj => hi j (List.mem_append_left _ hj)]
      | _ => cases e
  | [], _ :: _, _, _, _, _, _, _, e, _ => by cases e
  | .n _ :: _, [], _, _, _, _, _, _, e, _ => by cases e
  | .t _ :: _, [], _, _, _, _, _, _, e, _ => by cases e
theorem setTps_len : ∀ {ts : List Tp} {xs : List PyData} {ρ ρ1 : Env}, setTps ts xs ρ = some ρ1 → xs.length = ts.length
  | [], [], _, _, _ => rfl
  | .n _ :: ts, _ :: xs, _, _, e => congrArg (· + 1) (setTps_len (ts := ts) (xs := xs) e)
  | .t is :: ts, x :: xs, ρ, ρ1, e => by
    cases x with
    | tuple ys =>
      have e' : (setAll is ys ρ).bind (setTps ts xs) = some ρ1 := e
      obtain ⟨ρ2, e1, e2⟩ := Option.bind_eq_some_iff.mp e'
      exact congrArg (· + 1) (setTps_len e2)
    | _ => cases e
  | [], _ :: _, _, _, e => by cases e
  | .n _ :: _, [], _, _, e => by cases e
  | .t _ :: _, [], _, _, e => by cases e
theorem gok_nest {K : PySem.W.Frag} (ts : List Tp) : GOk K (gTup K ts.length (gTps K ts)) (.nest ts) := fun c H st v x σ ρ ρ1 Q rel en hx e q => by
  cases x with
  | ref n => cases e
  | d x =>
    cases x with
    | tuple xs =>
      obtain ⟨a, vs, rfl, h1, z1, h2⟩ := dp_tup hx
      have e' : setTps ts xs ρ = some ρ1 := e
      refine ⟨a, vs, rfl, h1.mono' rel.sub, ?_, gok_tps rel en h2 e' q⟩
      rw [h2.length', setTps_len e']
    | _ => cases e

/-! ### what is walked -/
/-- an iterator that gives just these data -/
def JOk (K : PySem.W.Frag) (c : Cfg) (H : Hp) (J : It) (xs : List PyData) : Prop := xs.length ≤ sizeLine ∧ ∀ (i : Nat) c' H' st', (∀ a o, c.G a = some o → c'.G a = some o) → Rel K c' H' st' →
  (∀ x, xs[i]? = some x → J.go i H' ∧ ∀ v H'', J.yld i H' v H'' → ∃ c'', Go c' H' c'' H'' ∧ Rel K c'' H'' st' ∧ DQ K c''.G v x) ∧ (xs.length ≤ i → J.stop i H')
abbrev IM := Env → Sto → Res (List PyData)
def tI (X : Cx) (W : WX) (m : IM) : TI := fun σ H R => ∃ c st ρ, EnvR X.K c σ ρ ∧ Rel X.K c H st ∧ Out X.K X.mg c H (m ρ st) (fun xs _ c' H' => ∀ J, JOk X.K c' H' J xs → R J H') fun cls d H' => W cls d σ H'
theorem JOk.later {K : PySem.W.Frag} {c c1 : Cfg} {H H1 : Hp} {J : It} {xs : List PyData} (g : Go c H c1 H1) (h : JOk K c H J xs) : JOk K c1 H1 J xs := ⟨h.1, fun i c' H' st' g' r' => h.2 i c' H' st' (fun a o e => g' a o (g.mono a o e)) r'⟩
section
variable {K : PySem.W.Frag} {c : Cfg} {H : Hp}
theorem jok_list {a : Addr} {vs : List V} {xs : List PyData} (h : RdL K c.G a vs) (hz : xs.length ≤ sizeLine) (r : DQAll K c.G vs xs) : JOk K c H (Itl K a) xs := ⟨hz, fun i c' H' st' g r' => by
  have hs : SqL K H' a vs := ((h.mono' g).mono' r'.sub).sq
  refine ⟨fun x e => ?_, fun e => ⟨vs, hs, by rw [r.length']; exact e⟩⟩
  obtain ⟨v, h1, h2⟩ := r.get e
  refine ⟨⟨vs, v, hs, h1⟩, fun w H'' y => ?_⟩
  obtain ⟨rfl, y⟩ := y
  have e2 := y vs hs
  rw [h1] at e2
  cases e2
  exact ⟨c', Go.refl, r', dq_mono g h2⟩⟩
theorem jok_tup {a : Addr} {vs : List V} {xs : List PyData} (h : SqT K c.G a vs) (hz : xs.length ≤ sizeLine) (r : DQAll K c.G vs xs) : JOk K c H (Itt K a) xs := ⟨hz, fun i c' H' st' g r' => by
  have hs : SqT K H' a vs := (h.mono' g).mono' r'.sub
  refine ⟨fun x e => ?_, fun e => ⟨vs, hs, by rw [r.length']; exact e⟩⟩
  obtain ⟨v, h1, h2⟩ := r.get e
  refine ⟨⟨vs, v, hs, h1⟩, fun w H'' y => ?_⟩
  obtain ⟨rfl, y⟩ := y
  have e2 := y vs hs
  rw [h1] at e2
  cases e2
  exact ⟨c', Go.refl, r', dq_mono g h2⟩⟩
def upFrom (lo : Int) : Nat → List PyData
  | 0 => []
  | n + 1 => .int lo :: upFrom (lo + 1) n
theorem upFrom_len : ∀ (n : Nat) (lo : Int), (upFrom lo n).length = n
  | 0, _ => rfl
  | n + 1, lo => congrArg (· + 1) (upFrom_len n (lo + 1))
theorem upFrom_get : ∀ (n : Nat) (lo : Int) (i : Nat), i < n → (upFrom lo n)[i]? = some (.int (lo + i))
  | n + 1, lo, 0, _ => by simp [upFrom]
  | n + 1, lo, i + 1, h => by
    have := upFrom_get n (lo + 1) i (by omega)
    simp only [upFrom, List.getElem?_cons_succ]
    rw [this]
    congr 2
    omega
theorem jok_rng (lo : Int) (n : Nat) (hz : n ≤ sizeLine) : JOk K c H (Itr lo n) (upFrom lo n) := ⟨by rw [upFrom_len]; exact hz, fun i c' H' st' g r' => by
  refine ⟨fun x e => ?_, fun e => by rw [upFrom_len] at e; exact e⟩
  have hi : i < n := by
    have := (List.getElem?_eq_some_iff.mp e).1
    rw [upFrom_len] at this
    exact this
  rw [upFrom_get n lo i hi] at e
  cases e
  refine ⟨hi, fun w H'' y => ?_⟩
  obtain ⟨rfl, rfl⟩ := y
  exact ⟨c', Go.refl, r', .int _⟩⟩
def numbered : Nat → List PyData → List PyData
  | _, [] => []
  | n, x :: xs => .tuple [.int n, x] :: numbered (n + 1) xs
theorem numbered_len : ∀ (xs : List PyData) (n : Nat), (numbered n xs).length = xs.length
  | [], _ => rfl
  | _ :: xs, n => congrArg (· + 1) (numbered_len xs (n + 1))
theorem numbered_get : ∀ (xs : List PyData) (n i : Nat), (numbered n xs)[i]? = xs[i]?.map fun x => .tuple [.int ((n + i : Nat) : Int), x]
  | [], _, _ => by simp [numbered]
  | x :: xs, n, 0 => by simp [numbered]
  | x :: xs, n, i + 1 => by
    simp only [numbered, List.getElem?_cons_succ]
    rw [numbered_get xs (n + 1) i]
    congr 1
    funext z
    congr 4
    omega
theorem jok_enum {a : Addr} {vs : List V} {xs : List PyData} (h : RdL K c.G a vs) (hz : xs.length ≤ sizeLine) (r : DQAll K c.G vs xs) : JOk K c H (Ite K a) (numbered 0 xs) := ⟨by rw [numbered_len]; exact hz, fun i c' H' st' g r' => by
  have hs : SqL K H' a vs := ((h.mono' g).mono' r'.sub).sq
  refine ⟨fun x e => ?_, fun e => ⟨vs, hs, by rw [r.length']; rw [numbered_len] at e; exact e⟩⟩
  rw [numbered_get] at e
  obtain ⟨y, e1, rfl⟩ := Option.map_eq_some_iff.mp e
  obtain ⟨v, h1, h2⟩ := r.get e1
  refine ⟨⟨vs, v, hs, h1⟩, fun w H'' q => ?_⟩
  obtain ⟨T, z, rfl, hT, rfl, y⟩ := q
  have e2 := y vs hs
  rw [h1] at e2
  cases e2
  obtain ⟨g2, r2⟩ := r'.frozen (o := .tup [.int ((i : Nat) : Int), v]) hT
  refine ⟨_, g2, r2, .tup (SqT.of upd_same) (by show 2 ≤ sizeLine; decide) (.cons ?_ (.cons (dq_mono g2.mono (dq_mono g h2)) .nil))⟩
  rw [Nat.zero_add]
  exact .int _⟩
theorem jok_enumT {a : Addr} {vs : List V} {xs : List PyData} (h : SqT K c.G a vs) (hz : xs.length ≤ sizeLine) (r : DQAll K c.G vs xs) : JOk K c H (IteT K a) (numbered 0 xs) := ⟨by rw [numbered_len]; exact hz, fun i c' H' st' g r' => by
  have hs : SqT K H' a vs := (h.mono' g).mono' r'.sub
  refine ⟨fun x e => ?_, fun e => ⟨vs, hs, by rw [r.length']; rw [numbered_len] at e; exact e⟩⟩
  rw [numbered_get] at e
  obtain ⟨y, e1, rfl⟩ := Option.map_eq_some_iff.mp e
  obtain ⟨v, h1, h2⟩ := r.get e1
  refine ⟨⟨vs, v, hs, h1⟩, fun w H'' q => ?_⟩
  obtain ⟨T, z, rfl, hT, rfl, y⟩ := q
  have e2 := y vs hs
  rw [h1] at e2
  cases e2
  obtain ⟨g2, r2⟩ := r'.frozen (o := .tup [.int ((i : Nat) : Int), v]) hT
  refine ⟨_, g2, r2, .tup (SqT.of upd_same) (by show 2 ≤ sizeLine; decide) (.cons ?_ (.cons (dq_mono g2.mono (dq_mono g h2)) .nil))⟩
  rw [Nat.zero_add]
  exact .int _⟩
end
section
variable {X : Cx} {W : WX}
theorem _root_.L2.PI.imp {tg iter : Expr} {t t' : TI} (h : PI X tg iter t) (k : ∀ σ H R, t' σ H R → t σ H R) : PI X tg iter t' := ⟨fun pins s σ H R I q => h.run pins s σ H R I (k σ H R q)⟩
/-- the lists and tuples that are handed on -/
def mItems (m : EM) : IM := fun ρ st => (m ρ st).bind fun x st1 => match x with
  | .d (.list xs) => .ok xs st1
  | .d (.tuple xs) => .ok xs st1
  | _ => .fail
theorem pi_items {tg l : Expr} {m : EM} (hl : PE X l (tM X W m)) : PI X tg l (tI X W (mItems m)) := by
  constructor
  intro pins s σ H R I ⟨c, st, ρ, en, rel, o⟩
  have ob := Out.bind o
  cases e : m ρ st with
  | fail => rw [e] at ob; exact ob.elim
  | exc x st1 =>
    rw [e] at ob
    exact (pi_list (tg := tg) hl).run pins s σ H R I ⟨c, st, ρ, en, rel, by rw [e]; exact ob⟩
  | ok v st1 =>
    rw [e] at ob
    cases v with
    | ref n => exact (pi_list (tg := tg) hl).run pins s σ H R I ⟨c, st, ρ, en, rel, by rw [e]; exact fun c' H' g' r' x hx => (ob c' H' g' r').elim⟩
    | d d =>
      cases d with
      | list xs =>
        refine (pi_list (tg := tg) hl).run pins s σ H R I ⟨c, st, ρ, en, rel, ?_⟩
        rw [e]
        intro c' H' g' r' x hx
        have q := ob c' H' g' r' c' H' Go.refl r'
        cases hx with
        | lst h z r => exact ⟨_, rfl, ⟨_, (h.mono' r'.sub).sq⟩, q _ (jok_list h z r)⟩
      | tuple xs =>
        refine (pi_tup (tg := tg) hl).run pins s σ H R I ⟨c, st, ρ, en, rel, ?_⟩
        rw [e]
        intro c' H' g' r' x hx
        have q := ob c' H' g' r' c' H' Go.refl r'
        cases hx with
        | tup h z r => exact ⟨_, rfl, ⟨_, h.mono' r'.sub⟩, q _ (jok_tup h z r)⟩
      | _ => exact (pi_list (tg := tg) hl).run pins s σ H R I ⟨c, st, ρ, en, rel, by rw [e]; exact fun c' H' g' r' x hx => (ob c' H' g' r').elim⟩
/-- range(n), range(a, b) -/
def mRng1 (m : EM) : IM := fun ρ st => (m ρ st).bind fun x st1 => match x with
  | .d (.int n) => if n ≤ 1000000 ∧ -1000000 ≤ n then .ok (upFrom 0 n.toNat) st1 else .fail
  | _ => .fail
theorem pi_rng1 {tg e : Expr} {m : EM} {x : Str} {p pos : Pos} (hx : x = "range") (hg : Gl X x) (hm : X.mg x = none) (he : PE X e (tM X W m)) (hs : starEach [e] X.env = [(false, eval e X.env)]) : PI X tg (.Call (.Name x p) [e] [] pos) (tI X W (mRng1 m)) := by
  subst hx
  refine (pi_range1 hg hm (pa_cons he pa_nil hs) hs).imp fun σ H R ⟨c, st, ρ, en, rel, o⟩ => ?_
  refine ⟨c, st, ρ, en, rel, (Out.bind o).mono fun a st1 c1 H1 g1 r1 o1 x hx => ?_⟩
  try dsimp only at o1
  split at o1
  · split at o1
    · rename_i n hn
      obtain rfl := dp_int hx
      refine ⟨n, rfl, by omega, by omega, o1 c1 H1 Go.refl r1 _ (jok_rng 0 n.toNat ?_)⟩
      rw [sizeLine_eq]
      omega
    · exact o1.elim
  · exact o1.elim
/-- enumerate(a list or a tuple) -/
def mEnum (m : EM) : IM := fun ρ st => (m ρ st).bind fun x st1 => match x with
  | .d (.list xs) => .ok (numbered 0 xs) st1
  | .d (.tuple xs) => .ok (numbered 0 xs) st1
  | _ => .fail
theorem pi_enumL {e : Expr} {m : EM} {x : Str} {p pos tpos : Pos} {elts : List Expr} {kk : Nat} (hx : x = "enumerate") (hg : Gl X x) (hm : X.mg x = none) (he : PE X e (tM X W m)) (hs : starEach [e] X.env = [(false, eval e X.env)]) :
    PI X (.Tuple elts kk tpos) (.Call (.Name x p) [e] [] pos) (tI X W (mEnum m)) := by
  subst hx
  refine (pi_enumT hg hm (pa_cons he pa_nil hs) hs).imp fun σ H R ⟨c, st, ρ, en, rel, o⟩ => ?_
  refine ⟨c, st, ρ, en, rel, (Out.bind o).mono fun a st1 c1 H1 g1 r1 o1 x hx => ?_⟩
  try dsimp only at o1
  split at o1
  · cases hx with
    | lst h z r => exact ⟨_, _, rfl, .inl ⟨(h.mono' r1.sub).sq, o1 c1 H1 Go.refl r1 _ (jok_enum h z r)⟩⟩
  · cases hx with
    | tup h z r => exact ⟨_, _, rfl, .inr ⟨h.mono' r1.sub, o1 c1 H1 Go.refl r1 _ (jok_enumT h z r)⟩⟩
  · exact o1.elim
end
end L2.Q

set_option maxHeartbeats 1000000
/-! Q layer, part H: list comprehensions. -/
namespace L2.Q
open PySem PySem.Spec PyProof.Rows

def noX {α : Type} : Res α → Res α
  | .ok a st => .ok a st
  | _ => .fail
def wipeE (ρ : Env) : List Nat → Env
  | [] => ρ
  | v :: vs => (wipeE ρ vs).set v none
theorem wipeE_len (ρ : Env) : ∀ vs : List Nat, (wipeE ρ vs).length = ρ.length
  | [] => rfl
  | v :: vs => by unfold wipeE; rw [List.length_set, wipeE_len ρ vs]
theorem wipeE_some {ρ : Env} {i : Nat} {x : Vv} : ∀ {vs : List Nat}, (wipeE ρ vs)[i]? = some (some x) → ρ[i]? = some (some x) ∧ i ∉ vs
  | [], h => ⟨h, by simp⟩
  | v :: vs, h => by
    unfold wipeE at h
    by_cases hi : v = i
    · subst hi
      by_cases hv : v < (wipeE ρ vs).length
      · rw [List.getElem?_set_self hv] at h; cases h
      · rw [List.getElem?_eq_none (by simpa using hv)] at h; cases h
    · rw [List.getElem?_set_ne hi] at h
      obtain ⟨h1, h2⟩ := wipeE_some h
      exact ⟨h1, by simp only [List.mem_cons, not_or]; exact ⟨fun e => hi e.symm, h2⟩⟩
theorem wipe_keep {σ : St} {i : Nat} : ∀ {vs : List Nat}, i ∉ vs → (wipe σ vs)[i]? = σ[i]?
  | [], _ => rfl
  | v :: vs, h => by
    simp only [List.mem_cons, not_or] at h
    unfold wipe
    rw [List.getElem?_set_ne (Ne.symm h.1)]
    exact wipe_keep h.2
theorem EnvR.wipe {K : PySem.W.Frag} {c : Cfg} {σ : St} {ρ : Env} (h : EnvR K c σ ρ) (vs : List Nat) : EnvR K c (L2.wipe σ vs) (wipeE ρ vs) := by
  refine ⟨by rw [wipe_length, wipeE_len]; exact h.len, fun i x e => ?_⟩
  obtain ⟨h1, h2⟩ := wipeE_some e
  obtain ⟨v, q, r⟩ := h.val i x h1
  exact ⟨v, by rw [wipe_keep h2]; exact q, r⟩
theorem wipe_twice (σ : St) : ∀ vs ws : List Nat, (∀ i ∈ ws, i ∈ vs) → wipe (wipe σ ws) vs = wipe σ vs
  | vs, [], _ => rfl
  | vs, w :: ws, h => by
    show wipe ((wipe σ ws).set w none) vs = wipe σ vs
    rw [wipe_set (h w List.mem_cons_self)]
    exact wipe_twice σ vs ws fun i hi => h i (List.mem_cons_of_mem _ hi)

def compL (tg : Tg) (mt me : EM) (ρ : Env) : List PyData → Sto → Res (List PyData)
  | [], st => .ok [] st
  | x :: xs, st => match tg.asg (.d x) ρ with
    | none => .fail
    | some ρ1 => (noX (mt ρ1 st)).bind fun b st1 => match b with
      | .d (.bool true) => (noX (me ρ1 st1)).bind fun y st2 => match y with
        | .d y => (compL tg mt me ρ xs st2).bind fun ys st3 => .ok (y :: ys) st3
        | .ref _ => .fail
      | .d (.bool false) => compL tg mt me ρ xs st1
      | _ => .fail
/-- how a list is handed on: as data, as an object that is changed later -/
def okL : List PyData → Sto → Res Vv := fun ys st => .ok (.d (.list ys)) st
def okN : List PyData → Sto → Res Vv := fun ys st => .ok (.ref st.length) (st ++ [.lst ys])
def mCompF (fn : List PyData → Sto → Res Vv) (mi : IM) (own : List Nat) (tg : Tg) (mt me : EM) : EM := fun ρ st => (mi ρ st).bind fun xs st1 => (compL tg mt me (wipeE ρ own) xs st1).bind fun ys st2 => fn ys st2
def mComp : IM → List Nat → Tg → EM → EM → EM := mCompF okL
def mYes : EM := fun _ st => .ok (.d (.bool true)) st
/-- a list that nobody else sees -/
structure Safe (D : Addr) (acc : List V) (c : Cfg) (H : Hp) : Prop where
  at_ : H D = some (.lst acc)
  out : D ∉ c.φ
  thaw : c.G D = none
theorem Safe.go {D : Addr} {acc : List V} {c c' : Cfg} {H H' : Hp} (s : Safe D acc c H) (g : Go c H c' H') : Safe D acc c' H' := by
  refine ⟨g.keep D _ s.at_ s.out, fun m => ?_, ?_⟩
  · rcases g.fnew D m with z | z
    · exact s.out z
    · rw [s.at_] at z; cases z
  · cases q : c'.G D with
    | none => rfl
    | some u =>
      rcases g.gnew D (by rw [q]; simp) with z | z | z
      · exact absurd s.thaw z
      · rw [s.at_] at z; cases z
      · exact absurd z s.out
abbrev W0 : WX := fun _ _ _ _ => False
section
variable {K : PySem.W.Frag} {mg : Str → Option Value} {c : Cfg} {H : Hp} {st : Sto}
theorem Rel.aside {D : Addr} {o o' : HO} {acc : List V} (r : Rel K c H st) (s : Safe D acc c H) : Rel K c (upd H D o') st := by
  refine ⟨fun a u e => ?_, r.len, r.nd, fun n a ob h1 h2 => (r.obj n a ob h1 h2).mono (fun _ _ e => e) fun _ u e => ?_, r.free⟩
  · rw [upd_ne (by rintro rfl; rw [s.thaw] at e; cases e)]
    exact r.sub a u e
  · rw [upd_ne (by rintro rfl; exact s.out (List.mem_of_getElem? h1))]
    exact e
theorem Rel.adopt {D : Addr} {acc : List V} (r : Rel K c H st) (s : Safe D acc c H) : Rel K ⟨upd c.G D (.lst acc), c.φ⟩ H st := by
  have m : ∀ a u, c.G a = some u → upd c.G D (.lst acc) a = some u := upd_sub s.thaw
  refine ⟨fun a u e => ?_, r.len, r.nd, fun n a ob h1 h2 => (r.obj n a ob h1 h2).mono m fun _ _ e => e, fun n a ob h1 h2 hl => ?_⟩
  · have e' : upd c.G D (.lst acc) a = some u := e
    by_cases q : a = D
    · subst q
      rw [upd_same] at e'; cases e'; exact s.at_
    · rw [upd_ne q] at e'
      exact r.sub a u e'
  · show upd c.G D (.lst acc) a = none
    rw [upd_ne (by rintro rfl; exact s.out (List.mem_of_getElem? h1))]
    exact r.free n a ob h1 h2 hl
end
section
variable {X : Cx} {W : WX}
theorem tM_compF {fn : List PyData → Sto → Res Vv} {own : List Nat} {mi : IM} {tgt : Tg} {g : TG} {mt me : EM} {σ : St} {Q : VK}
    (hfin : ∀ (c1 : Cfg) (H1 : Hp) (c2 : Cfg) (H2 : Hp) (st2 : Sto) (acc : List V) (ds : List PyData) (D : Addr), H1 D = none → Go c1 H1 c2 H2 → Rel X.K c2 H2 st2 → Safe D acc c2 H2 → DQAll X.K c2.G acc ds → ds.length ≤ sizeLine →
      Out X.K X.mg c1 H1 (fn ds st2) (fun a _ c' H' => ∀ x, RV X.K c' a x → Q x H') (fun cls d H' => W cls d σ H') → Q (.ref D) H2) (gk : GOk X.K g tgt) (hsl : ∀ i ∈ tgt.slots, i ∈ own) {H : Hp} (h : tM X W (mCompF fn mi own tgt mt me) σ H Q) :
    tLc (tI X W mi) g (tT X W0 mt) (tM X W0 me) own σ H Q := by
  obtain ⟨c, st, ρ, en, rel, o⟩ := h
  refine ⟨c, st, ρ, en, rel, (Out.bind o).mono fun xs st1 c1 H1 g1 r1 o1 J jok D hD => ?_⟩
  have hD1 : c1.G D = none := by
    cases q : c1.G D with
    | none => rfl
    | some u => rw [r1.sub D u q] at hD; cases hD
  have hD2 : D ∉ c1.φ := r1.out hD
  have en1 := en.go g1
  have g0 : Go c1 H1 c1 (upd H1 D (.lst [])) := ⟨fun _ _ e => e, ⟨[], by simp⟩, fun a u e _ => upd_sub hD a u e, fun a h => .inl h, fun a h => .inl h⟩
  have r0 : Rel X.K c1 (upd H1 D (.lst [])) st1 := by
    refine ⟨fun a u e => upd_sub hD a u (r1.sub a u e), r1.len, r1.nd, fun n a ob h1 h2 => (r1.obj n a ob h1 h2).mono (fun _ _ e => e) fun _ u e => upd_sub hD a u e, r1.free⟩
  refine ⟨fun i m H2 => m = xs.length - i ∧ i ≤ xs.length ∧ ∃ c2 st2 acc ds, Go c1 H1 c2 H2 ∧ Rel X.K c2 H2 st2 ∧ Safe D acc c2 H2 ∧ DQAll X.K c2.G acc ds ∧ ds.length ≤ i ∧
    Out X.K X.mg c1 H1 ((compL tgt mt me (wipeE ρ own) (xs.drop i) st2).bind fun ys st3 => fn (ds ++ ys) st3) (fun a _ c' H' => ∀ x, RV X.K c' a x → Q x H') fun cls d H' => W cls d σ H',
    ⟨_, rfl, Nat.zero_le _, c1, st1, [], [], g0, r0, ⟨upd_same, hD2, hD1⟩, .nil, Nat.le_refl _, by simpa using o1⟩, ?_⟩
  rintro i m H2 ⟨rfl, hi, c2, st2, acc, ds, g2, r2, sf, hd, hdl, o2⟩
  by_cases hlt : i < xs.length
  · have hx : xs[i]? = some xs[i] := List.getElem?_eq_getElem hlt
    rw [List.drop_eq_getElem_cons hlt] at o2
    obtain ⟨hgo, hy⟩ := (jok.2 i c2 H2 st2 g2.mono r2).1 _ hx
    refine .inr ⟨hgo, fun H3 => ∃ c3 st3 acc ds, Go c1 H1 c3 H3 ∧ Rel X.K c3 H3 st3 ∧ Safe D acc c3 H3 ∧ DQAll X.K c3.G acc ds ∧ ds.length ≤ i + 1 ∧
      Out X.K X.mg c1 H1 ((compL tgt mt me (wipeE ρ own) (xs.drop (i + 1)) st3).bind fun ys st3 => fn (ds ++ ys) st3) (fun a _ c' H' => ∀ x, RV X.K c' a x → Q x H') fun cls d H' => W cls d σ H',
      fun H3 h => ⟨xs.length - (i + 1), by omega, rfl, hlt, h⟩, fun v H3 hyl => ?_⟩
    obtain ⟨c3, g3, r3, dv⟩ := hy v H3 hyl
    have sf3 := sf.go g3
    have hd3 := dq_all_mono g3.mono hd
    have g13 := g2.trans g3
    unfold compL at o2
    cases ea : tgt.asg (.d xs[i]) (wipeE ρ own) with
    | none => rw [ea] at o2; exact o2.elim
    | some ρ1 =>
      rw [ea] at o2
      try dsimp only at o2
      refine gk c3 H3 st2 v (.d xs[i]) _ _ ρ1 _ r3 ((en1.go g13).wipe _) dv ea fun σ1 en3 hw => ⟨?_, ?_⟩
      · rw [hw _ hsl]
        exact wipe_twice σ _ _ fun _ h => h
      · refine ⟨c3, st2, ρ1, en3, r3, ?_⟩
        cases et : mt ρ1 st2 with
        | fail => rw [et] at o2; exact o2.elim
        | exc e s => rw [et] at o2; exact o2.elim
        | ok b st3 =>
          rw [et] at o2
          intro c4 H4 g4 r4
          have sf4 := sf3.go g4
          have g14 := g13.trans g4
          have fin : ∀ {bb : Bool}, b = .d (.bool bb) → (if bb = true then tM X W0 me σ1 H4 fun y H5 => ∃ acc, H5 D = some (.lst acc) ∧ acc.length < sizeLine ∧
              ∃ c3 st3 acc' ds, Go c1 H1 c3 (upd H5 D (.lst (acc ++ [y]))) ∧ Rel X.K c3 (upd H5 D (.lst (acc ++ [y]))) st3 ∧ Safe D acc' c3 (upd H5 D (.lst (acc ++ [y]))) ∧ DQAll X.K c3.G acc' ds ∧ ds.length ≤ i + 1 ∧
                Out X.K X.mg c1 H1 ((compL tgt mt me (wipeE ρ own) (xs.drop (i + 1)) st3).bind fun ys st3 => fn (ds ++ ys) st3) (fun a _ c' H' => ∀ x, RV X.K c' a x → Q x H') fun cls d H' => W cls d σ H'
              else ∃ c3 st3 acc' ds, Go c1 H1 c3 H4 ∧ Rel X.K c3 H4 st3 ∧ Safe D acc' c3 H4 ∧ DQAll X.K c3.G acc' ds ∧ ds.length ≤ i + 1 ∧
                Out X.K X.mg c1 H1 ((compL tgt mt me (wipeE ρ own) (xs.drop (i + 1)) st3).bind fun ys st3 => fn (ds ++ ys) st3) (fun a _ c' H' => ∀ x, RV X.K c' a x → Q x H') fun cls d H' => W cls d σ H') := by
            intro bb eb
            subst eb
            cases bb with
            | false => exact iteF ⟨c4, st3, acc, ds, g14, r4, sf4, dq_all_mono g4.mono hd3, by omega, o2⟩
            | true =>
              refine iteT ⟨c4, st3, ρ1, en3.go g4, r4, ?_⟩
              replace o2 : Out X.K X.mg c1 H1 (((noX (me ρ1 st3)).bind fun y st2 => match y with
                | .d y => (compL tgt mt me (wipeE ρ own) (xs.drop (i + 1)) st2).bind fun ys st3 => .ok (y :: ys) st3
                | .ref _ => (Res.fail : Res (List PyData))).bind fun ys st3 => fn (ds ++ ys) st3) (fun a _ c' H' => ∀ x, RV X.K c' a x → Q x H') fun cls d H' => W cls d σ H' := o2
              cases ee : me ρ1 st3 with
              | fail => rw [ee] at o2; exact o2.elim
              | exc e s => rw [ee] at o2; exact o2.elim
              | ok y st4 =>
                rw [ee] at o2
                cases y with
                | ref n => exact o2.elim
                | d y =>
                  intro c5 H5 g5 r5 w hw5
                  have sf5 := sf4.go g5
                  have hl : acc.length = ds.length := hd.length'
                  have g15 := g14.trans g5
                  refine ⟨acc, sf5.at_, by have := jok.1; omega, c5, st4, acc ++ [w], ds ++ [y], ?_, r5.aside (o := .lst acc) sf5, ⟨upd_same, sf5.out, sf5.thaw⟩,
                    (dq_all_mono g5.mono (dq_all_mono g4.mono hd3)).append (.cons hw5 .nil), by rw [List.length_append]; exact Nat.succ_le_succ hdl, ?_⟩
                  · refine ⟨g15.mono, g15.pre, fun a u e n => ?_, g15.gnew, g15.fnew⟩
                    rw [upd_ne (ne_of_none e hD)]
                    exact g15.keep a u e n
                  · replace o2 : Out X.K X.mg c1 H1 (((compL tgt mt me (wipeE ρ own) (xs.drop (i + 1)) st4).bind fun ys st3 => .ok (y :: ys) st3).bind fun ys st3 => fn (ds ++ ys) st3) (fun a _ c' H' => ∀ x, RV X.K c' a x → Q x H') fun cls d H' => W cls d σ H' := o2
                    cases el : compL tgt mt me (wipeE ρ own) (xs.drop (i + 1)) st4 with
                    | fail => rw [el] at o2; exact o2.elim
                    | exc e s => rw [el] at o2; exact o2
                    | ok ys s =>
                      rw [el] at o2
                      show Out X.K X.mg c1 H1 (fn (ds ++ [y] ++ ys) s) _ _
                      rw [List.append_assoc]
                      exact o2
          cases b with
          | ref n => exact o2.elim
          | d b =>
            cases b with
            | bool bb => exact ⟨bb, rfl, fin rfl⟩
            | _ => exact o2.elim
  · have e : i = xs.length := by omega
    subst e
    rw [List.drop_length] at o2
    refine .inl ⟨(jok.2 _ c2 H2 st2 g2.mono r2).2 (Nat.le_refl _), ?_⟩
    have o3 : Out X.K X.mg c1 H1 (fn ds st2) (fun a _ c' H' => ∀ x, RV X.K c' a x → Q x H') fun cls d H' => W cls d σ H' := by
      have := o2
      simp only [compL, Res.bind, List.append_nil] at this
      exact this
    exact hfin c1 H1 c2 H2 st2 acc ds D hD g2 r2 sf hd (by have := jok.1; omega) o3
theorem tM_comp {own : List Nat} {mi : IM} {tgt : Tg} {g : TG} {mt me : EM} (gk : GOk X.K g tgt) (hsl : ∀ i ∈ tgt.slots, i ∈ own) {σ : St} {H : Hp} {Q : VK} (h : tM X W (mComp mi own tgt mt me) σ H Q) :
    tLc (tI X W mi) g (tT X W0 mt) (tM X W0 me) own σ H Q := by
  refine tM_compF (fn := okL) (fun c1 H1 c2 H2 st2 acc ds D hD g2 r2 sf hd hz o3 => ?_) gk hsl h
  have m : ∀ a u, c2.G a = some u → upd c2.G D (.lst acc) a = some u := upd_sub sf.thaw
  refine o3 ⟨upd c2.G D (.lst acc), c2.φ⟩ H2 ⟨fun a u e => m a u (g2.mono a u e), g2.pre, g2.keep, fun a h => ?_, g2.fnew⟩ (r2.adopt sf) (.ref D) (.lst (RdL.of upd_same) hz (dq_all_mono m hd))
  by_cases q : a = D
  · rw [q]; exact .inr (.inl hD)
  · have h' : upd c2.G D (.lst acc) a ≠ none := h
    rw [upd_ne q] at h'
    exact g2.gnew a h'
theorem tM_compN {own : List Nat} {mi : IM} {tgt : Tg} {g : TG} {mt me : EM} (gk : GOk X.K g tgt) (hsl : ∀ i ∈ tgt.slots, i ∈ own) {σ : St} {H : Hp} {Q : VK} (h : tM X W (mCompF okN mi own tgt mt me) σ H Q) :
    tLc (tI X W mi) g (tT X W0 mt) (tM X W0 me) own σ H Q := by
  refine tM_compF (fn := okN) (fun c1 H1 c2 H2 st2 acc ds D hD g2 r2 sf hd hz o3 => ?_) gk hsl h
  obtain ⟨l, hl⟩ := g2.pre
  refine o3 ⟨c2.G, c2.φ ++ [D]⟩ H2 ⟨g2.mono, ⟨l ++ [D], by rw [hl, List.append_assoc]⟩, g2.keep, g2.gnew, fun a h => ?_⟩ ⟨r2.sub, by rw [List.length_append, List.length_append, r2.len]; rfl, ?_, fun n a ob h1 h2 => ?_, fun n a ob h1 h2 hv => ?_⟩ (.ref D) ⟨D, ?_, rfl⟩
  · rcases List.mem_append.mp h with z | z
    · exact g2.fnew a z
    · rw [List.mem_singleton.mp z]; exact .inr hD
  · exact List.nodup_append.mpr ⟨r2.nd, by simp, fun a ha b hb => by rw [List.mem_singleton.mp hb]; rintro rfl; exact sf.out ha⟩
  · by_cases hn : n < c2.φ.length
    · rw [List.getElem?_append_left hn] at h1
      rw [List.getElem?_append_left (by rw [← r2.len]; exact hn)] at h2
      exact (r2.obj n a ob h1 h2).mono (c' := ⟨c2.G, c2.φ ++ [D]⟩) (fun _ _ e => e) fun _ _ e => e
    · rw [List.getElem?_append_right (by omega)] at h1
      rw [List.getElem?_append_right (by rw [← r2.len]; omega)] at h2
      have e0 : n - c2.φ.length = 0 := by
        cases q : n - c2.φ.length with
        | zero => rfl
        | succ k => rw [q] at h1; simp at h1
      rw [e0] at h1
      rw [← r2.len, e0] at h2
      simp at h1 h2
      subst h1 h2
      exact ⟨hz, acc, sf.at_, hd⟩
  · by_cases hn : n < c2.φ.length
    · rw [List.getElem?_append_left hn] at h1
      rw [List.getElem?_append_left (by rw [← r2.len]; exact hn)] at h2
      exact r2.free n a ob h1 h2 hv
    · rw [List.getElem?_append_right (by omega)] at h1
      have e0 : n - c2.φ.length = 0 := by
        cases q : n - c2.φ.length with
        | zero => rfl
        | succ k => rw [q] at h1; simp at h1
      rw [e0] at h1
      simp at h1
      subst h1
      exact sf.thaw
  · show (c2.φ ++ [D])[st2.length]? = some D
    rw [← r2.len]
    simp
theorem se_comp {elt tg iter : Expr} {ifs : List Expr} {scope : Scope} {own : List (Str × Nat)} {pos : Pos} {mi : IM} {tgt : Tg} {g : TG} {mt me : EM} (hc : X.calm = true) (hN : X.N.Nodup) (hi : PI X tg iter (tI X W mi)) (ok : BlkOk X.N X.env.scope scope own)
    (hg : ∀ (s : Shared) (H : Hp) (C : Addr) (cl : List (Str × Addr)) (fp : List Addr), PG (X.blk s H scope (compEnvC scope cl C X.env) fp) tg g) (gk : GOk X.K g tgt) (hsl : ∀ i ∈ tgt.slots, i ∈ own.map (·.2))
    (ht : ∀ (s : Shared) (H : Hp) (C : Addr) (cl : List (Str × Addr)) (fp : List Addr), PTs (X.blk s H scope (compEnvC scope cl C X.env) fp) ifs (tT X W0 mt))
    (he : ∀ (s : Shared) (H : Hp) (C : Addr) (cl : List (Str × Addr)) (fp : List Addr), PE (X.blk s H scope (compEnvC scope cl C X.env) fp) elt (tM X W0 me)) (hs : ∀ x, foldedSetIterable iter X.env x = pure x) :
    PE X (.ListComp elt [⟨tg, iter, ifs, 0⟩] scope pos) (tM X W (mComp mi (own.map (·.2)) tgt mt me)) :=
  (pe_lc hc hN hi ok hg ht he hs).imp fun σ H Q h => tM_comp gk hsl h
theorem se_compN {elt tg iter : Expr} {ifs : List Expr} {scope : Scope} {own : List (Str × Nat)} {pos : Pos} {mi : IM} {tgt : Tg} {g : TG} {mt me : EM} (hc : X.calm = true) (hN : X.N.Nodup) (hi : PI X tg iter (tI X W mi)) (ok : BlkOk X.N X.env.scope scope own)
    (hg : ∀ (s : Shared) (H : Hp) (C : Addr) (cl : List (Str × Addr)) (fp : List Addr), PG (X.blk s H scope (compEnvC scope cl C X.env) fp) tg g) (gk : GOk X.K g tgt) (hsl : ∀ i ∈ tgt.slots, i ∈ own.map (·.2))
    (ht : ∀ (s : Shared) (H : Hp) (C : Addr) (cl : List (Str × Addr)) (fp : List Addr), PTs (X.blk s H scope (compEnvC scope cl C X.env) fp) ifs (tT X W0 mt))
    (he : ∀ (s : Shared) (H : Hp) (C : Addr) (cl : List (Str × Addr)) (fp : List Addr), PE (X.blk s H scope (compEnvC scope cl C X.env) fp) elt (tM X W0 me)) (hs : ∀ x, foldedSetIterable iter X.env x = pure x) :
    PE X (.ListComp elt [⟨tg, iter, ifs, 0⟩] scope pos) (tM X W (mCompF okN mi (own.map (·.2)) tgt mt me)) :=
  (pe_lc hc hN hi ok hg ht he hs).imp fun σ H Q h => tM_compN gk hsl h
end
end L2.Q

set_option maxHeartbeats 1000000
/-! Q layer, part I: statements. -/
namespace L2.Q
open PySem PySem.Spec PyProof.Rows

inductive Fl where
  | nx | ret (v : Vv) | bk | ct
inductive SR where
  | ok (f : Fl) (ρ : Env) (st : Sto)
  | exc (e : Exn) (ρ : Env) (st : Sto)
  | fail
abbrev SM := Env → Sto → SR
def ofE {α : Type} (ρ : Env) (r : Res α) (k : α → Sto → SR) : SR := match r with
  | .ok a st => k a st
  | .exc e st => .exc e ρ st
  | .fail => .fail
def SOut (K : PySem.W.Frag) (mg : Str → Option Value) (W : WX) (D : Ends) (c : Cfg) (H : Hp) (r : SR) : Prop := match r with
  | .ok f ρ' st' => ∀ σ' c' H', Go c H c' H' → Rel K c' H' st' → EnvR K c' σ' ρ' → match f with
    | .nx => D.nx σ' H'
    | .ret v => ∀ x, RV K c' v x → D.rt x H'
    | .bk => D.bk σ' H'
    | .ct => D.ct σ' H'
  | .exc e ρ' st' => ∀ σ' cls d c' H', Go c H c' H' → Rel K c' H' st' → EnvR K c' σ' ρ' → ExR K mg c' H' e cls d → W cls d σ' H'
  | .fail => False
section
variable {K : PySem.W.Frag} {mg : Str → Option Value} {W : WX} {D : Ends} {c c1 : Cfg} {H H1 : Hp} {r : SR}
theorem SOut.later (g : Go c H c1 H1) (h : SOut K mg W D c H r) : SOut K mg W D c1 H1 r := by
  cases r with
  | ok f ρ st => exact fun σ' c' H' g' r' en => h σ' c' H' (g.trans g') r' en
  | exc e ρ st => exact fun σ' cls d c' H' g' r' en x => h σ' cls d c' H' (g.trans g') r' en x
  | fail => exact h
theorem SOut.of {α : Type} {ρ : Env} {σ : St} {x : Res α} {k : α → Sto → SR} (en : EnvR K c σ ρ) (h : SOut K mg W D c H (ofE ρ x k)) :
    Out K mg c H x (fun a st1 c1 H1 => SOut K mg W D c1 H1 (k a st1)) fun cls d H' => W cls d σ H' := by
  cases x with
  | ok a st => exact fun c' H' g' r' => SOut.later g' (show SOut K mg W D c H (k a st) from h)
  | exc e st => exact fun cls d c' H' g' r' x => h σ cls d c' H' g' r' (en.go g') x
  | fail => exact h
end
def tS (X : Cx) (W : WX) (m : SM) : TS := fun D σ H => ∃ c st ρ, EnvR X.K c σ ρ ∧ Rel X.K c H st ∧ SOut X.K X.mg W D c H (m ρ st)
section
variable {X : Cx} {W : WX}
/-! ### blocks -/
def mPass : SM := fun ρ st => .ok .nx ρ st
def mSeq (a b : SM) : SM := fun ρ st => match a ρ st with
  | .ok .nx ρ1 st1 => b ρ1 st1
  | r => r
theorem tS_seq {a b : SM} {D : Ends} {σ : St} {H : Hp} (h : tS X W (mSeq a b) D σ H) : tSeq (tS X W a) (tS X W b) D σ H := by
  obtain ⟨c, st, ρ, en, rel, o⟩ := h
  refine ⟨c, st, ρ, en, rel, ?_⟩
  unfold mSeq at o
  cases e : a ρ st with
  | fail => rw [e] at o; exact o
  | exc x ρ1 st1 => rw [e] at o; exact o
  | ok f ρ1 st1 =>
    rw [e] at o
    cases f with
    | nx => exact fun σ' c' H' g r en' => ⟨c', st1, ρ1, en', r, SOut.later g o⟩
    | ret v => exact o
    | bk => exact o
    | ct => exact o
theorem ss_nil : PSs X [] (tS X W mPass) := pss_nil.imp fun D σ H ⟨c, st, ρ, en, rel, o⟩ => o σ c H Go.refl rel en
theorem ss_cons {s : Stmt} {r : List Stmt} {a b : SM} (h1 : PS X s (tS X W a)) (h2 : PSs X r (tS X W b)) : PSs X (s :: r) (tS X W (mSeq a b)) := (pss_cons h1 h2).imp fun D σ H h => tS_seq h
theorem ss_pass {pos : Pos} : PS X (.Pass pos) (tS X W mPass) := ps_pass.imp fun D σ H ⟨c, st, ρ, en, rel, o⟩ => o σ c H Go.refl rel en
def mBk : SM := fun ρ st => .ok .bk ρ st
def mCt : SM := fun ρ st => .ok .ct ρ st
theorem ss_bk {pos : Pos} : PS X (.Break pos) (tS X W mBk) := ps_break.imp fun D σ H ⟨c, st, ρ, en, rel, o⟩ => o σ c H Go.refl rel en
theorem ss_ct {pos : Pos} : PS X (.Continue pos) (tS X W mCt) := ps_continue.imp fun D σ H ⟨c, st, ρ, en, rel, o⟩ => o σ c H Go.refl rel en

/-! ### name = .., a, b = .. -/
def mAsg (tg : Tg) (m : EM) : SM := fun ρ st => ofE ρ (m ρ st) fun v st1 => match tg.asg v ρ with
  | some ρ1 => .ok .nx ρ1 st1
  | none => .fail
theorem tS_asg {tg : Tg} {g : TG} {m : EM} (gk : GOk X.K g tg) {D : Ends} {σ : St} {H : Hp} (h : tS X W (mAsg tg m) D σ H) : tAsg (tM X W m) g D σ H := by
  obtain ⟨c, st, ρ, en, rel, o⟩ := h
  refine ⟨c, st, ρ, en, rel, (SOut.of en o).mono fun a st1 c1 H1 g1 r1 o1 x hx => ?_⟩
  try dsimp only at o1
  cases e : tg.asg a ρ with
  | none => rw [e] at o1; exact o1.elim
  | some ρ1 =>
    rw [e] at o1
    exact gk c1 H1 st1 x a σ ρ ρ1 _ r1 (en.go g1) hx e fun σ1 en1 _ => o1 σ1 c1 H1 Go.refl r1 en1
theorem ss_set {i : Nat} {x : Str} {e : Expr} {m : EM} {pos pos' : Pos} (hN : X.N.Nodup) (hi : X.N[i]? = some x) (hx : Loc X.env.scope x) (he : PE X e (tM X W m)) (hs : swapsWith e (some (.Name x pos')) pos.line X.env = pure false) (hf : X.fn x = true) :
    PS X (.Assign [.Name x pos'] e pos) (tS X W (mAsg (.name i) m)) := (ps_set hN hi hx he hs (.inl hf)).imp fun D σ H h => tS_asg (gok_name i) h
theorem ss_asg {tg e : Expr} {tgt : Tg} {g : TG} {m : EM} {pos : Pos} (he : PE X e (tM X W m)) (hg : PG X tg g) (gk : GOk X.K g tgt) (hs : swapsWithSole [tg] e pos.line X.env = pure false) (hw : swappedStores [tg] e X.env = pure none)
    (h1 : (assignEach [tg] X.env).map (·.2) = [assign tg X.env]) : PS X (.Assign [tg] e pos) (tS X W (mAsg tgt m)) := (ps_asg he hg hs hw h1).imp fun D σ H h => tS_asg gk h
/-- name = [ .. for .. ] on one line -/
theorem ss_setLc {i : Nat} {y : Str} {py : Pos} {elt tg iter : Expr} {ifs : List Expr} {scope : Scope} {own : List (Str × Nat)} {pos spos : Pos} {mi : IM} {tgt : Tg} {g : TG} {mt me : EM} (hc : X.calm = true) (hN : X.N.Nodup) (hy : X.N[i]? = some y) (hyl : X.env.scope.names.lookup y = some .local)
    (hsw : swapsWith (.ListComp elt [⟨tg, iter, ifs, 0⟩] scope pos) (some (.Name y py)) spos.line X.env = pure true) (hi : PI X tg iter (tI X W mi)) (ok : BlkOk X.N X.env.scope scope own)
    (hg : ∀ (s : Shared) (H : Hp) (C : Addr) (cl : List (Str × Addr)) (fp : List Addr), PG (X.blk s H scope (compEnvC scope cl C X.env) fp) tg g) (gk : GOk X.K g tgt) (hsl : ∀ i ∈ tgt.slots, i ∈ own.map (·.2))
    (ht : ∀ (s : Shared) (H : Hp) (C : Addr) (cl : List (Str × Addr)) (fp : List Addr), PTs (X.blk s H scope (compEnvC scope cl C X.env) fp) ifs (tT X W0 mt))
    (he : ∀ (s : Shared) (H : Hp) (C : Addr) (cl : List (Str × Addr)) (fp : List Addr), PE (X.blk s H scope (compEnvC scope cl C X.env) fp) elt (tM X W0 me)) (hs : ∀ x, foldedSetIterable iter X.env x = pure x) :
    PS X (.Assign [.Name y py] (.ListComp elt [⟨tg, iter, ifs, 0⟩] scope pos) spos) (tS X W (mAsg (.name i) (mComp mi (own.map (·.2)) tgt mt me))) :=
  (ps_setLc hc hN hy hyl hsw hi ok hg ht he hs).imp fun D σ H h => tM_comp gk hsl (tS_asg (gok_name i) h)

theorem ss_setLcN {i : Nat} {y : Str} {py : Pos} {elt tg iter : Expr} {ifs : List Expr} {scope : Scope} {own : List (Str × Nat)} {pos spos : Pos} {mi : IM} {tgt : Tg} {g : TG} {mt me : EM} (hc : X.calm = true) (hN : X.N.Nodup) (hy : X.N[i]? = some y) (hyl : X.env.scope.names.lookup y = some .local)
    (hsw : swapsWith (.ListComp elt [⟨tg, iter, ifs, 0⟩] scope pos) (some (.Name y py)) spos.line X.env = pure true) (hi : PI X tg iter (tI X W mi)) (ok : BlkOk X.N X.env.scope scope own)
    (hg : ∀ (s : Shared) (H : Hp) (C : Addr) (cl : List (Str × Addr)) (fp : List Addr), PG (X.blk s H scope (compEnvC scope cl C X.env) fp) tg g) (gk : GOk X.K g tgt) (hsl : ∀ i ∈ tgt.slots, i ∈ own.map (·.2))
    (ht : ∀ (s : Shared) (H : Hp) (C : Addr) (cl : List (Str × Addr)) (fp : List Addr), PTs (X.blk s H scope (compEnvC scope cl C X.env) fp) ifs (tT X W0 mt))
    (he : ∀ (s : Shared) (H : Hp) (C : Addr) (cl : List (Str × Addr)) (fp : List Addr), PE (X.blk s H scope (compEnvC scope cl C X.env) fp) elt (tM X W0 me)) (hs : ∀ x, foldedSetIterable iter X.env x = pure x) :
    PS X (.Assign [.Name y py] (.ListComp elt [⟨tg, iter, ifs, 0⟩] scope pos) spos) (tS X W (mAsg (.name i) (mCompF okN mi (own.map (·.2)) tgt mt me))) :=
  (ps_setLc hc hN hy hyl hsw hi ok hg ht he hs).imp fun D σ H h => tM_compN gk hsl (tS_asg (gok_name i) h)

/-! ### return, if, an expression alone -/
def mRet (m : EM) : SM := fun ρ st => ofE ρ (m ρ st) fun v st1 => .ok (.ret v) ρ st1
theorem ss_ret {e : Expr} {m : EM} {pos : Pos} (he : PE X e (tM X W m)) : PS X (.Return (some e) pos) (tS X W (mRet m)) := (ps_ret he).imp fun D σ H ⟨c, st, ρ, en, rel, o⟩ =>
  ⟨c, st, ρ, en, rel, (SOut.of en o).mono fun a st1 c1 H1 g1 r1 o1 x hx => o1 σ c1 H1 Go.refl r1 (en.go g1) x hx⟩
def mRetN : SM := fun ρ st => .ok (.ret (.d .none)) ρ st
theorem ss_retN {pos : Pos} : PS X (.Return none pos) (tS X W mRetN) := ps_retN.imp fun D σ H ⟨c, st, ρ, en, rel, o⟩ => o σ c H Go.refl rel en .non .non
def mIfS (mc : EM) (a b : SM) : SM := fun ρ st => ofE ρ (mc ρ st) fun v st1 => match v with
  | .d (.bool true) => a ρ st1
  | .d (.bool false) => b ρ st1
  | _ => .fail
theorem ss_if {k : Expr} {a b : List Stmt} {mc : EM} {ma mb : SM} {pos : Pos} (hc : PT X k (tT X W mc)) (ha : PSs X a (tS X W ma)) (hb : PSs X b (tS X W mb)) : PS X (.If k a b pos) (tS X W (mIfS mc ma mb)) :=
  (ps_if hc ha hb).imp fun D σ H ⟨c, st, ρ, en, rel, o⟩ => by
    refine ⟨c, st, ρ, en, rel, (SOut.of en o).mono fun a st1 c1 H1 g1 r1 o1 => ?_⟩
    try dsimp only at o1
    split at o1
    · exact ⟨true, rfl, iteT ⟨c1, st1, ρ, en.go g1, r1, o1⟩⟩
    · exact ⟨false, rfl, iteF ⟨c1, st1, ρ, en.go g1, r1, o1⟩⟩
    · exact o1.elim
def mDo (m : EM) : SM := fun ρ st => ofE ρ (m ρ st) fun _ st1 => .ok .nx ρ st1
theorem some_rv {K : PySem.W.Frag} {c : Cfg} : True := trivial
theorem ss_do {e : Expr} {m : EM} {pos : Pos} (he : PE X e (tM X W m)) (hs : swapsWith e none pos.line X.env = pure false) : PS X (.Expr e pos) (tS X W (mDo m)) := (ps_expr he hs).imp fun D σ H ⟨c, st, ρ, en, rel, o⟩ =>
  ⟨c, st, ρ, en, rel, (SOut.of en o).mono fun a st1 c1 H1 g1 r1 o1 x hx => o1 σ c1 H1 Go.refl r1 (en.go g1)⟩

/-! ### loops -/
def forL (tg : Tg) (body : SM) : List PyData → SM
  | [], ρ, st => .ok .nx ρ st
  | x :: xs, ρ, st => match tg.asg (.d x) ρ with
    | none => .fail
    | some ρ1 => match body ρ1 st with
      | .ok .nx ρ2 st2 => forL tg body xs ρ2 st2
      | .ok .ct ρ2 st2 => forL tg body xs ρ2 st2
      | .ok .bk ρ2 st2 => .ok .nx ρ2 st2
      | r => r
def mFor (mi : IM) (tg : Tg) (body : SM) : SM := fun ρ st => ofE ρ (mi ρ st) fun xs st1 => forL tg body xs ρ st1
theorem ss_for {tg iter : Expr} {body : List Stmt} {pos : Pos} {mi : IM} {tgt : Tg} {g : TG} {mb : SM} (hp : PassesOwn (model X.prog X.w) X.A X.env X.xe) (hc : X.calm = true) (hi : PI X tg iter (tI X W mi)) (hg : PG X tg g) (gk : GOk X.K g tgt) (hb : PSs X body (tS X W mb))
    (hs : ∀ x, foldedSetIterable iter X.env x = pure x) : PS X (.For tg iter body [] pos) (tS X W (mFor mi tgt mb)) :=
  (ps_for hp hc hi hg hb hs).imp fun D σ H ⟨c, st, ρ, en, rel, o⟩ => by
    refine ⟨c, st, ρ, en, rel, (SOut.of en o).mono fun xs st1 c1 H1 g1 r1 o1 J jok => ?_⟩
    have en1 := en.go g1
    refine ⟨fun i m σ2 H2 => m = xs.length - i ∧ i ≤ xs.length ∧ ∃ c2 st2 ρ2, Go c1 H1 c2 H2 ∧ Rel X.K c2 H2 st2 ∧ EnvR X.K c2 σ2 ρ2 ∧ SOut X.K X.mg W D c2 H2 (forL tgt mb (xs.drop i) ρ2 st2),
      ⟨_, rfl, Nat.zero_le _, c1, st1, ρ, Go.refl, r1, en1, o1⟩, ?_⟩
    rintro i m σ2 H2 ⟨rfl, hi', c2, st2, ρ2, g2, r2, en2, o2⟩
    by_cases hlt : i < xs.length
    · have hx : xs[i]? = some xs[i] := List.getElem?_eq_getElem hlt
      rw [List.drop_eq_getElem_cons hlt] at o2
      obtain ⟨hgo, hy⟩ := (jok.2 i c2 H2 st2 g2.mono r2).1 _ hx
      refine .inr ⟨hgo, fun σ3 H3 => ∃ c3 st3 ρ3, Go c1 H1 c3 H3 ∧ Rel X.K c3 H3 st3 ∧ EnvR X.K c3 σ3 ρ3 ∧ SOut X.K X.mg W D c3 H3 (forL tgt mb (xs.drop (i + 1)) ρ3 st3), fun σ3 H3 h => ⟨xs.length - (i + 1), by omega, rfl, hlt, h⟩, fun v H3 hyl => ?_⟩
      obtain ⟨c3, g3, r3, dv⟩ := hy v H3 hyl
      unfold forL at o2
      cases ea : tgt.asg (.d xs[i]) ρ2 with
      | none => rw [ea] at o2; exact o2.elim
      | some ρ3 =>
        rw [ea] at o2
        try dsimp only at o2
        refine gk c3 H3 st2 v (.d xs[i]) σ2 ρ2 ρ3 _ r3 (en2.go g3) dv ea fun σ3 en3 _ => ⟨c3, st2, ρ3, en3, r3, ?_⟩
        have o3 := SOut.later g3 o2
        cases eb : mb ρ3 st2 with
        | fail => rw [eb] at o3; exact o3
        | exc x ρ4 st4 => rw [eb] at o3; exact o3
        | ok f ρ4 st4 =>
          rw [eb] at o3
          cases f with
          | nx => exact fun σ4 c4 H4 g4 r4 en4 => ⟨c4, st4, ρ4, (g2.trans g3).trans g4, r4, en4, SOut.later g4 o3⟩
          | ct => exact fun σ4 c4 H4 g4 r4 en4 => ⟨c4, st4, ρ4, (g2.trans g3).trans g4, r4, en4, SOut.later g4 o3⟩
          | bk => exact o3
          | ret v => exact o3
    · have e : i = xs.length := by omega
      subst e
      rw [List.drop_length] at o2
      exact .inl ⟨(jok.2 _ c2 H2 st2 g2.mono r2).2 (Nat.le_refl _), o2 σ2 c2 H2 Go.refl r2 en2⟩
def whileN (mc : EM) (body : SM) : Nat → SM
  | 0, _, _ => .fail
  | n + 1, ρ, st => ofE ρ (mc ρ st) fun v st1 => match v with
    | .d (.bool true) => match body ρ st1 with
      | .ok .nx ρ2 st2 => whileN mc body n ρ2 st2
      | .ok .ct ρ2 st2 => whileN mc body n ρ2 st2
      | .ok .bk ρ2 st2 => .ok .nx ρ2 st2
      | r => r
    | .d (.bool false) => .ok .nx ρ st1
    | _ => .fail
theorem ss_while {k : Expr} {body : List Stmt} {pos : Pos} {n : Nat} {mc : EM} {mb : SM} (hp : PassesOwn (model X.prog X.w) X.A X.env X.xe) (hc : PT X k (tT X W mc)) (hb : PSs X body (tS X W mb)) : PS X (.While k body [] pos) (tS X W (whileN mc mb n)) :=
  (ps_while hp hc hb).imp fun D σ H ⟨c, st, ρ, en, rel, o⟩ => by
    refine ⟨fun m σ2 H2 => ∃ c2 st2 ρ2, Rel X.K c2 H2 st2 ∧ EnvR X.K c2 σ2 ρ2 ∧ SOut X.K X.mg W D c2 H2 (whileN mc mb m ρ2 st2), ⟨n, c, st, ρ, rel, en, o⟩, ?_⟩
    rintro m σ2 H2 ⟨c2, st2, ρ2, r2, en2, o2⟩
    cases m with
    | zero => exact o2.elim
    | succ m =>
      refine ⟨c2, st2, ρ2, en2, r2, (SOut.of en2 o2).mono fun a st3 c3 H3 g3 r3 o3 => ?_⟩
      try dsimp only at o3
      split at o3
      · refine ⟨true, rfl, iteT ⟨fun σ4 H4 => ∃ c4 st4 ρ4, Rel X.K c4 H4 st4 ∧ EnvR X.K c4 σ4 ρ4 ∧ SOut X.K X.mg W D c4 H4 (whileN mc mb m ρ4 st4), fun σ4 H4 h => ⟨m, Nat.lt_succ_self m, h⟩, c3, st3, ρ2, en2.go g3, r3, ?_⟩⟩
        cases eb : mb ρ2 st3 with
        | fail => rw [eb] at o3; exact o3
        | exc x ρ4 st4 => rw [eb] at o3; exact o3
        | ok f ρ4 st4 =>
          rw [eb] at o3
          cases f with
          | nx => exact fun σ4 c4 H4 g4 r4 en4 => ⟨c4, st4, ρ4, r4, en4, SOut.later g4 o3⟩
          | ct => exact fun σ4 c4 H4 g4 r4 en4 => ⟨c4, st4, ρ4, r4, en4, SOut.later g4 o3⟩
          | bk => exact o3
          | ret v => exact o3
      · exact ⟨false, rfl, iteF (o3 σ2 c3 H3 Go.refl r3 (en2.go g3))⟩
      · exact o3.elim

/-! ### raise of an own class without __init__ -/
def mRaise (cls : Str) : SM := fun ρ st => .exc ⟨cls, none⟩ ρ st
theorem ss_raise {C : Addr} {x m : Str} (eC : C = He.ga X.K x) (kx : exKB X.K (He.ga X.K x) = true) {j : Nat} {p p2 pos pos' : Pos} (hc : X.calm = true) (tk : Takes X W) (q : PySem.W.excIn X.K C He.veBase "ValueError.__new__" = true) (gC : X.mg x = some (.ref C)) (kC : PySem.W.keepIn X.K (.ref C) = true)
    (r1 : PySem.W.subIn X.K (.ref C) (.type "BaseException") = some true) (r2 : PySem.W.typeIn X.K (.ref C) = some (.type "type")) (hg : Gl X x) (hdb : (x == ("__debug__" : Str)) = false) :
    PS X (.Raise (some (.Call (.Name x p) [.Constant (.str m) j p2] [] pos)) none pos') (tS X W (mRaise x)) :=
  (ps_raise hc tk (pmk_own PySem.F.excBase_ValueError q gC kC (raises_own r1 r2) hg hdb)).imp fun D σ H ⟨c, st, ρ, en, rel, o⟩ => o σ (.ref C) none c H Go.refl rel en ⟨gC, congrArg Value.ref eC, kx, rfl⟩
end
end L2.Q

set_option maxHeartbeats 1000000
/-! Q layer, part J: lists that change, tables of the top, two names at once. -/
namespace L2.Q
open PySem PySem.Spec PyProof.Rows

section
variable {X : Cx} {W : WX}
/-! ### x.append(e), x.extend(e), x[i] = e -/
def mApp (mo me : EM) : EM := fun ρ st => (mo ρ st).bind fun x st1 => match x with
  | .ref n => (match st1[n]? with
    | some _ => (me ρ st1).bind fun y st2 => match y, st2[n]? with
      | .d y, some (.lst xs) => if xs.length < sizeLine then .ok (.d .none) (st2.set n (.lst (xs ++ [y]))) else .fail
      | _, _ => .fail
    | none => .fail)
  | _ => .fail
theorem is_list {K : PySem.W.Frag} {c : Cfg} {H : Hp} {st : Sto} (r : Rel K c H st) {n : Nat} {p : Addr} {o : Ob} (h1 : c.φ[n]? = some p) (h2 : st[n]? = some o) : tyV K "list" (.ref p) H := by
  have q := r.obj n p o h1 h2
  cases o with
  | lst xs =>
    obtain ⟨_, vs, e, _⟩ := q
    exact .inl ⟨rfl, vs, SqL.of e⟩
  | frz xs =>
    cases q.2 with
    | lst h _ _ => exact .inl ⟨rfl, _, (h.mono' r.sub).sq⟩
theorem tM_app {mo me : EM} {σ : St} {H : Hp} {Q : VK} (h : tM X W (mApp mo me) σ H Q) : tBM X.K "list" rAppend (tM X W mo) (tL X W (mCons me mNil)) σ H Q := by
  obtain ⟨c, st, ρ, en, rel, o⟩ := h
  refine ⟨c, st, ρ, en, rel, (Out.bind o).mono fun a st1 c1 H1 g1 r1 o1 x hx => ?_⟩
  try dsimp only at o1
  cases a with
  | d y => exact o1.elim
  | ref n =>
    obtain ⟨p, e1, rfl⟩ := hx
    try dsimp only at o1
    cases e2 : st1[n]? with
    | none => rw [e2] at o1; exact o1.elim
    | some ob =>
      rw [e2] at o1
      refine ⟨is_list r1 e1 e2, c1, st1, ρ, en.go g1, r1, ?_⟩
      have ob := Out.bind o1
      cases e3 : me ρ st1 with
      | fail => rw [e3] at ob; exact ob.elim
      | exc e s => rw [e3] at ob; show Out _ _ _ _ (((me ρ st1).bind fun x st1 => (mNil ρ st1).bind fun xs st2 => .ok (x :: xs) st2) : Res (List Vv)) _ _; rw [e3]; exact ob
      | ok y st2 =>
        rw [e3] at ob
        show Out _ _ _ _ (((me ρ st1).bind fun x st1 => (mNil ρ st1).bind fun xs st2 => .ok (x :: xs) st2) : Res (List Vv)) _ _
        rw [e3]
        intro c2 H2 g2 r2 ws hw
        have o2 := ob c2 H2 g2 r2
        obtain ⟨w, t, rfl, hw1, hw2⟩ := hw
        have hw2' : t = [] := hw2
        subst hw2'
        try dsimp only at o2
        cases y with
        | ref m => exact o2.elim
        | d y =>
          obtain ⟨l, el⟩ := g2.pre
          have e4 : c2.φ[n]? = some p := by rw [el, List.getElem?_append_left (List.getElem?_eq_some_iff.mp e1).1]; exact e1
          obtain ⟨o', e5⟩ := r2.there e4
          rw [e5] at o2
          cases o' with
          | frz xs => exact o2.elim
          | lst xs =>
            try dsimp only at o2
            split at o2
            · rename_i hz
              obtain ⟨z, vs, hH, hv⟩ := r2.obj n p _ e4 e5
              have hl := hv.length'
              obtain ⟨g3, r3⟩ := r2.write (xs := xs ++ [y]) e4 e5 trivial (by rw [List.length_append]; exact hz) (hv.append (.cons hw1 .nil))
              exact ⟨p, vs, w, rfl, rfl, hH, by omega, o2 c2 _ g3 r3 .non .non⟩
            · exact o2.elim
theorem se_app {o e : Expr} {mo me : EM} {apos cpos : Pos} (ho : PE X o (tM X W mo)) (he : PE X e (tM X W me)) (hbase : attributeBase o "append" X.env (eval o X.env) = eval o X.env)
    (hfew : ((backTo cpos (starEach [e] X.env)).all (fun x => !x.1) && (backToKw cpos (keywordEach [] X.env)).all (fun x => x.1.isSome) && decide (([e] : List Expr).length + ([] : List Keyword).length + (if ([] : List Keyword).isEmpty then 0 else 1) < 30)) = true)
    (hline : (apos.endLine == cpos.line) = true) (hs : starEach [e] X.env = (false, eval e X.env) :: starEach [] X.env) (hplain : (backTo cpos (starEach [] X.env)).any (·.1) = false) : PE X (.Call (.Attribute o "append" apos) [e] [] cpos) (tM X W (mApp mo me)) :=
  (pe_bm PySem.F.plainAttrs_list PySem.F.slot_list_append PySem.F.type_list_append mt_append ho (sl_cons he sl_nil hs) hbase hfew hline hs hplain).imp fun σ H Q h => tM_app h

/-! ### o[i] = v -/
def mSetIx (mo mi mv : EM) : SM := fun ρ st => ofE ρ (mv ρ st) fun v st1 => ofE ρ (mo ρ st1) fun o st2 => ofE ρ (mi ρ st2) fun i st3 => match o, i, v with
  | .ref n, .d (.int k), .d y => (match st3[n]? with
    | some (.lst xs) => (match ixN xs.length k with
      | some j => .ok .nx ρ (st3.set n (.lst (xs.set j y)))
      | none => .fail)
    | _ => .fail)
  | _, _, _ => .fail
theorem ss_setIx {o i e : Expr} {mo mi mv : EM} {p1 pos : Pos} (he : PE X e (tM X W mv)) (ho : PE X o (tM X W mo)) (hi : PE X i (tM X W mi))
    (ha : ∀ v, assign (.Subscript o i p1) X.env v = (do
      let ov ← holding [v] (eval o X.env)
      let iv ← holding [v, ov] (eval i X.env)
      standAt p1
      holding [v, ov, iv] (setItem ov iv v)
      release [v, ov, iv] []))
    (hs : swapsWithSole [.Subscript o i p1] e pos.line X.env = pure false) (hw : swappedStores [.Subscript o i p1] e X.env = pure none)
    (h1 : (assignEach [.Subscript o i p1] X.env).map (·.2) = [assign (.Subscript o i p1) X.env]) : PS X (.Assign [.Subscript o i p1] e pos) (tS X W (mSetIx mo mi mv)) :=
  (ps_asg he (pg_sub ho hi set_list ha) hs hw h1).imp fun D σ H ⟨c, st, ρ, en, rel, o⟩ => by
    refine ⟨c, st, ρ, en, rel, (SOut.of en o).mono fun v st1 c1 H1 g1 r1 o1 x hx => ?_⟩
    have en1 := en.go g1
    refine ⟨c1, st1, ρ, en1, r1, (SOut.of en1 o1).mono fun ob st2 c2 H2 g2 r2 o2 y hy => ?_⟩
    have en2 := en1.go g2
    refine ⟨c2, st2, ρ, en2, r2, (SOut.of en2 o2).mono fun i st3 c3 H3 g3 r3 o3 z hz => ?_⟩
    have en3 := en2.go g3
    try dsimp only at o3
    split at o3
    · rename_i n k w
      obtain ⟨p, e1, rfl⟩ := hy.go g3
      obtain rfl := dp_int hz
      have hx3 := (hx.go g2).go g3
      obtain ⟨o', e5⟩ := r3.there e1
      rw [e5] at o3
      cases o' with
      | frz xs => exact o3.elim
      | lst xs =>
        try dsimp only at o3
        cases ej : ixN xs.length k with
        | none => rw [ej] at o3; exact o3.elim
        | some j =>
          rw [ej] at o3
          obtain ⟨zz, vs, hH, hv⟩ := r3.obj n p _ e1 e5
          obtain ⟨g4, r4⟩ := r3.write (xs := xs.set j w) e1 e5 trivial (by rw [List.length_set]; exact zz) (hv.set hx3 j)
          exact ⟨p, vs, k, j, rfl, rfl, hH, by rw [hv.length']; exact ej, o3 σ c3 _ g4 r4 (en3.go g4)⟩
    · exact o3.elim

/-! ### a, b = x, y -/
def mPar (i j : Nat) (ma mb : EM) : SM := fun ρ st => ofE ρ (ma ρ st) fun x st1 => ofE ρ (mb ρ st1) fun y st2 => .ok .nx ((ρ.set i (some x)).set j (some y)) st2
theorem ss_par {i j : Nat} {x y : Str} {a b : Expr} {ma mb : EM} {px py pt pos : Pos} {kt k2 : Nat} {pt2 : Pos} (hc : X.calm = true) (hN : X.N.Nodup) (hi : X.N[i]? = some x) (hj : X.N[j]? = some y) (hij : i ≠ j)
    (hx : X.env.scope.names.lookup x = some .local) (hy : X.env.scope.names.lookup y = some .local) (ha : PE X a (tM X W ma)) (hb : PE X b (tM X W mb))
    (hsa : starEach [a, b] X.env = (false, eval a X.env) :: starEach [b] X.env) (hsb : starEach [b] X.env = (false, eval b X.env) :: starEach [] X.env)
    (hw : swappedStores [.Tuple [.Name x px, .Name y py] kt pt] (.Tuple [a, b] k2 pt2) X.env = pure (some [x, y])) (hs : swapsWithSole [.Tuple [.Name x px, .Name y py] kt pt] (.Tuple [a, b] k2 pt2) pos.line X.env = pure false) :
    PS X (.Assign [.Tuple [.Name x px, .Name y py] kt pt] (.Tuple [a, b] k2 pt2) pos) (tS X W (mPar i j ma mb)) :=
  (ps_par hc hN hi hj hij hx hy (pa_cons ha (pa_cons hb pa_nil hsb) hsa) hw hs).imp fun D σ H ⟨c, st, ρ, en, rel, o⟩ => by
    refine ⟨c, st, ρ, en, rel, (SOut.of en o).mono fun v st1 c1 H1 g1 r1 o1 xv hxv => ?_⟩
    have en1 := en.go g1
    refine ⟨c1, st1, ρ, en1, r1, (SOut.of en1 o1).mono fun w st2 c2 H2 g2 r2 o2 yv hyv => ?_⟩
    exact ⟨xv, yv, rfl, o2 _ c2 H2 Go.refl r2 (((en1.go g2).set (hxv.go g2) i).set hyv j)⟩

/-! ### a table of the top -/
/-- what stands in a table with text keys -/
def TabIs (K : PySem.W.Frag) (w : World) (a : Addr) (t : List (Str × PyData)) : Prop := ∃ es n, KDict K w a es n ∧ ∀ z : Str, match t.lookup z, findBy Value.isStrOf es z with
  | some d, some u => ∃ v, RelV v u ∧ ∀ G, DQ K G v d
  | none, none => True
  | _, _ => False
def fTab (t : List (Str × PyData)) : PyData → PyData → Option PyData
  | .str z, .int i => some ((t.lookup z).getD (.int i))
  | _, _ => none
def iTab (t : List (Str × PyData)) : PyData → Option PyData
  | .str z => t.lookup z
  | _ => none
def mTabGet (t : List (Str × PyData)) (mk md : EM) : EM := mBin (fTab t) mk md
def mTabIx (t : List (Str × PyData)) (mk : EM) : EM := fun ρ st => (mk ρ st).bind fun x st1 => match deref x st1 with
  | some d => ofO (iTab t d) st1
  | none => .fail
theorem se_tabIx {t : List (Str × PyData)} {x : Str} {a : Addr} {k : Expr} {mk : EM} {p pos : Pos} (hg : Gl X x) (hm : X.mg x = some (.ref a)) (T : TabIs X.K X.w a t) (hk : PE X k (tM X W mk)) (hs : PlainIx k) (hd : (x == ("__debug__" : Str)) = false) :
    PE X (.Subscript (.Name x p) k pos) (tM X W (mTabIx t mk)) := by
  obtain ⟨es, n, kd, look⟩ := T
  have rule : IxR X (fun x y H Q => ∃ c st d r, x = .ref a ∧ Rel X.K c H st ∧ DV X.K c H y d ∧ iTab t d = some r ∧ ∀ z c' H', Go c H c' H' → Rel X.K c' H' st → DQ X.K c'.G z r → Q z H') := by
    intro value slice pins s σ H x y v u Q I rx ry ⟨c, st, d, r, ex, rel, hy, hf, q⟩ hs
    subst ex
    obtain rfl : v = Value.ref a := rx
    unfold iTab at hf
    split at hf
    · rename_i z
      obtain rfl := hy.str
      obtain ⟨tk, rfl⟩ := ry
      have lk := look z
      rw [hf] at lk
      cases e : findBy Value.isStrOf es z with
      | none => rw [e] at lk; exact lk.elim
      | some u0 =>
        rw [e] at lk
        obtain ⟨w, hw, hd⟩ := lk
        have hmp := PySem.W.mapOf_K (prog := X.prog) (w := X.w) I.kIn kd.at_ kd.lit
        exact tail_any hmp.typeIs slot_dict_getitem.lookup (wpAny_getItem_of (strKind_is X.prog X.w z tk) hmp e ⟨w, H, I.tok _, hw, q w c H Go.refl rel (hd _)⟩) hs
    · cases hf
  refine (pe_ix rule (pe_glob (v := .ref a) hg hm rfl hd) hk hs).imp fun σ H Q ⟨c, st, ρ, en, rel, o⟩ => ?_
  refine ⟨c, st, ρ, en, rel, (Out.bind o).mono fun b st1 c1 H1 g1 r1 o1 y hy => ?_⟩
  try dsimp only at o1
  cases q1 : deref b st1 with
  | none => simp only [q1] at o1; exact o1.elim
  | some d =>
    simp only [q1] at o1
    cases q3 : iTab t d with
    | none => simp only [q3, ofO] at o1; exact o1.elim
    | some r =>
      simp only [q3, ofO] at o1
      exact ⟨c1, st1, d, r, rfl, r1, deref_dv r1 hy q1, q3, fun z c' H' g' r' hz => o1 c' H' g' r' z hz⟩
theorem se_tabGet {t : List (Str × PyData)} {x : Str} {a : Addr} {k d : Expr} {mk md : EM} {p apos pos : Pos} (hg : Gl X x) (hm : X.mg x = some (.ref a)) (T : TabIs X.K X.w a t) (hk : PE X k (tM X W mk)) (hd : PE X d (tM X W md)) (m : M2 X (.Name x p) "get" apos k d pos) (hdb : (x == ("__debug__" : Str)) = false) :
    PE X (.Call (.Attribute (.Name x p) "get" apos) [k, d] [] pos) (tM X W (mTabGet t mk md)) := by
  obtain ⟨es, n, kd, look⟩ := T
  constructor
  intro pins s σ H Q I h
  have hT : s.TypeIs (.ref a) "dict" := ⟨_, I.kIn a _ kd.at_, rfl⟩
  refine wpAny_Call_method m.base m.few m.line PySem.F.plainAttrs_dict PySem.F.slot_dict_get PySem.F.type_dict_get (ld_glob I hg hm ⟨hT, fun b e => ?_, ?_⟩ hdb)
  · cases e
    exact ⟨_, I.kIn a _ kd.at_, rfl⟩
  rw [m.trees]
  have h' := tM_bin h
  refine Calls.callWith_builtin rfl (Calls.evalArgs_plain (Calls.spliced_cons (thn (hk.run pins s σ H _ I h') fun u1 s1 ⟨y, H1, I1, ry, q1⟩ =>
    Calls.spliced_cons (thn (hd.run pins s1 σ H1 _ I1 q1) fun u2 s2 ⟨z, H2, I2, rz, q2⟩ => Calls.spliced_nil ?_))))
  obtain ⟨c, st, d1, d2, r, rel, hy, hz, hf, q⟩ := q2
  unfold fTab at hf
  split at hf
  · rename_i key dv
    cases hf
    obtain rfl := hy.str
    obtain rfl := hz.int
    obtain ⟨tk, rfl⟩ := ry
    have hmp := PySem.W.mapOf_K (prog := X.prog) (w := X.w) I2.kIn kd.at_ kd.lit
    refine call_meetsIn PySem.F.slot_dict_get ⟨_, I2.kIn a _ kd.at_, rfl⟩ PySem.F.entry_dict_get (PySem.F.args_dict_get_3 _ _ _) (meets_dict_get_default (strKind X.prog X.w) a (strKind_is X.prog X.w key tk) kd.low u2) ⟨_, hmp, ?_⟩
    have lk := look key
    cases e1 : t.lookup key with
    | none =>
      rw [e1] at lk q
      cases e2 : findBy Value.isStrOf es key with
      | some u0 => rw [e2] at lk; exact lk.elim
      | none =>
        exact ⟨_, H2, I2.tok _, rz, q _ c H2 Go.refl rel (.int _)⟩
    | some d0 =>
      rw [e1] at lk q
      cases e2 : findBy Value.isStrOf es key with
      | none => rw [e2] at lk; exact lk.elim
      | some u0 =>
        rw [e2] at lk
        obtain ⟨w, hw, hdq⟩ := lk
        exact ⟨w, H2, I2.tok _, hw, q w c H2 Go.refl rel (hdq _)⟩
  · cases hf
/-! ### list(x), to be changed later -/
def listOf : PyData → Option (List PyData)
  | .list xs => some xs
  | .tuple xs => some xs
  | _ => none
def mNewL (m : EM) : EM := fun ρ st => (m ρ st).bind fun x st1 => match deref x st1 with
  | some d => (match listOf d with
    | some ys => .ok (.ref st1.length) (st1 ++ [.lst ys])
    | none => .fail)
  | none => .fail
theorem new_obj {K : PySem.W.Frag} {c : Cfg} {H : Hp} {st : Sto} {vs : List V} {ds : List PyData} {Q : VK} (rel : Rel K c H st) (hz : ds.length ≤ sizeLine) (hd : DQAll K c.G vs ds) (q : ∀ c' H', Go c H c' H' → Rel K c' H' (st ++ [.lst ds]) → ∀ x, RV K c' (.ref st.length) x → Q x H') :
    ∀ p, H p = none → Q (.ref p) (upd H p (.lst vs)) := fun p hp => by
  obtain ⟨g, r'⟩ := rel.alloc hp hz hd (rel.out hp)
  refine q _ _ g r' (.ref p) ⟨p, ?_, rfl⟩
  show (c.φ ++ [p])[st.length]? = some p
  rw [← rel.len]
  simp
theorem se_newL {e : Expr} {m : EM} {x : Str} {p pos : Pos} (hx : x = "list") (hg : Gl X x) (hm : X.mg x = none) (ha : PE X e (tM X W m)) (hs : starEach [e] X.env = (false, eval e X.env) :: starEach [] X.env) :
    PE X (.Call (.Name x p) [e] [] pos) (tM X W (mNewL m)) := by
  subst hx
  have bt := BF.boot .list
  have n1 := BF.nameOk .list
  refine (pe_callTy call_list_of hg hm bt (sl_cons ha sl_nil hs) n1.1 n1.2 hs rfl).imp fun σ H Q ⟨c, st, ρ, en, rel, o⟩ => ?_
  refine ⟨c, st, ρ, en, rel, ?_⟩
  show Out X.K X.mg c H ((m ρ st).bind fun x st1 => Res.ok [x] st1) _ _
  have ob := Out.bind o
  cases eq : m ρ st with
  | fail => rw [eq] at ob; exact ob.elim
  | exc z st1 => rw [eq] at ob; exact ob
  | ok v st1 =>
    rw [eq] at ob
    intro c1 H1 g1 r1 xs hxs
    obtain ⟨y, r, rfl, hy, hr⟩ := hxs
    cases (show r = [] from hr)
    have o1 := ob c1 H1 g1 r1
    try dsimp only at o1
    cases q1 : deref v st1 with
    | none => simp only [q1] at o1; exact o1.elim
    | some d =>
      simp only [q1] at o1
      have hd := deref_dv r1 hy q1
      cases d with
      | list ys =>
        obtain ⟨a, vs, rfl, h1, z1, h2⟩ := hd.list
        exact ⟨a, vs, rfl, .inl h1.sq, new_obj r1 z1 h2 fun c' H' g' r' => o1 c' H' g' r'⟩
      | tuple ys =>
        obtain ⟨a, vs, rfl, h1, h1', z1, h2⟩ := hd.tup r1
        exact ⟨a, vs, rfl, .inr h1, new_obj r1 z1 h2 fun c' H' g' r' => o1 c' H' g' r'⟩
      | _ => exact o1.elim
/-! ### a + b, to be changed later; x.extend(e) -/
def mCatN (ma mb : EM) : EM := fun ρ st => (ma ρ st).bind fun x st1 => (mb ρ st1).bind fun y st2 => match deref x st2, deref y st2 with
  | some (.list xs), some (.list ys) => if xs.length + ys.length ≤ sizeLine then .ok (.ref st2.length) (st2 ++ [.lst (xs ++ ys)]) else .fail
  | _, _ => .fail
theorem se_catN {a b : Expr} {ma mb : EM} {pos : Pos} (ha : PE X a (tM X W ma)) (hb : PE X b (tM X W mb)) : PE X (.BinOp a .Add b pos) (tM X W (mCatN ma mb)) :=
  (pe_op op_catL ha hb).imp fun σ H Q ⟨c, st, ρ, en, rel, o⟩ => by
    refine ⟨c, st, ρ, en, rel, (Out.bind o).mono fun a st1 c1 H1 g1 r1 o1 x hx => ?_⟩
    refine ⟨c1, st1, ρ, en.go g1, r1, (Out.bind o1).mono fun b st2 c2 H2 g2 r2 o2 y hy => ?_⟩
    have hx2 := hx.go g2
    try dsimp only at o2
    cases q1 : deref a st2 with
    | none => simp only [q1] at o2; exact o2.elim
    | some d =>
      cases q2 : deref b st2 with
      | none =>
        cases d <;> (simp only [q1, q2] at o2; exact o2.elim)
      | some e =>
        cases d with
        | list xs =>
          cases e with
          | list ys =>
            simp only [q1, q2] at o2
            split at o2
            · rename_i hz
              obtain ⟨a1, vs, rfl, h1, z1, h2⟩ := (deref_dv r2 hx2 q1).list
              obtain ⟨b1, ws, rfl, h3, z2, h4⟩ := (deref_dv r2 hy q2).list
              have l1 := h2.length'
              have l2 := h4.length'
              exact ⟨a1, b1, vs, ws, rfl, rfl, h1, h3, by omega, new_obj r2 (by rw [List.length_append]; exact hz) (h2.append h4) fun c' H' g' r' => o2 c' H' g' r'⟩
            · exact o2.elim
          | _ => simp only [q1, q2] at o2; exact o2.elim
        | _ => cases e <;> (simp only [q1, q2] at o2; exact o2.elim)
def rExtQ (K : PySem.W.Frag) : V → List V → Hp → VK → Prop := fun x vs H Q => ∃ l b xs zs, x = .ref l ∧ vs = [.ref b] ∧ H l = some (.lst xs) ∧ RdL K H b zs ∧ xs.length + zs.length ≤ sizeLine ∧ Q .non (upd H l (.lst (xs ++ zs)))
theorem mt_extQ : MtM X "list.extend" (rExtQ X.K) := by
  intro pins s σ H x vs v us Q I rx rv ⟨l, b, xs, zs, ex, ev, hH, hB, hz, q⟩
  subst ex ev
  cases rx
  obtain ⟨u, rfl, ru⟩ := rv.one
  cases ru
  obtain ⟨z1, its, n, r, hl, e⟩ := I.lstM hH
  obtain ⟨z2, its2, n2, r2, e2⟩ := hB.ok I
  have hl2 := r2.length
  have room : its.toArray.size + its2.toArray.size ≤ sizeLine := by
    rw [List.size_toArray, List.size_toArray, ← hl, ← hl2]
    exact hz
  have fits : ¬ (!its.toArray.isEmpty && Builtin.List.listTooLong (its.toArray.size + its2.toArray.size)) = true := by
    rw [notLongL room, Bool.and_false]
    decide
  refine call_meets PySem.F.slot_list_extend ⟨_, e, rfl⟩ PySem.F.entry_list_extend (PySem.F.args_list_extend_2 _ _) (AutoSeq1.list_extend_list_list_0 l its.toArray n b its2.toArray n2 fits (by rw [List.size_toArray]; omega) (by omega)) ⟨e, e2, ?_⟩
  exact ⟨.non, _, I.lset (its' := its ++ its2) hH e (by simp) (r.append r2) (by rw [List.length_append]; exact hz), rfl, q⟩
def mExt (mo me : EM) : EM := fun ρ st => (mo ρ st).bind fun x st1 => match x with
  | .ref n => (match st1[n]? with
    | some _ => (me ρ st1).bind fun y st2 => match deref y st2, st2[n]? with
      | some (.list ys), some (.lst xs) => if xs.length + ys.length ≤ sizeLine then .ok (.d .none) (st2.set n (.lst (xs ++ ys))) else .fail
      | _, _ => .fail
    | none => .fail)
  | _ => .fail
theorem tM_ext {mo me : EM} {σ : St} {H : Hp} {Q : VK} (h : tM X W (mExt mo me) σ H Q) : tBM X.K "list" (rExtQ X.K) (tM X W mo) (tL X W (mCons me mNil)) σ H Q := by
  obtain ⟨c, st, ρ, en, rel, o⟩ := h
  refine ⟨c, st, ρ, en, rel, (Out.bind o).mono fun a st1 c1 H1 g1 r1 o1 x hx => ?_⟩
  try dsimp only at o1
  cases a with
  | d y => exact o1.elim
  | ref n =>
    obtain ⟨p, e1, rfl⟩ := hx
    try dsimp only at o1
    cases e2 : st1[n]? with
    | none => rw [e2] at o1; exact o1.elim
    | some ob =>
      rw [e2] at o1
      refine ⟨is_list r1 e1 e2, c1, st1, ρ, en.go g1, r1, ?_⟩
      have ob := Out.bind o1
      cases e3 : me ρ st1 with
      | fail => rw [e3] at ob; exact ob.elim
      | exc e s => rw [e3] at ob; show Out _ _ _ _ (((me ρ st1).bind fun x st1 => (mNil ρ st1).bind fun xs st2 => .ok (x :: xs) st2) : Res (List Vv)) _ _; rw [e3]; exact ob
      | ok y st2 =>
        rw [e3] at ob
        show Out _ _ _ _ (((me ρ st1).bind fun x st1 => (mNil ρ st1).bind fun xs st2 => .ok (x :: xs) st2) : Res (List Vv)) _ _
        rw [e3]
        intro c2 H2 g2 r2 ws hw
        have o2 := ob c2 H2 g2 r2
        obtain ⟨w, t, rfl, hw1, hw2⟩ := hw
        cases (show t = [] from hw2)
        try dsimp only at o2
        obtain ⟨l, el⟩ := g2.pre
        have e4 : c2.φ[n]? = some p := by rw [el, List.getElem?_append_left (List.getElem?_eq_some_iff.mp e1).1]; exact e1
        obtain ⟨o', e5⟩ := r2.there e4
        cases q1 : deref y st2 with
        | none => simp only [q1] at o2; exact o2.elim
        | some d =>
          cases d with
          | list ys =>
            simp only [q1, e5] at o2
            cases o' with
            | frz xs => exact o2.elim
            | lst xs =>
              try dsimp only at o2
              split at o2
              · rename_i hz
                obtain ⟨z, vs, hH, hv⟩ := r2.obj n p _ e4 e5
                obtain ⟨b, zs, rfl, h1, z1, h2⟩ := (deref_dv r2 hw1 q1).list
                have hl := hv.length'
                have hl2 := h2.length'
                obtain ⟨g3, r3⟩ := r2.write (xs := xs ++ ys) e4 e5 trivial (by rw [List.length_append]; exact hz) (hv.append h2)
                exact ⟨p, b, vs, zs, rfl, rfl, hH, h1, by omega, o2 c2 _ g3 r3 .non .non⟩
              · exact o2.elim
          | _ => simp only [q1] at o2; exact o2.elim
theorem se_ext {o e : Expr} {mo me : EM} {apos cpos : Pos} (ho : PE X o (tM X W mo)) (he : PE X e (tM X W me)) (hbase : attributeBase o "extend" X.env (eval o X.env) = eval o X.env)
    (hfew : ((backTo cpos (starEach [e] X.env)).all (fun x => !x.1) && (backToKw cpos (keywordEach [] X.env)).all (fun x => x.1.isSome) && decide (([e] : List Expr).length + ([] : List Keyword).length + (if ([] : List Keyword).isEmpty then 0 else 1) < 30)) = true)
    (hline : (apos.endLine == cpos.line) = true) (hs : starEach [e] X.env = (false, eval e X.env) :: starEach [] X.env) (hplain : (backTo cpos (starEach [] X.env)).any (·.1) = false) : PE X (.Call (.Attribute o "extend" apos) [e] [] cpos) (tM X W (mExt mo me)) :=
  (pe_bm PySem.F.plainAttrs_list PySem.F.slot_list_extend PySem.F.type_list_extend mt_extQ ho (sl_cons he sl_nil hs) hbase hfew hline hs hplain).imp fun σ H Q h => tM_ext h
/-! x.pop(), x.pop(i) -/
def mPop (mo : EM) : EM := fun ρ st => (mo ρ st).bind fun x st1 => match x with
  | .ref n => (match st1[n]? with
    | some (.lst xs) => (match xs[xs.length - 1]? with
      | some y => .ok (.d y) (st1.set n (.lst xs.dropLast))
      | none => .fail)
    | _ => .fail)
  | _ => .fail
theorem dq_dropLast {K : PySem.W.Frag} {G : Hp} {vs : List V} {ds : List PyData} (h : DQAll K G vs ds) : DQAll K G vs.dropLast ds.dropLast := by
  rw [List.dropLast_eq_take, List.dropLast_eq_take, h.length']
  exact h.take _
theorem dq_eraseIdx {K : PySem.W.Frag} {G : Hp} {vs : List V} {ds : List PyData} (h : DQAll K G vs ds) (k : Nat) : DQAll K G (vs.eraseIdx k) (ds.eraseIdx k) := by
  rw [List.eraseIdx_eq_take_drop_succ, List.eraseIdx_eq_take_drop_succ]
  exact (h.take k).append (h.drop (k + 1))
theorem se_pop {o : Expr} {mo : EM} {apos cpos : Pos} (ho : PE X o (tM X W mo)) (hbase : attributeBase o "pop" X.env (eval o X.env) = eval o X.env) (hline : (apos.endLine == cpos.line) = true) : PE X (.Call (.Attribute o "pop" apos) [] [] cpos) (tM X W (mPop mo)) :=
  (pe_bm0 PySem.F.plainAttrs_list PySem.F.slot_list_pop PySem.F.type_list_pop mt_pop ho hbase hline).imp fun σ H Q ⟨c, st, ρ, en, rel, oo⟩ => by
    refine ⟨c, st, ρ, en, rel, (Out.bind oo).mono fun a st1 c1 H1 g1 r1 o1 x hx => ?_⟩
    try dsimp only at o1
    cases a with
    | d y => exact o1.elim
    | ref n =>
      obtain ⟨p, e1, rfl⟩ := hx
      try dsimp only at o1
      cases e2 : st1[n]? with
      | none => rw [e2] at o1; exact o1.elim
      | some ob =>
        rw [e2] at o1
        cases ob with
        | frz xs => exact o1.elim
        | lst xs =>
          try dsimp only at o1
          cases e3 : xs[xs.length - 1]? with
          | none => rw [e3] at o1; exact o1.elim
          | some y =>
            rw [e3] at o1
            obtain ⟨z, vs, hH, hv⟩ := r1.obj n p _ e1 e2
            obtain ⟨w, h1, h2⟩ := hv.get e3
            obtain ⟨g3, r3⟩ := r1.write (xs := xs.dropLast) e1 e2 trivial (by rw [List.length_dropLast]; omega) (dq_dropLast hv)
            exact ⟨is_list r1 e1 e2, p, vs, w, rfl, rfl, hH, by rw [hv.length']; exact h1, o1 c1 _ g3 r3 w h2⟩
end
end L2.Q

set_option maxHeartbeats 2000000
/-! Q layer, part Sc: {e for x in a for y in b}, the members tuples of ints. -/
namespace L2.Q
open PySem PySem.Spec PyProof.Rows

section
variable (e t u a b : Expr) (fs gs : List Expr) (sc : Scope) (pos : Pos) (it acc : Value) (env : PySem.Env)
abbrev twoGen : Expr := .SetComp e [⟨t, a, fs, 0⟩, ⟨u, b, gs, 0⟩] sc pos
theorem turnU_out : compTurn (twoGen e t u a b fs gs sc pos) 0 it acc env = (do
    standAt a.pos
    match ← pyNext it with
    | none => pure (.done .next)
    | some v =>
      letOwnedTupleGo t it v
      assign t env v
      let mut good := true
      for c in fs do
        if good then good ← isTrue c env (eval c env)
      if good then
        let x ← eval b env
        standAt b.pos
        let x ← foldedSetIterable b env x
        let _ ← runOwn (.compStart (twoGen e t u a b fs gs sc pos) 1 (← holding [x] (pyIter x)) acc env) env
      again (.compLoop (twoGen e t u a b fs gs sc pos) 0 it acc env)) := by rfl
theorem turnU_in : compTurn (twoGen e t u a b fs gs sc pos) 1 it acc env = (do
    standAt b.pos
    match ← pyNext it with
    | none => pure (.done .next)
    | some v =>
      letOwnedTupleGo u it v
      assign u env v
      let mut good := true
      for c in gs do
        if good then good ← isTrue c env (eval c env)
      if good then
        (do let y ← eval e env; standAt e.pos; let _ ← call (.builtin "set.add") [acc, y])
      again (.compLoop (twoGen e t u a b fs gs sc pos) 1 it acc env)) := by rfl
end
section
variable {P : Program} {w : World} {A : Around} {R : Result → Shared → Prop} {s : Shared} {e t u a b : Expr} {sc : Scope} {pos : Pos} {it acc : Value} {env : PySem.Env}
abbrev nE (P : Program) (w : World) (A : Around) (env : PySem.Env) (R : Result → Shared → Prop) : Value → Shared → Prop := notedBy (model P w) A env fun e s => R (.error e) s
abbrev okTo (Z : Shared → Prop) : Result → Shared → Prop := fun r s => match r with
  | .ok _ => Z s
  | .error _ => False
theorem loopU_out (hb : ∀ x, foldedSetIterable b env x = pure x) (Z : Nat → Shared → Prop)
    (turn : ∀ n s, Z n s → wpAny (model P w) A (pyNext it) (fun r s1 => match r with
      | none => R (.ok .next) s1
      | some v => wpAny (model P w) A (letOwnedTupleGo t it v) (fun _ s2 => wpAny (model P w) A (assign t env v) (fun _ s3 => wpAny (model P w) A (eval b env) (fun x s4 => wpAny (model P w) A (pyIter x) (fun jt s5 =>
          codeAny (model P w) A (.compStart (twoGen e t u a b [] [] sc pos) 1 jt acc env) (okTo fun z => ∃ m, m < n ∧ Z m z) s5) (nE P w A env R) s4) (nE P w A env R) s3) (nE P w A env R) s2) (nE P w A env R) s1) (nE P w A env R) s)
    (n : Nat) (h : Z n s) : codeAny (model P w) A (.compLoop (twoGen e t u a b [] [] sc pos) 0 it acc env) R s := by
  refine codeAny_loop rfl Z (fun n s hz => ?_) n h
  show wpAny _ A ((compTurn (twoGen e t u a b [] [] sc pos) 0 it acc env).onRaise (fun x => do noteFrame x env; theTreesLotGoes x)) _ _ s
  refine wpAny_noted ?_
  rw [turnU_out]
  refine wpAny_bind (wpAny_standAt (wpAny_bind (wpAny_mono (turn n s hz) (fun r z1 k1 => ?_) fun _ _ q => q)))
  cases r with
  | none => exact wpAny_pure k1
  | some v =>
    refine wpAny_bind (wpAny_mono k1 (fun _ z2 k2 => ?_) fun _ _ q => q)
    refine wpAny_bind (wpAny_mono k2 (fun _ z3 k3 => ?_) fun _ _ q => q)
    refine wpAny_bind (wpAny_tests_nil ?_)
    refine wpAny_bind (wpAny_mono k3 (fun x z4 k4 => ?_) fun _ _ q => q)
    refine wpAny_bind (wpAny_standAt (wpAny_bind (wpAny_of_eq (hb x) (wpAny_bind (wpAny_holding (wpAny_mono k4 (fun jt z5 k5 => ?_) fun _ _ q => q))))))
    refine wpAny_bind (wpAny_runOwn ?_)
    rw [Around.mark_none]
    refine codeAny_mono k5 fun r z hr => ?_
    cases r with
    | ok f => first | exact wpAny_pure ⟨rfl, hr⟩ | exact wpAny_bind (wpAny_pure (wpAny_pure ⟨rfl, hr⟩))
    | error e => exact hr.elim
theorem loopU_in (Z : Nat → Shared → Prop)
    (turn : ∀ n s, Z n s → wpAny (model P w) A (pyNext it) (fun r s1 => match r with
      | none => R (.ok .next) s1
      | some v => wpAny (model P w) A (letOwnedTupleGo u it v) (fun _ s2 => wpAny (model P w) A (assign u env v) (fun _ s3 => wpAny (model P w) A (eval e env) (fun y s4 =>
          wpAny (model P w) A (call (.builtin "set.add") [acc, y]) (fun _ s5 => ∃ m, m < n ∧ Z m s5) (nE P w A env R) s4) (nE P w A env R) s3) (nE P w A env R) s2) (nE P w A env R) s1) (nE P w A env R) s)
    (n : Nat) (h : Z n s) : codeAny (model P w) A (.compLoop (twoGen e t u a b [] [] sc pos) 1 it acc env) R s := by
  refine codeAny_loop rfl Z (fun n s hz => ?_) n h
  show wpAny _ A ((compTurn (twoGen e t u a b [] [] sc pos) 1 it acc env).onRaise (fun x => do noteFrame x env; theTreesLotGoes x)) _ _ s
  refine wpAny_noted ?_
  rw [turnU_in]
  refine wpAny_bind (wpAny_standAt (wpAny_bind (wpAny_mono (turn n s hz) (fun r z1 k1 => ?_) fun _ _ q => q)))
  cases r with
  | none => exact wpAny_pure k1
  | some v =>
    refine wpAny_bind (wpAny_mono k1 (fun _ z2 k2 => ?_) fun _ _ q => q)
    refine wpAny_bind (wpAny_mono k2 (fun _ z3 k3 => ?_) fun _ _ q => q)
    refine wpAny_bind (wpAny_tests_nil ?_)
    refine wpAny_bind (wpAny_bind (wpAny_mono k3 (fun y z4 k4 => ?_) fun _ _ q => q))
    exact wpAny_bind (wpAny_standAt (wpAny_bind (wpAny_mono k4 (fun _ z5 k5 => wpAny_pure (wpAny_pure ⟨rfl, k5⟩)) fun _ _ q => q)))
theorem startU_in (h0 : codeAny (model P w) A (.compLoop (twoGen e t u a b [] [] sc pos) 1 it acc env) R s)
    (h : wpAny (model P w) A (pyIter it) (fun jt z => codeAny (model P w) A (.compLoop (twoGen e t u a b [] [] sc pos) 1 jt acc env) R z) (nE P w A env R) s) :
    codeAny (model P w) A (.compStart (twoGen e t u a b [] [] sc pos) 1 it acc env) R s := by
  refine codeAny_of_tree ?_
  show wpAny _ _ ((compStart (twoGen e t u a b [] [] sc pos) 1 it acc env).onRaise (fun x => do noteFrame x env; standAt theWindowsPlace)) _ _ s
  refine wpAny_notedAt ?_
  unfold compStart
  show wpAny _ _ (ask >>= _) _ _ s
  refine wpAny_bind (wpAny_askSetting (wpAny_ite ?_))
  split
  · first | exact wpAny_bind (wpAny_pure (wpAny_pure (And.intro rfl h0))) | exact wpAny_pure (And.intro rfl h0)
  · first
      | exact wpAny_bind (wpAny_rule (wpAny_bind (wpAny_standAt (wpAny_bind (wpAny_mono h (fun jt z q => wpAny_pure (And.intro rfl q)) fun _ _ x => x)))))
      | (refine wpAny_bind (wpAny_rule ?_); show wpAny _ _ (standAt b.pos >>= _) _ _ s; exact wpAny_bind (wpAny_standAt (wpAny_bind (wpAny_mono h (fun jt z q => wpAny_pure (And.intro rfl q)) fun _ _ x => x))))
end

/-! set.add of a tuple of ints -/
section
variable {X : Cx}
theorem addU {pins : List (Addr × Obj)} {σ : St} {H : Hp} {s : Shared} {E : Value → Shared → Prop} {D x : Addr} {k : List Int} {L : List (Addr × List Int)} {Q : Value → Shared → Prop} (hu : X.A.units + 8 < cLine) (I : Inv X pins σ H s) (hD : H D = some (SetTO X.prog X.w D L))
    (hx : SqT X.K H x (k.map V.int)) (hL : ∀ p ∈ L, SqT X.K H p.1 (p.2.map V.int)) (few : L.length + 1 < 64)
    (h : ∀ s' L', (k ∈ L.map (·.2) → L' = L) → (k ∉ L.map (·.2) → L'.Perm ((x, k) :: L)) → Inv X pins σ (upd H D (SetTO X.prog X.w D L')) s' → Q .none s') : wpAny (model X.prog X.w) X.A (call (.builtin "set.add") [.ref D, .ref x]) Q E s := by
  have R0 : SetT0 X.prog X.w s.heap D L := (I.hok D _ hD).1
  obtain ⟨es, ep, t, R⟩ := R0.full fun p hp => I.isT (hL p hp)
  have hk := I.isT hx
  have hT : s.TypeIs (.ref D) "set" := by
    obtain ⟨o, ho, hex, _⟩ := R.ob
    exact ⟨o, ho, hex.1⟩
  refine wpAny_call_entry PySem.F.slot_set_add hT PySem.F.entry_set_add ?_ (PySem.F.args_set_add_2 _ _)
  unfold Builtin.«set.add» Builtin.Frozenset.oneOther
  simp only [List.isEmpty_nil, bind_assoc]
  unfold Builtin.Frozenset.addrOf setAdd
  refine wpAny_bind (wpAny_pure ?_)
  try dsimp only
  refine wpAny_bind (wpAny_pure ?_)
  try dsimp only
  refine wpAny_bind (wpAny_holding ?_)
  refine wpAny_bind (wpAny_pyHash_tuple (by simp; omega) hk ?_)
  refine add_at (s := { s with toks := s.toks + (k.length + 1) }) R hk (by simp; omega) few fun bb h' L' es' ep' t' sb R' c1 c2 => ?_
  have he : ∃ o, h'.get? D = some o := by
    obtain ⟨o, ho, _⟩ := R'.ob
    exact ⟨o, ho⟩
  show wpAny _ _ (ret Value.none) _ _ _
  exact wpAny_pure ⟨_, rfl, h _ L' c1 c2 (I.write (e := D) (t' := s.toks + (k.length + 1)) (by rw [hD]; trivial) (.inl rfl) (fun c o hc ho => (sb.2 c hc).trans ho) he (setTO_new R'.t0))⟩
end
/-! the comprehension -/
section
variable {X : Cx}
def tU2 (K : PySem.W.Frag) (P : Program) (w : World) (wa : TI) (g : TG) (wb : TI) (g' : TG) (te : TE) (own own' : List Nat) : TE := fun σ H Q => wa σ H fun J Ha => ∀ D, Ha D = none →
  ∃ Z : Nat → Nat → Hp → Prop, (∃ m, Z 0 m (upd Ha D (SetTO P w D []))) ∧ ∀ i m H, Z i m H → (J.stop i H ∧ Q (.ref D) H) ∨ (J.go i H ∧ ∃ Nx : Hp → Prop, (∀ H', Nx H' → ∃ m', m' < m ∧ Z (i + 1) m' H') ∧ ∀ x H', J.yld i H x H' →
    g x (wipe σ own) H' fun σ2 H2 => wipe σ2 own = wipe σ own ∧ wb σ2 H2 fun J' Hb => ∃ Y : Nat → Nat → Hp → Prop, (∃ m, Y 0 m Hb) ∧ ∀ j k H, Y j k H → (J'.stop j H ∧ Nx H) ∨ (J'.go j H ∧ ∃ Ny : Hp → Prop, (∀ H', Ny H' → ∃ k', k' < k ∧ Y (j + 1) k' H') ∧ ∀ x H', J'.yld j H x H' →
      g' x (wipe σ2 own') H' fun σ3 H3 => wipe σ3 own' = wipe σ2 own' ∧ te σ3 H3 fun y H4 => ∃ (c : Addr) (k : List Int) (L : List (Addr × List Int)), y = .ref c ∧ SqT K H4 c (k.map V.int) ∧ H4 D = some (SetTO P w D L) ∧ (∀ p ∈ L, SqT K H4 p.1 (p.2.map V.int)) ∧ L.length + 1 < 64 ∧
        ∀ L', (k ∈ L.map (·.2) → L' = L) → (k ∉ L.map (·.2) → L'.Perm ((c, k) :: L)) → Ny (upd H4 D (SetTO P w D L'))))
abbrev freshU (w : World) : Obj := { cls := .type "set", dict := none, data := .set #[] 0 (.fresh 0 0 (!w.params.followText "set-order")) }
theorem setTO_fresh {P : Program} {w : World} {H : Hp} {h : Heap} {D : Addr} (e : h.get? D = some (freshU w)) : ObjOk P w H h D (SetTO P w D []) := setTO_new (setTR_fresh e).t0
theorem coreU {pins : List (Addr × Obj)} {s : Shared} {σ : St} {H : Hp} {Q : VK} {e t u a b : Expr} {sc : Scope} {own : List (Str × Nat)} {own' : List Nat} {pos pos' : Pos} {wa wb : TI} {g g' : TG} {te : TE} {use : Option (Value → Sem Unit)} {Qf : Value → Shared → Prop}
    (hc : X.calm = true) (hu : X.A.units + 8 < cLine) (hN : X.N.Nodup) (I : Inv X pins σ H s) (ha : PI X t a wa) (ok : BlkOk X.N X.env.scope sc own) (hv : ∀ i ∈ own', i ∈ own.map (·.2))
    (hg : ∀ (s : Shared) (H : Hp) (C : Addr) (cl : List (Str × Addr)) (fp : List Addr), PG (X.blk s H sc (compEnvC sc cl C X.env) fp) t g)
    (he : ∀ (s : Shared) (H : Hp) (C : Addr) (cl : List (Str × Addr)) (fp : List Addr), PE (X.blk s H sc (compEnvC sc cl C X.env) fp) e te) (hs : ∀ x, foldedSetIterable a X.env x = pure x)
    (hb : ∀ (s : Shared) (H : Hp) (C : Addr) (cl : List (Str × Addr)) (fp : List Addr), PI (X.blk s H sc (compEnvC sc cl C X.env) fp) u b wb)
    (hg' : ∀ (s : Shared) (H : Hp) (C : Addr) (cl : List (Str × Addr)) (fp : List Addr), PG (X.blk s H sc (compEnvC sc cl C X.env) fp) u g') (hs' : ∀ env x, foldedSetIterable b env x = pure x)
    (h : tU2 X.K X.prog X.w wa g wb g' te (own.map (·.2)) own' σ H Q)
    (fin : ∀ D C z m H', Inv X pins σ H' z → Q (.ref D) H' → z.heap.Ns C m → FpOk X pins H' C → compPost (model X.prog X.w) X.A X.xe use Qf (.ref D) C (.ok .next) z) :
    wpAny (model X.prog X.w) X.A (comprehension (twoGen e t u a b [] [] sc pos) sc X.env pos' (newSet (.type "set")) false (eval a X.env) use) Qf X.xe s := by
  have caught : ∀ y ∈ sc.names, y.2 = .free → ∃ c, X.env.cells.lookup y.1 = some c := fun y hy q => by
    rcases ok.free y hy q with k | k
    · exact I.ok.has _ (.inl k)
    · exact I.ok.has _ (.inr k)
  refine wpAny_comprehension_free (use := use) rfl hs (closure_ok caught) ok.kind (fun y hy q => by rw [ok.uniq y hy, q])
    (thn (ha.run pins s σ H _ I h) fun xv z1 hx => thn hx fun iv z2 k2 => ?_)
  obtain ⟨it, fp, tn, J, Ha, ev, I2, T, at2, fp2, q⟩ := k2
  subst ev
  refine PpSet.newSet_ok (newEnv_comp ?_)
  generalize hD : z2.heap.objs.size = D
  have free : Ha D = none := I2.hok.fresh (Nat.le_of_eq hD)
  obtain ⟨Z, ⟨m0, y0⟩, turn⟩ := q D free
  generalize hz3 : ({ z2 with heap := z2.heap.push (freshU X.w) } : Shared) = z3
  have heap3 : z3.heap = z2.heap.push (freshU X.w) := by rw [← hz3]
  have I3 : Inv X pins σ (upd Ha D (SetTO X.prog X.w D [])) z3 := by
    rw [← hz3]
    refine I2.laid (t' := z2.toks) (fun c o q => Heap.get?_push_of_some _ q) (Nat.le_of_eq hD) (setTO_fresh ?_)
    rw [← hD]
    exact Heap.get?_push_size _ rfl
  have low : ∀ c ∈ fp, c < z2.heap.objs.size := fun c hc' => by
    obtain ⟨o, q, _⟩ := T.obj _ _ at2 c hc'
    exact Heap.lt_size q
  have fp3 : ∀ c ∈ fp, FpOk X pins (upd Ha D (SetTO X.prog X.w D [])) c ∧ c < z3.heap.objs.size := fun c hc' => by
    have lt := low c hc'
    refine ⟨⟨?_, (fp2 c hc').2⟩, by rw [heap3, Heap.size_push]; exact Nat.lt_succ_of_lt lt⟩
    rw [upd_ne (by rw [← hD]; exact Nat.ne_of_lt lt)]
    exact (fp2 c hc').1
  have at3 : tn 0 z3.heap := T.keep _ _ _ at2 fun c _ o q => by rw [heap3]; exact Heap.get?_push_of_some _ q
  have I4 := block_start I3 ok hN fp3
  generalize hH3 : upd Ha D (SetTO X.prog X.w D []) = H3 at I3 I4 y0 fp3
  have pg := hg z3 H3 z3.heap.objs.size (cellsFrom (z3.heap.objs.size + 1) sc.names (cloFrom X.env.cells sc.names [])) fp
  have pe := he z3 H3 z3.heap.objs.size (cellsFrom (z3.heap.objs.size + 1) sc.names (cloFrom X.env.cells sc.names [])) fp
  have pb := hb z3 H3 z3.heap.objs.size (cellsFrom (z3.heap.objs.size + 1) sc.names (cloFrom X.env.cells sc.names [])) fp
  have pg' := hg' z3 H3 z3.heap.objs.size (cellsFrom (z3.heap.objs.size + 1) sc.names (cloFrom X.env.cells sc.names [])) fp
  show codeAny _ _ (.compStart (twoGen e t u a b [] [] sc pos) 0 (.ref it) (.ref D) (compEnvC sc (cellsFrom (z3.heap.objs.size + 1) sc.names (cloFrom X.env.cells sc.names [])) z3.heap.objs.size X.env))
    (compPost (model X.prog X.w) X.A X.xe use Qf (.ref D) z3.heap.objs.size) { z3 with heap := pushCells (z3.heap.push { cls := .type "dict", data := .dict #[] }) sc.names }
  have nfp : ∀ c ∈ fp, H3 c = none := fun c hc' => (fp3 c hc').1.1
  generalize hen : compEnvC sc (cellsFrom (z3.heap.objs.size + 1) sc.names (cloFrom X.env.cells sc.names [])) z3.heap.objs.size X.env = en at I4 pg pe pb pg' ⊢
  have enL : en.locals = z3.heap.objs.size := by subst hen; rfl
  generalize hz4 : ({ z3 with heap := pushCells (z3.heap.push { cls := .type "dict", data := .dict #[] }) sc.names } : Shared) = z4 at I4 ⊢
  have at4 : tn 0 z4.heap := T.keep _ _ _ at3 fun c _ o q => by rw [← hz4]; exact pushCells_keeps _ _ _ _ (Heap.get?_push_of_some _ q)
  have stay : ∀ {τ : St} {H' : Hp} {z : Shared}, Inv (X.blk z3 H3 sc en fp) [] τ H' z → (∀ c ∈ fp, H' c = none) → ∀ c ∈ fp, FpOk (X.blk z3 H3 sc en fp) [] H' c := fun {τ H' z} I' hn c hc' =>
    ⟨hn c hc', (I'.ok.exf c hc').1, I'.ok.exfs c hc', .inl hc', fun x d q => (I'.ok.exf c hc').2 x d q, fun p hp => absurd (show p ∈ ([] : List (Addr × Obj)) ++ [] from hp) (by simp)⟩
  have outer : codeAny (model X.prog X.w) X.A (.compLoop (twoGen e t u a b [] [] sc pos) 0 (.ref it) (.ref D) en) (compPost (model X.prog X.w) X.A X.xe use Qf (.ref D) z3.heap.objs.size) z4 := by
    refine loopU_out (hs' en) (fun n z => ∃ i H', Inv (X.blk z3 H3 sc en fp) [] (wipe σ (own.map (·.2))) H' z ∧ tn i z.heap ∧ (∀ c ∈ fp, H' c = none) ∧ Z i n H') ?_ m0 ⟨0, H3, I4, at4, nfp, y0⟩
    rintro n z5 ⟨i, H5, I5, at5, n5, y5⟩
    rcases turn i n H5 y5 with ⟨stop, qq⟩ | ⟨go, Nx, hNx, step⟩
    · refine thnF (T.done (X.blk z3 H3 sc en fp) rfl rfl rfl hc i [] z5 _ H5 (fun _ _ => False) I5 (stay I5 n5) at5 stop) fun r z6 ⟨hr, I6⟩ => ?_
      subst hr
      have I7 : Inv X pins σ H5 z6 := I3.call' (ch := fp) I6.os I6.base I6.hok I6.bare fun c hc' => ⟨(fp3 c hc').1.2.2.2.1, (fp3 c hc').1.2.1, (fp3 c hc').1.2.2.2.2.1, (fp3 c hc').1.2.2.2.2.2⟩
      have nC : H5 z3.heap.objs.size = none := by
        have q : H5 en.locals = none := I6.free
        rw [enL] at q
        exact q
      obtain ⟨m, ns, _⟩ := I6.loc
      have ns' : z6.heap.Ns en.locals m := ns
      rw [enL] at ns'
      exact fin D z3.heap.objs.size z6 m H5 I7 qq ns' (I3.fpOk (Nat.le_refl _) nC)
    · refine thnF (T.item (X.blk z3 H3 sc en fp) rfl rfl rfl hc i [] z5 _ H5 (fun _ _ => False) I5 (stay I5 n5) at5 go) fun r z6 ⟨v, hr, k6⟩ => ?_
      subst hr
      refine thnF k6 fun _ z7 ⟨x, H7, I7, r7, y7, at7, n7⟩ => ?_
      refine thnF (pg.run _ z7 _ H7 x v _ (I7.pinned (stay I7 n7) (T.obj _ _ at7)) r7 (step x H7 y7)) fun _ z8 ⟨σ8, H8, I8, wp8, q8⟩ => ?_
      have back : ∀ {τ : St} {z : Shared} {H' : Hp}, Inv (X.blk z3 H3 sc en fp) ([] ++ pinsAt fp z7.heap) τ H' z → (wipe σ (own.map (·.2))).length = τ.length → (∀ (j : Nat) o, (wipe σ (own.map (·.2)))[j]? = some (some o) → τ[j]? = some (some o)) → Nx H' →
          ∃ m, m < n ∧ ∃ i H', Inv (X.blk z3 H3 sc en fp) [] (wipe σ (own.map (·.2))) H' z ∧ tn i z.heap ∧ (∀ c ∈ fp, H' c = none) ∧ Z i m H' := fun {τ z H'} I' hl hk nx => by
        obtain ⟨m', lt, y'⟩ := hNx H' nx
        have held : ∀ c ∈ fp, ∀ o, z7.heap.get? c = some o → z.heap.get? c = some o ∧ H' c = none := fun c hc' o q =>
          let k := I'.pin (c, o) (List.mem_append_right _ (List.mem_append_right _ (mem_pinsAt hc' q)))
          ⟨k.1, k.2.1⟩
        refine ⟨m', lt, i + 1, H', (I'.unpinned (pins := [])).weak hl hk, T.keep _ _ _ at7 fun c hc' o q => (held c hc' o q).1, fun c hc' => ?_, y'⟩
        obtain ⟨o, q, _⟩ := T.obj _ _ at7 c hc'
        exact (held c hc' o q).2
      have len8 : (wipe σ (own.map (·.2))).length = σ8.length := by rw [← wp8, wipe_length]
      have val9 : ∀ (j : Nat) o, (wipe σ (own.map (·.2)))[j]? = some (some o) → (wipe σ8 own')[j]? = some (some o) := fun j o q => by
        rw [← wp8] at q
        obtain ⟨e1, e2⟩ := wipe_some q
        rw [wipe_out fun m => e2 (hv j m)]
        exact e1
      refine thnF (pb.run _ z8 σ8 H8 _ I8 q8) fun xv z9 hx => thnF hx fun jv z10 k10 => ?_
      obtain ⟨jt, fq, tm, J', H10, ev, I10, T', at10, fq10, Y, ⟨m1, w1⟩, turn'⟩ := k10
      subst ev
      have stay' : ∀ {H' : Hp}, (∀ c ∈ fq, H' c = none) → ∀ c ∈ fq, FpOk (X.blk z3 H3 sc en fp) ([] ++ pinsAt fp z7.heap) H' c := fun hn c hc' => ⟨hn c hc', (fq10 c hc').2⟩
      have inner : codeAny (model X.prog X.w) X.A (.compLoop (twoGen e t u a b [] [] sc pos) 1 (.ref jt) (.ref D) en)
          (okTo fun z => ∃ m, m < n ∧ ∃ i H', Inv (X.blk z3 H3 sc en fp) [] (wipe σ (own.map (·.2))) H' z ∧ tn i z.heap ∧ (∀ c ∈ fp, H' c = none) ∧ Z i m H') z10 := by
        refine loopU_in (fun k z => ∃ j H', Inv (X.blk z3 H3 sc en fp) ([] ++ pinsAt fp z7.heap) (wipe σ8 own') H' z ∧ tm j z.heap ∧ (∀ c ∈ fq, H' c = none) ∧ Y j k H') ?_ m1 ⟨0, H10, I10.weak (wipe_length _ _) (fun j o q => (wipe_some q).1), at10, fun c hc' => (fq10 c hc').1, w1⟩
        rintro k z12 ⟨j, H12, I12, at12, n12, y12⟩
        rcases turn' j k H12 y12 with ⟨stop', nx'⟩ | ⟨go', Ny, hNy, step'⟩
        · refine thnF (T'.done (X.blk z3 H3 sc en fp) rfl rfl rfl hc j _ z12 (wipe σ8 own') H12 (fun _ _ => False) I12 (stay' n12) at12 stop') fun r z13 ⟨hr, I13⟩ => ?_
          subst hr
          exact back I13 (len8.trans (wipe_length σ8 own').symm) val9 nx'
        · refine thnF (T'.item (X.blk z3 H3 sc en fp) rfl rfl rfl hc j _ z12 (wipe σ8 own') H12 (fun _ _ => False) I12 (stay' n12) at12 go') fun r z13 ⟨v', hr, k13⟩ => ?_
          subst hr
          refine thnF k13 fun _ z14 ⟨x', H14, I14, r14, y14, at14, n14⟩ => ?_
          refine thnF (pg'.run _ z14 (wipe σ8 own') H14 x' v' _ (I14.pinned (stay' n14) (T'.obj _ _ at14)) r14 (step' x' H14 y14)) fun _ z15 ⟨σ15, H15, I15, wp15, q15⟩ => ?_
          refine thnF (pe.run _ z15 σ15 H15 _ I15 q15) fun vy z16 ⟨y, H16, I16, r16, c, kk, L, ey, hx, hD16, hL, few, ny⟩ => ?_
          subst ey
          cases (show vy = Value.ref c from r16)
          refine addU (X := X.blk z3 H3 sc en fp) hu I16 hD16 hx hL few fun z17 L' c1 c2 I17 => ?_
          obtain ⟨m', lt, y'⟩ := hNy _ (ny L' c1 c2)
          have held : ∀ c ∈ fq, ∀ o, z14.heap.get? c = some o → z17.heap.get? c = some o ∧ (upd H16 D (SetTO X.prog X.w D L')) c = none := fun c hc' o q =>
            let k := I17.pin (c, o) (List.mem_append_right _ (List.mem_append_right _ (mem_pinsAt hc' q)))
            ⟨k.1, k.2.1⟩
          refine ⟨m', lt, j + 1, _, I17.unpinned.weak (by rw [← wp15, wipe_length]) (fun j o q => by rw [← wp15] at q; exact (wipe_some q).1), T'.keep _ _ _ at14 fun c hc' o q => (held c hc' o q).1, fun c hc' => ?_, y'⟩
          obtain ⟨o, q, _⟩ := T'.obj _ _ at14 c hc'
          exact (held c hc' o q).2
      exact startU_in inner (T'.self X.A 0 _ _ _ at10 inner)
  exact PpSet.codeAny_compStart_set outer (T.self X.A 0 _ _ _ at4 outer)
theorem pe_u2 {e t u a b : Expr} {sc : Scope} {own : List (Str × Nat)} {own' : List Nat} {pos : Pos} {wa wb : TI} {g g' : TG} {te : TE} (hc : X.calm = true) (hu : X.A.units + 8 < cLine) (hN : X.N.Nodup) (ha : PI X t a wa) (ok : BlkOk X.N X.env.scope sc own) (hv : ∀ i ∈ own', i ∈ own.map (·.2))
    (hg : ∀ (s : Shared) (H : Hp) (C : Addr) (cl : List (Str × Addr)) (fp : List Addr), PG (X.blk s H sc (compEnvC sc cl C X.env) fp) t g)
    (he : ∀ (s : Shared) (H : Hp) (C : Addr) (cl : List (Str × Addr)) (fp : List Addr), PE (X.blk s H sc (compEnvC sc cl C X.env) fp) e te) (hs : ∀ x, foldedSetIterable a X.env x = pure x)
    (hb : ∀ (s : Shared) (H : Hp) (C : Addr) (cl : List (Str × Addr)) (fp : List Addr), PI (X.blk s H sc (compEnvC sc cl C X.env) fp) u b wb)
    (hg' : ∀ (s : Shared) (H : Hp) (C : Addr) (cl : List (Str × Addr)) (fp : List Addr), PG (X.blk s H sc (compEnvC sc cl C X.env) fp) u g') (hs' : ∀ env x, foldedSetIterable b env x = pure x) :
    PE X (twoGen e t u a b [] [] sc pos) (tU2 X.K X.prog X.w wa g wb g' te (own.map (·.2)) own') := by
  refine ⟨fun pins s σ H Q I h => ?_⟩
  show wpAny _ _ (eval (.SetComp e [⟨t, a, [], 0⟩, ⟨u, b, [], 0⟩] sc pos) X.env) _ _ s
  rw [PpSet.eval_SetComp]
  refine coreU hc hu hN I ha ok hv hg he hs hb hg' hs' h fun D C z m H' I' q ns f => ⟨m, ns, fun h2 sb => ?_⟩
  obtain ⟨f0, f1, f2, f3, f4, f5⟩ := f
  exact ⟨.ref D, H', I'.turned (t' := z.toks) (fun c o hc' q => (sb.2 c hc').trans q) f0 f1 f3 f4 f5, rfl, q⟩
end
end L2.Q

set_option maxHeartbeats 2000000
/-! Q layer, part So: sorted of a set of tuples of ints. -/
namespace L2.Q
open PySem PySem.Spec PyProof.Rows
open PySem.W (AllAlike Sortable EachIs alike dataLe)

/-! ### sorted of a set of tuples of ints -/
def encU (p : Addr × List Int) : PyData := .tuple (p.2.map .int)
theorem perm_back {α β : Type} (f : α → β) : ∀ {xs ys : List β}, xs.Perm ys → ∀ {as : List α}, xs = as.map f → ∃ bs : List α, as.Perm bs ∧ ys = bs.map f := by
  intro xs ys h
  induction h with
  | nil => intro as e; exact ⟨as, .refl _, e⟩
  | @cons x xs ys _ ih =>
    intro as e
    cases as with
    | nil => cases e
    | cons a as =>
      rw [List.map_cons] at e
      injection e with e1 e2
      obtain ⟨bs, h1, h2⟩ := ih e2
      exact ⟨a :: bs, h1.cons a, by rw [List.map_cons, e1, h2]⟩
  | swap x y l =>
    intro as e
    cases as with
    | nil => cases e
    | cons a as => cases as with
      | nil => cases e
      | cons b as =>
        rw [List.map_cons, List.map_cons] at e
        injection e with e1 e2
        injection e2 with e2 e3
        exact ⟨b :: a :: as, .swap b a as, by rw [List.map_cons, List.map_cons, e1, e2, e3]⟩
  | trans _ _ ih1 ih2 =>
    intro as e
    obtain ⟨bs, h1, h2⟩ := ih1 e
    obtain ⟨cs, h3, h4⟩ := ih2 h2
    exact ⟨cs, h1.trans h3, h4⟩
theorem reads_ints {P : Program} {w : World} {h : Heap} : ∀ {k : List Int} {vs : List Value}, ItemsAre (intKind P w) k vs → ReadsAll h vs (k.map .int) []
  | _, _, .nil => .nil
  | _, _, .cons a t => by
    obtain ⟨u, e⟩ := Value.isInt_shape a
    subst e
    exact .cons (.int _ u) (reads_ints t)
theorem reads_tup {P : Program} {w : World} {h : Heap} {k : List Int} {b : Addr} (x : IsT P w h k b) : Reads h (.ref b) (.tuple (k.map .int)) [] := by
  obtain ⟨o, its, n, ho, hc, hd, hi⟩ := x
  exact .tuple ho hc hd (reads_ints hi)
theorem each_refs {h : Heap} {D : Addr} : ∀ {bs : List (Addr × List Int)}, (∀ b ∈ bs, Reads h (.ref b.1) (encU b) []) →
    EachIs (fun v (b : Addr × List Int) => v = Value.ref b.1) (bs.map fun b => Value.ref b.1) bs ∧ EachIs (fun v (b : Addr × List Int) => ∃ as, Reads h v (encU b) as ∧ D ∉ as) (bs.map fun b => Value.ref b.1) bs
  | [], _ => ⟨.nil, .nil⟩
  | b :: bs, hb => by
    obtain ⟨h1, h2⟩ := each_refs (D := D) fun c hc => hb c (List.mem_cons_of_mem _ hc)
    exact ⟨.cons rfl h1, .cons ⟨[], hb b List.mem_cons_self, by simp⟩ h2⟩
theorem each_eq : ∀ {bs : List (Addr × List Int)} {out : List Value}, EachIs (fun v (b : Addr × List Int) => v = Value.ref b.1) out bs → out = bs.map fun b => Value.ref b.1
  | _, _, .nil => rfl
  | _, _, .cons a t => by rw [a, each_eq t]; rfl
section
variable {P : Program} {w : World} {A : Around} {E : Value → Shared → Prop} {s : Shared}
theorem sorted_setU {a : Addr} {L : List (Addr × List Int)} {es : Array (Int × Value)} {ep : Nat} {t : SetTable} {Q : Value → Shared → Prop} (R : SetTR P w s.heap a L es ep t) (hh : A.handled = none) (hu : A.units + 66 < cLine) (hne : ∀ p ∈ L, p.2 ≠ [])
    (hQ : ∀ (z : Shared) (p : Addr) (c : Nat) (bs : List (Addr × List Int)), (∀ b o, s.heap.get? b = some o → z.heap.get? b = some o) → z.gens = s.gens → z.os = s.os → s.heap.objs.size ≤ p → bs.Perm L →
      z.heap.get? p = some (seqObj "list" ((bs.mergeSort (dataLe false encU)).map fun q => Value.ref q.1).toArray c) → Q (.ref p) z) : wpAny (model P w) A (call (.builtin "sorted") [.ref a]) Q E s := by
  obtain ⟨o, ho, hex, hd⟩ := R.ob
  have size := R.size
  have few := R.few
  refine Calls.call_function_entry kind_sorted plain_sorted entry_sorted (args_sorted1 _) ?_
  unfold Builtin.«sorted»
  refine wpAny_bind (m := checkCount "sorted" 1 1 _) (wpAny_pure ?_)
  refine wpAny_bind (collect_set (A := A.in1) hh ⟨o, ho, hex.1, hd⟩ R.fits (by unfold scanBound; omega) R.tab.ris R.led fun z1 vs keep1 big gen1 os1 pm => ?_)
  have rows : es.toList.map (·.2) = L.map fun q => Value.ref q.1 := by
    rw [R.rows]
    unfold rowsOf
    rw [List.map_map] <;> rfl
  rw [rows] at pm
  obtain ⟨bs, pb, eb⟩ := perm_back (fun q : Addr × List Int => Value.ref q.1) pm.symm rfl
  subst eb
  have bl : bs.length < 64 := by rw [← pb.length_eq]; exact few
  refine wpAny_bind (wpAny_newList ?_ (by rw [sizeLine_eq, List.length_map]; omega))
  have newD : (z1.heap.push (seqObj "list" (bs.map fun q => Value.ref q.1).toArray 0)).get? z1.heap.objs.size = some (seqObj "list" (bs.map fun q => Value.ref q.1).toArray 0) := Heap.get?_push_size _ rfl
  have rd : ∀ q ∈ bs, Reads (z1.heap.push (seqObj "list" (bs.map fun q => Value.ref q.1).toArray 0)) (.ref q.1) (encU q) [] := fun q hq =>
    reads_tup (isT_keep (R.tup q (pb.mem_iff.mpr hq)) fun b u e => Heap.get?_push_of_some _ (keep1 b u e))
  obtain ⟨e1, e2⟩ := each_refs (D := z1.heap.objs.size) rd
  refine wpAny_bind (wpAny_holding (PySem.W.list_sort_data (s := { z1 with heap := z1.heap.push (seqObj "list" (bs.map fun q => Value.ref q.1).toArray 0) }) (enc := encU) newD e1 e2 (.of fun b b' => ?_) (.inl fun d hd => ?_) (by rw [sizeLine_eq]; omega) (fun b hb => ?_) fun out hl eo => ?_))
  · unfold encU
    rw [alike]
    exact PySem.W.alike_ints _ _
  · obtain ⟨b, hb, rfl⟩ := List.mem_map.mp hd
    have ne := hne b (pb.mem_iff.mpr hb)
    unfold encU
    cases q : b.2 with
    | nil => exact absurd q ne
    | cons i k => exact ⟨_, _, rfl⟩
  · have : (encU b).depth = 1 := by
      unfold encU
      rw [PyData.depth, PySem.W.depth_ints]
    rw [this]
    simp
    omega
  · have eo' := each_eq eo
    subst eo'
    obtain ⟨c, hc⟩ := sortedHeap_at (vs := bs.map fun q => Value.ref q.1) (out := ((bs.mergeSort (dataLe false encU)).map fun q => Value.ref q.1).toArray) newD
    refine wpAny_pure ⟨_, rfl, hQ _ z1.heap.objs.size c bs (fun b u e => ?_) gen1 os1 big pb.symm hc⟩
    have q := keep1 b u e
    have lt := Heap.lt_size q
    show (sortedHeap (z1.heap.push (seqObj "list" (bs.map fun q => Value.ref q.1).toArray 0)) z1.heap.objs.size (bs.map fun q => Value.ref q.1) _).get? b = some u
    rw [sortedHeap_old (Nat.ne_of_lt lt) (by rw [size_push']; exact Nat.lt_succ_of_lt lt)]
    exact Heap.get?_push_of_some _ q
end
section
variable {X : Cx}
def rSetU (K : PySem.W.Frag) (P : Program) (w : World) : List V → Hp → VK → Prop := fun vs H Q => ∃ (a : Addr) (L : List (Addr × List Int)), vs = [V.ref a] ∧ H a = some (SetTO P w a L) ∧ (∀ p ∈ L, SqT K H p.1 (p.2.map V.int)) ∧ (∀ p ∈ L, p.2 ≠ []) ∧
  ∀ (bs : List (Addr × List Int)) (p : Addr), bs.Perm L → (L.map (·.2)).Nodup → L.length < 64 → H p = none → Q (.ref p) (upd H p (.lst ((bs.mergeSort (dataLe false encU)).map fun q => V.ref q.1)))
theorem ok_setU (hc : X.calm = true) (hu : X.A.units + 66 < cLine) : CallR X (.builtin "sorted") (rSetU X.K X.prog X.w) := by
  intro pins s σ H vs us Q I r ⟨a, L, ev, ha, hk, hne, q⟩
  subst ev
  have R0 : SetT0 X.prog X.w s.heap a L := (I.hok a _ ha).1
  obtain ⟨es, ep, t, R⟩ := R0.full fun p hp => I.isT (hk p hp)
  rw [Vals.ref1 r]
  have hf := R.few
  refine sorted_setU R (I.ok.hd hc) hu hne fun z p c bs kept g o hp pb hat => ?_
  have len : (bs.mergeSort (dataLe false encU)).length = L.length := by rw [List.length_mergeSort]; exact pb.length_eq
  have J : Inv X pins σ (upd H p (.lst ((bs.mergeSort (dataLe false encU)).map fun q => V.ref q.1))) { s with heap := z.heap, gens := z.gens, drawn := z.drawn, toks := z.toks } :=
    I.call (ch := []) (Un.laid kept hp (I.hok.fresh hp)) (I.hok.laid kept hp ⟨by rw [List.length_map, len, sizeLine_eq]; omega, _, c, vals_of_refs _, hat⟩) (by rw [g]; exact I.bare) (fun _ q => nomatch q)
  have same : z = { s with heap := z.heap, gens := z.gens, drawn := z.drawn, toks := z.toks } := by
    cases z; cases s; cases o; rfl
  rw [same]
  exact ⟨.ref p, _, J, rfl, q bs p pb R.nd R.few (I.hok.fresh hp)⟩
end
end L2.Q

set_option maxHeartbeats 2000000
/-! Q layer, part Un: sorted({e for x in a for y in b}), the members tuples of ints. -/
namespace L2.Q
open PySem PySem.Spec PyProof.Rows
open PySem.W (dataLe dataLt dataLt_tuple dataLt_ints rowLt)

/-- a tuple of ints with a member at least -/
def rowD : PyData → Option (List Int)
  | .tuple ds => match intsOf ds with
    | some (i :: k) => some (i :: k)
    | _ => none
  | _ => none
def tupD (k : List Int) : PyData := .tuple (k.map .int)
def putRow (acc : List (List Int)) (k : List Int) : List (List Int) := if k ∈ acc then acc else acc ++ [k]
def sortRows (ks : List (List Int)) : List (List Int) := ks.mergeSort fun a b => decide (a ≤ b)
def rowsD (ks : List (List Int)) : List PyData := (sortRows ks).map tupD
def rowsAll : List PyData → Option (List (List Int))
  | [] => some []
  | d :: ds => match rowD d, rowsAll ds with
    | some k, some ks => some (k :: ks)
    | _, _ => none
def dedup (ks : List (List Int)) : List (List Int) := ks.foldl putRow []
def uIn (tg : Tg) (me : EM) (ρ : Env) : List PyData → List (List Int) → Sto → Res (List (List Int))
  | [], acc, st => .ok acc st
  | x :: xs, acc, st => match tg.asg (.d x) ρ with
    | none => .fail
    | some ρ1 => (noX (me ρ1 st)).bind fun y st1 => match y with
      | .ref _ => .fail
      | .d y => match rowD y with
        | none => .fail
        | some k => if acc.length < 63 then uIn tg me ρ xs (putRow acc k) st1 else .fail
def uOut (tg : Tg) (mb : IM) (own' : List Nat) (tg' : Tg) (me : EM) (ρ : Env) : List PyData → List (List Int) → Sto → Res (List (List Int))
  | [], acc, st => .ok acc st
  | x :: xs, acc, st => match tg.asg (.d x) ρ with
    | none => .fail
    | some ρ1 => (noX (mb ρ1 st)).bind fun ys st1 => (uIn tg' me (wipeE ρ1 own') ys acc st1).bind fun acc st2 => uOut tg mb own' tg' me ρ xs acc st2
def mUniq (fn : List PyData → Sto → Res Vv) (ma : IM) (own own' : List Nat) (tg : Tg) (mb : IM) (tg' : Tg) (me : EM) : EM := fun ρ st => (ma ρ st).bind fun xs st1 => (uOut tg mb own' tg' me (wipeE ρ own) xs [] st1).bind fun acc st2 => fn (rowsD acc) st2
def mUsort (fn : List PyData → Sto → Res Vv) (me : EM) : EM := fun ρ st => (me ρ st).bind fun v st1 => match deref v st1 with
  | some (.list ds) => match rowsAll ds with
    | some ks => if ks.length < 64 then fn (rowsD (dedup ks)) st1 else .fail
    | none => .fail
  | _ => .fail

theorem intsOf_map : ∀ k : List Int, intsOf (k.map .int) = some k
  | [] => rfl
  | i :: k => by
    show (intsOf (k.map .int)).map (i :: ·) = _
    rw [intsOf_map k]; rfl
theorem rowD_some {d : PyData} {k : List Int} (h : rowD d = some k) : k ≠ [] ∧ ∃ ds, d = .tuple ds ∧ intsOf ds = some k := by
  unfold rowD at h
  split at h
  · rename_i ds
    split at h
    · rename_i i r e
      cases h
      exact ⟨by simp, _, rfl, e⟩
    · cases h
  · cases h

theorem le_encU (a b : Addr × List Int) : dataLe false encU a b = decide (a.2 ≤ b.2) := by
  show (!dataLt (encU b) (encU a)) = _
  unfold encU
  rw [dataLt_tuple]
  show (!rowLt (b.2.map .int) (a.2.map .int)) = _
  rw [dataLt_ints]
  by_cases h : b.2 < a.2
  · have h' : ¬ a.2 ≤ b.2 := fun r => List.not_lt.mpr r h
    simp [h, h']
  · have h' : a.2 ≤ b.2 := List.not_lt.mp h
    simp [h, h']
theorem rows_trans (a b c : List Int) : decide (a ≤ b) = true → decide (b ≤ c) = true → decide (a ≤ c) = true := by
  simp only [decide_eq_true_eq]
  exact fun h1 h2 => List.le_trans h1 h2
theorem rows_total (a b : List Int) : (decide (a ≤ b) || decide (b ≤ a)) = true := by
  simp only [Bool.or_eq_true, decide_eq_true_eq]
  exact List.le_total a b
theorem sortRows_perm {xs ys : List (List Int)} (h : xs.Perm ys) : sortRows xs = sortRows ys := by
  refine List.Perm.eq_of_pairwise (le := fun a b => decide (a ≤ b) = true) (fun a b _ _ h1 h2 => ?_) (List.pairwise_mergeSort rows_trans rows_total xs) (List.pairwise_mergeSort rows_trans rows_total ys) (((List.mergeSort_perm xs _).trans h).trans (List.mergeSort_perm ys _).symm)
  exact List.le_antisymm (of_decide_eq_true h1) (of_decide_eq_true h2)
theorem sort_pairs {bs L : List (Addr × List Int)} {acc : List (List Int)} (pb : bs.Perm L) (pm : (L.map (·.2)).Perm acc) : (bs.mergeSort (dataLe false encU)).map (·.2) = sortRows acc := by
  have k := List.map_mergeSort (r := dataLe false encU) (s := fun a b => decide (a ≤ b)) (f := fun q : Addr × List Int => q.2) (l := bs) (fun a _ b _ => le_encU a b)
  rw [k]
  exact sortRows_perm ((pb.map (·.2)).trans pm)
theorem put_perm_row {L L' : List (Addr × List Int)} {acc : List (List Int)} {c : Addr} {k : List Int} (pm : (L.map (·.2)).Perm acc) (c1 : k ∈ L.map (·.2) → L' = L) (c2 : k ∉ L.map (·.2) → L'.Perm ((c, k) :: L)) : (L'.map (·.2)).Perm (putRow acc k) := by
  unfold putRow
  by_cases h : k ∈ acc
  · rw [if_pos h, c1 (pm.mem_iff.mpr h)]; exact pm
  · rw [if_neg h]
    refine ((c2 fun m => h (pm.mem_iff.mp m)).map (·.2)).trans ?_
    exact (pm.cons k).trans (List.perm_append_singleton k acc).symm

structure SafeU (D : Addr) (o : HO) (c : Cfg) (H : Hp) : Prop where
  at_ : H D = some o
  out : D ∉ c.φ
  thaw : c.G D = none
theorem SafeU.go {D : Addr} {o : HO} {c c' : Cfg} {H H' : Hp} (s : SafeU D o c H) (g : Go c H c' H') : SafeU D o c' H' := by
  refine ⟨g.keep D _ s.at_ s.out, fun m => ?_, ?_⟩
  · rcases g.fnew D m with z | z
    · exact s.out z
    · rw [s.at_] at z; cases z
  · cases q : c'.G D with
    | none => rfl
    | some u =>
      rcases g.gnew D (by rw [q]; simp) with z | z | z
      · exact absurd s.thaw z
      · rw [s.at_] at z; cases z
      · exact absurd z s.out
theorem Rel.besideU {K : PySem.W.Frag} {c : Cfg} {H : Hp} {st : Sto} {D : Addr} {o o' : HO} (r : Rel K c H st) (s : SafeU D o c H) : Rel K c (upd H D o') st := by
  refine ⟨fun a u e => ?_, r.len, r.nd, fun n a ob h1 h2 => (r.obj n a ob h1 h2).mono (fun _ _ e => e) fun _ u e => ?_, r.free⟩
  · rw [upd_ne (by rintro rfl; rw [s.thaw] at e; cases e)]
    exact r.sub a u e
  · rw [upd_ne (by rintro rfl; exact s.out (List.mem_of_getElem? h1))]
    exact e
/-- what stands behind some turns: the set at D holds the rows acc -/
structure Col (K : PySem.W.Frag) (P : Program) (w : World) (D : Addr) (L : List (Addr × List Int)) (acc : List (List Int)) (c1 : Cfg) (H1 : Hp) (c : Cfg) (H : Hp) (st : Sto) : Prop where
  go : Go c1 H1 c H
  rel : Rel K c H st
  sf : SafeU D (SetTO P w D L) c H
  tup : ∀ p ∈ L, SqT K c.G p.1 (p.2.map V.int)
  ne : ∀ p ∈ L, p.2 ≠ []
  pm : (L.map (·.2)).Perm acc
  few : L.length < 64
  sz : ∀ p ∈ L, p.2.length ≤ sizeLine
theorem EnvR.up {K : PySem.W.Frag} {c c' : Cfg} {σ : St} {ρ : Env} (m : ∀ a o, c.G a = some o → c'.G a = some o) (p : ∃ l, c'.φ = c.φ ++ l) (h : EnvR K c σ ρ) : EnvR K c' σ ρ :=
  ⟨h.len, fun i x e => let ⟨v, q, r⟩ := h.val i x e; ⟨v, q, r.mono m p⟩⟩
theorem dq_rows {K : PySem.W.Frag} {G : Hp} : ∀ {ms : List (Addr × List Int)}, (∀ q ∈ ms, SqT K G q.1 (q.2.map V.int)) → (∀ q ∈ ms, q.2.length ≤ sizeLine) → DQAll K G (ms.map fun q => V.ref q.1) ((ms.map (·.2)).map tupD) := by
  intro ms
  induction ms with
  | nil => exact fun _ _ => .nil
  | cons q ms ih =>
    intro h1 h2
    refine .cons (.tup (h1 q List.mem_cons_self) (by rw [List.length_map]; exact h2 q List.mem_cons_self) ?_) (ih (fun r hr => h1 r (List.mem_cons_of_mem _ hr)) fun r hr => h2 r (List.mem_cons_of_mem _ hr))
    have each : ∀ k : List Int, DQAll K G (k.map V.int) (k.map .int) := by
      intro k
      induction k with
      | nil => exact .nil
      | cons i k ih => exact .cons (.int i) ih
    exact each q.2
section
variable {X : Cx} {W : WX}
theorem Col.later {D : Addr} {L : List (Addr × List Int)} {acc : List (List Int)} {c1 c c' : Cfg} {H1 H H' : Hp} {st st' : Sto} (k : Col X.K X.prog X.w D L acc c1 H1 c H st) (g : Go c H c' H') (r : Rel X.K c' H' st') : Col X.K X.prog X.w D L acc c1 H1 c' H' st' :=
  ⟨k.go.trans g, r, k.sf.go g, fun p hp => (k.tup p hp).mono' g.mono, k.ne, k.pm, k.few, k.sz⟩
theorem Col.put {D a : Addr} {L L' : List (Addr × List Int)} {acc : List (List Int)} {k : List Int} {c1 c : Cfg} {H1 H : Hp} {st : Sto} (q : Col X.K X.prog X.w D L acc c1 H1 c H st) (hD : H1 D = none) (hk : k ≠ []) (hz : k.length ≤ sizeLine) (ha : SqT X.K c.G a (k.map V.int)) (room : acc.length < 63)
    (e1 : k ∈ L.map (·.2) → L' = L) (e2 : k ∉ L.map (·.2) → L'.Perm ((a, k) :: L)) : Col X.K X.prog X.w D L' (putRow acc k) c1 H1 c (upd H D (SetTO X.prog X.w D L')) st := by
  have sub : ∀ p ∈ L', p = (a, k) ∨ p ∈ L := fun p hp => by
    by_cases h : k ∈ L.map (·.2)
    · rw [e1 h] at hp; exact .inr hp
    · exact List.mem_cons.mp ((e2 h).mem_iff.mp hp)
  refine ⟨⟨q.go.mono, q.go.pre, fun b u e n => ?_, q.go.gnew, q.go.fnew⟩, q.rel.besideU q.sf, ⟨upd_same, q.sf.out, q.sf.thaw⟩, fun p hp => ?_, fun p hp => ?_, put_perm_row q.pm e1 e2, ?_, fun p hp => ?_⟩
  · rw [upd_ne (ne_of_none e hD)]
    exact q.go.keep b u e n
  · rcases sub p hp with e | h
    · rw [e]; exact ha
    · exact q.tup p h
  · rcases sub p hp with e | h
    · rw [e]; exact hk
    · exact q.ne p h
  · by_cases h : k ∈ L.map (·.2)
    · rw [e1 h]; exact q.few
    · have l1 := (e2 h).length_eq
      have l2 := q.pm.length_eq
      rw [List.length_map] at l2
      rw [List.length_cons] at l1
      omega
  · rcases sub p hp with e | h
    · rw [e]; exact hz
    · exact q.sz p h
/-- how the sorted rows are handed on -/
def FnL (X : Cx) (W : WX) (fn : List PyData → Sto → Res Vv) : Prop := ∀ (c : Cfg) (H : Hp) (st : Sto) (vs : List V) (ds : List PyData) (σ : St) (Q : VK), Rel X.K c H st → DQAll X.K c.G vs ds → ds.length ≤ sizeLine →
  Out X.K X.mg c H (fn ds st) (fun a _ c' H' => ∀ x, RV X.K c' a x → Q x H') (fun cls d H' => W cls d σ H') → ∀ p, H p = none → Q (.ref p) (upd H p (.lst vs))
theorem fnL_l : FnL X W okL := fun c H st vs ds σ Q rel hd hz o p hp => new_lst rel hz hd (fun z c' H' g' r' hz => o c' H' g' r' z hz) p hp
theorem fnL_n : FnL X W okN := fun c H st vs ds σ Q rel hd hz o p hp => new_obj rel hz hd o p hp
def okB : Bool → List PyData → Sto → Res Vv
  | true => okN
  | false => okL
theorem fnL_b : ∀ b : Bool, FnL X W (okB b)
  | true => fnL_n
  | false => fnL_l
theorem tM_uniq {fn : List PyData → Sto → Res Vv} (hfn : FnL X W fn) {own own' : List Nat} {ma mb : IM} {tg tg' : Tg} {g g' : TG} {me : EM} (gk : GOk X.K g tg) (gk' : GOk X.K g' tg') (hsl : ∀ i ∈ tg.slots, i ∈ own) (hsl' : ∀ i ∈ tg'.slots, i ∈ own') {σ : St} {H : Hp} {Q : VK} (h : tM X W (mUniq fn ma own own' tg mb tg' me) σ H Q) :
    tU2 X.K X.prog X.w (tI X W ma) g (tI X W0 mb) g' (tM X W0 me) own own' σ H (fun x H1 => rSetU X.K X.prog X.w [x] H1 Q) := by
  obtain ⟨c, st, ρ, en, rel, o⟩ := h
  refine ⟨c, st, ρ, en, rel, (Out.bind o).mono fun xs st1 c1 H1 g1 r1 o1 J jok D hD => ?_⟩
  have hD1 : c1.G D = none := by
    cases q : c1.G D with
    | none => rfl
    | some u => rw [r1.sub D u q] at hD; cases hD
  have en1 := en.go g1
  have g0 : Go c1 H1 c1 (upd H1 D (SetTO X.prog X.w D [])) := ⟨fun _ _ e => e, ⟨[], by simp⟩, fun a u e _ => upd_sub hD a u e, fun a h => .inl h, fun a h => .inl h⟩
  have r0 : Rel X.K c1 (upd H1 D (SetTO X.prog X.w D [])) st1 :=
    ⟨fun a u e => upd_sub hD a u (r1.sub a u e), r1.len, r1.nd, fun n a ob h1 h2 => (r1.obj n a ob h1 h2).mono (fun _ _ e => e) fun _ u e => upd_sub hD a u e, r1.free⟩
  let Fin : Res (List (List Int)) → Prop := fun m => Out X.K X.mg c1 H1 (m.bind fun acc st3 => fn (rowsD acc) st3) (fun a _ c' H' => ∀ x, RV X.K c' a x → Q x H') fun cls d H' => W cls d σ H'
  refine ⟨fun i m H2 => m = xs.length - i ∧ i ≤ xs.length ∧ ∃ c2 st2 L acc, Col X.K X.prog X.w D L acc c1 H1 c2 H2 st2 ∧ Fin (uOut tg mb own' tg' me (wipeE ρ own) (xs.drop i) acc st2),
    ⟨_, rfl, Nat.zero_le _, c1, st1, [], [], ⟨g0, r0, ⟨upd_same, r1.out hD, hD1⟩, fun p hp => absurd hp (by simp), fun p hp => absurd hp (by simp), .refl _, by simp, fun p hp => absurd hp (by simp)⟩, by simpa using o1⟩, ?_⟩
  rintro i m H2 ⟨rfl, hi, c2, st2, L, acc, k2, o2⟩
  by_cases hlt : i < xs.length
  · have hx : xs[i]? = some xs[i] := List.getElem?_eq_getElem hlt
    rw [List.drop_eq_getElem_cons hlt] at o2
    obtain ⟨hgo, hy⟩ := (jok.2 i c2 H2 st2 k2.go.mono k2.rel).1 _ hx
    refine .inr ⟨hgo, fun H3 => ∃ c3 st3 L acc, Col X.K X.prog X.w D L acc c1 H1 c3 H3 st3 ∧ Fin (uOut tg mb own' tg' me (wipeE ρ own) (xs.drop (i + 1)) acc st3), fun H3 h => ⟨xs.length - (i + 1), by omega, rfl, hlt, h⟩, fun v H3 hyl => ?_⟩
    obtain ⟨c3, g3, r3, dv⟩ := hy v H3 hyl
    have k3 := k2.later g3 r3
    unfold uOut at o2
    cases ea : tg.asg (.d xs[i]) (wipeE ρ own) with
    | none => rw [ea] at o2; exact o2.elim
    | some ρ1 =>
      rw [ea] at o2
      try dsimp only at o2
      refine gk c3 H3 st2 v (.d xs[i]) _ _ ρ1 _ r3 ((en1.go k3.go).wipe _) dv ea fun σ1 en3 hw => ⟨?_, ?_⟩
      · rw [hw _ hsl]
        exact wipe_twice σ _ _ fun _ h => h
      · refine ⟨c3, st2, ρ1, en3, r3, ?_⟩
        cases et : mb ρ1 st2 with
        | fail => rw [et] at o2; exact o2.elim
        | exc e s => rw [et] at o2; exact o2.elim
        | ok ys st3 =>
          rw [et] at o2
          intro c4 H4 g4 r4 J' jok'
          have k4 := k3.later g4 r4
          have o3 : Fin ((uIn tg' me (wipeE ρ1 own') ys acc st3).bind fun acc st2 => uOut tg mb own' tg' me (wipeE ρ own) (xs.drop (i + 1)) acc st2) := o2
          refine ⟨fun j m H5 => m = ys.length - j ∧ j ≤ ys.length ∧ ∃ c5 st5 L acc, Col X.K X.prog X.w D L acc c1 H1 c5 H5 st5 ∧ (∀ a o, c4.G a = some o → c5.G a = some o) ∧ (∃ l, c5.φ = c4.φ ++ l) ∧
            Fin ((uIn tg' me (wipeE ρ1 own') (ys.drop j) acc st5).bind fun acc st2 => uOut tg mb own' tg' me (wipeE ρ own) (xs.drop (i + 1)) acc st2), ⟨_, rfl, Nat.zero_le _, c4, st3, L, acc, k4, fun _ _ e => e, ⟨[], by simp⟩, by simpa using o3⟩, ?_⟩
          rintro j m H5 ⟨rfl, hj, c5, st5, L5, acc5, k5, m5, p5, o5⟩
          by_cases hlt' : j < ys.length
          · have hy' : ys[j]? = some ys[j] := List.getElem?_eq_getElem hlt'
            rw [List.drop_eq_getElem_cons hlt'] at o5
            obtain ⟨hgo', hyl'⟩ := (jok'.2 j c5 H5 st5 m5 k5.rel).1 _ hy'
            refine .inr ⟨hgo', fun H5 => ∃ c5 st5 L acc, Col X.K X.prog X.w D L acc c1 H1 c5 H5 st5 ∧ (∀ a o, c4.G a = some o → c5.G a = some o) ∧ (∃ l, c5.φ = c4.φ ++ l) ∧
              Fin ((uIn tg' me (wipeE ρ1 own') (ys.drop (j + 1)) acc st5).bind fun acc st2 => uOut tg mb own' tg' me (wipeE ρ own) (xs.drop (i + 1)) acc st2), fun H5 h => ⟨ys.length - (j + 1), by omega, rfl, hlt', h⟩, fun v' H6 hyl6 => ?_⟩
            obtain ⟨c6, g6, r6, dv6⟩ := hyl' v' H6 hyl6
            have k6 := k5.later g6 r6
            have m6 : ∀ a o, c4.G a = some o → c6.G a = some o := fun a o e => g6.mono a o (m5 a o e)
            have p6 : ∃ l, c6.φ = c4.φ ++ l := by
              obtain ⟨l, e⟩ := p5
              obtain ⟨l2, e2⟩ := g6.pre
              exact ⟨l ++ l2, by rw [e2, e, List.append_assoc]⟩
            have en6 : EnvR X.K c6 σ1 ρ1 := (en3.go g4).up m6 p6
            unfold uIn at o5
            cases eb : tg'.asg (.d ys[j]) (wipeE ρ1 own') with
            | none => rw [eb] at o5; exact o5.elim
            | some ρ2 =>
              rw [eb] at o5
              try dsimp only at o5
              refine gk' c6 H6 st5 v' (.d ys[j]) _ _ ρ2 _ r6 (en6.wipe _) dv6 eb fun σ3 en7 hw' => ⟨?_, ?_⟩
              · rw [hw' _ hsl']
                exact wipe_twice σ1 _ _ fun _ h => h
              · refine ⟨c6, st5, ρ2, en7, r6, ?_⟩
                cases ee : me ρ2 st5 with
                | fail => rw [ee] at o5; exact o5.elim
                | exc e s => rw [ee] at o5; exact o5.elim
                | ok y st7 =>
                  rw [ee] at o5
                  cases y with
                  | ref n => exact o5.elim
                  | d y =>
                    have o6 : Fin ((match rowD y with
                      | none => (.fail : Res (List (List Int)))
                      | some k => if acc5.length < 63 then uIn tg' me (wipeE ρ1 own') (ys.drop (j + 1)) (putRow acc5 k) st7 else .fail).bind fun acc st2 => uOut tg mb own' tg' me (wipeE ρ own) (xs.drop (i + 1)) acc st2) := o5
                    intro c7 H7 g7 r7 z hz
                    have k7 := k6.later g7 r7
                    cases er : rowD y with
                    | none => rw [er] at o6; exact o6.elim
                    | some k =>
                      rw [er] at o6
                      obtain ⟨kne, ds, rfl, ei⟩ := rowD_some er
                      obtain ⟨a, vs, rfl, t1, z1, t2⟩ := dp_tup (show DQ X.K c7.G z (.tuple ds) from hz)
                      have ev := ints_all ei t2
                      have hkl : k.length ≤ sizeLine := by
                        have := t2.length'
                        rw [ev, List.length_map] at this
                        omega
                      rw [ev] at t1
                      by_cases room : acc5.length < 63
                      · have o7 : Fin ((if acc5.length < 63 then uIn tg' me (wipeE ρ1 own') (ys.drop (j + 1)) (putRow acc5 k) st7 else .fail).bind fun acc st2 => uOut tg mb own' tg' me (wipeE ρ own) (xs.drop (i + 1)) acc st2) := o6
                        rw [if_pos room] at o7
                        have ll := k7.pm.length_eq
                        rw [List.length_map] at ll
                        refine ⟨a, k, L5, rfl, t1.mono' r7.sub, k7.sf.at_, fun p hp => (k7.tup p hp).mono' r7.sub, by omega, fun L' e1 e2 => ⟨c7, st7, L', putRow acc5 k, k7.put hD kne hkl t1 room e1 e2, fun a o e => g7.mono a o (m6 a o e), ?_, o7⟩⟩
                        obtain ⟨l, e⟩ := p6
                        obtain ⟨l2, e2⟩ := g7.pre
                        exact ⟨l ++ l2, by rw [e2, e, List.append_assoc]⟩
                      · have o7 : Fin ((if acc5.length < 63 then uIn tg' me (wipeE ρ1 own') (ys.drop (j + 1)) (putRow acc5 k) st7 else .fail).bind fun acc st2 => uOut tg mb own' tg' me (wipeE ρ own) (xs.drop (i + 1)) acc st2) := o6
                        rw [if_neg room] at o7
                        exact o7.elim
          · have e : j = ys.length := by omega
            subst e
            rw [List.drop_length] at o5
            exact .inl ⟨(jok'.2 _ c5 H5 st5 m5 k5.rel).2 (Nat.le_refl _), c5, st5, L5, acc5, k5, o5⟩
  · have e : i = xs.length := by omega
    subst e
    rw [List.drop_length] at o2
    refine .inl ⟨(jok.2 _ c2 H2 st2 k2.go.mono k2.rel).2 (Nat.le_refl _), ?_⟩
    refine ⟨D, L, rfl, k2.sf.at_, fun p hp => (k2.tup p hp).mono' k2.rel.sub, k2.ne, fun bs p pb _ _ hp => ?_⟩
    have o3 : Out X.K X.mg c1 H1 (fn (rowsD acc) st2) (fun a _ c' H' => ∀ x, RV X.K c' a x → Q x H') fun cls d H' => W cls d σ H' := o2
    have sp := sort_pairs pb k2.pm
    have mem : ∀ q ∈ bs.mergeSort (dataLe false encU), q ∈ L := fun q hq => pb.mem_iff.mp ((List.mergeSort_perm bs _).mem_iff.mp hq)
    have dq := dq_rows (K := X.K) (G := c2.G) (ms := bs.mergeSort (dataLe false encU)) (fun q hq => k2.tup q (mem q hq)) fun q hq => k2.sz q (mem q hq)
    rw [sp] at dq
    have len : ((sortRows acc).map tupD).length ≤ sizeLine := by
      have l1 := k2.pm.length_eq
      have l2 := k2.few
      rw [List.length_map] at l1
      rw [List.length_map]
      unfold sortRows
      rw [List.length_mergeSort, sizeLine_eq]
      omega
    exact hfn c2 H2 st2 _ _ σ Q k2.rel dq len (o3.later k2.go) p hp
theorem rows_pairs {K : PySem.W.Frag} {G : Hp} : ∀ {ds : List PyData} {ks : List (List Int)} {vs : List V}, rowsAll ds = some ks → DQAll K G vs ds → ∃ ps : List (Addr × List Int), vs = ps.map (fun p => V.ref p.1) ∧ ps.map (·.2) = ks ∧ ∀ p ∈ ps, SqT K G p.1 (p.2.map V.int) ∧ p.2 ≠ [] ∧ p.2.length ≤ sizeLine
  | [], _, _, e, h => by cases e; cases h; exact ⟨[], rfl, rfl, fun p hp => absurd hp (by simp)⟩
  | d :: ds, ks, _, e, h => by
    unfold rowsAll at e
    cases q1 : rowD d with
    | none => simp only [q1] at e; cases e
    | some k =>
      cases q2 : rowsAll ds with
      | none => simp only [q1, q2] at e; cases e
      | some ks' =>
        simp only [q1, q2, Option.some.injEq] at e
        subst e
        cases h with
        | cons a t =>
          obtain ⟨ps, e1, e2, hp⟩ := rows_pairs q2 t
          obtain ⟨kne, es, rfl, ei⟩ := rowD_some q1
          obtain ⟨b, vs, rfl, t1, z1, t2⟩ := dp_tup a
          have ev := ints_all ei t2
          have hkl : k.length ≤ sizeLine := by
            have := t2.length'
            rw [ev, List.length_map] at this
            omega
          rw [ev] at t1
          refine ⟨(b, k) :: ps, by rw [List.map_cons, e1], by rw [List.map_cons, e2], fun p hq => ?_⟩
          rcases List.mem_cons.mp hq with e | hq
          · rw [e]; exact ⟨t1, kne, hkl⟩
          · exact hp p hq
theorem mem_put {acc : List (List Int)} {k j : List Int} : j ∈ putRow acc k ↔ j ∈ acc ∨ j = k := by
  unfold putRow
  by_cases h : k ∈ acc
  · rw [if_pos h]
    exact ⟨.inl, fun z => z.elim id fun e => e ▸ h⟩
  · rw [if_neg h, List.mem_append, List.mem_singleton]
theorem nd_put {acc : List (List Int)} {k : List Int} (n : acc.Nodup) : (putRow acc k).Nodup := by
  unfold putRow
  by_cases h : k ∈ acc
  · rw [if_pos h]; exact n
  · rw [if_neg h]
    exact List.nodup_append.mpr ⟨n, by simp, fun a ha b hb e => h (by rw [List.mem_singleton.mp hb] at e; rw [← e]; exact ha)⟩
theorem fold_put : ∀ (ks acc : List (List Int)), acc.Nodup → (ks.foldl putRow acc).Nodup ∧ ∀ j, j ∈ ks.foldl putRow acc ↔ j ∈ acc ∨ j ∈ ks
  | [], acc, n => ⟨n, fun j => by simp⟩
  | k :: ks, acc, n => by
    obtain ⟨h1, h2⟩ := fold_put ks (putRow acc k) (nd_put n)
    refine ⟨h1, fun j => (h2 j).trans ?_⟩
    rw [mem_put, List.mem_cons, or_assoc]
theorem mem_dedup {ks : List (List Int)} {j : List Int} : j ∈ dedup ks ↔ j ∈ ks := by
  have := (fold_put ks [] List.nodup_nil).2 j
  simpa [dedup] using this
theorem nd_dedup (ks : List (List Int)) : (dedup ks).Nodup := (fold_put ks [] List.nodup_nil).1
theorem tM_usort {fn : List PyData → Sto → Res Vv} (hfn : FnL X W fn) {me : EM} {σ : St} {H : Hp} {Q : VK} (h : tM X W (mUsort fn me) σ H Q) :
    tM X W me σ H (fun x H1 => rSetOfT X.K X.prog X.w [x] H1 fun y H2 => rSetU X.K X.prog X.w [y] H2 Q) := by
  obtain ⟨c, st, ρ, en, rel, o⟩ := h
  refine ⟨c, st, ρ, en, rel, (Out.bind o).mono fun v st1 c1 H1 g1 r1 o1 x hx => ?_⟩
  try dsimp only at o1
  cases q1 : deref v st1 with
  | none => simp only [q1] at o1; exact o1.elim
  | some d =>
    cases d with
    | list ds =>
      simp only [q1] at o1
      cases q2 : rowsAll ds with
      | none => simp only [q2] at o1; exact o1.elim
      | some ks =>
        simp only [q2] at o1
        by_cases few : ks.length < 64
        · rw [if_pos few] at o1
          obtain ⟨a, vs, rfl, h1, z1, h2⟩ := (deref_dv r1 hx q1).list
          obtain ⟨ps, rfl, e2, hp⟩ := rows_pairs q2 h2
          have pl : ps.length = ks.length := by rw [← e2, List.length_map]
          refine ⟨a, ps, rfl, h1.sq, fun p hq => (hp p hq).1.mono' r1.sub, by omega, fun D L hD sub all => ?_⟩
          have tup : ∀ p ∈ L, SqT X.K c1.G p.1 (p.2.map V.int) := fun p hq => (hp p (sub p hq)).1
          have keep : ∀ b u, H1 b = some u → upd H1 D (SetTO X.prog X.w D L) b = some u := upd_sub hD
          refine ⟨D, L, rfl, upd_same, fun p hq => (tup p hq).mono' fun b u e => keep b u (r1.sub b u e), fun p hq => (hp p (sub p hq)).2.1, fun bs p pb nd lf hq => ?_⟩
          have same : (L.map (·.2)).Perm (dedup ks) := by
            refine (List.perm_ext_iff_of_nodup nd (nd_dedup ks)).mpr fun j => ?_
            rw [mem_dedup, ← e2]
            refine ⟨fun m => ?_, fun m => ?_⟩
            · obtain ⟨p, hm, rfl⟩ := List.mem_map.mp m
              exact List.mem_map.mpr ⟨p, sub p hm, rfl⟩
            · obtain ⟨p, hm, rfl⟩ := List.mem_map.mp m
              exact all p hm
          have sp := sort_pairs pb same
          have mem : ∀ q ∈ bs.mergeSort (dataLe false encU), q ∈ L := fun q hq => pb.mem_iff.mp ((List.mergeSort_perm bs _).mem_iff.mp hq)
          have dq := dq_rows (K := X.K) (G := c1.G) (ms := bs.mergeSort (dataLe false encU)) (fun q hq => tup q (mem q hq)) fun q hq => (hp q (sub q (mem q hq))).2.2
          rw [sp] at dq
          have len : (rowsD (dedup ks)).length ≤ sizeLine := by
            have l1 := same.length_eq
            rw [List.length_map] at l1
            unfold rowsD sortRows
            rw [List.length_map, List.length_mergeSort, sizeLine_eq]
            omega
          have rel2 : Rel X.K c1 (upd H1 D (SetTO X.prog X.w D L)) st1 := ⟨fun b u e => keep b u (r1.sub b u e), r1.len, r1.nd, fun n b ob h1 h2 => (r1.obj n b ob h1 h2).mono (fun _ _ e => e) fun _ u e => keep _ u e, r1.free⟩
          have go2 : Go c1 H1 c1 (upd H1 D (SetTO X.prog X.w D L)) := ⟨fun _ _ e => e, ⟨[], by simp⟩, fun b u e _ => keep b u e, fun b h => .inl h, fun b h => .inl h⟩
          exact hfn c1 _ st1 _ _ σ Q rel2 dq len (o1.later go2) p hq
        · rw [if_neg few] at o1; exact o1.elim
    | _ => simp only [q1] at o1; exact o1.elim
theorem se_usort {f f2 : Str} {fn : List PyData → Sto → Res Vv} (hfn : FnL X W fn) {a : Expr} {p p2 q pos : Pos} {me : EM} (hc : X.calm = true) (hu : X.A.units + 66 < cLine) (hf : f = "sorted") (hgl : Gl X f) (hm : X.mg f = none) (hf2 : f2 = "set") (hgl2 : Gl X f2) (hm2 : X.mg f2 = none) (ha : PE X a (tM X W me))
    (hs : starEach [a] X.env = (false, eval a X.env) :: starEach [] X.env) : PE X (.Call (.Name f p) [.Call (.Name f2 p2) [a] [] q] [] pos) (tM X W (mUsort fn me)) := by
  subst hf hf2
  have k : PE X (.Call (.Name "sorted" p) [.Call (.Name "set" p2) [a] [] q] [] pos) (tCB (rSetU X.K X.prog X.w) (tCons (tCB (rSetOfT X.K X.prog X.w) (tCons (tM X W me) tNil)) tNil)) :=
    pe_callB (ok_setU hc hu) hgl hm (by decide +kernel) (pa_cons (pe_callTy (cr_setOfT hc (by omega)) hgl2 hm2 (by decide +kernel) (pa_cons ha pa_nil hs) (he := hs)) pa_nil)
  refine k.imp fun σ H Q h => ?_
  have r := tM_usort hfn h
  exact r
theorem se_uniq {f : Str} {fn : List PyData → Sto → Res Vv} (hfn : FnL X W fn) {e t u a b : Expr} {sc : Scope} {own : List (Str × Nat)} {own' : List Nat} {p q pos : Pos} {ma mb : IM} {tg tg' : Tg} {g g' : TG} {me : EM} (hc : X.calm = true) (hu : X.A.units + 66 < cLine) (hN : X.N.Nodup) (hf : f = "sorted") (hgl : Gl X f) (hm : X.mg f = none)
    (ha : PI X t a (tI X W ma)) (ok : BlkOk X.N X.env.scope sc own) (hv : ∀ i ∈ own', i ∈ own.map (·.2)) (gk : GOk X.K g tg) (gk' : GOk X.K g' tg') (hsl : ∀ i ∈ tg.slots, i ∈ own.map (·.2)) (hsl' : ∀ i ∈ tg'.slots, i ∈ own')
    (hg : ∀ (s : Shared) (H : Hp) (C : Addr) (cl : List (Str × Addr)) (fp : List Addr), PG (X.blk s H sc (compEnvC sc cl C X.env) fp) t g)
    (he : ∀ (s : Shared) (H : Hp) (C : Addr) (cl : List (Str × Addr)) (fp : List Addr), PE (X.blk s H sc (compEnvC sc cl C X.env) fp) e (tM X W0 me)) (hs : ∀ x, foldedSetIterable a X.env x = pure x)
    (hb : ∀ (s : Shared) (H : Hp) (C : Addr) (cl : List (Str × Addr)) (fp : List Addr), PI (X.blk s H sc (compEnvC sc cl C X.env) fp) u b (tI X W0 mb))
    (hg' : ∀ (s : Shared) (H : Hp) (C : Addr) (cl : List (Str × Addr)) (fp : List Addr), PG (X.blk s H sc (compEnvC sc cl C X.env) fp) u g') (hs' : ∀ env x, foldedSetIterable b env x = pure x) :
    PE X (.Call (.Name f p) [twoGen e t u a b [] [] sc pos] [] q) (tM X W (mUniq fn ma (own.map (·.2)) own' tg mb tg' me)) := by
  subst hf
  have k : PE X (.Call (.Name "sorted" p) [twoGen e t u a b [] [] sc pos] [] q) (tCB (rSetU X.K X.prog X.w) (tCons (tU2 X.K X.prog X.w (tI X W ma) g (tI X W0 mb) g' (tM X W0 me) (own.map (·.2)) own') tNil)) :=
    pe_callB (ok_setU hc hu) hgl hm (by decide +kernel) (pa_cons (pe_u2 hc (by omega) hN ha ok hv hg he hs hb hg' hs') pa_nil)
  refine k.imp fun σ H Q h => ?_
  have r := tM_uniq hfn gk gk' hsl hsl' h
  exact r
end
end L2.Q

set_option maxHeartbeats 1000000
/-! Q layer, part Si: sorted(set(list of ints)). -/
namespace L2.Q
open PySem PySem.Spec PyProof.Rows
/-- an empty set of this world -/
abbrev mtSet (w : World) : Obj := { cls := .type "set", dict := none, data := .set #[] 0 (.fresh 0 0 (!w.params.followText "set-order")) }
section
variable {P : Program} {w : World} {A : Around} {E : Value → Shared → Prop} {s : Shared}
set_option maxHeartbeats 3200000 in
theorem call_set_ints {l : Addr} {ys : Array Value} (ns : List Int) {Q : Value → Shared → Prop} (calm : A.handled = none) (isL : s.heap.IsList l ys) (hit : IntsAre ys.toList ns) (room : ns.length + 1 < scanBound)
    (fin : ∀ (h1 : Heap) (tk c : Nat), SetR w h1 s.heap.objs.size (fun j => decide (j ∈ ns)) c → c ≤ ns.length → (∀ b o, s.heap.get? b = some o → h1.get? b = some o) → Q (.ref s.heap.objs.size) { s with heap := h1, toks := tk }) :
    wpAny (model P w) A (call (.type "set") [.ref l]) Q E s := by
  have size : ys.size = ns.length := by
    have q := IntsAre.length hit
    rwa [Array.length_toList] at q
  obtain ⟨c0, t0, mro0⟩ := F.called_set.mro
  have made0 := F.called_set.made
  have sub0 := F.called_set.sub
  refine wpAny_call (codeAny_of_tree ?_)
  show wpAny _ _ (callAny (.type "set") _) _ _ _
  refine wpAny_pure ⟨Code.quiet_builtin _ (by decide +kernel), (codeAny_builtin F.entry_type_call ?_)⟩
  rw [Around.under_plain (weight_type_call_type "set" [.ref l] ([])) rfl]
  have not0 := F.called_set.notType
  have can0 := F.called_set.canCreate
  have chk0 := F.typeCall_set_1 (.ref l)
  repeat (any_goals (first | assumption | wp_step))
  refine codeAny_mono (code_set_led1 (.ref l) (E := E) (Q₁ := fun obj s1 => obj = .ref s.heap.objs.size ∧ s1 = { s with heap := s.heap.push (mtSet w) }) ⟨rfl, rfl⟩) fun r s1 hr => ?_
  cases r with
  | error e => exact hr
  | ok fl =>
    cases fl with
    | ret obj =>
      obtain ⟨rfl, rfl⟩ := hr
      have atS : (s.heap.push (mtSet w)).get? s.heap.objs.size = some (mtSet w) := Heap.get?_push_size _ rfl
      have tyS : Shared.TypeIs { s with heap := s.heap.push (mtSet w) } (.ref s.heap.objs.size) "set" := ⟨_, atS, rfl⟩
      have ini0 := F.called_set.init.lookup
      have bnd0 := F.called_set.init.bind (.ref s.heap.objs.size)
      repeat (any_goals (first | assumption | wp_step))
      refine codeAny_mono (codeAny_call_builtin (R := wants (fun r s2 => r = .none ∧ ∃ h1 tk c, s2 = { s with heap := h1, toks := tk } ∧ SetR w h1 s.heap.objs.size (fun j => decide (j ∈ ns)) c ∧ c ≤ ns.length ∧
          (∀ b o, s.heap.get? b = some o → h1.get? b = some o)) E) F.called_set.init.plain F.entry_set_init (check_set_init_1 tyS ?_)) fun r2 s2 hr2 => ?_
      · obtain ⟨⟨ocls, odict, odata, oslots⟩, hol, hcl, nl, hdl⟩ := isL
        simp only at hcl hdl
        subst hcl; subst hdl
        have hol1 : (s.heap.push (mtSet w)).get? l = some { cls := .type "list", dict := odict, data := .seq ys nl, slots := oslots } := Heap.get?_push_of_some _ hol
        have b1 := PySem.F.sub_list_set
        have b2 := PySem.F.sub_list_frozenset
        have b3 : (Value.type "list" == Value.type "dict") = false := by decide
        have isL1 : (s.heap.push (mtSet w)).IsList l ys := ⟨_, hol1, rfl, nl, rfl⟩
        unfold Builtin.«set.__init__» noKeywords Builtin.Frozenset.updateFrom
        generalize hPI : pyIter = PI
        wp_walk
        subst hPI
        refine wpAny_pyIter_list isL1 ?_
        refine wpAny_bind (wpAny_runValue ?_)
        have lS : l < s.heap.objs.size := Heap.lt_size hol
        have calm3 : A.in1.in1.in1.handled = none := by simp [calm]
        have z1 : (s.heap.push (mtSet w)).objs.size = s.heap.objs.size + 1 := Heap.size_push ..
        have neI : l ≠ (s.heap.push (mtSet w)).objs.size := by rw [Heap.size_push]; exact Nat.ne_of_lt (Nat.lt_succ_of_lt lS)
        have offS : s.heap.objs.size ∉ [(s.heap.push (mtSet w)).objs.size, l] := by
          rw [Heap.size_push]
          simp only [List.mem_cons, List.not_mem_nil, or_false, not_or]
          exact ⟨Nat.ne_of_lt (Nat.lt_succ_self _), Nat.ne_of_gt lS⟩
        have vals : ∀ (i : Nat) (v : Value), ys[i]? = some v → ∃ k t, ns[i]? = some k ∧ v = .int k t := fun i v hv => by
          have hi : i < ns.length := by rw [← size]; exact (Array.getElem?_eq_some_iff.mp hv).1
          obtain ⟨t, e⟩ := IntsAre.int_at hit i v ((Array.getElem?_toList ..).trans hv)
          refine ⟨ns[i], t, List.getElem?_eq_getElem hi, ?_⟩
          rw [e, List.getD_eq_getElem?_getD, List.getElem?_eq_getElem hi] <;> rfl
        refine set_update_ints ((Walks.list calm3 _ l neI ys).toS) s.heap.objs.size offS ns size room vals (ys.size - 0) 0 _ (by omega) (Nat.zero_le _)
          ⟨⟨_, Heap.get?_push_size _ rfl, rfl, rfl⟩, (isL1.push _)⟩ ⟨0, Nat.le_refl 0, setR_new_at (Heap.get?_push_of_some _ atS)⟩ ?_
        intro s3 c3 hm hc3 hS3
        obtain ⟨h1, g2, d2, tk2, os2⟩ := s3
        have eg : g2 = s.gens := hm.gens
        have ed : d2 = s.drawn := hm.drawn
        have eo : os2 = s.os := hm.os
        subst eg; subst ed; subst eo
        show wpAny _ _ _ _ _ _
        refine wpAny_pure ?_
        show wpAny _ _ (ret Value.none) _ _ _
        rw [size] at hc3
        refine wpAny_pure ⟨rfl, h1, tk2, c3, rfl, hS3, hc3, fun b o e => ?_⟩
        have p0 : b < s.heap.objs.size := Heap.lt_size e
        have p1 : b ≠ s.heap.objs.size := Nat.ne_of_lt p0
        have p2 : b ≠ (s.heap.push (mtSet w)).objs.size := by rw [Heap.size_push]; exact Nat.ne_of_lt (Nat.lt_succ_of_lt p0)
        exact hm.heap b o (by simp only [List.mem_cons, List.not_mem_nil, or_false, not_or]; exact ⟨p1, p2⟩) (Heap.get?_push_of_some _ (Heap.get?_push_of_some _ e))
      · cases r2 with
        | error e => exact hr2
        | ok fl2 =>
          cases fl2 with
          | ret r =>
            obtain ⟨rfl, h1, tk, c1, rfl, hS1, hc1, hk1⟩ := hr2
            repeat (any_goals (first | assumption | wp_step))
            exact fin _ _ _ hS1 hc1 hk1
          | _ => exact hr2.elim
    | _ => exact hr.elim
end
/-- set(list of ints) -/
def rSetOfI (K : PySem.W.Frag) (w : World) : List V → Hp → VK → Prop := fun xs H Q => ∃ (l : Addr) (ns : List Int), xs = [V.ref l] ∧ SqL K H l (ns.map V.int) ∧ ns.length ≤ 1000 ∧
  ∀ a c, H a = none → c ≤ ns.length → Q (.ref a) (upd H a (SetO w a (fun j => decide (j ∈ ns)) c))
section
variable {X : Cx} {W : WX}
theorem cr_setOfI (hc : X.calm = true) : CallR X (.type "set") (rSetOfI X.K X.w) := by
  intro pins s σ H xs us Q I r h
  obtain ⟨l, ns, rfl, hl, hf, q⟩ := h
  rw [Vals.ref1 r]
  obtain ⟨its, rv, pl, hz⟩ := I.list hl
  have hi : IntsAre its.toArray.toList ns := ints_of_vals rv
  have hn : H s.heap.objs.size = none := I.hok.fresh (Nat.le_refl _)
  refine call_set_ints (P := X.prog) (w := X.w) ns (I.ok.hd hc) pl.isList hi (by unfold scanBound; omega) fun h1 tk c R hcn k => ?_
  exact ⟨.ref s.heap.objs.size, upd H s.heap.objs.size (SetO X.w s.heap.objs.size (fun j => decide (j ∈ ns)) c), I.laid (t' := tk) k (Nat.le_refl _) (setO_new R), rfl, q _ c hn hcn⟩
end
/-! sorted, without repetition -/
def putInt (acc : List Int) (k : Int) : List Int := if k ∈ acc then acc else acc ++ [k]
def dedupI (ks : List Int) : List Int := ks.foldl putInt []
def sortI (ks : List Int) : List Int := (dedupI ks).mergeSort fun a b => decide (a ≤ b)
theorem mem_putInt {acc : List Int} {k j : Int} : j ∈ putInt acc k ↔ j ∈ acc ∨ j = k := by
  unfold putInt
  by_cases h : k ∈ acc
  · rw [if_pos h]
    exact ⟨.inl, fun z => z.elim id fun e => e ▸ h⟩
  · rw [if_neg h, List.mem_append, List.mem_singleton]
theorem nd_putInt {acc : List Int} {k : Int} (n : acc.Nodup) : (putInt acc k).Nodup := by
  unfold putInt
  by_cases h : k ∈ acc
  · rw [if_pos h]; exact n
  · rw [if_neg h]
    exact List.nodup_append.mpr ⟨n, by simp, fun a ha b hb e => h (by rw [List.mem_singleton.mp hb] at e; rw [← e]; exact ha)⟩
theorem fold_putInt : ∀ (ks acc : List Int), acc.Nodup → (ks.foldl putInt acc).Nodup ∧ ∀ j, j ∈ ks.foldl putInt acc ↔ j ∈ acc ∨ j ∈ ks
  | [], acc, n => ⟨n, fun j => by simp⟩
  | k :: ks, acc, n => by
    obtain ⟨h1, h2⟩ := fold_putInt ks (putInt acc k) (nd_putInt n)
    refine ⟨h1, fun j => (h2 j).trans ?_⟩
    rw [mem_putInt, List.mem_cons, or_assoc]
theorem mem_sortI {ks : List Int} {j : Int} : j ∈ sortI ks ↔ j ∈ ks := by
  unfold sortI
  rw [(List.mergeSort_perm _ _).mem_iff]
  have := (fold_putInt ks [] List.nodup_nil).2 j
  simpa [dedupI] using this
theorem sortI_lt (ks : List Int) : (sortI ks).Pairwise (· < ·) := by
  have n : (sortI ks).Nodup := (List.mergeSort_perm _ _).nodup_iff.mpr (fold_putInt ks [] List.nodup_nil).1
  have s : (sortI ks).Pairwise fun a b => (decide (a ≤ b)) = true := List.pairwise_mergeSort (fun a b c h1 h2 => by simp only [decide_eq_true_eq] at *; omega) (fun a b => by simp only [Bool.or_eq_true, decide_eq_true_eq]; omega) _
  refine (List.Pairwise.and s n).imp fun {a b} h => ?_
  have h1 := of_decide_eq_true h.1
  have h2 := h.2
  omega
theorem lt_unique : ∀ {xs ys : List Int}, xs.Pairwise (· < ·) → ys.Pairwise (· < ·) → (∀ k, k ∈ xs ↔ k ∈ ys) → xs = ys
  | [], [], _, _, _ => rfl
  | [], y :: ys, _, _, h => absurd ((h y).mpr List.mem_cons_self) (by simp)
  | x :: xs, [], _, _, h => absurd ((h x).mp List.mem_cons_self) (by simp)
  | x :: xs, y :: ys, p, q, h => by
    obtain ⟨p1, p2⟩ := List.pairwise_cons.mp p
    obtain ⟨q1, q2⟩ := List.pairwise_cons.mp q
    have e : x = y := by
      rcases List.mem_cons.mp ((h x).mp List.mem_cons_self) with e | m
      · exact e
      · rcases List.mem_cons.mp ((h y).mpr List.mem_cons_self) with e | m2
        · exact e.symm
        · have a := q1 x m
          have b := p1 y m2
          omega
    subst e
    congr 1
    refine lt_unique p2 q2 fun k => ?_
    have hk := h k
    rw [List.mem_cons, List.mem_cons] at hk
    constructor
    · intro m
      rcases hk.mp (.inr m) with e | z
      · have := p1 k m; omega
      · exact z
    · intro m
      rcases hk.mpr (.inr m) with e | z
      · have := q1 k m; omega
      · exact z
def mUsortI (fn : List PyData → Sto → Res Vv) (me : EM) : EM := fun ρ st => (me ρ st).bind fun v st1 => match deref v st1 with
  | some (.list ds) => match intsOf ds with
    | some ns => if ns.length < 63 then fn ((sortI ns).map .int) st1 else .fail
    | none => .fail
  | _ => .fail
theorem putInt_len (acc : List Int) (k : Int) : (putInt acc k).length ≤ acc.length + 1 := by
  unfold putInt
  split
  · omega
  · rw [List.length_append]; exact Nat.le_refl _
theorem foldInt_len : ∀ (ks acc : List Int), (ks.foldl putInt acc).length ≤ acc.length + ks.length
  | [], acc => by simp
  | k :: ks, acc => by
    have := foldInt_len ks (putInt acc k)
    have := putInt_len acc k
    rw [List.foldl_cons, List.length_cons]
    omega
theorem sortI_len (ks : List Int) : (sortI ks).length ≤ ks.length := by
  unfold sortI dedupI
  rw [List.length_mergeSort]
  have := foldInt_len ks []
  simpa using this
section
variable {X : Cx} {W : WX}
theorem tM_usortI {fn : List PyData → Sto → Res Vv} (hfn : FnL X W fn) {me : EM} {σ : St} {H : Hp} {Q : VK} (h : tM X W (mUsortI fn me) σ H Q) :
    tM X W me σ H (fun x H1 => rSetOfI X.K X.w [x] H1 fun y H2 => rSortedSet X.w [y] H2 Q) := by
  obtain ⟨c, st, ρ, en, rel, o⟩ := h
  refine ⟨c, st, ρ, en, rel, (Out.bind o).mono fun v st1 c1 H1 g1 r1 o1 x hx => ?_⟩
  try dsimp only at o1
  cases q1 : deref v st1 with
  | none => simp only [q1] at o1; exact o1.elim
  | some d =>
    cases d with
    | list ds =>
      simp only [q1] at o1
      cases q2 : intsOf ds with
      | none => simp only [q2] at o1; exact o1.elim
      | some ns =>
        simp only [q2] at o1
        by_cases few : ns.length < 63
        · rw [if_pos few] at o1
          obtain ⟨a, vs, rfl, h1, z1, h2⟩ := (deref_dv r1 hx q1).list
          have ev := ints_all q2 h2
          rw [ev] at h1
          refine ⟨a, ns, rfl, h1.sq, by omega, fun D n hD hn => ?_⟩
          have keep : ∀ b u, H1 b = some u → upd H1 D (SetO X.w D (fun j => decide (j ∈ ns)) n) b = some u := upd_sub hD
          refine ⟨D, _, n, rfl, upd_same, by omega, fun ms p hs hm hl hp => ?_⟩
          have em : ms = sortI ns := lt_unique hs (sortI_lt ns) fun k => by rw [hm k, mem_sortI, decide_eq_true_eq]
          rw [em]
          have rel2 : Rel X.K c1 (upd H1 D (SetO X.w D (fun j => decide (j ∈ ns)) n)) st1 := ⟨fun b u e => keep b u (r1.sub b u e), r1.len, r1.nd, fun n b ob h1 h2 => (r1.obj n b ob h1 h2).mono (fun _ _ e => e) fun _ u e => keep _ u e, r1.free⟩
          have go2 : Go c1 H1 c1 (upd H1 D (SetO X.w D (fun j => decide (j ∈ ns)) n)) := ⟨fun _ _ e => e, ⟨[], by simp⟩, fun b u e _ => keep b u e, fun b h => .inl h, fun b h => .inl h⟩
          have dq : ∀ ms : List Int, DQAll X.K c1.G (ms.map V.int) (ms.map PyData.int) := fun ms => by
            induction ms with
            | nil => exact .nil
            | cons m ms ih => exact .cons (.int m) ih
          have len : ((sortI ns).map PyData.int).length ≤ sizeLine := by
            have := sortI_len ns
            rw [List.length_map, sizeLine_eq]
            omega
          exact hfn c1 _ st1 _ _ σ Q rel2 (dq _) len (o1.later go2) p hp
        · rw [if_neg few] at o1; exact o1.elim
    | _ => simp only [q1] at o1; exact o1.elim
theorem se_usortI {f f2 : Str} {fn : List PyData → Sto → Res Vv} (hfn : FnL X W fn) {a : Expr} {p p2 q pos : Pos} {me : EM} (hc : X.calm = true) (hf : f = "sorted") (hgl : Gl X f) (hm : X.mg f = none) (hf2 : f2 = "set") (hgl2 : Gl X f2) (hm2 : X.mg f2 = none) (ha : PE X a (tM X W me))
    (hs : starEach [a] X.env = (false, eval a X.env) :: starEach [] X.env) : PE X (.Call (.Name f p) [.Call (.Name f2 p2) [a] [] q] [] pos) (tM X W (mUsortI fn me)) := by
  subst hf hf2
  have k : PE X (.Call (.Name "sorted" p) [.Call (.Name "set" p2) [a] [] q] [] pos) (tCB (rSortedSet X.w) (tCons (tCB (rSetOfI X.K X.w) (tCons (tM X W me) tNil)) tNil)) :=
    pe_callB (cr_sortedSet hc) hgl hm (by decide +kernel) (pa_cons (pe_callTy (cr_setOfI hc) hgl2 hm2 (by decide +kernel) (pa_cons ha pa_nil hs) (he := hs)) pa_nil)
  refine k.imp fun σ H Q h => ?_
  have r := tM_usortI hfn h
  exact r
end
end L2.Q

set_option maxHeartbeats 1000000
/-! Q layer: a dict display whose keys are texts and whose values are constants, and .get of it. -/
namespace L2.Q
open PySem PySem.Spec PyProof.Rows
/-- a constant of a display -/
inductive Cn where
  | i (n : Int) | s (x : Str)
  deriving DecidableEq
def Cn.v : Cn → V
  | .i n => .int n
  | .s x => .str x
def Cn.dat : Cn → PyData
  | .i n => .int n
  | .s x => .str x
theorem Cn.dq {K : PySem.W.Frag} {G : Hp} : ∀ c : Cn, DQ K G c.v c.dat
  | .i n => .int n
  | .s x => .str x
abbrev Tab := List (Str × Cn)
def Tab.dat (t : Tab) : List (Str × PyData) := t.map fun p => (p.1, p.2.dat)
def Tab.kvs (t : Tab) : List (Key × V) := t.map fun p => (.inr p.1, p.2.v)
def chkCd : Cn → Expr → Bool
  | .i n, e => match e with
    | .Constant (.int m) _ _ => m == n
    | _ => false
  | .s x, e => match e with
    | .Constant (.str y) _ _ => y == x
    | _ => false
def chkLit : Tab → List (Option Expr) → List Expr → Bool
  | [], ks, vs => match ks, vs with
    | [], [] => true
    | _, _ => false
  | (x, c) :: t, ks, vs => match ks, vs with
    | some (.Constant (.str y) _ _) :: ks', v :: vs' => y == x && chkCd c v && chkLit t ks' vs'
    | _, _ => false
def litNew : Tab → Bool
  | [] => true
  | (x, _) :: t => !(t.any fun p => p.1 == x) && litNew t
section
variable {X : Cx} {W : WX}
theorem pe_cd {c : Cn} {e : Expr} (h : chkCd c e = true) : PE X e (tC c.v) := by
  cases c with
  | i n =>
    simp only [chkCd] at h; split at h
    · obtain rfl := beq_iff_eq.mp h
      exact pe_int
    · cases h
  | s x =>
    simp only [chkCd] at h; split at h
    · obtain rfl := beq_iff_eq.mp h
      exact pe_str
    · cases h
theorem pps_lit {pos : Pos} : ∀ {t : Tab} {ks : List (Option Expr)} {vs : List Expr}, chkLit t ks vs = true → ks.all (·.isSome) = true ∧ ks.length = vs.length ∧ ks.length = t.length ∧ ∃ trs, PPs X pos ks vs trs ∧ ∀ σ H Q, Q (t.kvs.map fun kv => (kV kv.1, kv.2)) H → tPairs trs σ H Q
  | [], ks, vs, h => by
    unfold chkLit at h; split at h
    · exact ⟨rfl, rfl, rfl, [], pps_nil, fun _ _ _ q => q⟩
    · cases h
  | (x, c) :: t, ks, vs, h => by
    unfold chkLit at h; split at h
    · rename_i y _ _ ks' v vs'
      simp only [Bool.and_eq_true] at h
      obtain ⟨⟨h1, h2⟩, h3⟩ := h
      obtain rfl := beq_iff_eq.mp h1
      obtain ⟨a1, a2, a3, trs, a4, a5⟩ := pps_lit (pos := pos) h3
      refine ⟨by simp [a1], by simp [a2], by simp [a3], (tC (.str y), tC c.v) :: trs, pps_cons pe_str (pe_cd h2) a4, fun σ H Q q => ?_⟩
      exact a5 σ H _ q
    · cases h
theorem lit_merge : ∀ (t : Tab) (acc : List (Key × V)), litNew t = true → (∀ p ∈ t, ∀ q ∈ acc, q.1 ≠ Sum.inr p.1) → mergeK acc t.kvs = acc ++ t.kvs
  | [], acc, _, _ => (List.append_nil acc).symm
  | (x, c) :: t, acc, h, k => by
    unfold litNew at h
    simp only [Bool.and_eq_true, Bool.not_eq_true'] at h
    have e : putK acc (Sum.inr x) c.v = acc ++ [(Sum.inr x, c.v)] := by
      unfold putK
      rw [if_neg]
      simp only [List.any_eq_true, decide_eq_true_eq, not_exists, not_and]
      exact fun q hq => k (x, c) List.mem_cons_self q hq
    show mergeK (putK acc (Sum.inr x) c.v) (Tab.kvs t) = acc ++ (Sum.inr x, c.v) :: Tab.kvs t
    rw [e, lit_merge t _ h.2 fun p hp q hq => ?_, List.append_assoc]
    · rfl
    · rcases List.mem_append.mp hq with z | z
      · exact k p (List.mem_cons_of_mem _ hp) q z
      · rw [List.mem_singleton.mp z]
        intro z2
        have z3 : x = p.1 := Sum.inr.inj z2
        have := List.any_eq_false.mp h.1 p hp
        rw [z3] at this
        simp at this
theorem lit_val : ∀ (t : Tab) (x : Str), valV t.kvs (Sum.inr x) = (t.lookup x).map Cn.v
  | [], _ => rfl
  | (y, c) :: t, x => by
    by_cases e : y = x
    · subst e
      rw [show Tab.kvs ((y, c) :: t) = (Sum.inr y, c.v) :: Tab.kvs t from rfl, valV_pos rfl, List.lookup_cons_self]
      rfl
    · rw [List.lookup_cons, beq_eq_false_iff_ne.mpr (Ne.symm e)]
      show valV ((Sum.inr y, c.v) :: Tab.kvs t) (Sum.inr x) = _
      rw [valV_neg fun z => e (Sum.inr.inj z)]
      exact lit_val t x
/-- {..}.get(k, d) -/
def fLit (t : Tab) : PyData → PyData → Option PyData
  | .str x, .int n => some (((t.lookup x).map Cn.dat).getD (.int n))
  | _, _ => none
def mLitGet (t : Tab) (mk md : EM) : EM := mBin (fLit t) mk md
theorem se_litGet {t : Tab} {ks : List (Option Expr)} {vs : List Expr} {k d : Expr} {mk md : EM} {pd apos pos : Pos} (hu : X.A.units + 1 < cLine) (hc : chkLit t ks vs = true) (hn : litNew t = true) (hz : t ≠ []) (h15 : t.length ≤ 15)
    (hk : PE X k (tM X W mk)) (hd : PE X d (tM X W md)) (m : M2 X (.Dict ks vs pd) "get" apos k d pos) : PE X (.Call (.Attribute (.Dict ks vs pd) "get" apos) [k, d] [] pos) (tM X W (mLitGet t mk md)) := by
  obtain ⟨a1, a2, a3, trs, a4, a5⟩ := pps_lit (X := X) (pos := pd) hc
  have h0 : ks ≠ [] := fun e => by
    rw [e] at a3
    exact hz (List.eq_nil_of_length_eq_zero a3.symm)
  refine (pe_dget2 hu (pe_disp a4 a1 a2 h0 (by omega)) hk hd m).imp fun σ H Q ⟨c, st, ρ, en, rel, o⟩ p hp => ?_
  refine a5 _ _ _ ⟨upd_same, t.kvs, rfl, by unfold Tab.kvs; rw [List.length_map]; exact h15, ?_⟩
  rw [lit_merge t [] hn (fun _ _ q z => nomatch z), List.nil_append, upd_upd]
  obtain ⟨g0, r0⟩ := rel.frozen (o := .dK t.kvs) hp
  refine ⟨p, rfl, .inl ⟨t.kvs, .inl upd_same⟩, ?_⟩
  refine ⟨_, st, ρ, en.go g0, r0, (Out.bind (Out.later g0 o)).mono fun a st1 c1 H1 g1 r1 o1 y hy => ?_⟩
  refine ⟨c1, st1, ρ, (en.go g0).go g1, r1, (Out.bind o1).mono fun b st2 c2 H2 g2 r2 o2 z hz => ?_⟩
  have hy2 := hy.go g2
  have hp2 : H2 p = some (.dK t.kvs) := r2.sub _ _ (g2.mono _ _ (g1.mono _ _ upd_same))
  try dsimp only at o2
  cases q1 : deref a st2 with
  | none => simp only [q1] at o2; exact o2.elim
  | some dk =>
    cases q2 : deref b st2 with
    | none => simp only [q1, q2] at o2; exact o2.elim
    | some dv =>
      simp only [q1, q2] at o2
      cases q3 : fLit t dk dv with
      | none => simp only [q3, ofO] at o2; exact o2.elim
      | some r =>
        simp only [q3, ofO] at o2
        unfold fLit at q3
        split at q3
        · rename_i x n
          cases q3
          obtain rfl := (deref_dv r2 hy2 q1).str
          obtain rfl := (deref_dv r2 hz q2).int
          refine ⟨_, .k (k := Sum.inr x) hp2, ?_⟩
          rw [lit_val]
          refine o2 c2 H2 Go.refl r2 _ ?_
          show DQ X.K c2.G _ _
          cases t.lookup x with
          | none => exact .int n
          | some cd => exact cd.dq
        · cases q3
end
end L2.Q

set_option maxHeartbeats 2000000
/-! Q layer: methods that look at data: list.count, list.index, str.split. -/
namespace L2.Q
open PySem PySem.Spec PyProof.Rows
inductive BM where
  | count | index | split
  deriving DecidableEq
def BM.nm : BM → Str
  | .count => "count" | .index => "index" | .split => "split"
def fCount : PyData → PyData → Option PyData
  | .list ds, d => if SeqAt.shaped (.list ds) = true ∧ SeqAt.shaped d = true then some (.int (ds.countP fun z => PyData.eqv z d : Nat)) else none
  | _, _ => none
def fIndex : PyData → PyData → Option PyData
  | .list ds, d => if SeqAt.shaped (.list ds) = true ∧ SeqAt.shaped d = true then (ds.findIdx? fun z => PyData.eqv z d).map fun j => .int (j : Nat) else none
  | _, _ => none
def fSplit : PyData → PyData → Option PyData
  | .str a, .str b => if (b.length == 0) = false ∧ a.length + 2 ≤ sizeLine ∧ (Txt.split a b).length ≤ sizeLine then some (.list ((Txt.split a b).map .str)) else none
  | _, _ => none
def fBM : BM → PyData → PyData → Option PyData
  | .count => fCount | .index => fIndex | .split => fSplit
def okBM : BM → PyData → Bool
  | .split, .str _ => true
  | .split, _ => false
  | _, .list _ => true
  | _, _ => false
def mBM (b : BM) (mo me : EM) : EM := fun ρ st => (mo ρ st).bind fun x st1 => match deref x st1 with
  | some d => if okBM b d = true then ((me ρ st1).bind fun y st2 => match deref x st2, deref y st2 with
    | some d, some e => ofO (fBM b d e) st2
    | _, _ => .fail) else .fail
  | none => .fail
section
variable {X : Cx} {W : WX}
def rCountD (K : PySem.W.Frag) : V → List V → Hp → VK → Prop := fun x xs H Q => ∃ (a : Addr) (y : V) (d : PyData) (ds : List PyData), x = V.ref a ∧ xs = [y] ∧ Dp K H (V.ref a) (.list ds) ∧ Dp K H y d ∧
  SeqAt.shaped (.list ds) = true ∧ SeqAt.shaped d = true ∧ Q (.int (ds.countP fun z => PyData.eqv z d : Nat)) H
theorem mt_countD (hu : X.A.units + 65 < cLine) : MtR X "list.count" (rCountD X.K) := by
  intro pins s σ H x xs v us Q I rx rxs ⟨a, y, d, ds, e1, e2, hl, hy, sl, sd, q⟩
  subst e1
  subst e2
  cases rx
  cases rxs with
  | cons ry rt =>
    rename_i uy ut
    cases rt
    obtain ⟨bs, r1⟩ := Dp.reads I d y uy hy ry
    have hxs : PyData.canLayAll0 ds = true := SeqAt.canLay_of_shaped sl
    have hroom : X.A.units + 1 + min (PyData.depthAll ds) d.depth < cLine := room_in_shaped sd hu
    cases hl with
    | lst hs ha =>
      obtain ⟨its, rv, ⟨⟨cls, dd, data, sls⟩, n, ho, hc, hdn, hdt⟩, hlen⟩ := I.list hs
      dsimp only at hc hdt
      subst hc hdt
      obtain ⟨as, h4⟩ := Dp.readsAll I ds _ its ha rv
      have hmap : its.map (SeqAt.readOf s.heap) = ds := SeqAt.readsAll_map ds its as hxs h4
      have ec : its.toArray.toList.countP (fun u => PyData.eqv (SeqAt.readOf s.heap u) d) = ds.countP fun z => PyData.eqv z d := by
        rw [← hmap, List.countP_map]
        rfl
      refine call_meets PySem.F.slot_list_count ⟨_, ho, rfl⟩ PySem.F.entry_list_count (PySem.F.args_list_count_2 _ _) (SeqAt.list_countAt a its.toArray n dd sls uy fun u => PyData.eqv (SeqAt.readOf s.heap u) d)
        ⟨ho, fun z hz => SeqAt.items_eqAt (vs := its.toArray) (show ReadsAll s.heap its.toArray.toList ds as from h4) r1 hxs (SeqAt.canLay_of_shaped sd) hroom z hz, ?_⟩
      refine ⟨.int (ds.countP fun z => PyData.eqv z d : Nat), H, I.tok _, ⟨s.toks, ?_⟩, q⟩
      show Value.int ((its.toArray.toList.countP (fun u => PyData.eqv (SeqAt.readOf s.heap u) d) : Nat) : Int) s.toks = _
      rw [ec]
theorem dv_lst {K : PySem.W.Frag} {c : Cfg} {H : Hp} {st : Sto} {x : V} {ds : List PyData} (rel : Rel K c H st) (h : DV K c H x (.list ds)) (hs : SeqAt.shaped (.list ds) = true) : ∃ a, x = .ref a ∧ Dp K H x (.list ds) := by
  obtain ⟨a, vs, rfl, _⟩ := h.list
  exact ⟨a, rfl, (h.dp rel).dp (nod_of hs)⟩
/-- the reading of a method on data -/
def rM2 (K : PySem.W.Frag) (f : PyData → PyData → Option PyData) : V → List V → Hp → VK → Prop := fun x xs H Q => ∃ y, xs = [y] ∧ rD K f x y H Q
theorem mt_cnt (hu : X.A.units + 65 < cLine) : MtR X "list.count" (rM2 X.K fCount) := by
  intro pins s σ H x xs v us Q I rx rxs ⟨y, e, c, st, d, e', r, rel, hx, hy, hf, q⟩
  subst e
  cases d with
  | list ds =>
    have hf' : (if SeqAt.shaped (.list ds) = true ∧ SeqAt.shaped e' = true then some (PyData.int (ds.countP fun z => PyData.eqv z e' : Nat)) else none) = some r := hf
    clear hf
    have hf := hf'
    clear hf'
    split at hf
    · rename_i hs
      cases hf
      obtain ⟨a, rfl, hl⟩ := dv_lst rel hx hs.1
      exact mt_countD hu pins s σ H _ _ v us Q I rx rxs ⟨a, y, _, ds, rfl, rfl, hl, (hy.dp rel).dp (nod_of hs.2), hs.1, hs.2, q _ c H Go.refl rel (.int _)⟩
    · cases hf
  | _ => cases hf
theorem mt_idx (hu : X.A.units + 65 < cLine) : MtR X "list.index" (rM2 X.K fIndex) := by
  intro pins s σ H x xs v us Q I rx rxs ⟨y, e, c, st, d, e', r, rel, hx, hy, hf, q⟩
  subst e
  cases d with
  | list ds =>
    have hf' : (if SeqAt.shaped (.list ds) = true ∧ SeqAt.shaped e' = true then (ds.findIdx? fun z => PyData.eqv z e').map fun j => PyData.int (j : Nat) else none) = some r := hf
    clear hf
    have hf := hf'
    clear hf'
    split at hf
    · rename_i hs
      obtain ⟨j, hj, rfl⟩ := Option.map_eq_some_iff.mp hf
      obtain ⟨a, rfl, hl⟩ := dv_lst rel hx hs.1
      obtain ⟨hlt, h1, h2⟩ := List.findIdx?_eq_some_iff_getElem.mp hj
      exact mt_indexD hu pins s σ H _ _ v us Q I rx rxs ⟨a, y, _, ds, j, ds[j], rfl, rfl, hl, (hy.dp rel).dp (nod_of hs.2), hs.1, hs.2, List.getElem?_eq_getElem hlt, h1, fun m z hm hz => by
        obtain ⟨hml, rfl⟩ := List.getElem?_eq_some_iff.mp hz
        have := h2 m hm
        simpa using this, q _ c H Go.refl rel (.int _)⟩
    · cases hf
  | _ => cases hf
theorem mt_spl : MtR X "str.split" (rM2 X.K fSplit) := by
  intro pins s σ H x xs v us Q I rx rxs ⟨y, e, c, st, d, e', r, rel, hx, hy, hf, q⟩
  subst e
  unfold fSplit at hf
  split at hf
  · split at hf
    · rename_i a b hs
      cases hf
      obtain rfl := hx.str
      obtain rfl := hy.str
      refine mt_split pins s σ H _ _ v us Q I rx rxs ⟨a, b, rfl, rfl, hs.1, hs.2.1, new_lst rel (by rw [List.length_map]; exact hs.2.2) ?_ q⟩
      induction Txt.split a b with
      | nil => exact .nil
      | cons z zs ih => exact .cons (.str z) ih
    · cases hf
  · cases hf
theorem tM_bm {b : BM} {T : String} {mo me : EM} {σ : St} {H : Hp} {Q : VK} (hT : ∀ c H st x d, Rel X.K c H st → DV X.K c H x d → okBM b d = true → tyV X.K T x H) (h : tM X W (mBM b mo me) σ H Q) : tBM X.K T (rM2 X.K (fBM b)) (tM X W mo) (tL X W (mCons me mNil)) σ H Q := by
  obtain ⟨c, st, ρ, en, rel, o⟩ := h
  refine ⟨c, st, ρ, en, rel, (Out.bind o).mono fun a st1 c1 H1 g1 r1 o1 x hx => ?_⟩
  try dsimp only at o1
  cases q0 : deref a st1 with
  | none => simp only [q0] at o1; exact o1.elim
  | some d0 =>
    simp only [q0] at o1
    split at o1
    · rename_i hok
      refine ⟨hT c1 H1 st1 x d0 r1 (deref_dv r1 hx q0) hok, c1, st1, ρ, en.go g1, r1, ?_⟩
      show Out X.K X.mg c1 H1 ((me ρ st1).bind fun x st1 => (mNil ρ st1).bind fun xs st2 => .ok (x :: xs) st2) _ _
      have o2 := Out.bind o1
      revert o2
      cases me ρ st1 with
      | fail => exact fun o2 => o2
      | exc e s => exact fun o2 => o2
      | ok b' st2 =>
        intro o2 c2 H2 g2 r2 xs hxs
        obtain ⟨y, r', rfl, hy, rfl⟩ := hxs
        have o3 := o2 c2 H2 g2 r2
        have hx2 := hx.go g2
        try dsimp only at o3
        cases q1 : deref a st2 with
        | none => simp only [q1] at o3; exact o3.elim
        | some d =>
          cases q2 : deref b' st2 with
          | none => simp only [q1, q2] at o3; exact o3.elim
          | some e =>
            simp only [q1, q2] at o3
            cases q3 : fBM b d e with
            | none => simp only [q3, ofO] at o3; exact o3.elim
            | some r =>
              simp only [q3, ofO] at o3
              exact ⟨y, rfl, c2, st2, d, e, r, r2, deref_dv r2 hx2 q1, deref_dv r2 hy q2, q3, fun z c' H' g' r' hz => o3 c' H' g' r' z hz⟩
    · exact o1.elim
theorem se_bm {b : BM} {m : Str} {o e : Expr} {mo me : EM} {apos cpos : Pos} (hu : X.A.units + 65 < cLine) (hm : m = b.nm) (ho : PE X o (tM X W mo)) (he : PE X e (tM X W me)) (hbase : attributeBase o m X.env (eval o X.env) = eval o X.env)
    (hfew : ((backTo cpos (starEach [e] X.env)).all (fun x => !x.1) && (backToKw cpos (keywordEach [] X.env)).all (fun x => x.1.isSome) && decide (([e] : List Expr).length + ([] : List Keyword).length + (if ([] : List Keyword).isEmpty then 0 else 1) < 30)) = true)
    (hline : (apos.endLine == cpos.line) = true) (hs : starEach [e] X.env = (false, eval e X.env) :: starEach [] X.env) (hplain : (backTo cpos (starEach [] X.env)).any (·.1) = false) : PE X (.Call (.Attribute o m apos) [e] [] cpos) (tM X W (mBM b mo me)) := by
  subst hm
  have lst : ∀ c H st x d, Rel X.K c H st → DV X.K c H x d → (∃ ds, d = .list ds) → tyV X.K "list" x H := by
    rintro c H st x d rel h ⟨ds, rfl⟩
    obtain ⟨a, vs, rfl, h1, _⟩ := h.list
    exact .inl ⟨rfl, _, h1.sq⟩
  have str : ∀ c H st x d, Rel X.K c H st → DV X.K c H x d → okBM .split d = true → tyV X.K "str" x H := by
    intro c H st x d rel h k
    cases d with
    | str z =>
      obtain rfl := h.str
      rfl
    | _ => cases k
  cases b with
  | count => exact (pe_bm PySem.F.plainAttrs_list PySem.F.slot_list_count PySem.F.type_list_count (mt_cnt hu) ho (sl_cons he sl_nil hs) hbase hfew hline hs hplain).imp fun σ H Q h => tM_bm (b := .count) (fun c H st x d r v k => lst c H st x d r v (by cases d <;> first | exact ⟨_, rfl⟩ | cases k)) h
  | index => exact (pe_bm PySem.F.plainAttrs_list PySem.F.slot_list_index PySem.F.type_list_index (mt_idx hu) ho (sl_cons he sl_nil hs) hbase hfew hline hs hplain).imp fun σ H Q h => tM_bm (b := .index) (fun c H st x d r v k => lst c H st x d r v (by cases d <;> first | exact ⟨_, rfl⟩ | cases k)) h
  | split => exact (pe_bm PySem.F.plainAttrs_str PySem.F.slot_str_split PySem.F.type_str_split mt_spl ho (sl_cons he sl_nil hs) hbase hfew hline hs hplain).imp fun σ H Q h => tM_bm (b := .split) (fun c H st x d r v k => str c H st x d r v k) h
end
end L2.Q

set_option maxHeartbeats 4000000
/-! Q layer: try: body; except C as n: y = n. What is caught is kept as a value. -/
namespace L2.Q
open PySem PySem.Spec PyProof.Rows
section
variable {X : Cx} {pins : List (Addr × Obj)} {σ σ' : St} {H H' : Hp} {s sI : Shared} {a : Addr} {oe : Obj} {vs : Array Value} {cls : Value} {d : Option Addr}
/-- an object that is there, and was not at an earlier state of ours, is tracked from now on -/
theorem inv_track (I : Inv X pins σ H s) (J : Inv X pins σ' H' sI) (hI : sI.heap.get? a = none) (e : s.heap.get? a = some oe) (n : H a = none) (z : Zc cls d oe) (hd : oe.data = .fields vs) : Inv X pins σ (upd H a (ExV a cls d)) s := by
  have apart : ∀ {b : Addr} {o : Obj}, sI.heap.get? b = some o → b ≠ a := fun q w => by rw [w, hI] at q; cases q
  have tk : ∀ {b : Addr} {u : HO}, H b = some u → upd H a (ExV a cls d) b = some u := fun q => by rw [upd_ne (fun w => by rw [w, n] at q; cases q)]; exact q
  refine ⟨I.ok, I.os, I.bare, ⟨I.base.keep, I.base.slot, fun b o q n0 hx => ?_, I.base.there, fun b xs q => tk (I.base.tups b xs q), fun b o u q => tk (I.base.frzs b o u q), fun b ps q => ?_⟩, I.loc, I.cell, ?_, fun x c q => ?_, fun p hp => ?_, fun b u q => ?_, I.len⟩
  · obtain ⟨o', q'⟩ := J.base.there b o q hx
    rw [upd_ne (apart q')]
    exact I.base.free b o q n0 hx
  · obtain ⟨m, q'⟩ := I.base.tbls b ps q
    exact ⟨m, tk q'⟩
  · obtain ⟨m, ⟨o, _, _, q, _⟩, _⟩ := J.loc
    rw [upd_ne (apart q)]
    exact I.free
  · obtain ⟨v, o, q', _⟩ := J.cell x c q
    rw [upd_ne (apart q')]
    exact I.freeC x c q
  · obtain ⟨p1, p2, p3, p4, p5⟩ := I.pin p hp
    obtain ⟨q1, _⟩ := J.pin p hp
    exact ⟨p1, by rw [upd_ne (apart q1)]; exact p2, p3, p4, p5⟩
  · by_cases hb : b = a
    · subst hb
      rw [upd_same] at q
      cases q
      exact exV_ok e z hd
    · rw [upd_ne hb] at q
      exact (I.hok b u q).stay (fun _ _ _ r => r) (fun c r => tk r) fun c xs r => tk r
end
/-- what is wished of an exception of the body: slot j holds it, slot i is empty -/
def wKeep (K : PySem.W.Frag) (c : Value) (i j : Nat) (Wout : WX) (D : Ends) : WX := fun cls d σ H =>
  ∃ b, PySem.W.exmOne K cls c = some b ∧ (b = true → ∀ a, H a = none → D.nx (((σ.set i (some (.ref a))).set j (some (.ref a))).set i none) (upd H a (ExV a cls d))) ∧ (b = false → Wout cls d σ H)
section
variable {X : Cx} {x n y : Str} {c : Value} {i j k : Nat} {body : List Stmt} {np pos pos' p1 p2 p3 : Pos} {tb : WX → TS} {Wout : WX}
theorem ps_try_keep (hs : X.stack = X.env :: X.outer) (hf : X.env.frame = some X.env.locals) (hN : X.N.Nodup) (hi : X.N[i]? = some n) (hj : X.N[j]? = some y) (hij : i ≠ j) (hln : X.env.kindOf n = some .local) (hly : X.env.kindOf y = some .local) (hnd : (n == ("__debug__" : Str)) = false ∧ (n == ("__classdict__" : Str)) = false) (hc : Names X x c) (tk : Takes X Wout)
    (hb : ∀ (W : WX) (pn : List (Addr × Obj)) (xe : Value → Shared → Prop), Takes (X.tr pn xe) W → PassesOwn (model X.prog X.w) X.A X.env xe → PSs (X.tr pn xe) body (tb W)) :
    PS X (.Try body [.ExceptHandler (some (.Name x np)) (some n) [.Assign [.Name y p1] (.Name n p2) p3] pos'] [] [] pos) (fun D σ H => tb (wKeep X.K c i j Wout D) D σ H) := by
  refine ⟨fun pins s σ H D I h => ?_⟩
  have ok := I.ok
  have hfr : X.A.frames = some (X.env :: X.outer) := ok.frames.trans (congrArg some hs)
  refine wpAny_Try_except (wpAny_mono ((hb (wKeep X.K c i j Wout D) (X.pn ++ pins) (fun e s₁ => wpAny (model X.prog X.w) X.A (noteFrame e X.env) (fun _ s₂ => wpAny (model X.prog X.w) X.A (setFlight e none) (fun _ s₃ =>
    wpAny (model X.prog X.w) X.A (handleBy e X.env [.ExceptHandler (some (.Name x np)) (some n) [.Assign [.Name y p1] (.Name n p2) p3] pos']) (SP X pins D) X.xe s₃) X.xe s₂) X.xe s₁) (fun u s' xx => ?_) PassesOwn.looking).run [] s σ H D (I.toTry _) h) (fun f s1 hsp => ?_) (fun e s1 he => he))
  · obtain ⟨a, B, sI, pins', σ', H', cls, d, rfl, J', nb, up, sky, na, os, ag, b, hb1, hyes, hno⟩ := xx
    have J : Inv X pins σ' H' sI := J'.ofTry ok
    have skyE : Sky B (X.env :: X.outer) a (Zc cls d) X.env.locals s'.heap := by rw [← hs]; exact sky
    show wpAny (model X.prog X.w) X.A (noteFrame (.ref a) X.env) _ _ _
    refine Sky.land Zc.steady hfr hf skyE fun h3 fl3 up3 => ?_
    have J3 : Inv X pins σ' H' { s' with heap := h3 } := J.landed nb fl3.1 (up.trans up3) os ag
    obtain ⟨o3, v3, g3, z3, d3⟩ := fl3.there
    have nfr : a ∉ frs (X.env :: X.outer) := fun hm => by
      obtain ⟨_, o', e', hnf⟩ := fl3.2.2.1.mem hm
      rw [g3] at e'
      cases e'
      exact hnf _ d3
    have nL : a ≠ X.env.locals := fun z => nfr (List.mem_filterMap.mpr ⟨X.env, List.mem_cons_self, hf.trans (congrArg some z.symm)⟩)
    have nF : a ∉ X.fs := fun hm => by
      obtain ⟨e, he, q⟩ := List.mem_filterMap.mp hm
      exact nfr (List.mem_filterMap.mpr ⟨e, List.mem_cons_of_mem _ he, q⟩)
    have hBa : B.get? a = none := fl3.2.1
    have hIa : sI.heap.get? a = none := by
      cases q : sI.heap.get? a with
      | none => rfl
      | some o =>
        have := nb a o q (by rw [hs]; exact nfr)
        rw [hBa] at this
        cases this
    have S3 := J3.suite g3 d3 na nL nF
    refine wpAny_handleBy_cons (codeAny_handlers_test ?_) (fun q => nomatch q)
    have LM := PySem.W.exm_one (M := model X.prog X.w) (J3.kIn) (show PySem.W.Looks (model X.prog X.w) h3 (typeOf (.ref a)) cls from fun A Q E s k q => wpAny_typeOf_ref (k _ _ g3) (by rw [z3.1]; exact q)) hb1
    have test : ∀ {Q : Value → Shared → Prop} {E : Value → Shared → Prop}, Q c { s' with heap := h3 } → wpAny (model X.prog X.w) (X.A.mark (some (.ref a))) (eval (.Name x np) X.env) Q E { s' with heap := h3 } := fun {Q E} q => by
      obtain ⟨hg, hdbg, hm | ⟨hm, hv, hnn⟩⟩ := hc
      · exact ld_glob (X := X.suite a ((a, o3) :: (X.pn ++ pins))) S3 hg hm q hdbg
      · exact ld_blt (X := X.suite a ((a, o3) :: (X.pn ++ pins))) S3 hg hm hv q hnn hdbg
    refine test (LM.here ?_)
    cases b with
    | true =>
      refine codeAny_handlers_suite_as (HandSPX.lands_againZ fl3 fun h4 fl4 up4 => ?_)
      have J4 : Inv X pins σ' H' { s' with heap := h4 } := J.landed nb fl4.1 ((up.trans up3).trans up4) os ag
      obtain ⟨o4, v4, g4, z4, d4⟩ := fl4.there
      refine store_ok (X := X.suite a ((a, o4) :: (X.pn ++ pins))) (v := .ref a) (J4.suite g4 d4 na nL nF) hN hi (.inl hln) rfl (fun s5 S5 => ?_) (.inr hln)
      have asg : PS (X.suite a ((a, o4) :: (X.pn ++ pins))) (.Assign [.Name y p1] (.Name n p2) p3) _ := ps_set (i := j) hN hj (.inl hly) (pe_var (i := i) hi (.inl hln) hnd.1 hnd.2) rfl (.inr hly)
      let D' : Ends := { nx := fun σ6 H6 => σ6 = (σ'.set i (some (.ref a))).set j (some (.ref a)) ∧ H6 = H', rt := fun _ _ => False }
      have hlt : i < σ'.length := by
        have e1 := J4.len
        have e2 := (List.getElem?_eq_some_iff.mp hi).1
        omega
      refine wpAny_mono ((pss_one asg).run [] s5 _ H' D' S5 ⟨.ref a, List.getElem?_set_self hlt, rfl, rfl⟩) (fun f s6 hsp => ?_) (fun _ _ z => False.elim z)
      cases f with
      | next =>
        obtain ⟨σ6, H6, S6, e1, e2⟩ := hsp
        subst e1
        subst e2
        obtain ⟨g6, n6, _⟩ := S6.pin (a, o4) (List.mem_append_left _ List.mem_cons_self)
        have I6 := inv_track (S6.unsuite ok) J hIa g6 n6 z4 d4
        exact gone_ok I6 hN hi hln fun s7 J7 => ⟨_, _, J7, hyes rfl a na⟩
      | brk => obtain ⟨σ6, H6, S6, q6⟩ := hsp; exact q6.elim
      | cont => obtain ⟨σ6, H6, S6, q6⟩ := hsp; exact q6.elim
      | ret u => obtain ⟨v6, σ6, H6, S6, r6, q6⟩ := hsp; exact q6.elim
    | false =>
      show wpAny _ X.A (handleBy (.ref a) X.env []) _ _ _
      refine wpAny_handleBy_nil ?_
      obtain ⟨w1, w2, w3, oe, vs, T, oT, ts', he, hz, hd, h1, hr⟩ := id fl3
      unfold PySem.passOn
      refine wpAny_bind (wpAny_field he hd h1 ?_)
      rw [if_neg (show ¬ ((Value.ref T == Value.none) = true) from fun z => by simp at z)]
      have fin : wpAny (model X.prog X.w) X.A (setFlight (.ref a) X.env.frame) (fun _ s4 => wpAny (model X.prog X.w) X.A (throw (.ref a) : Sem Flow) (SP X pins D) X.xe s4) X.xe { s' with heap := h3 } := by
        rw [hf]
        exact HandSPX.setFlight_upZ fl3 fun h4 hh4 up4 => wpAny_throw (tk _ _ ⟨a, B, sI, pins, σ', H', cls, d, rfl, J, nb, (up.trans up3).trans up4, .inr (.inr (by rw [hs]; exact hh4)), na, os, ag, hno rfl⟩)
      first
        | exact wpAny_bind (wpAny_pure (wpAny_bind fin))
        | exact wpAny_bind fin
  · cases f with
    | next => obtain ⟨σ1, H1, I1, q1⟩ := hsp; exact wpAny_execs_nil ⟨σ1, H1, I1.ofTry ok, q1⟩
    | brk => obtain ⟨σ1, H1, I1, q1⟩ := hsp; exact ⟨σ1, H1, I1.ofTry ok, q1⟩
    | cont => obtain ⟨σ1, H1, I1, q1⟩ := hsp; exact ⟨σ1, H1, I1.ofTry ok, q1⟩
    | ret u => obtain ⟨v1, σ1, H1, I1, r1, q1⟩ := hsp; exact ⟨v1, σ1, H1, I1.ofTry ok, r1, q1⟩
end
/-! the statement in the Q layer -/
def Exn.dat (e : Exn) : PyData := match e.fld with
  | none => .dict [(.none, .str e.cls)]
  | some (f, x) => .dict [(.none, .str e.cls), (.str f, x)]
def mTryAs (i j : Nat) (yes no : List Str) (m : SM) : SM := fun ρ st => match m ρ st with
  | .exc e ρ1 st1 => if yes.contains e.cls = true then .ok .nx ((ρ1.set j (some (.d e.dat))).set i none) st1 else if no.contains e.cls = true then .exc e ρ1 st1 else .fail
  | r => r
theorem ExR.dat {K : PySem.W.Frag} {mg : Str → Option Value} {c c2 : Cfg} {H : Hp} {e : Exn} {cls : Value} {d : Option Addr} {a : Addr} (h : ExR K mg c H e cls d) (m : ∀ a o, c.G a = some o → c2.G a = some o) (ha : c2.G a = some (ExV a cls d)) : DQ K c2.G (.ref a) e.dat := by
  obtain ⟨_, h2, h3, h4⟩ := h
  obtain ⟨cl, fld⟩ := e
  cases fld with
  | none =>
    have h4' : d = none := h4
    subst h4' h2
    exact .exc h3 ha
  | some p =>
    obtain ⟨f, x⟩ := p
    obtain ⟨dx, v, e1, e2, e3⟩ := (show ∃ dx v, d = some dx ∧ c.G dx = some (.xd [(f, v)]) ∧ DQ K c.G v x from h4)
    subst e1 h2
    exact .excF h3 ha (m _ _ e2) (dq_mono m e3)
theorem EnvR.drop {K : PySem.W.Frag} {c : Cfg} {σ : St} {ρ : Env} (h : EnvR K c σ ρ) (i : Nat) : EnvR K c (σ.set i none) (ρ.set i none) := h.wipe [i]
section
variable {X : Cx} {W : WX} {x n y : Str} {i j k : Nat} {body : List Stmt} {np pos pos' p1 p2 p3 : Pos} {m : SM} {yes no : List Str}
theorem ss_tryAs (hs : X.stack = X.env :: X.outer) (hf : X.env.frame = some X.env.locals) (hN : X.N.Nodup) (hi : X.N[i]? = some n) (hj : X.N[j]? = some y) (hij : i ≠ j) (hln : X.env.kindOf n = some .local) (hly : X.env.kindOf y = some .local) (hnd : (n == ("__debug__" : Str)) = false ∧ (n == ("__classdict__" : Str)) = false)
    (hc : Names X x (.ref (He.ga X.K x))) (tk : Takes X W) (hyes : ∀ z, yes.contains z = true → PySem.W.exmOne X.K (.ref (He.ga X.K z)) (.ref (He.ga X.K x)) = some true) (hno : ∀ z, no.contains z = true → PySem.W.exmOne X.K (.ref (He.ga X.K z)) (.ref (He.ga X.K x)) = some false)
    (hb : ∀ (W' : WX) (pn : List (Addr × Obj)) (xe : Value → Shared → Prop), Takes (X.tr pn xe) W' → PassesOwn (model X.prog X.w) X.A X.env xe → PSs (X.tr pn xe) body (tS (X.tr pn xe) W' m)) :
    PS X (.Try body [.ExceptHandler (some (.Name x np)) (some n) [.Assign [.Name y p1] (.Name n p2) p3] pos'] [] [] pos) (tS X W (mTryAs i j yes no m)) :=
  (ps_try_keep hs hf hN hi hj hij hln hly hnd hc tk (tb := fun W' => tS X W' m) hb).imp fun D σ H ⟨c, st, ρ, en, rel, o⟩ => by
    refine ⟨c, st, ρ, en, rel, ?_⟩
    unfold mTryAs at o
    cases e : m ρ st with
    | fail => rw [e] at o; exact o
    | ok f ρ1 st1 => rw [e] at o; exact o
    | exc x1 ρ1 st1 =>
      rw [e] at o
      intro σ' cls d c' H' g r en' xr
      dsimp only at o
      split at o
      · rename_i hz
        refine ⟨true, by rw [xr.2.1]; exact hyes _ hz, fun _ a ha => ?_, fun q => nomatch q⟩
        obtain ⟨g2, r2⟩ := r.frozen (o := ExV a cls d) ha
        have dq : DQ X.K (upd c'.G a (ExV a cls d)) (.ref a) x1.dat := xr.dat (c2 := ⟨upd c'.G a (ExV a cls d), c'.φ⟩) g2.mono upd_same
        have q := EnvR.drop (((en'.go g2).set (x := .d x1.dat) (v := .ref a) dq i).set (x := .d x1.dat) (v := .ref a) dq j) i
        have eq : ((ρ1.set i (some (.d x1.dat))).set j (some (.d x1.dat))).set i none = (ρ1.set j (some (.d x1.dat))).set i none := by
          rw [List.set_comm _ _ hij, List.set_set]
        rw [eq] at q
        exact o _ _ _ (g.trans g2) r2 q
      · split at o
        · rename_i hz
          exact ⟨false, by rw [xr.2.1]; exact hno _ hz, (fun q => nomatch q), fun _ => o σ' cls d c' H' g r en' xr⟩
        · exact o.elim
end
end L2.Q

set_option maxHeartbeats 4000000
/-! Q layer: isinstance of a class of the text; fields of exceptions and instances. -/
namespace L2.Q
open PySem PySem.Spec PyProof.Rows
def pick (yes no : List Str) (C : Str) : Option Bool := if yes.contains C = true then some true else if no.contains C = true then some false else none
def isxD (yes no : List Str) : PyData → Option Bool
  | .dict ((.none, .str C) :: _) => pick yes no C
  | .dict ((.none, .tuple [.str C]) :: _) => pick yes no C
  | .dict ((.none, _) :: _) => none
  | _ => some false
def mIsx (yes no : List Str) (m : EM) : EM := fun ρ st => (m ρ st).bind fun x st1 => match deref x st1 with
  | some d => ofO ((isxD yes no d).map .bool) st1
  | none => .fail
def tyNames : List String := ["NoneType", "bool", "int", "str", "list", "tuple", "dict"]
/-- what K tells of a class by which isinstance is asked -/
structure IsxK (K : PySem.W.Frag) (cv : Value) (yes no : List Str) : Prop where
  y : ∀ C, yes.contains C = true → PySem.W.kitOne K (.ref (He.ga K C)) cv = some true
  n : ∀ C, no.contains C = true → PySem.W.kitOne K (.ref (He.ga K C)) cv = some false
  b : ∀ t ∈ tyNames, PySem.W.kitOne K (.type t) cv = some false
theorem ty_mem : ∀ d : PyData, tyD d ∈ tyNames
  | .none => by simp [tyD, tyNames]
  | .bool _ => by simp [tyD, tyNames]
  | .int _ => by simp [tyD, tyNames]
  | .str _ => by simp [tyD, tyNames]
  | .list _ => by simp [tyD, tyNames]
  | .tuple _ => by simp [tyD, tyNames]
  | .dict _ => by simp [tyD, tyNames]
theorem pick_ok {K : PySem.W.Frag} {cv : Value} {yes no : List Str} (k : IsxK K cv yes no) {C : Str} {b : Bool} (h : pick yes no C = some b) : PySem.W.kitOne K (.ref (He.ga K C)) cv = some b := by
  unfold pick at h
  split at h
  · cases h; exact k.y C (by assumption)
  · split at h
    · cases h; exact k.n C (by assumption)
    · cases h
theorem dct_noobj {K : PySem.W.Frag} {G : Hp} : ∀ {kvs : List (Key × V)} {ps : List (PyData × PyData)}, DQAll K G (kvs.map fun q => kV q.1) (ps.map (·.1)) → isObj (.dict ps) = false
  | [], [], _ => rfl
  | [], _ :: _, h => by cases h
  | _ :: _, [], h => by cases h
  | (k, y) :: qs, (a, b) :: r, h => by
    cases h with
    | cons x t => cases k <;> cases x <;> rfl
section
variable {X : Cx} {W : WX}
theorem se_isx {yes no : List Str} {x : Str} {p pos : Pos} {e e2 : Expr} {cV : V} {cv : Value} {m : EM} (hx : x = "isinstance") (hg : Gl X x) (hm : X.mg x = none) (k : IsxK X.K cv yes no) (he2' : PE X e2 (tC cV)) (hcv : ∀ u, RelV cV u → u = cv) (hk : ClsV cV cv) (ha : PE X e (tM X W m))
    (he : starEach [e, e2] X.env = (false, eval e X.env) :: starEach [e2] X.env) (he2 : starEach [e2] X.env = (false, eval e2 X.env) :: starEach [] X.env) (hpl : (backTo pos (starEach [e2] X.env)).any (·.1) = false) :
    PE X (.Call (.Name x p) [e, e2] [] pos) (tM X W (mIsx yes no m)) := by
  subst hx
  refine (pe_callB call_isB hg hm boot_isinstance (pa_cons ha (pa_cons he2' pa_nil he2) he) (by decide) (by decide) he hpl).imp fun σ H Q ⟨c, st, ρ, en, rel, o⟩ => ?_
  refine ⟨c, st, ρ, en, rel, (Out.bind o).mono fun a st1 c1 H1 g1 r1 o1 x hx => ?_⟩
  try dsimp only at o1
  cases q1 : deref a st1 with
  | none => simp only [q1] at o1; exact o1.elim
  | some d =>
    simp only [q1] at o1
    have hd := (deref_dv r1 hx q1).dp r1
    cases q2 : isxD yes no d with
    | none => simp only [q2, Option.map_none, ofO] at o1; exact o1.elim
    | some b =>
      simp only [q2, Option.map_some, ofO] at o1
      have o2 := o1 c1 H1 Go.refl r1 _ (.bl b)
      cases ho : isObj d with
      | false =>
        have eb : b = false := by
          unfold isxD at q2
          split at q2
          · cases ho
          · cases ho
          · cases ho
          · cases q2; rfl
        subst eb
        exact .inl ⟨x, cV, _, _, _, rfl, hk, ty_of hd ho, k.b _ (ty_mem d), o2⟩
      | true =>
        cases hd with
        | exc kx e => exact .inr ⟨_, _, cV, cv, b, rfl, hcv, .exc (exK_of kx) e, pick_ok k q2, o2⟩
        | excF kx e e2 _ => exact .inr ⟨_, _, cV, cv, b, rfl, hcv, .excF (exK_of kx) e e2, pick_ok k q2, o2⟩
        | ins kx e _ _ => exact .inr ⟨_, _, cV, cv, b, rfl, hcv, .ins (insK_of kx) e, pick_ok k q2, o2⟩
        | dct r r1 r2 =>
          rw [dct_noobj r1] at ho
          cases ho
        | _ => cases ho
/-- e.f -/
def fldL (f : Str) : List (PyData × PyData) → Option PyData
  | [] => none
  | (.str g, v) :: r => if f = g then some v else fldL f r
  | _ :: _ => none
def fldD (cls : List Str) (f : Str) : PyData → Option PyData
  | .dict ((.none, .str C) :: ps) => if cls.contains C = true then fldL f ps else none
  | .dict ((.none, .tuple [.str C]) :: ps) => if cls.contains C = true then fldL f ps else none
  | _ => none
def mFld (cls : List Str) (f : Str) (m : EM) : EM := fun ρ st => (m ρ st).bind fun x st1 => match x with
  | .d d => ofO (fldD cls f d) st1
  | .ref _ => .fail
theorem fld_look {K : PySem.W.Frag} {G : Hp} {f : Str} : ∀ {fs : List (Str × V)} {ps : List (PyData × PyData)} {r : PyData}, ps.map (·.1) = fs.map (fun q => PyData.str q.1) → DQAll K G (fs.map (·.2)) (ps.map (·.2)) → fldL f ps = some r → ∃ v, fs.lookup f = some v ∧ DQ K G v r
  | [], [], _, _, _, h => by cases h
  | [], _ :: _, _, e, _, _ => by cases e
  | _ :: _, [], _, e, _, _ => by cases e
  | (g, v) :: fs, (k, y) :: ps, r, e, q, h => by
    simp only [List.map_cons, List.cons.injEq] at e
    obtain ⟨e1, e2⟩ := e
    subst e1
    cases q with
    | cons q1 q2 =>
      unfold fldL at h
      rw [List.lookup_cons]
      split at h
      · rename_i hf
        cases h
        rw [beq_iff_eq.mpr hf]
        exact ⟨v, rfl, q1⟩
      · rename_i hf
        rw [beq_eq_false_iff_ne.mpr hf]
        exact fld_look e2 q2 h
theorem fld_obj {cls : List Str} {f : Str} {d r : PyData} (h : fldD cls f d = some r) : isObj d = true := by
  unfold fldD at h
  split at h
  · rfl
  · rfl
  · cases h
theorem se_fld {cls : List Str} {f : Str} {e : Expr} {m : EM} {pos : Pos} (hn : ∀ C, cls.contains C = true → PySem.W.findIn X.K (.ref (He.ga X.K C)) f = some none) (he : PE X e (tM X W m)) (hb : attributeBase e f X.env (eval e X.env) = eval e X.env) :
    PE X (.Attribute e f pos) (tM X W (mFld cls f m)) := by
  refine ⟨fun pins s σ H Q I ⟨c, st, ρ, en, rel, o⟩ => ?_⟩
  refine attr_of hb (thn (he.run pins s σ H (fun x H1 => ∃ (c1 : Cfg) (st1 : Sto) (d r : PyData), Rel X.K c1 H1 st1 ∧ DQ X.K c1.G x d ∧ fldD cls f d = some r ∧ ∀ z c' H', Go c1 H1 c' H' → Rel X.K c' H' st1 → DQ X.K c'.G z r → Q z H') I
    ⟨c, st, ρ, en, rel, (Out.bind o).mono fun a st1 c1 H1 g1 r1 o1 x hx => ?_⟩) fun u s1 ⟨x, H1, I1, rx, c1, st1, d, r, rel1, hx, hf, q⟩ => ?_)
  · try dsimp only at o1
    cases a with
    | ref n => exact o1.elim
    | d d =>
      try dsimp only at o1
      cases q3 : fldD cls f d with
      | none => simp only [q3, ofO] at o1; exact o1.elim
      | some r =>
        simp only [q3, ofO] at o1
        exact ⟨c1, st1, d, r, r1, hx, q3, fun z c' H' g' r' hz => o1 c' H' g' r' z hz⟩
  · cases hx with
    | @exc a C k ea =>
      have h0 : fldD cls f (.dict [(.none, .str C)]) = none := by
        show (if cls.contains C = true then fldL f [] else none) = none
        split <;> rfl
      rw [h0] at hf
      cases hf
    | @excF a dx C g v y k ea ed qy =>
      have hC : cls.contains C = true ∧ fldL f [(.str g, y)] = some r := by
        unfold fldD at hf
        dsimp only at hf
        split at hf
        · exact ⟨by assumption, hf⟩
        · cases hf
      obtain ⟨hc, hl⟩ := hC
      have kx := exK_of k
      cases rx
      obtain ⟨⟨oe, vs, hget, hz, hv⟩, _⟩ := (show ObjOk X.prog X.w H1 s1.heap a (ExV a (.ref (He.ga X.K C)) (some dx)) from I1.hok a _ (rel1.sub _ _ ea))
      obtain ⟨mA, hns, hr⟩ := (show ObjOk X.prog X.w H1 s1.heap dx (.xd [(g, v)]) from I1.hok dx _ (rel1.sub _ _ ed))
      obtain ⟨od, ho, hlo⟩ := lookIn_ns hns
      obtain ⟨v', hv', dv⟩ := fld_look (K := X.K) (G := c1.G) (fs := [(g, v)]) (ps := [(.str g, y)]) rfl (.cons qy .nil) hl
      obtain ⟨u', hu, ru⟩ := RelO.some_of (v := v') (o := mA f) (by rw [← hv']; exact hr f)
      have J : PySem.W.InstAt s1.heap a oe (He.ga X.K C) (some od) := ⟨hget, hz.1, by unfold PySem.W.notCls; rw [hv] <;> rfl, by rw [hz.2]; exact ho⟩
      exact HandSPX.exc_get I1.kIn J kx.hg kx.hk kx.hs (PySem.W.findObj_own kx.kin.hd (hn C hc) rfl (by rw [hlo, hu])) (handed_of ru) ⟨v', H1, I1.tok _, ru, q v' c1 H1 Go.refl rel1 dv⟩
    | @ins a dx C fs ps k ea e1 qy =>
      have hC : cls.contains C = true ∧ fldL f ps = some r := by
        unfold fldD at hf
        dsimp only at hf
        split at hf
        · exact ⟨by assumption, hf⟩
        · cases hf
      obtain ⟨hc, hl⟩ := hC
      cases rx
      obtain ⟨v', hv', dv⟩ := fld_look e1 qy hl
      exact getattr_ok I1 (rel1.sub _ _ ea) (insK_of k).cls (hn C hc) hv' fun u' s2 I2 ru => ⟨v', H1, I2, ru, q v' c1 H1 Go.refl rel1 dv⟩
    | dct r0 r1 r2 =>
      have ho := fld_obj hf
      rw [dct_noobj r1] at ho
      cases ho
    | _ => cases hf
end
end L2.Q

set_option maxHeartbeats 1000000
/-! Q layer, part K: expressions as data, what they tell, how they are looked at. -/
namespace L2.Q
open PySem PySem.Spec PyProof.Rows

/-! ### more rules: chains, minus, tests -/
def mChain (f g : PyData → PyData → Option PyData) (ma mb mc : EM) : EM := fun ρ st => (ma ρ st).bind fun x st1 => (mb ρ st1).bind fun y st2 => match deref x st2, deref y st2 with
  | some d, some e => (match f d e with
    | some (.bool true) => (mc ρ st2).bind fun z st3 => match deref y st3, deref z st3 with
      | some e', some u => ofO (g e' u) st3
      | _, _ => .fail
    | some (.bool false) => .ok (.d (.bool false)) st2
    | _ => .fail)
  | _, _ => .fail
def mNeg (ma : EM) : EM := fun ρ st => (ma ρ st).bind fun x st1 => match x with
  | .d (.int i) => .ok (.d (.int (-i))) st1
  | _ => .fail
/-- xs[::-1] -/
def opRev : PyData → Option PyData
  | .list xs => some (.list xs.reverse)
  | .tuple xs => some (.tuple xs.reverse)
  | _ => none
def mRev (ma : EM) : EM := fun ρ st => (ma ρ st).bind fun x st1 => match deref x st1 with
  | some d => ofO (opRev d) st1
  | none => .fail
section
variable {X : Cx} {W : WX}
theorem se_rev {e : Expr} {m : EM} {k : Nat} {p1 p2 p3 pos : Pos} (he : PE X e (tM X W m)) : PE X (.Subscript e (.Slice none none (some (.UnaryOp .USub (.Constant (.int 1) k p1) p2)) p3) pos) (tM X W (mRev m)) :=
  (pe_rev he).imp fun σ H Q ⟨c, st, ρ, en, rel, o⟩ => by
    refine ⟨c, st, ρ, en, rel, (Out.bind o).mono fun a st1 c1 H1 g1 r1 o1 x hx => ?_⟩
    try dsimp only at o1
    cases q : deref a st1 with
    | none => simp only [q] at o1; exact o1.elim
    | some d =>
      simp only [q] at o1
      have h := deref_dv r1 hx q
      cases d with
      | list xs =>
        obtain ⟨p, vs, rfl, h1, z, h2⟩ := h.list
        refine ⟨p, vs, rfl, by rw [h2.length']; exact z, .inl ⟨h1.sq, ?_⟩⟩
        exact new_lst r1 (by rw [List.length_reverse]; exact z) h2.reverse fun z c' H' g r hz => o1 c' H' g r z hz
      | tuple xs =>
        obtain ⟨p, vs, rfl, h1, h1', z, h2⟩ := h.tup r1
        refine ⟨p, vs, rfl, by rw [h2.length']; exact z, .inr ⟨h1, ?_⟩⟩
        exact new_tup r1 (by rw [List.length_reverse]; exact z) h2.reverse fun z c' H' g r hz => o1 c' H' g r z hz
      | _ => exact o1.elim
theorem tM_chain {f g : PyData → PyData → Option PyData} {ma mb mc : EM} {σ : St} {H : Hp} {Q : VK} (h : tM X W (mChain f g ma mb mc) σ H Q) : tChain (rD X.K f) (rD X.K g) (tM X W ma) (tM X W mb) (tM X W mc) σ H Q := by
  obtain ⟨c, st, ρ, en, rel, o⟩ := h
  refine ⟨c, st, ρ, en, rel, (Out.bind o).mono fun a st1 c1 H1 g1 r1 o1 x hx => ?_⟩
  refine ⟨c1, st1, ρ, en.go g1, r1, (Out.bind o1).mono fun b st2 c2 H2 g2 r2 o2 y hy => ?_⟩
  have hx2 := hx.go g2
  try dsimp only at o2
  cases q1 : deref a st2 with
  | none => simp only [q1] at o2; exact o2.elim
  | some d =>
    cases q2 : deref b st2 with
    | none => simp only [q1, q2] at o2; exact o2.elim
    | some e =>
      simp only [q1, q2] at o2
      cases q3 : f d e with
      | none => simp only [q3] at o2; exact o2.elim
      | some r =>
        cases r with
        | bool k =>
          cases k with
          | false =>
            simp only [q3] at o2
            exact ⟨c2, st2, d, e, _, r2, deref_dv r2 hx2 q1, deref_dv r2 hy q2, q3, fun z c' H' g' r' hz => by
              obtain rfl := dp_bool hz
              exact ⟨false, rfl, iteF (o2 c' H' g' r' _ (.bl false))⟩⟩
          | true =>
            simp only [q3] at o2
            refine ⟨c2, st2, d, e, _, r2, deref_dv r2 hx2 q1, deref_dv r2 hy q2, q3, fun z c' H' g' r' hz => ?_⟩
            obtain rfl := dp_bool hz
            refine ⟨true, rfl, iteT ⟨c', st2, ρ, (en.go (g1.trans g2)).go g', r', (Out.bind (Out.later g' o2)).mono fun b2 st3 c3 H3 g3 r3 o3 w hw => ?_⟩⟩
            have hy3 := (hy.go g').go g3
            try dsimp only at o3
            cases q4 : deref b st3 with
            | none => simp only [q4] at o3; exact o3.elim
            | some e' =>
              cases q5 : deref b2 st3 with
              | none => simp only [q4, q5] at o3; exact o3.elim
              | some u =>
                simp only [q4, q5] at o3
                cases q6 : g e' u with
                | none => simp only [q6, ofO] at o3; exact o3.elim
                | some r' =>
                  simp only [q6, ofO] at o3
                  exact ⟨c3, st3, e', u, r', r3, deref_dv r3 hy3 q4, deref_dv r3 hw q5, q6, fun z c' H' g' r' hz => o3 c' H' g' r' z hz⟩
        | _ => simp only [q3] at o2; exact o2.elim
theorem tT_test {m : EM} {t : TE} (k : ∀ σ H Q, tM X W m σ H Q → t σ H Q) {σ : St} {H : Hp} {Q : Bool → Hp → Prop} (h : tT X W m σ H Q) : tTest t σ H Q := by
  refine k σ H _ ?_
  obtain ⟨c, st, ρ, en, rel, o⟩ := h
  refine ⟨c, st, ρ, en, rel, o.mono fun a st1 c1 H1 g1 r1 o1 x hx => ?_⟩
  obtain ⟨b, rfl, q⟩ := o1
  obtain rfl := dp_bool hx
  exact ⟨b, rfl, q⟩
theorem st_cmp {op : CmpOp} {f : PyData → PyData → Option PyData} {a b : Expr} {ma mb : EM} {pos : Pos} (ho : OpR X (compareOp op) (rD X.K f)) (ha : PE X a (tM X W ma)) (hb : PE X b (tM X W mb)) (h1 : behindInMarks op b = false) : PT X (.Compare a [op] [b] pos) (tT X W (mBin f ma mb)) :=
  (pt_cmpR ho ha hb h1).imp fun σ H Q h => tT_test (fun _ _ _ z => tM_bin z) h
theorem se_chain {op op' : CmpOp} {f g : PyData → PyData → Option PyData} {a b c : Expr} {ma mb mc : EM} {pos : Pos} (ho : OpR X (compareOp op) (rD X.K f)) (ho' : OpR X (compareOp op') (rD X.K g)) (ha : PE X a (tM X W ma)) (hb : PE X b (tM X W mb)) (hc : PE X c (tM X W mc))
    (h1 : lastMarks [op, op'] [b, c] = false) : PE X (.Compare a [op, op'] [b, c] pos) (tM X W (mChain f g ma mb mc)) :=
  (pe_chain ho ho' ha hb hc h1).imp fun σ H Q h => tM_chain h
theorem st_chain {op op' : CmpOp} {f g : PyData → PyData → Option PyData} {a b c : Expr} {ma mb mc : EM} {pos : Pos} (ho : OpR X (compareOp op) (rD X.K f)) (ho' : OpR X (compareOp op') (rD X.K g)) (ha : PE X a (tM X W ma)) (hb : PE X b (tM X W mb)) (hc : PE X c (tM X W mc))
    (h1 : lastMarks [op, op'] [b, c] = false) : PT X (.Compare a [op, op'] [b, c] pos) (tT X W (mChain f g ma mb mc)) :=
  (pt_chain ho ho' ha hb hc h1).imp fun σ H Q h => tT_test (fun _ _ _ z => tM_chain z) h
theorem se_neg {a : Expr} {ma : EM} {pos : Pos} (ha : PE X a (tM X W ma)) : PE X (.UnaryOp .USub a pos) (tM X W (mNeg ma)) :=
  (pe_un un_neg ha).imp fun σ H Q ⟨c, st, ρ, en, rel, o⟩ => by
    refine ⟨c, st, ρ, en, rel, (Out.bind o).mono fun a st1 c1 H1 g1 r1 o1 x hx => ?_⟩
    try dsimp only at o1
    split at o1
    · rename_i i
      obtain rfl := dp_int hx
      exact ⟨i, rfl, o1 c1 H1 Go.refl r1 _ (.int (-i))⟩
    · exact o1.elim
theorem st_if {k a b : Expr} {mc ma mb : EM} {pos : Pos} (hc : PT X k (tT X W mc)) (ha : PT X a (tT X W ma)) (hb : PT X b (tT X W mb)) : PT X (.IfExp k a b pos) (tT X W (mIf mc ma mb)) := by
  constructor
  intro pins s σ H Q I ⟨c, st, ρ, en, rel, o⟩
  show wpAny _ _ (do if ← isTrue k X.env (eval k X.env) then isTrue a X.env (eval a X.env) else isTrue b X.env (eval b X.env)) _ _ _
  refine wpAny_bind (thn (hc.run pins s σ H (fun t H1 => if t = true then tT X W ma σ H1 Q else tT X W mb σ H1 Q) I ⟨c, st, ρ, en, rel, (Out.bind o).mono fun v st1 c1 H1 g1 r1 o1 => ?_⟩) fun t s1 ⟨H1, I1, q1⟩ => ?_)
  · try dsimp only at o1
    split at o1
    · exact ⟨true, rfl, iteT ⟨c1, st1, ρ, en.go g1, r1, o1⟩⟩
    · exact ⟨false, rfl, iteF ⟨c1, st1, ρ, en.go g1, r1, o1⟩⟩
    · exact o1.elim
  · cases t with
    | true => exact ha.run pins s1 σ H1 Q I1 q1
    | false => exact hb.run pins s1 σ H1 Q I1 q1
/-- {} -/
theorem se_dct0 {pos : Pos} : PE X (.Dict [] [] pos) (tM X W fun _ st => .ok (.d (.dict [])) st) := pe_dnewK.imp fun σ H Q ⟨c, st, ρ, en, rel, o⟩ p hp => by
  obtain ⟨g, r⟩ := rel.frozen (o := .dK []) hp
  exact o _ _ g r _ (.dct (Rd.of upd_same) .nil .nil)
/-- range(a, b) -/
def mRng2 (ma mb : EM) : IM := fun ρ st => (ma ρ st).bind fun x st1 => (mb ρ st1).bind fun y st2 => match x, y with
  | .d (.int i), .d (.int j) => if i ≤ 1000000 ∧ -1000000 ≤ i ∧ j ≤ 1000000 ∧ -1000000 ≤ j then .ok (upFrom i (j - i).toNat) st2 else .fail
  | _, _ => .fail
theorem pi_rng2 {tg a b : Expr} {ma mb : EM} {x : Str} {p pos : Pos} (hx : x = "range") (hg : Gl X x) (hm : X.mg x = none) (ha : PE X a (tM X W ma)) (hb : PE X b (tM X W mb)) (hs : starEach [a, b] X.env = [(false, eval a X.env), (false, eval b X.env)]) (hs2 : starEach [b] X.env = [(false, eval b X.env)]) : PI X tg (.Call (.Name x p) [a, b] [] pos) (tI X W (mRng2 ma mb)) := by
  subst hx
  refine (pi_range2 hg hm (pa_cons ha (pa_cons hb pa_nil (by rw [hs2]; rfl)) (by rw [hs, hs2])) hs hs2).imp fun σ H R ⟨c, st, ρ, en, rel, o⟩ => ?_
  refine ⟨c, st, ρ, en, rel, (Out.bind o).mono fun a st1 c1 H1 g1 r1 o1 x hx => ?_⟩
  refine ⟨c1, st1, ρ, en.go g1, r1, (Out.bind o1).mono fun b st2 c2 H2 g2 r2 o2 y hy => ?_⟩
  try dsimp only at o2
  split at o2
  · split at o2
    · rename_i i j hn
      obtain rfl := dp_int hx
      obtain rfl := dp_int hy
      refine ⟨i, j, rfl, by omega, o2 c2 H2 Go.refl r2 _ (jok_rng i (j - i).toNat ?_)⟩
      rw [sizeLine_eq]
      omega
    · exact o2.elim
  · exact o2.elim
def okQ : Expr → Bool
  | .Starred .. => false
  | _ => true
/-- range(a, b, -1) -/
def downFrom (hi : Int) : Nat → List PyData
  | 0 => []
  | n + 1 => .int hi :: downFrom (hi - 1) n
theorem downFrom_len : ∀ (n : Nat) (hi : Int), (downFrom hi n).length = n
  | 0, _ => rfl
  | n + 1, hi => congrArg (· + 1) (downFrom_len n (hi - 1))
theorem downFrom_get : ∀ (n : Nat) (hi : Int) (i : Nat), i < n → (downFrom hi n)[i]? = some (.int (hi - i))
  | n + 1, hi, 0, _ => by simp [downFrom]
  | n + 1, hi, i + 1, h => by
    have := downFrom_get n (hi - 1) i (by omega)
    simp only [downFrom, List.getElem?_cons_succ]
    rw [this]
    congr 2
    omega
theorem jok_dn {K : PySem.W.Frag} {c : Cfg} {H : Hp} (hi : Int) (n : Nat) (hz : n ≤ sizeLine) : JOk K c H (Itc hi (-1) n) (downFrom hi n) := ⟨by rw [downFrom_len]; exact hz, fun i c' H' st' g r' => by
  refine ⟨fun x e => ?_, fun e => by rw [downFrom_len] at e; exact e⟩
  have hi2 : i < n := by
    have := (List.getElem?_eq_some_iff.mp e).1
    rw [downFrom_len] at this
    exact this
  rw [downFrom_get n hi i hi2] at e
  cases e
  refine ⟨hi2, fun w H'' y => ?_⟩
  obtain ⟨rfl, rfl⟩ := y
  refine ⟨c', Go.refl, r', ?_⟩
  have e : hi + (i : Int) * -1 = hi - i := by omega
  rw [e]
  exact .int _⟩
def mRngD (ma mb : EM) : IM := fun ρ st => (ma ρ st).bind fun x st1 => (mb ρ st1).bind fun y st2 => match x, y with
  | .d (.int i), .d (.int j) => if i ≤ 1000000 ∧ -1000000 ≤ i ∧ j ≤ 1000000 ∧ -1000000 ≤ j then .ok (downFrom i (i - j).toNat) st2 else .fail
  | _, _ => .fail
theorem pi_rngD {X : Cx} {W : WX} {tg a b : Expr} {ma mb : EM} {x : Str} {p p1 p2 pos : Pos} {k : Nat} (hx : x = "range") (hg : Gl X x) (hm : X.mg x = none) (ha : PE X a (tM X W ma)) (hb : PE X b (tM X W mb)) (hs : okQ a = true) (hs2 : okQ b = true) :
    PI X tg (.Call (.Name x p) [a, b, .UnaryOp .USub (.Constant (.int 1) k p1) p2] [] pos) (tI X W (mRngD ma mb)) := by
  subst hx
  have s1 : ∀ (es : List Expr), starEach (a :: es) X.env = (false, eval a X.env) :: starEach es X.env := fun es => by cases a <;> first | rfl | cases hs
  have s2 : ∀ (es : List Expr), starEach (b :: es) X.env = (false, eval b X.env) :: starEach es X.env := fun es => by cases b <;> first | rfl | cases hs2
  refine (pi_range3 hg hm (pa_cons ha (pa_cons hb (pa_cons (pe_un un_neg pe_int) pa_nil rfl) (s2 _)) (s1 _)) (s1 _) (by rw [s2]; rfl)).imp fun σ H R ⟨c, st, ρ, en, rel, o⟩ => ?_
  refine ⟨c, st, ρ, en, rel, (Out.bind o).mono fun a st1 c1 H1 g1 r1 o1 u hu => ?_⟩
  refine ⟨c1, st1, ρ, en.go g1, r1, (Out.bind o1).mono fun b st2 c2 H2 g2 r2 o2 w hw => ?_⟩
  try dsimp only at o2
  split at o2
  · split at o2
    · rename_i i j hn
      obtain rfl := dp_int hu
      obtain rfl := dp_int hw
      refine ⟨1, rfl, i, j, -1, (i - j).toNat, rfl, RgC.neg (by omega) (by omega) (by omega) (by omega), o2 c2 H2 Go.refl r2 _ (jok_dn i (i - j).toNat ?_)⟩
      rw [sizeLine_eq]
      omega
    · exact o2.elim
  · exact o2.elim
def zipD : List PyData → List PyData → List PyData
  | x :: xs, y :: ys => .tuple [x, y] :: zipD xs ys
  | _, _ => []
theorem zipD_len : ∀ xs ys : List PyData, (zipD xs ys).length = min xs.length ys.length
  | x :: xs, y :: ys => by
    show (zipD xs ys).length + 1 = _
    rw [zipD_len xs ys]
    simp only [List.length_cons]
    omega
  | [], ys => by simp [zipD]
  | _ :: _, [] => by simp [zipD]
theorem zipD_get : ∀ (xs ys : List PyData) (i : Nat) (d : PyData), (zipD xs ys)[i]? = some d → ∃ x y, xs[i]? = some x ∧ ys[i]? = some y ∧ d = .tuple [x, y]
  | x :: xs, y :: ys, 0, d, h => ⟨x, y, rfl, rfl, (Option.some.inj h).symm⟩
  | x :: xs, y :: ys, i + 1, d, h => zipD_get xs ys i d h
  | [], ys, i, d, h => by simp [zipD] at h
  | _ :: _, [], i, d, h => by simp [zipD] at h
def mZip (ma mb : EM) : IM := fun ρ st => (ma ρ st).bind fun x st1 => (mb ρ st1).bind fun y st2 => match x, y with
  | .d (.list xs), .d (.list ys) => .ok (zipD xs ys) st2
  | .d (.tuple xs), .d (.tuple ys) => .ok (zipD xs ys) st2
  | _, _ => .fail
section
variable {K : PySem.W.Frag} {c : Cfg} {H : Hp}
theorem jok_zipL {a b : Addr} {vs ws : List V} {xs ys : List PyData} (h : RdL K c.G a vs) (hz : xs.length ≤ sizeLine) (r : DQAll K c.G vs xs) (h' : RdL K c.G b ws) (r' : DQAll K c.G ws ys) : JOk K c H (Itz K a b) (zipD xs ys) := ⟨by rw [zipD_len]; omega, fun i c' H' st' g rel => by
  have s1 : SqL K H' a vs := ((h.mono' g).mono' rel.sub).sq
  have s2 : SqL K H' b ws := ((h'.mono' g).mono' rel.sub).sq
  refine ⟨fun d e => ?_, fun e => ⟨vs, ws, s1, s2, by rw [zipD_len] at e; rw [r.length', r'.length']; omega⟩⟩
  obtain ⟨x, y, e1, e2, rfl⟩ := zipD_get _ _ _ _ e
  obtain ⟨v, p1, p2⟩ := r.get e1
  obtain ⟨w, q1, q2⟩ := r'.get e2
  refine ⟨⟨vs, ws, v, w, s1, s2, p1, q1⟩, fun u H'' z => ?_⟩
  obtain ⟨T, v', w', rfl, hT, rfl, z1, z2⟩ := z
  have e3 := z1 vs s1
  have e4 := z2 ws s2
  rw [p1] at e3
  rw [q1] at e4
  cases e3
  cases e4
  obtain ⟨g2, r2⟩ := rel.frozen (o := .tup [v, w]) hT
  exact ⟨_, g2, r2, .tup (SqT.of upd_same) (by show 2 ≤ sizeLine; decide) (.cons (dq_mono g2.mono (dq_mono g p2)) (.cons (dq_mono g2.mono (dq_mono g q2)) .nil))⟩⟩
theorem jok_zipT {a b : Addr} {vs ws : List V} {xs ys : List PyData} (h : SqT K c.G a vs) (hz : xs.length ≤ sizeLine) (r : DQAll K c.G vs xs) (h' : SqT K c.G b ws) (r' : DQAll K c.G ws ys) : JOk K c H (RZ.ItzT K a b) (zipD xs ys) := ⟨by rw [zipD_len]; omega, fun i c' H' st' g rel => by
  have s1 : SqT K H' a vs := (h.mono' g).mono' rel.sub
  have s2 : SqT K H' b ws := (h'.mono' g).mono' rel.sub
  refine ⟨fun d e => ?_, fun e => ⟨vs, ws, s1, s2, by rw [zipD_len] at e; rw [r.length', r'.length']; omega⟩⟩
  obtain ⟨x, y, e1, e2, rfl⟩ := zipD_get _ _ _ _ e
  obtain ⟨v, p1, p2⟩ := r.get e1
  obtain ⟨w, q1, q2⟩ := r'.get e2
  refine ⟨⟨vs, ws, v, w, s1, s2, p1, q1⟩, fun u H'' z => ?_⟩
  obtain ⟨T, v', w', rfl, hT, rfl, z1, z2⟩ := z
  have e3 := z1 vs s1
  have e4 := z2 ws s2
  rw [p1] at e3
  rw [q1] at e4
  cases e3
  cases e4
  obtain ⟨g2, r2⟩ := rel.frozen (o := .tup [v, w]) hT
  exact ⟨_, g2, r2, .tup (SqT.of upd_same) (by show 2 ≤ sizeLine; decide) (.cons (dq_mono g2.mono (dq_mono g p2)) (.cons (dq_mono g2.mono (dq_mono g q2)) .nil))⟩⟩
end
theorem pi_zipQ {e e2 : Expr} {ma mb : EM} {x : Str} {p pos tpos : Pos} {elts : List Expr} {kk : Nat} (hx : x = "zip") (hg : Gl X x) (hm : X.mg x = none) (ha : PE X e (tM X W ma)) (hb : PE X e2 (tM X W mb)) (hs : starEach [e, e2] X.env = (false, eval e X.env) :: starEach [e2] X.env) (hs2 : starEach [e2] X.env = (false, eval e2 X.env) :: starEach [] X.env) (hpl : (backTo pos (starEach [e2] X.env)).any (·.1) = false) :
    PI X (.Tuple elts kk tpos) (.Call (.Name x p) [e, e2] [] pos) (tI X W (mZip ma mb)) := by
  subst hx
  refine (RZ.pi_zipA hg hm (pa_cons ha (pa_cons hb pa_nil hs2) hs) hs hpl).imp fun σ H R ⟨c, st, ρ, en, rel, o⟩ => ?_
  refine ⟨c, st, ρ, en, rel, (Out.bind o).mono fun a st1 c1 H1 g1 r1 o1 u hu => ?_⟩
  refine ⟨c1, st1, ρ, en.go g1, r1, (Out.bind o1).mono fun b st2 c2 H2 g2 r2 o2 w hw => ?_⟩
  have hu2 := hu.go g2
  try dsimp only at o2
  split at o2
  · cases hu2 with
    | lst h z r =>
      cases hw with
      | lst h' z' r' => exact ⟨_, _, _, _, rfl, .inl ⟨(h.mono' r2.sub).sq, (h'.mono' r2.sub).sq, o2 c2 H2 Go.refl r2 _ (jok_zipL h z r h' r')⟩⟩
  · cases hu2 with
    | tup h z r =>
      cases hw with
      | tup h' z' r' => exact ⟨_, _, _, _, rfl, .inr ⟨h.mono' r2.sub, h'.mono' r2.sub, o2 c2 H2 Go.refl r2 _ (jok_zipT h z r h' r')⟩⟩
  · exact o2.elim
end

/-! ### the form -/
mutual
inductive Ex where
  | var (i : Nat) | int (i : Int) | str (x : Str) | bl (b : Bool) | non | dct0
  | gint (x : Str) (i : Int) | gstr (x : Str) (z : Str)
  | rev (a : Ex)
  | bin (op : Operator) (a b : Ex) | cmp (op : CmpOp) (a b : Ex) | chain (op op2 : CmpOp) (a b c : Ex)
  | conj (es : Es) | disj (es : Es) | nt (a : Ex) | neg (a : Ex) | ife (c a b : Ex)
  | tup (es : Es) | lst (es : Es) | new (es : Es)
  | idx (a b : Ex) | sl (a : Ex) (lo hi : Eo)
  | call (n : Nat) (f : Str) (es : Es) | bf (b : BF) (es : Es) | isi (b : BT) (e : Ex)
  | frz (e : Ex) | newL (e : Ex)
  | comp (own : List Nat) (tg : Tg) (it : It) (c : Eo) (e : Ex)
  | compN (own : List Nat) (tg : Tg) (it : It) (c : Eo) (e : Ex) | catN (a b : Ex)
  | usort (fr : Bool) (e : Ex) | usortI (fr : Bool) (e : Ex)
  | uniq (fr : Bool) (own own' : List Nat) (tg : Tg) (it : It) (tg' : Tg) (it' : It) (e : Ex)
  | tabIx (x : Str) (t : Tab) (k : Ex) | tabGet (x : Str) (t : Tab) (k d : Ex) | litGet (t : Tab) (k d : Ex)
  | app (o e : Ex) | ext (o e : Ex) | pop (o : Ex)
  | bm (b : BM) (o e : Ex) | isx (x : Str) (yes no : List Str) (e : Ex) | isxB (x : Str) (yes no : List Str) (e : Ex) | fld (f : Str) (cls : List Str) (e : Ex) | dead
inductive Es where
  | nil | cons (e : Ex) (es : Es)
inductive Eo where
  | no | at_ (e : Ex)
inductive It where
  | items (e : Ex) | rng1 (e : Ex) | rng2 (a b : Ex) | enum (e : Ex) | zip (a b : Ex) | rngD (a b : Ex)
end
abbrev Cs := Str → List Vv → Sto → Res Vv
def mVar (i : Nat) : EM := fun ρ st => match ρ[i]? with
  | some (some v) => .ok v st
  | _ => .fail
def mC (d : PyData) : EM := fun _ st => .ok (.d d) st
mutual
def den (C : Cs) : Ex → EM
  | .var i => mVar i
  | .int i => mC (.int i)
  | .str x => mC (.str x)
  | .bl b => mC (.bool b)
  | .non => mC .none
  | .dct0 => mC (.dict [])
  | .gint _ i => mC (.int i)
  | .gstr _ z => mC (.str z)
  | .rev a => mRev (den C a)
  | .bin op a b => mBin (opBin op) (den C a) (den C b)
  | .cmp op a b => mBin (opCmp op) (den C a) (den C b)
  | .chain op op2 a b c => mChain (opCmp op) (opCmp op2) (den C a) (den C b) (den C c)
  | .conj es => denAnd C es
  | .disj es => denOr C es
  | .nt a => mNot (den C a)
  | .neg a => mNeg (den C a)
  | .ife c a b => mIf (den C c) (den C a) (den C b)
  | .tup es => mTup (denL C es)
  | .lst es => mLst (denL C es)
  | .new es => mNew (denL C es)
  | .idx a b => mBin opIdx (den C a) (den C b)
  | .sl a lo hi => mSl (den C a) (denO C lo) (denO C hi)
  | .call n f es => mFn n (C f) (denL C es)
  | .bf b es => mCall (fBF b) (denL C es)
  | .isi b e => mIsi b (den C e)
  | .frz e => mFrz (den C e)
  | .newL e => mNewL (den C e)
  | .comp own tg it c e => mComp (denI C it) own tg (denT C c) (den C e)
  | .compN own tg it c e => mCompF okN (denI C it) own tg (denT C c) (den C e)
  | .usort fr e => mUsort (okB fr) (den C e)
  | .usortI fr e => mUsortI (okB fr) (den C e)
  | .uniq fr own own' tg it tg' it' e => mUniq (okB fr) (denI C it) own own' tg (denI C it') tg' (den C e)
  | .catN a b => mCatN (den C a) (den C b)
  | .tabIx _ t k => mTabIx t.dat (den C k)
  | .tabGet _ t k d => mTabGet t.dat (den C k) (den C d)
  | .litGet t k d => mLitGet t (den C k) (den C d)
  | .app o e => mApp (den C o) (den C e)
  | .bm b o e => mBM b (den C o) (den C e)
  | .isx _ yes no e => mIsx yes no (den C e)
  | .isxB _ yes no e => mIsx yes no (den C e)
  | .fld f cls e => mFld cls f (den C e)
  | .dead => fun _ _ => .fail
  | .ext o e => mExt (den C o) (den C e)
  | .pop o => mPop (den C o)
def denL (C : Cs) : Es → LM
  | .nil => mNil
  | .cons e es => mCons (den C e) (denL C es)
def denAnd (C : Cs) : Es → EM
  | .nil => mC (.bool true)
  | .cons e es => match es with
    | .nil => den C e
    | .cons _ _ => mAnd (den C e) (denAnd C es)
def denOr (C : Cs) : Es → EM
  | .nil => mC (.bool false)
  | .cons e es => match es with
    | .nil => den C e
    | .cons _ _ => mOr (den C e) (denOr C es)
def denO (C : Cs) : Eo → OM
  | .no => oNo
  | .at_ e => oAt (den C e)
def denT (C : Cs) : Eo → EM
  | .no => mYes
  | .at_ e => den C e
def denI (C : Cs) : It → IM
  | .items e => mItems (den C e)
  | .rng1 e => mRng1 (den C e)
  | .rng2 a b => mRng2 (den C a) (den C b)
  | .enum e => mEnum (den C e)
  | .zip a b => mZip (den C a) (den C b)
  | .rngD a b => mRngD (den C a) (den C b)
end
end L2.Q

set_option maxHeartbeats 1000000
/-! Q layer, part L: the look at expressions, and that it is sound. -/
namespace L2.Q
open PySem PySem.Spec PyProof.Rows

structure Sg where
  fns : List (Str × Nat)
  gi : List (Str × Int)
  gs : List (Str × Str)
  tabs : List (Str × Tab)
  frees : List Str
  excs : List Str
  subs : List (Str × Str × Bool) := []
  isas : List (Str × List Str × List Str) := []
  isbs : List (Str × List Str × List Str) := []
  flds : List (Str × Str) := []
abbrev Sc := List (Str × NameKind)
def vis (sc : Sc) (x : Str) : Bool := match sc.lookup x with
  | some .local => true
  | some .cell => true
  | some .free => true
  | _ => false
def loc (sc : Sc) (x : Str) : Bool := match sc.lookup x with
  | some .local => true
  | some .cell => true
  | _ => false
def gl (sc : Sc) (x : Str) : Bool := sc.lookup x == some .globalImplicit && !(x == ("__debug__" : Str))
def okArg : Expr → Bool
  | .Starred .. => false
  | _ => true
def okIx : Expr → Bool
  | .Slice .. => false
  | _ => true
def okIt : Expr → Bool
  | .Set .. => false
  | _ => true
def okBase : Expr → Bool
  | .Call .. => false
  | _ => true
def chkTg (N : List Str) (sc : Sc) : Tg → Expr → Bool
  | .name i, .Name x _ => N[i]? == some x && loc sc x
  | .tup is, .Tuple es _ _ => go is es
  | .nest ts, .Tuple es _ _ => gp ts es
  | _, _ => false
where
  go : List Nat → List Expr → Bool
    | [], [] => true
    | i :: is, .Name x _ :: es => N[i]? == some x && loc sc x && go is es
    | _, _ => false
  gp : List Tp → List Expr → Bool
    | [], [] => true
    | .n i :: ts, .Name x _ :: es => N[i]? == some x && loc sc x && gp ts es
    | .t is :: ts, .Tuple fs _ _ :: es => go is fs && gp ts es
    | _, _ => false
def blkOk (N : List Str) (sc : Sc) (scope : Scope) (own : List Nat) : Bool :=
  scope.kind == .function && scope.names.all (fun y => scope.names.lookup y.1 == some y.2) && own.all (fun i => decide (i < N.length)) &&
  scope.names.all (fun y => y.2 != .free || sc.lookup y.1 == some .cell || sc.lookup y.1 == some .free) &&
  scope.names.all (fun y => !(y.2 == .local || y.2 == .cell) || own.any (fun i => N[i]? == some y.1) || !(N.contains y.1))
section
variable (S : Sg) (N : List Str)
mutual
def chk : Ex → Sc → Expr → Bool
  | .var i, sc, e => match e with
    | .Name x _ => N[i]? == some x && vis sc x && !(x == ("__debug__" : Str)) && !(x == ("__classdict__" : Str))
    | _ => false
  | .int i, _, e => match e with
    | .Constant (.int j) _ _ => i == j
    | _ => false
  | .str i, _, e => match e with
    | .Constant (.str j) _ _ => i == j
    | _ => false
  | .bl i, _, e => match e with
    | .Constant (.bool j) _ _ => i == j
    | _ => false
  | .non, _, e => match e with
    | .Constant .none _ _ => true
    | _ => false
  | .dct0, _, e => match e with
    | .Dict [] [] _ => true
    | _ => false
  | .gint x i, sc, e => match e with
    | .Name y _ => y == x && gl sc x && S.gi.lookup x == some i
    | _ => false
  | .gstr x i, sc, e => match e with
    | .Name y _ => y == x && gl sc x && S.gs.lookup x == some i
    | _ => false
  | .bin op a b, sc, e => match e with
    | .BinOp a' op' b' _ => op == op' && chk a sc a' && chk b sc b'
    | _ => false
  | .cmp op a b, sc, e => match e with
    | .Compare a' [op'] [b'] _ => op == op' && okIt b' && chk a sc a' && chk b sc b'
    | _ => false
  | .chain op op2 a b c, sc, e => match e with
    | .Compare a' [op', op2'] [b', c'] _ => op == op' && op2 == op2' && okIt c' && chk a sc a' && chk b sc b' && chk c sc c'
    | _ => false
  | .conj es, sc, e => match e with
    | .BoolOp .And vs _ => chkB es sc vs
    | _ => false
  | .disj es, sc, e => match e with
    | .BoolOp .Or vs _ => chkB es sc vs
    | _ => false
  | .nt a, sc, e => match e with
    | .UnaryOp .Not a' _ => chk a sc a'
    | _ => false
  | .rev a, sc, e => match e with
    | .Subscript a' (.Slice none none (some (.UnaryOp .USub (.Constant (.int i) _ _) _)) _) _ => i == 1 && chk a sc a'
    | _ => false
  | .neg a, sc, e => match e with
    | .UnaryOp .USub a' _ => chk a sc a'
    | _ => false
  | .ife c a b, sc, e => match e with
    | .IfExp c' a' b' _ => chk c sc c' && chk a sc a' && chk b sc b'
    | _ => false
  | .tup es, sc, e => match e with
    | .Tuple vs _ _ => chkL es sc vs
    | _ => false
  | .lst es, sc, e => match e with
    | .List vs _ => chkL es sc vs
    | _ => false
  | .new es, sc, e => match e with
    | .List vs _ => chkL es sc vs
    | _ => false
  | .idx a b, sc, e => match e with
    | .Subscript a' b' _ => okIx b' && chk a sc a' && chk b sc b'
    | _ => false
  | .sl a lo hi, sc, e => match e with
    | .Subscript a' (.Slice lo' hi' none _) _ => chk a sc a' && chkO lo sc lo' && chkO hi sc hi'
    | _ => false
  | .call n f es, sc, e => match e with
    | .Call (.Name x _) (a' :: as') [] _ => x == f && gl sc f && S.fns.lookup f == some n && chkL es sc (a' :: as')
    | _ => false
  | .bf b es, sc, e => match e with
    | .Call (.Name x _) (a' :: as') [] _ => x == b.name && gl sc x && S.frees.contains x && chkL es sc (a' :: as')
    | _ => false
  | .isi b a, sc, e => match e with
    | .Call (.Name x _) [a', .Name y _] [] _ => x == ("isinstance" : Str) && y == b.st && gl sc x && S.frees.contains x && gl sc y && S.frees.contains y && okArg a' && chk a sc a'
    | _ => false
  | .frz a, sc, e => chk a sc e
  | .newL a, sc, e => match e with
    | .Call (.Name x _) [a'] [] _ => x == ("list" : Str) && gl sc x && S.frees.contains x && okArg a' && chk a sc a'
    | _ => false
  | .comp own tg it c a, sc, e => match e with
    | .ListComp elt [⟨t, iter, ifs, n⟩] scope _ => n == 0 && blkOk N sc scope own && chkTg N scope.names tg t && tg.slots.all own.contains && okIt iter && chkI it sc t iter && chkC c scope.names ifs && chk a scope.names elt
    | _ => false
  | .compN own tg it c a, sc, e => match e with
    | .ListComp elt [⟨t, iter, ifs, n⟩] scope _ => n == 0 && blkOk N sc scope own && chkTg N scope.names tg t && tg.slots.all own.contains && okIt iter && chkI it sc t iter && chkC c scope.names ifs && chk a scope.names elt
    | _ => false
  | .usort fr a, sc, e => match e with
    | .Call (.Name x _) [.Call (.Name y _) [a'] [] _] [] _ => x == ("sorted" : Str) && y == ("set" : Str) && gl sc x && S.frees.contains x && gl sc y && S.frees.contains y && okArg a' && chk a sc a'
    | _ => false
  | .usortI fr a, sc, e => match e with
    | .Call (.Name x _) [.Call (.Name y _) [a'] [] _] [] _ => x == ("sorted" : Str) && y == ("set" : Str) && gl sc x && S.frees.contains x && gl sc y && S.frees.contains y && okArg a' && chk a sc a'
    | _ => false
  | .uniq fr own own' tg it tg' it' a, sc, e => match e with
    | .Call (.Name x _) [.SetComp elt [⟨t, iter, [], n⟩, ⟨t', iter', [], n'⟩] scope _] [] _ => x == ("sorted" : Str) && gl sc x && S.frees.contains x && n == 0 && n' == 0 && blkOk N sc scope own && own'.all own.contains && tg.slots.all own.contains && tg'.slots.all own'.contains &&
        chkTg N scope.names tg t && chkTg N scope.names tg' t' && okIt iter && okIt iter' && chkI it sc t iter && chkI it' scope.names t' iter' && chk a scope.names elt
    | _ => false
  | .catN a b, sc, e => match e with
    | .BinOp a' .Add b' _ => chk a sc a' && chk b sc b'
    | _ => false
  | .tabIx x t k, sc, e => match e with
    | .Subscript (.Name y _) k' _ => y == x && gl sc x && S.tabs.lookup x == some t && okIx k' && chk k sc k'
    | _ => false
  | .tabGet x t k d, sc, e => match e with
    | .Call (.Attribute (.Name y _) m apos) [k', d'] [] pos => y == x && m == ("get" : Str) && gl sc x && S.tabs.lookup x == some t && apos.endLine == pos.line && okArg k' && okArg d' && chk k sc k' && chk d sc d'
    | _ => false
  | .litGet t k d, sc, e => match e with
    | .Call (.Attribute (.Dict ks vs _) m apos) [k', d'] [] pos => m == ("get" : Str) && chkLit t ks vs && litNew t && !t.isEmpty && decide (t.length ≤ 15) && apos.endLine == pos.line && okArg k' && okArg d' && chk k sc k' && chk d sc d'
    | _ => false
  | .app o a, sc, e => match e with
    | .Call (.Attribute o' m apos) [a'] [] pos => m == ("append" : Str) && okBase o' && apos.endLine == pos.line && okArg a' && chk o sc o' && chk a sc a'
    | _ => false
  | .bm b o a, sc, e => match e with
    | .Call (.Attribute o' m apos) [a'] [] pos => m == b.nm && okBase o' && apos.endLine == pos.line && okArg a' && chk o sc o' && chk a sc a'
    | _ => false
  | .isx y yes no a, sc, e => match e with
    | .Call (.Name x _) [a', .Name z _] [] _ => x == ("isinstance" : Str) && z == y && gl sc x && S.frees.contains x && gl sc z && S.isas.contains (y, yes, no) && okArg a' && chk a sc a'
    | _ => false
  | .isxB y yes no a, sc, e => match e with
    | .Call (.Name x _) [a', .Name z _] [] _ => x == ("isinstance" : Str) && z == y && y == ("ValueError" : Str) && gl sc x && S.frees.contains x && gl sc z && S.frees.contains z && S.isbs.contains (y, yes, no) && okArg a' && chk a sc a'
    | _ => false
  | .fld f cls a, sc, e => match e with
    | .Attribute a' g _ => g == f && okBase a' && cls.all (fun c => S.flds.contains (c, f)) && chk a sc a'
    | _ => false
  | .dead, _, _ => true
  | .ext o a, sc, e => match e with
    | .Call (.Attribute o' m apos) [a'] [] pos => m == ("extend" : Str) && okBase o' && apos.endLine == pos.line && okArg a' && chk o sc o' && chk a sc a'
    | _ => false
  | .pop o, sc, e => match e with
    | .Call (.Attribute o' m apos) [] [] pos => m == ("pop" : Str) && okBase o' && apos.endLine == pos.line && chk o sc o'
    | _ => false
def chkL : Es → Sc → List Expr → Bool
  | .nil, _, vs => match vs with
    | [] => true
    | _ => false
  | .cons a as, sc, vs => match vs with
    | a' :: as' => okArg a' && chk a sc a' && chkL as sc as'
    | _ => false
def chkB : Es → Sc → List Expr → Bool
  | .nil, _, _ => false
  | .cons a as, sc, vs => match as, vs with
    | .nil, [a'] => chk a sc a'
    | .cons _ _, a' :: b' :: vs' => chk a sc a' && chkB as sc (b' :: vs')
    | _, _ => false
def chkO : Eo → Sc → Option Expr → Bool
  | .no, _, v => match v with
    | none => true
    | _ => false
  | .at_ a, sc, v => match v with
    | some a' => chk a sc a'
    | _ => false
def chkC : Eo → Sc → List Expr → Bool
  | .no, _, v => match v with
    | [] => true
    | _ => false
  | .at_ a, sc, v => match v with
    | [a'] => chk a sc a'
    | _ => false
def chkI : It → Sc → Expr → Expr → Bool
  | .items a, sc, _, e => chk a sc e
  | .rng1 a, sc, _, e => match e with
    | .Call (.Name x _) [a'] [] _ => x == ("range" : Str) && gl sc x && S.frees.contains x && okArg a' && chk a sc a'
    | _ => false
  | .rng2 a b, sc, _, e => match e with
    | .Call (.Name x _) [a', b'] [] _ => x == ("range" : Str) && gl sc x && S.frees.contains x && okArg a' && okArg b' && chk a sc a' && chk b sc b'
    | _ => false
  | .enum a, sc, t, e => match t, e with
    | .Tuple _ _ _, .Call (.Name x _) [a'] [] _ => x == ("enumerate" : Str) && gl sc x && S.frees.contains x && okArg a' && chk a sc a'
    | _, _ => false
  | .rngD a b, sc, _, e => match e with
    | .Call (.Name x _) [a', b', .UnaryOp .USub (.Constant (.int i) _ _) _] [] _ => i == 1 && x == ("range" : Str) && gl sc x && S.frees.contains x && okQ a' && okQ b' && chk a sc a' && chk b sc b'
    | _ => false
  | .zip a b, sc, t, e => match t, e with
    | .Tuple _ _ _, .Call (.Name x _) [a', b'] [] _ => x == ("zip" : Str) && gl sc x && S.frees.contains x && okArg a' && okArg b' && chk a sc a' && chk b sc b'
    | _, _ => false
end
end

/-- what the look leans on -/
structure Ok (S : Sg) (C : Cs) (N : List Str) (sc : Sc) (X : Cx) (W : WX) : Prop where
  N : X.N = N
  nd : X.N.Nodup
  calm : X.calm = true
  gu : X.A.guards = some []
  un : X.A.units + 66 < cLine
  see : ∀ x k, sc.lookup x = some k → X.env.scope.names.lookup x = some k ∨ (k = .free ∧ X.env.scope.names.lookup x = some .cell)
  fn : ∀ x, sc.lookup x = some .cell → X.fn x = true
  takes : Takes X W
  igi : ∀ x i, S.gi.lookup x = some i → ∃ t, X.mg x = some (.int i t)
  igs : ∀ x i, S.gs.lookup x = some i → ∃ t, X.mg x = some (.str i t)
  frees : ∀ x, x ∈ S.frees → X.mg x = none
  tabs : ∀ x t, S.tabs.lookup x = some t → ∃ a, X.mg x = some (.ref a) ∧ TabIs X.K X.w a t.dat
  excs : ∀ x, x ∈ S.excs → exKB X.K (He.ga X.K x) = true ∧ PySem.W.excIn X.K (He.ga X.K x) He.veBase "ValueError.__new__" = true ∧ X.mg x = some (.ref (He.ga X.K x)) ∧ PySem.W.keepIn X.K (.ref (He.ga X.K x)) = true ∧ PySem.W.subIn X.K (.ref (He.ga X.K x)) (.type "BaseException") = some true ∧ PySem.W.typeIn X.K (.ref (He.ga X.K x)) = some (.type "type")
  subs : ∀ x y b, S.subs.contains (x, y, b) = true → X.mg y = some (.ref (He.ga X.K y)) ∧ PySem.W.exmOne X.K (.ref (He.ga X.K x)) (.ref (He.ga X.K y)) = some b
  isas : ∀ x yes no, S.isas.contains (x, yes, no) = true → X.mg x = some (.ref (He.ga X.K x)) ∧ IsxK X.K (.ref (He.ga X.K x)) yes no
  isbs : ∀ x yes no, S.isbs.contains (x, yes, no) = true → IsxK X.K (.type "ValueError") yes no
  flds : ∀ c f, S.flds.contains (c, f) = true → PySem.W.findIn X.K (.ref (He.ga X.K c)) f = some none
  fns : ∀ x n, S.fns.lookup x = some n → ∃ k f fd ps, FnG X.prog X.w X.K X.mg X.base k f fd ps (spF X.K X.mg n (C x)) ∧ Room k X.A ∧ X.mg x = some (.ref f) ∧ PySem.W.keepIn X.K (.ref f) = true ∧ Binds X.K fd ps []

def gOf (K : PySem.W.Frag) : Tg → TG
  | .name i => gName i
  | .tup is => gTup K is.length (gAll is)
  | .nest ts => gTup K ts.length (gTps K ts)
theorem gOf_ok {K : PySem.W.Frag} : ∀ tg : Tg, GOk K (gOf K tg) tg
  | .name i => gok_name i
  | .tup is => gok_tup is
  | .nest ts => gok_nest ts
section
variable {S : Sg} {C : Cs} {N : List Str} {sc : Sc} {X : Cx} {W : WX}
theorem and_split {a b : Bool} (h : (a && b) = true) : a = true ∧ b = true := by
  cases a <;> cases b <;> first | exact ⟨rfl, rfl⟩ | cases h
theorem Ok.vis (ok : Ok S C N sc X W) {x : Str} (h : vis sc x = true) : Vis X.env.scope x := by
  unfold Q.vis at h
  split at h
  · rename_i e
    rcases ok.see _ _ e with q | ⟨q, _⟩
    · exact .inl q
    · cases q
  · rename_i e
    rcases ok.see _ _ e with q | ⟨q, _⟩
    · exact .inr (.inl q)
    · cases q
  · rename_i e
    rcases ok.see _ _ e with q | ⟨_, q⟩
    · exact .inr (.inr q)
    · exact .inr (.inl q)
  · cases h
theorem Ok.loc (ok : Ok S C N sc X W) {x : Str} (h : loc sc x = true) : Loc X.env.scope x ∧ (X.fn x = true ∨ X.env.scope.names.lookup x = some .local) := by
  unfold Q.loc at h
  split at h
  · rename_i e
    rcases ok.see _ _ e with q | ⟨q, _⟩
    · exact ⟨.inl q, .inr q⟩
    · cases q
  · rename_i e
    rcases ok.see _ _ e with q | ⟨q, _⟩
    · exact ⟨.inr q, .inl (ok.fn _ e)⟩
    · cases q
  · cases h
theorem Ok.gl (ok : Ok S C N sc X W) {x : Str} (h : gl sc x = true) : Gl X x ∧ (x == ("__debug__" : Str)) = false := by
  unfold Q.gl at h
  obtain ⟨h1, h2⟩ := and_split h
  have e : sc.lookup x = some .globalImplicit := beq_iff_eq.mp h1
  refine ⟨?_, by simpa using h2⟩
  rcases ok.see _ _ e with q | ⟨q, _⟩
  · exact q
  · cases q
theorem Ok.free (ok : Ok S C N sc X W) {x : Str} (h : S.frees.contains x = true) : X.mg x = none := ok.frees x (List.contains_iff_mem.mp h)
theorem star_of {e : Expr} {es : List Expr} {env : PySem.Env} (h : okArg e = true) : starEach (e :: es) env = (false, eval e env) :: starEach es env := by
  cases e <;> first | rfl | cases h
theorem plainIx_of {e : Expr} (h : okIx e = true) : PlainIx e := by
  cases e <;> first | exact fun _ _ => rfl | cases h
theorem marks_of {op : CmpOp} {e : Expr} (h : okIt e = true) : behindInMarks op e = false := by
  cases e <;> first | rfl | cases h
theorem folded_of {e : Expr} {env : PySem.Env} (h : okIt e = true) : ∀ x, foldedSetIterable e env x = pure x := by
  intro x
  cases e <;> first | rfl | cases h
theorem base_of {e : Expr} {m : Str} {env : PySem.Env} (h : okBase e = true) : attributeBase e m env (eval e env) = eval e env := by
  cases e <;> first | rfl | cases h
theorem pgs_go (ok : Ok S C N sc X W) : ∀ (is : List Nat) (es : List Expr), chkTg.go N sc is es = true → PGs X es (gAll is) ∧ (assignEach es X.env).length = is.length ∧ (assignEach es X.env).findIdx? (·.1) = none := by
  intro is
  induction is with
  | nil =>
    intro es h
    cases es with
    | nil => exact ⟨pgs_nil, rfl, rfl⟩
    | cons e es => simp [chkTg.go] at h
  | cons i is ih =>
    intro es h
    cases es with
    | nil => simp [chkTg.go] at h
    | cons e es =>
      cases e with
      | Name x p =>
        simp only [chkTg.go] at h
        obtain ⟨h1, h3⟩ := and_split h
        obtain ⟨h1, h2⟩ := and_split h1
        obtain ⟨l1, l2⟩ := ok.loc h2
        obtain ⟨q1, q2, q3⟩ := ih es h3
        refine ⟨pgs_cons (pg_name ok.nd (by rw [ok.N]; exact beq_iff_eq.mp h1) l1 l2) q1, congrArg (· + 1) q2, ?_⟩
        show List.findIdx? _ ((false, _) :: assignEach es X.env) = none
        rw [List.findIdx?_cons]
        simp [q3]
      | _ => simp [chkTg.go] at h
theorem pgs_gp (ok : Ok S C N sc X W) : ∀ (ts : List Tp) (es : List Expr), chkTg.gp N sc ts es = true → PGs X es (gTps X.K ts) ∧ (assignEach es X.env).length = ts.length ∧ (assignEach es X.env).findIdx? (·.1) = none := by
  intro ts
  induction ts with
  | nil =>
    intro es h
    cases es with
    | nil => exact ⟨pgs_nil, rfl, rfl⟩
    | cons e es => simp [chkTg.gp] at h
  | cons t ts ih =>
    intro es h
    cases es with
    | nil => cases t <;> simp [chkTg.gp] at h
    | cons e es =>
      cases t with
      | n i =>
        cases e with
        | Name x p =>
          simp only [chkTg.gp] at h
          obtain ⟨h1, h3⟩ := and_split h
          obtain ⟨h1, h2⟩ := and_split h1
          obtain ⟨l1, l2⟩ := ok.loc h2
          obtain ⟨q1, q2, q3⟩ := ih es h3
          refine ⟨pgs_cons (pg_name ok.nd (by rw [ok.N]; exact beq_iff_eq.mp h1) l1 l2) q1, congrArg (· + 1) q2, ?_⟩
          show List.findIdx? _ ((false, _) :: assignEach es X.env) = none
          rw [List.findIdx?_cons]
          simp [q3]
        | _ => simp [chkTg.gp] at h
      | t is =>
        cases e with
        | Tuple fs k p =>
          simp only [chkTg.gp] at h
          obtain ⟨h1, h3⟩ := and_split h
          obtain ⟨r1, r2, r3⟩ := pgs_go ok is fs h1
          obtain ⟨q1, q2, q3⟩ := ih es h3
          refine ⟨pgs_cons (pg_tup ok.calm r1 r2 r3) q1, congrArg (· + 1) q2, ?_⟩
          show List.findIdx? _ ((false, _) :: assignEach es X.env) = none
          rw [List.findIdx?_cons]
          simp [q3]
        | _ => simp [chkTg.gp] at h
theorem pg_of (ok : Ok S C N sc X W) {t : Expr} : ∀ {tg : Tg}, chkTg N sc tg t = true → PG X t (gOf X.K tg)
  | .name i, h => by
    unfold chkTg at h
    split at h
    · rename_i e
      cases e
      obtain ⟨h1, h2⟩ := and_split h
      obtain ⟨l1, l2⟩ := ok.loc h2
      exact pg_name ok.nd (by rw [ok.N]; exact beq_iff_eq.mp h1) l1 l2
    · rename_i e; cases e
    · rename_i e; cases e
    · cases h
  | .tup is, h => by
    unfold chkTg at h
    split at h
    · rename_i e; cases e
    · rename_i is' es _ _ e
      cases e
      obtain ⟨q1, q2, q3⟩ := pgs_go ok is es h
      exact pg_tup ok.calm q1 q2 q3
    · rename_i e; cases e
    · cases h
  | .nest ts, h => by
    unfold chkTg at h
    split at h
    · rename_i e; cases e
    · rename_i e; cases e
    · rename_i ts' es _ _ e
      cases e
      obtain ⟨q1, q2, q3⟩ := pgs_gp ok ts es h
      exact pg_tup ok.calm q1 q2 q3
    · cases h
theorem blk_of (ok : Ok S C N sc X W) {scope : Scope} {own : List Nat} (h : blkOk N sc scope own = true) : BlkOk X.N X.env.scope scope (own.map fun i => (N.getD i "", i)) := by
  unfold blkOk at h
  obtain ⟨h, h5⟩ := and_split h
  obtain ⟨h, h4⟩ := and_split h
  obtain ⟨h, h3⟩ := and_split h
  obtain ⟨h1, h2⟩ := and_split h
  rw [List.all_eq_true] at h2 h3 h4 h5
  refine ⟨beq_iff_eq.mp h1, fun y hy => beq_iff_eq.mp (h2 y hy), fun p hp => ?_, fun y hy e => ?_, fun y hy e => ?_⟩
  · obtain ⟨i, hi, rfl⟩ := List.mem_map.mp hp
    have hl : i < N.length := of_decide_eq_true (h3 i hi)
    rw [ok.N]
    show N[i]? = some (N.getD i "")
    rw [List.getD_eq_getElem?_getD, List.getElem?_eq_getElem hl]
    rfl
  · have q := h4 y hy
    rw [e] at q
    simp only [bne_self_eq_false, Bool.false_or, Bool.or_eq_true, beq_iff_eq] at q
    rcases q with q | q
    · rcases ok.see _ _ q with z | ⟨z, _⟩
      · exact .inl z
      · cases z
    · rcases ok.see _ _ q with z | ⟨_, z⟩
      · exact .inr z
      · exact .inl z
  · have q := h5 y hy
    have e' : (y.2 == NameKind.local || y.2 == NameKind.cell) = true := by
      rcases e with e | e <;> rw [e] <;> rfl
    rw [e'] at q
    simp only [Bool.not_true, Bool.false_or, Bool.or_eq_true] at q
    rcases q with q | q
    · obtain ⟨i, hi, e2⟩ := List.any_eq_true.mp q
      left
      rw [List.map_map]
      refine List.mem_map.mpr ⟨i, hi, ?_⟩
      show N.getD i "" = y.1
      rw [List.getD_eq_getElem?_getD, beq_iff_eq.mp e2]
      rfl
    · right
      rw [ok.N]
      intro hm
      rw [List.contains_iff_mem.mpr hm] at q
      cases q
theorem own_back {N : List Str} (own : List Nat) : (own.map fun i => (N.getD i ("" : Str), i)).map (·.2) = own := by
  rw [List.map_map]
  exact List.map_id' own
theorem relabel_look {env : PySem.Env} : ∀ {names : List (Str × NameKind)} {x : Str} {k : NameKind}, names.lookup x = some k →
    (names.map fun (n, k) => if (k == NameKind.free && env.scope.kind == .function && env.kindOf n == some .cell) then (n, NameKind.cell) else (n, k)).lookup x = some k ∨
    (k = .free ∧ (names.map fun (n, k) => if (k == NameKind.free && env.scope.kind == .function && env.kindOf n == some .cell) then (n, NameKind.cell) else (n, k)).lookup x = some .cell)
  | [], _, _, h => by simp at h
  | (n, k₀) :: r, x, k, h => by
    have ih := @relabel_look env r x k
    show List.lookup x ((if (k₀ == NameKind.free && env.scope.kind == .function && env.kindOf n == some .cell) = true then (n, NameKind.cell) else (n, k₀)) :: _) = _ ∨ (_ ∧ List.lookup x ((if (k₀ == NameKind.free && env.scope.kind == .function && env.kindOf n == some .cell) = true then (n, NameKind.cell) else (n, k₀)) :: _) = _)
    cases hx : x == n with
    | true =>
      simp only [List.lookup_cons, hx] at h
      cases h
      by_cases hc : (k₀ == NameKind.free && env.scope.kind == .function && env.kindOf n == some .cell) = true
      · rw [if_pos hc]
        obtain ⟨h1, _⟩ := and_split hc
        obtain ⟨h1, _⟩ := and_split h1
        exact .inr ⟨beq_iff_eq.mp h1, by simp [List.lookup_cons, hx]⟩
      · rw [if_neg hc]; exact .inl (by simp [List.lookup_cons, hx])
    | false =>
      simp only [List.lookup_cons, hx] at h
      by_cases hc : (k₀ == NameKind.free && env.scope.kind == .function && env.kindOf n == some .cell) = true
      · rw [if_pos hc]; simp only [List.lookup_cons, hx]; exact ih h
      · rw [if_neg hc]; simp only [List.lookup_cons, hx]; exact ih h
theorem Ok.blk (ok : Ok S C N sc X W) (s : Shared) (H : Hp) (scope : Scope) (D : Addr) (cl : List (Str × Addr)) (fp : List Addr) : Ok S C N scope.names (X.blk s H scope (compEnvC scope cl D X.env) fp) W0 where
  N := ok.N
  nd := ok.nd
  calm := ok.calm
  gu := ok.gu
  un := ok.un
  see := fun x k h => relabel_look h
  fn := fun x h => by
    show (scope.names.lookup x == some .cell) = true
    rw [h]; rfl
  takes := fun u s' h => by
    obtain ⟨a, B, sI, pins, σ, H1, cls, d, e, I, nb, up, sky, na, os, ag, q⟩ := h
    exact q
  igi := ok.igi
  igs := ok.igs
  frees := ok.frees
  tabs := ok.tabs
  excs := ok.excs
  subs := ok.subs
  isas := ok.isas
  isbs := ok.isbs
  flds := ok.flds
  fns := ok.fns
end
end L2.Q

set_option maxHeartbeats 4000000
/-! Q layer, part M: the look at expressions is sound. -/
namespace L2.Q
open PySem PySem.Spec PyProof.Rows

section
variable {S : Sg} {C : Cs} {N : List Str}
/-- value and test -/
def Both (X : Cx) (W : WX) (e : Expr) (m : EM) : Prop := PE X e (tM X W m) ∧ PT X e (tT X W m)
section
variable {X : Cx} {W : WX} {sc : Sc}
theorem Both.of {e : Expr} {m : EM} (h : PE X e (tM X W m)) (he : ∀ whole, isTrue e X.env whole = (do let v ← whole; standAt e.pos; holding [v] (truthy v))) : Both X W e m := ⟨h, st_val h he⟩
theorem frz_not {m : EM} {σ : St} {H : Hp} {Q : Bool → Hp → Prop} (h : tT X W (mFrz m) σ H Q) : tT X W m σ H Q := by
  obtain ⟨c, st, ρ, en, rel, o⟩ := h
  refine ⟨c, st, ρ, en, rel, (Out.bind o).mono fun a st1 c1 H1 g1 r1 o1 => ?_⟩
  try dsimp only at o1
  cases a with
  | d x => exact Out.okI o1 c1 H1 Go.refl r1
  | ref n =>
    try dsimp only at o1
    cases q : st1[n]? with
    | none => simp only [q] at o1; exact o1.elim
    | some ob =>
      cases ob with
      | lst xs =>
        simp only [q] at o1
        obtain ⟨p, hp⟩ := r1.addr q
        obtain ⟨c', g', r', _⟩ := r1.freeze hp q
        obtain ⟨b, e, _⟩ := Out.okI o1 c' H1 g' r'
        cases e
      | frz xs =>
        simp only [q] at o1
        obtain ⟨b, e, _⟩ := Out.okI o1 c1 H1 Go.refl r1
        cases e
theorem se_vari (ok : Ok S C N sc X W) {i : Nat} {x : Str} {pos : Pos} (h : (N[i]? == some x && vis sc x && !(x == ("__debug__" : Str)) && !(x == ("__classdict__" : Str))) = true) : PE X (.Name x pos) (tM X W (mVar i)) := by
  obtain ⟨h, h4⟩ := and_split h
  obtain ⟨h, h3⟩ := and_split h
  obtain ⟨h1, h2⟩ := and_split h
  exact se_var (by rw [ok.N]; exact beq_iff_eq.mp h1) (ok.vis h2) (by simpa using h3) (by simpa using h4)
theorem args_plain {es : List Expr} {env : PySem.Env} {pos : Pos} (h : es.all okArg = true) : (backTo pos (starEach es env)).any (·.1) = false := by
  induction es with
  | nil => rfl
  | cons e es ih =>
    rw [List.all_cons] at h
    obtain ⟨h1, h2⟩ := and_split h
    rw [star_of h1]
    show List.any ((false, _) :: backTo pos (starEach es env)) _ = false
    rw [List.any_cons, ih h2]
    rfl
theorem chkL_args : ∀ {xs : Es} {sc : Sc} {es : List Expr}, chkL S N xs sc es = true → es.all okArg = true
  | .nil, sc, es, h => by
    unfold chkL at h
    split at h
    · rfl
    · cases h
  | .cons a as, sc, es, h => by
    unfold chkL at h
    split at h
    · obtain ⟨h, h3⟩ := and_split h
      obtain ⟨h1, h2⟩ := and_split h
      rw [List.all_cons, h1, chkL_args h3]
      rfl
    · cases h
end
set_option linter.unusedVariables false in
mutual
theorem sound : ∀ (x : Ex) {sc : Sc} {X : Cx} {W : WX} {e : Expr}, Ok S C N sc X W → chk S N x sc e = true → Both X W e (den C x)
  | .var i, sc, X, W, e, ok, h => by
    unfold chk at h; split at h
    · exact .of (se_vari ok h) fun _ => rfl
    · cases h
  | .int i, sc, X, W, e, ok, h => by
    unfold chk at h; split at h
    · obtain rfl := beq_iff_eq.mp h
      exact .of se_int fun _ => rfl
    · cases h
  | .str i, sc, X, W, e, ok, h => by
    unfold chk at h; split at h
    · obtain rfl := beq_iff_eq.mp h
      exact .of se_str fun _ => rfl
    · cases h
  | .bl i, sc, X, W, e, ok, h => by
    unfold chk at h; split at h
    · obtain rfl := beq_iff_eq.mp h
      exact .of se_bl fun _ => rfl
    · cases h
  | .non, sc, X, W, e, ok, h => by
    unfold chk at h; split at h
    · exact .of se_non fun _ => rfl
    · cases h
  | .dct0, sc, X, W, e, ok, h => by
    unfold chk at h; split at h
    · exact .of se_dct0 fun _ => rfl
    · cases h
  | .rev a, sc, X, W, e, ok, h => by
    unfold chk at h; split at h
    · obtain ⟨h1, h2⟩ := and_split h
      obtain rfl := beq_iff_eq.mp h1
      exact .of (se_rev (sound a ok h2).1) fun _ => rfl
    · cases h
  | .gint x i, sc, X, W, e, ok, h => by
    unfold chk at h; split at h
    · obtain ⟨h, h3⟩ := and_split h
      obtain ⟨h1, h2⟩ := and_split h
      obtain rfl := beq_iff_eq.mp h1
      exact .of (se_gint (ok.gl h2).1 (ok.igi _ _ (beq_iff_eq.mp h3)) (ok.gl h2).2) fun _ => rfl
    · cases h
  | .gstr x i, sc, X, W, e, ok, h => by
    unfold chk at h; split at h
    · obtain ⟨h, h3⟩ := and_split h
      obtain ⟨h1, h2⟩ := and_split h
      obtain rfl := beq_iff_eq.mp h1
      exact .of (se_gstr (ok.gl h2).1 (ok.igs _ _ (beq_iff_eq.mp h3)) (ok.gl h2).2) fun _ => rfl
    · cases h
  | .bin op a b, sc, X, W, e, ok, h => by
    unfold chk at h; split at h
    · obtain ⟨h, h3⟩ := and_split h
      obtain ⟨h1, h2⟩ := and_split h
      obtain rfl := beq_iff_eq.mp h1
      exact .of (se_bin (ok_bin op) (sound a ok h2).1 (sound b ok h3).1) fun _ => rfl
    · cases h
  | .cmp op a b, sc, X, W, e, ok, h => by
    unfold chk at h; split at h
    · obtain ⟨h, h4⟩ := and_split h
      obtain ⟨h, h3⟩ := and_split h
      obtain ⟨h1, h2⟩ := and_split h
      obtain rfl := beq_iff_eq.mp h1
      have hu : X.A.units + 65 < cLine := by have := ok.un; omega
      exact ⟨se_cmp (ok_cmp hu op) (sound a ok h3).1 (sound b ok h4).1 (marks_of h2), st_cmp (ok_cmp hu op) (sound a ok h3).1 (sound b ok h4).1 (marks_of h2)⟩
    · cases h
  | .chain op op2 a b c, sc, X, W, e, ok, h => by
    unfold chk at h; split at h
    · obtain ⟨h, h6⟩ := and_split h
      obtain ⟨h, h5⟩ := and_split h
      obtain ⟨h, h4⟩ := and_split h
      obtain ⟨h, h3⟩ := and_split h
      obtain ⟨h1, h2⟩ := and_split h
      obtain rfl := beq_iff_eq.mp h1
      obtain rfl := beq_iff_eq.mp h2
      have hu : X.A.units + 65 < cLine := by have := ok.un; omega
      exact ⟨se_chain (ok_cmp hu op) (ok_cmp hu op2) (sound a ok h4).1 (sound b ok h5).1 (sound c ok h6).1 (marks_of h3), st_chain (ok_cmp hu op) (ok_cmp hu op2) (sound a ok h4).1 (sound b ok h5).1 (sound c ok h6).1 (marks_of h3)⟩
    · cases h
  | .conj es, sc, X, W, e, ok, h => by
    unfold chk at h; split at h
    · exact ⟨(soundAnd es ok h _).1, (soundAnd es ok h _).2.pt⟩
    · cases h
  | .disj es, sc, X, W, e, ok, h => by
    unfold chk at h; split at h
    · exact ⟨(soundOr es ok h _).1, (soundOr es ok h _).2.pt⟩
    · cases h
  | .nt a, sc, X, W, e, ok, h => by
    unfold chk at h; split at h
    · exact ⟨se_not (sound a ok h).1, st_not (sound a ok h).2⟩
    · cases h
  | .neg a, sc, X, W, e, ok, h => by
    unfold chk at h; split at h
    · exact .of (se_neg (sound a ok h).1) fun _ => rfl
    · cases h
  | .ife c a b, sc, X, W, e, ok, h => by
    unfold chk at h; split at h
    · obtain ⟨h, h3⟩ := and_split h
      obtain ⟨h1, h2⟩ := and_split h
      exact ⟨se_if (sound c ok h1).2 (sound a ok h2).1 (sound b ok h3).1, st_if (sound c ok h1).2 (sound a ok h2).2 (sound b ok h3).2⟩
    · cases h
  | .tup es, sc, X, W, e, ok, h => by
    unfold chk at h; split at h
    · exact .of (se_tup (soundL es ok h)) fun _ => rfl
    · cases h
  | .lst es, sc, X, W, e, ok, h => by
    unfold chk at h; split at h
    · exact .of (se_lst (soundL es ok h)) fun _ => rfl
    · cases h
  | .new es, sc, X, W, e, ok, h => by
    unfold chk at h; split at h
    · exact .of (se_new (soundL es ok h)) fun _ => rfl
    · cases h
  | .idx a b, sc, X, W, e, ok, h => by
    unfold chk at h; split at h
    · obtain ⟨h, h3⟩ := and_split h
      obtain ⟨h1, h2⟩ := and_split h
      exact .of (se_idx (sound a ok h2).1 (sound b ok h3).1 (plainIx_of h1)) fun _ => rfl
    · cases h
  | .sl a lo hi, sc, X, W, e, ok, h => by
    unfold chk at h; split at h
    · obtain ⟨h, h3⟩ := and_split h
      obtain ⟨h1, h2⟩ := and_split h
      exact .of (se_slice (sound a ok h1).1 (soundO lo ok h2) (soundO hi ok h3)) fun _ => rfl
    · cases h
  | .call n f es, sc, X, W, e, ok, h => by
    unfold chk at h; split at h
    · rename_i x p a' as' pos
      obtain ⟨h, h4⟩ := and_split h
      obtain ⟨h, h3⟩ := and_split h
      obtain ⟨h1, h2⟩ := and_split h
      obtain rfl := beq_iff_eq.mp h1
      obtain ⟨k, fa, fd, ps, G, hr, hm, hk, hb⟩ := ok.fns _ _ (beq_iff_eq.mp h3)
      have hall := chkL_args h4
      rw [List.all_cons] at hall
      obtain ⟨a1, a2⟩ := and_split hall
      exact .of (se_fn G hr ok.gu (ok.gl h2).1 hm hk hb ok.takes (soundL es ok h4) (ok.gl h2).2 (star_of a1) (args_plain a2)) fun _ => rfl
    · cases h
  | .bf b es, sc, X, W, e, ok, h => by
    unfold chk at h; split at h
    · obtain ⟨h, h4⟩ := and_split h
      obtain ⟨h, h3⟩ := and_split h
      obtain ⟨h1, h2⟩ := and_split h
      have hall := chkL_args h4
      rw [List.all_cons] at hall
      obtain ⟨a1, a2⟩ := and_split hall
      exact .of (se_bf b ok.calm ok.gu ok.un (beq_iff_eq.mp h1) (ok.gl h2).1 (ok.free h3) (soundL es ok h4) (star_of a1) (args_plain a2)) fun _ => rfl
    · cases h
  | .isi b a, sc, X, W, e, ok, h => by
    unfold chk at h; split at h
    · obtain ⟨h, h8⟩ := and_split h
      obtain ⟨h, h7⟩ := and_split h
      obtain ⟨h, h6⟩ := and_split h
      obtain ⟨h, h5⟩ := and_split h
      obtain ⟨h, h4⟩ := and_split h
      obtain ⟨h, h3⟩ := and_split h
      obtain ⟨h1, h2⟩ := and_split h
      exact .of (se_isi b (beq_iff_eq.mp h1) (beq_iff_eq.mp h2) (ok.gl h3).1 (ok.free h4) (ok.gl h5).1 (ok.free h6) (sound a ok h8).1 (star_of h7) rfl rfl) fun _ => rfl
    · cases h
  | .frz a, sc, X, W, e, ok, h => by
    unfold chk at h
    exact ⟨se_frz (sound a ok h).1, (sound a ok h).2.imp fun _ _ _ z => frz_not z⟩
  | .newL a, sc, X, W, e, ok, h => by
    unfold chk at h; split at h
    · obtain ⟨h, h5⟩ := and_split h
      obtain ⟨h, h4⟩ := and_split h
      obtain ⟨h, h3⟩ := and_split h
      obtain ⟨h1, h2⟩ := and_split h
      exact .of (se_newL (beq_iff_eq.mp h1) (ok.gl h2).1 (ok.free h3) (sound a ok h5).1 (star_of h4)) fun _ => rfl
    · cases h
  | .comp own tg it c a, sc, X, W, e, ok, h => by
    unfold chk at h; split at h
    · rename_i elt t iter ifs n scope pos
      obtain ⟨h, h8⟩ := and_split h
      obtain ⟨h, h7⟩ := and_split h
      obtain ⟨h, h6⟩ := and_split h
      obtain ⟨h, h5⟩ := and_split h
      obtain ⟨h, h4⟩ := and_split h
      obtain ⟨h, h3⟩ := and_split h
      obtain ⟨h1, h2⟩ := and_split h
      obtain rfl := beq_iff_eq.mp h1
      have key := se_comp (W := W) (elt := elt) (tg := t) (iter := iter) (ifs := ifs) (scope := scope) (pos := pos) (mi := denI C it) (tgt := tg) (mt := denT C c) (me := den C a) ok.calm ok.nd (soundI it ok h6) (blk_of ok h2)
        (fun s H D cl fp => pg_of (ok.blk s H scope D cl fp) h3) (gOf_ok (K := X.K) tg) (fun i hi => by
          rw [own_back]
          exact List.contains_iff_mem.mp (List.all_eq_true.mp h4 i hi)) (fun s H D cl fp => soundC c (ok.blk s H scope D cl fp) h7) (fun s H D cl fp => (sound a (ok.blk s H scope D cl fp) h8).1) (folded_of h5)
      rw [own_back] at key
      exact .of key fun _ => rfl
    · cases h
  | .compN own tg it c a, sc, X, W, e, ok, h => by
    unfold chk at h; split at h
    · rename_i elt t iter ifs n scope pos
      obtain ⟨h, h8⟩ := and_split h
      obtain ⟨h, h7⟩ := and_split h
      obtain ⟨h, h6⟩ := and_split h
      obtain ⟨h, h5⟩ := and_split h
      obtain ⟨h, h4⟩ := and_split h
      obtain ⟨h, h3⟩ := and_split h
      obtain ⟨h1, h2⟩ := and_split h
      obtain rfl := beq_iff_eq.mp h1
      have key := se_compN (W := W) (elt := elt) (tg := t) (iter := iter) (ifs := ifs) (scope := scope) (pos := pos) (mi := denI C it) (tgt := tg) (mt := denT C c) (me := den C a) ok.calm ok.nd (soundI it ok h6) (blk_of ok h2)
        (fun s H D cl fp => pg_of (ok.blk s H scope D cl fp) h3) (gOf_ok (K := X.K) tg) (fun i hi => by
          rw [own_back]
          exact List.contains_iff_mem.mp (List.all_eq_true.mp h4 i hi)) (fun s H D cl fp => soundC c (ok.blk s H scope D cl fp) h7) (fun s H D cl fp => (sound a (ok.blk s H scope D cl fp) h8).1) (folded_of h5)
      rw [own_back] at key
      exact .of key fun _ => rfl
    · cases h
  | .usort fr a, sc, X, W, e, ok, h => by
    unfold chk at h; split at h
    · obtain ⟨h, h8⟩ := and_split h
      obtain ⟨h, h7⟩ := and_split h
      obtain ⟨h, h6⟩ := and_split h
      obtain ⟨h, h5⟩ := and_split h
      obtain ⟨h, h4⟩ := and_split h
      obtain ⟨h, h3⟩ := and_split h
      obtain ⟨h1, h2⟩ := and_split h
      exact .of (se_usort (fnL_b fr) ok.calm ok.un (beq_iff_eq.mp h1) (ok.gl h3).1 (ok.free h4) (beq_iff_eq.mp h2) (ok.gl h5).1 (ok.free h6) (sound a ok h8).1 (star_of h7)) fun _ => rfl
    · cases h
  | .usortI fr a, sc, X, W, e, ok, h => by
    unfold chk at h; split at h
    · obtain ⟨h, h8⟩ := and_split h
      obtain ⟨h, h7⟩ := and_split h
      obtain ⟨h, h6⟩ := and_split h
      obtain ⟨h, h5⟩ := and_split h
      obtain ⟨h, h4⟩ := and_split h
      obtain ⟨h, h3⟩ := and_split h
      obtain ⟨h1, h2⟩ := and_split h
      exact .of (se_usortI (fnL_b fr) ok.calm (beq_iff_eq.mp h1) (ok.gl h3).1 (ok.free h4) (beq_iff_eq.mp h2) (ok.gl h5).1 (ok.free h6) (sound a ok h8).1 (star_of h7)) fun _ => rfl
    · cases h
  | .uniq fr own own' tg it tg' it' a, sc, X, W, e, ok, h => by
    unfold chk at h; split at h
    · rename_i f p elt t iter n t' iter' n' scope pos q
      obtain ⟨h, h16⟩ := and_split h
      obtain ⟨h, h15⟩ := and_split h
      obtain ⟨h, h14⟩ := and_split h
      obtain ⟨h, h13⟩ := and_split h
      obtain ⟨h, h12⟩ := and_split h
      obtain ⟨h, h11⟩ := and_split h
      obtain ⟨h, h10⟩ := and_split h
      obtain ⟨h, h9⟩ := and_split h
      obtain ⟨h, h8⟩ := and_split h
      obtain ⟨h, h7⟩ := and_split h
      obtain ⟨h, h6⟩ := and_split h
      obtain ⟨h, h5⟩ := and_split h
      obtain ⟨h, h4⟩ := and_split h
      obtain ⟨h, h3⟩ := and_split h
      obtain ⟨h1, h2⟩ := and_split h
      obtain rfl := beq_iff_eq.mp h4
      obtain rfl := beq_iff_eq.mp h5
      have inn : ∀ {xs ys : List Nat}, xs.all ys.contains = true → ∀ i ∈ xs, i ∈ ys := fun k i hi => List.contains_iff_mem.mp (List.all_eq_true.mp k i hi)
      have key := se_uniq (W := W) (f := f) (fnL_b fr) (e := elt) (t := t) (u := t') (a := iter) (b := iter') (sc := scope) (p := p) (q := q) (pos := pos) (ma := denI C it) (mb := denI C it') (tg := tg) (tg' := tg') (me := den C a) (own' := own') ok.calm ok.un ok.nd (beq_iff_eq.mp h1) (ok.gl h2).1 (ok.free h3) (soundI it ok h14) (blk_of ok h6)
        (fun i hi => by rw [own_back]; exact inn h7 i hi) (gOf_ok (K := X.K) tg) (gOf_ok (K := X.K) tg') (fun i hi => by rw [own_back]; exact inn h8 i hi) (inn h9)
        (fun s H D cl fp => pg_of (ok.blk s H scope D cl fp) h10) (fun s H D cl fp => (sound a (ok.blk s H scope D cl fp) h16).1) (folded_of h12)
        (fun s H D cl fp => soundI it' (ok.blk s H scope D cl fp) h15) (fun s H D cl fp => pg_of (ok.blk s H scope D cl fp) h11) (fun env => folded_of h13)
      rw [own_back] at key
      exact .of key fun _ => rfl
    · cases h
  | .catN a b, sc, X, W, e, ok, h => by
    unfold chk at h; split at h
    · obtain ⟨h1, h2⟩ := and_split h
      exact .of (se_catN (sound a ok h1).1 (sound b ok h2).1) fun _ => rfl
    · cases h
  | .tabIx x t k, sc, X, W, e, ok, h => by
    unfold chk at h; split at h
    · obtain ⟨h, h5⟩ := and_split h
      obtain ⟨h, h4⟩ := and_split h
      obtain ⟨h, h3⟩ := and_split h
      obtain ⟨h1, h2⟩ := and_split h
      obtain rfl := beq_iff_eq.mp h1
      obtain ⟨a, hm, T⟩ := ok.tabs _ _ (beq_iff_eq.mp h3)
      exact .of (se_tabIx (ok.gl h2).1 hm T (sound k ok h5).1 (plainIx_of h4) (ok.gl h2).2) fun _ => rfl
    · cases h
  | .tabGet x t k d, sc, X, W, e, ok, h => by
    unfold chk at h; split at h
    · rename_i y p m apos k' d' pos
      obtain ⟨h, h9⟩ := and_split h
      obtain ⟨h, h8⟩ := and_split h
      obtain ⟨h, h7⟩ := and_split h
      obtain ⟨h, h6⟩ := and_split h
      obtain ⟨h, h5⟩ := and_split h
      obtain ⟨h, h4⟩ := and_split h
      obtain ⟨h, h3⟩ := and_split h
      obtain ⟨h1, h2⟩ := and_split h
      obtain rfl := beq_iff_eq.mp h1
      obtain rfl := beq_iff_eq.mp h2
      obtain ⟨a, hm, T⟩ := ok.tabs _ _ (beq_iff_eq.mp h4)
      refine .of (se_tabGet (ok.gl h3).1 hm T (sound k ok h8).1 (sound d ok h9).1 ⟨rfl, ?_, h5, ?_⟩ (ok.gl h3).2) fun _ => rfl
      · rw [star_of h6, star_of h7]; rfl
      · rw [star_of h6, star_of h7]; rfl
    · cases h
  | .litGet t k d, sc, X, W, e, ok, h => by
    unfold chk at h; split at h
    · rename_i ks vs p m apos k' d' pos
      obtain ⟨h, h10⟩ := and_split h
      obtain ⟨h, h9⟩ := and_split h
      obtain ⟨h, h8⟩ := and_split h
      obtain ⟨h, h7⟩ := and_split h
      obtain ⟨h, h6⟩ := and_split h
      obtain ⟨h, h5⟩ := and_split h
      obtain ⟨h, h4⟩ := and_split h
      obtain ⟨h, h3⟩ := and_split h
      obtain ⟨h1, h2⟩ := and_split h
      obtain rfl := beq_iff_eq.mp h1
      refine .of (se_litGet (by have := ok.un; omega) h2 h3 (fun e => by rw [e] at h4; cases h4) (of_decide_eq_true h5) (sound k ok h9).1 (sound d ok h10).1 ⟨rfl, ?_, h6, ?_⟩) fun _ => rfl
      · rw [star_of h7, star_of h8]; rfl
      · rw [star_of h7, star_of h8]; rfl
    · cases h
  | .app o a, sc, X, W, e, ok, h => by
    unfold chk at h; split at h
    · obtain ⟨h, h6⟩ := and_split h
      obtain ⟨h, h5⟩ := and_split h
      obtain ⟨h, h4⟩ := and_split h
      obtain ⟨h, h3⟩ := and_split h
      obtain ⟨h1, h2⟩ := and_split h
      obtain rfl := beq_iff_eq.mp h1
      refine .of (se_app (sound o ok h5).1 (sound a ok h6).1 (base_of h2) ?_ h3 (star_of h4) rfl) fun _ => rfl
      rw [star_of h4]; rfl
    · cases h
  | .bm b o a, sc, X, W, e, ok, h => by
    unfold chk at h; split at h
    · obtain ⟨h, h6⟩ := and_split h
      obtain ⟨h, h5⟩ := and_split h
      obtain ⟨h, h4⟩ := and_split h
      obtain ⟨h, h3⟩ := and_split h
      obtain ⟨h1, h2⟩ := and_split h
      refine .of (se_bm (by have := ok.un; omega) (beq_iff_eq.mp h1) (sound o ok h5).1 (sound a ok h6).1 (base_of h2) ?_ h3 (star_of h4) rfl) fun _ => rfl
      rw [star_of h4]; rfl
    · cases h
  | .isx y yes no a, sc, X, W, e, ok, h => by
    unfold chk at h; split at h
    · obtain ⟨h, h8⟩ := and_split h
      obtain ⟨h, h7⟩ := and_split h
      obtain ⟨h, h6⟩ := and_split h
      obtain ⟨h, h5⟩ := and_split h
      obtain ⟨h, h4⟩ := and_split h
      obtain ⟨h, h3⟩ := and_split h
      obtain ⟨h1, h2⟩ := and_split h
      obtain rfl := beq_iff_eq.mp h2
      obtain ⟨m1, m2⟩ := ok.isas _ _ _ h6
      exact .of (se_isx (cV := .ref _) (beq_iff_eq.mp h1) (ok.gl h3).1 (ok.free h4) m2 (pe_glob (ok.gl h5).1 m1 rfl (ok.gl h5).2) (fun u r => r) (.own _) (sound a ok h8).1 (star_of h7) rfl rfl) fun _ => rfl
    · cases h
  | .isxB y yes no a, sc, X, W, e, ok, h => by
    unfold chk at h; split at h
    · obtain ⟨h, h10⟩ := and_split h
      obtain ⟨h, h9⟩ := and_split h
      obtain ⟨h, h8⟩ := and_split h
      obtain ⟨h, h7⟩ := and_split h
      obtain ⟨h, h6⟩ := and_split h
      obtain ⟨h, h5⟩ := and_split h
      obtain ⟨h, h4⟩ := and_split h
      obtain ⟨h, h3⟩ := and_split h
      obtain ⟨h1, h2⟩ := and_split h
      obtain rfl := beq_iff_eq.mp h2
      obtain rfl := beq_iff_eq.mp h3
      have m2 := ok.isbs _ _ _ h8
      exact .of (se_isx (cV := .ty "ValueError") (beq_iff_eq.mp h1) (ok.gl h4).1 (ok.free h5) m2 (pe_bltn (v := .ty "ValueError") (ok.gl h6).1 (ok.free h7) (u := .type "ValueError") (by decide +kernel) rfl (by decide +kernel) (by decide +kernel)) (fun u r => r) (.ty _) (sound a ok h10).1 (star_of h9) rfl rfl) fun _ => rfl
    · cases h
  | .fld f cls a, sc, X, W, e, ok, h => by
    unfold chk at h; split at h
    · obtain ⟨h, h4⟩ := and_split h
      obtain ⟨h, h3⟩ := and_split h
      obtain ⟨h1, h2⟩ := and_split h
      obtain rfl := beq_iff_eq.mp h1
      exact .of (se_fld (fun c hc => ok.flds _ _ (List.all_eq_true.mp h3 c (List.contains_iff_mem.mp hc))) (sound a ok h4).1 (base_of h2)) fun _ => rfl
    · cases h
  | .dead, sc, X, W, e, ok, h => by
    refine ⟨⟨fun pins s σ H Q I h => ?_⟩, ⟨fun pins s σ H Q I h => ?_⟩⟩
    · obtain ⟨_, _, _, _, _, z⟩ := h
      exact z.elim
    · obtain ⟨_, _, _, _, _, z⟩ := h
      exact z.elim
  | .ext o a, sc, X, W, e, ok, h => by
    unfold chk at h; split at h
    · obtain ⟨h, h6⟩ := and_split h
      obtain ⟨h, h5⟩ := and_split h
      obtain ⟨h, h4⟩ := and_split h
      obtain ⟨h, h3⟩ := and_split h
      obtain ⟨h1, h2⟩ := and_split h
      obtain rfl := beq_iff_eq.mp h1
      refine .of (se_ext (sound o ok h5).1 (sound a ok h6).1 (base_of h2) ?_ h3 (star_of h4) rfl) fun _ => rfl
      rw [star_of h4]; rfl
    · cases h
  | .pop o, sc, X, W, e, ok, h => by
    unfold chk at h; split at h
    · obtain ⟨h, h4⟩ := and_split h
      obtain ⟨h, h3⟩ := and_split h
      obtain ⟨h1, h2⟩ := and_split h
      obtain rfl := beq_iff_eq.mp h1
      exact .of (se_pop (sound o ok h4).1 (base_of h2) h3) fun _ => rfl
    · cases h
theorem soundL : ∀ (xs : Es) {sc : Sc} {X : Cx} {W : WX} {es : List Expr}, Ok S C N sc X W → chkL S N xs sc es = true → PA X es (tL X W (denL C xs))
  | .nil, sc, X, W, es, ok, h => by
    unfold chkL at h; split at h
    · exact sl_nil
    · cases h
  | .cons a as, sc, X, W, es, ok, h => by
    unfold chkL at h; split at h
    · obtain ⟨h, h3⟩ := and_split h
      obtain ⟨h1, h2⟩ := and_split h
      exact sl_cons (sound a ok h2).1 (soundL as ok h3) (star_of h1)
    · cases h
theorem soundAnd : ∀ (xs : Es) {sc : Sc} {X : Cx} {W : WX} {es : List Expr}, Ok S C N sc X W → chkB S N xs sc es = true → ∀ pos, PE X (.BoolOp .And es pos) (tM X W (denAnd C xs)) ∧ PW X (.BoolOp .And es pos) (tT X W (denAnd C xs))
  | .nil, sc, X, W, es, ok, h => by
    unfold chkB at h; cases h
  | .cons a .nil, sc, X, W, es, ok, h => by
    unfold chkB at h; split at h
    · intro pos
      exact ⟨pe_one (sound a ok h).1, st_and1 (sound a ok h).2⟩
    · contradiction
    · cases h
  | .cons a (.cons b bs), sc, X, W, es, ok, h => by
    unfold chkB at h; split at h
    · contradiction
    · rename_i e
      obtain ⟨h1, h2⟩ := and_split h
      intro pos
      exact ⟨se_and (sound a ok h1).1 (soundAnd (.cons b bs) ok h2 pos).1, st_and (sound a ok h1).2 (soundAnd (.cons b bs) ok h2 pos).2⟩
    · cases h
theorem soundOr : ∀ (xs : Es) {sc : Sc} {X : Cx} {W : WX} {es : List Expr}, Ok S C N sc X W → chkB S N xs sc es = true → ∀ pos, PE X (.BoolOp .Or es pos) (tM X W (denOr C xs)) ∧ PW X (.BoolOp .Or es pos) (tT X W (denOr C xs))
  | .nil, sc, X, W, es, ok, h => by
    unfold chkB at h; cases h
  | .cons a .nil, sc, X, W, es, ok, h => by
    unfold chkB at h; split at h
    · intro pos
      exact ⟨pe_one (sound a ok h).1, st_or1 (sound a ok h).2⟩
    · contradiction
    · cases h
  | .cons a (.cons b bs), sc, X, W, es, ok, h => by
    unfold chkB at h; split at h
    · contradiction
    · rename_i e
      obtain ⟨h1, h2⟩ := and_split h
      intro pos
      exact ⟨se_or (sound a ok h1).1 (soundOr (.cons b bs) ok h2 pos).1, st_or (sound a ok h1).2 (soundOr (.cons b bs) ok h2 pos).2⟩
    · cases h
theorem soundO : ∀ (x : Eo) {sc : Sc} {X : Cx} {W : WX} {e : Option Expr}, Ok S C N sc X W → chkO S N x sc e = true → PO X e (tO X W (denO C x))
  | .no, sc, X, W, e, ok, h => by
    unfold chkO at h; split at h
    · exact so_no
    · cases h
  | .at_ a, sc, X, W, e, ok, h => by
    unfold chkO at h; split at h
    · exact so_at (sound a ok h).1
    · cases h
theorem soundC : ∀ (x : Eo) {sc : Sc} {X : Cx} {W : WX} {es : List Expr}, Ok S C N sc X W → chkC S N x sc es = true → PTs X es (tT X W (denT C x))
  | .no, sc, X, W, es, ok, h => by
    unfold chkC at h; split at h
    · exact ⟨fun pins s σ H Q I ⟨c, st, ρ, en, rel, o⟩ => pts_nil.run pins s σ H Q I (by
        obtain ⟨b, e, q⟩ := Out.okI o c H Go.refl rel
        cases e
        exact q)⟩
    · cases h
  | .at_ a, sc, X, W, es, ok, h => by
    unfold chkC at h; split at h
    · exact pts_one (sound a ok h).2
    · cases h
theorem soundI : ∀ (x : It) {sc : Sc} {X : Cx} {W : WX} {t e : Expr}, Ok S C N sc X W → chkI S N x sc t e = true → PI X t e (tI X W (denI C x))
  | .items a, sc, X, W, t, e, ok, h => by
    unfold chkI at h
    exact pi_items (sound a ok h).1
  | .rng1 a, sc, X, W, t, e, ok, h => by
    unfold chkI at h; split at h
    · obtain ⟨h, h5⟩ := and_split h
      obtain ⟨h, h4⟩ := and_split h
      obtain ⟨h, h3⟩ := and_split h
      obtain ⟨h1, h2⟩ := and_split h
      exact pi_rng1 (beq_iff_eq.mp h1) (ok.gl h2).1 (ok.free h3) (sound a ok h5).1 (star_of h4)
    · cases h
  | .rng2 a b, sc, X, W, t, e, ok, h => by
    unfold chkI at h; split at h
    · obtain ⟨h, h7⟩ := and_split h
      obtain ⟨h, h6⟩ := and_split h
      obtain ⟨h, h5⟩ := and_split h
      obtain ⟨h, h4⟩ := and_split h
      obtain ⟨h, h3⟩ := and_split h
      obtain ⟨h1, h2⟩ := and_split h
      exact pi_rng2 (beq_iff_eq.mp h1) (ok.gl h2).1 (ok.free h3) (sound a ok h6).1 (sound b ok h7).1 (by rw [star_of h4, star_of h5]; rfl) (star_of h5)
    · cases h
  | .enum a, sc, X, W, t, e, ok, h => by
    unfold chkI at h; split at h
    · obtain ⟨h, h5⟩ := and_split h
      obtain ⟨h, h4⟩ := and_split h
      obtain ⟨h, h3⟩ := and_split h
      obtain ⟨h1, h2⟩ := and_split h
      exact pi_enumL (beq_iff_eq.mp h1) (ok.gl h2).1 (ok.free h3) (sound a ok h5).1 (star_of h4)
    · cases h
  | .rngD a b, sc, X, W, t, e, ok, h => by
    unfold chkI at h; split at h
    · obtain ⟨h, h7⟩ := and_split h
      obtain ⟨h, h6⟩ := and_split h
      obtain ⟨h, h5⟩ := and_split h
      obtain ⟨h, h4⟩ := and_split h
      obtain ⟨h, h3⟩ := and_split h
      obtain ⟨h, h2⟩ := and_split h
      obtain ⟨h0, h1⟩ := and_split h
      obtain rfl := beq_iff_eq.mp h0
      exact pi_rngD (beq_iff_eq.mp h1) (ok.gl h2).1 (ok.free h3) (sound a ok h6).1 (sound b ok h7).1 h4 h5
    · cases h
  | .zip a b, sc, X, W, t, e, ok, h => by
    unfold chkI at h; split at h
    · obtain ⟨h, h7⟩ := and_split h
      obtain ⟨h, h6⟩ := and_split h
      obtain ⟨h, h5⟩ := and_split h
      obtain ⟨h, h4⟩ := and_split h
      obtain ⟨h, h3⟩ := and_split h
      obtain ⟨h1, h2⟩ := and_split h
      exact pi_zipQ (beq_iff_eq.mp h1) (ok.gl h2).1 (ok.free h3) (sound a ok h6).1 (sound b ok h7).1 (star_of h4) (star_of h5) (args_plain (by rw [List.all_cons, h5]; rfl))
    · cases h
end
end
end L2.Q

set_option maxHeartbeats 4000000
/-! Q layer, part N: statements as data, the look at them, that it is sound. -/
namespace L2.Q
open PySem PySem.Spec PyProof.Rows

mutual
inductive Sm where
  | set (i : Nat) (e : Ex) | asg (is : List Nat) (e : Ex) | par (i j : Nat) (a b : Ex) | setIx (o i e : Ex)
  | ret (e : Ex) | retN | ifs (c : Ex) (a b : Ss) | for_ (tg : Tg) (it : It) (b : Ss) | while_ (n : Nat) (c : Ex) (b : Ss)
  | raise (x : Str) | doE (e : Ex) | bk | ct | pass | dead
  | tryAs (i j : Nat) (x : Str) (yes no : List Str) (b : Ss)
inductive Ss where
  | nil | cons (s : Sm) (r : Ss)
end
mutual
def denS (C : Cs) : Sm → SM
  | .set i e => mAsg (.name i) (den C e)
  | .asg is e => mAsg (.tup is) (den C e)
  | .par i j a b => mPar i j (den C a) (den C b)
  | .setIx o i e => mSetIx (den C o) (den C i) (den C e)
  | .ret e => mRet (den C e)
  | .retN => mRetN
  | .ifs c a b => mIfS (den C c) (denB C a) (denB C b)
  | .for_ tg it b => mFor (denI C it) tg (denB C b)
  | .while_ n c b => whileN (den C c) (denB C b) n
  | .raise x => mRaise x
  | .dead => fun _ _ => .fail
  | .tryAs i j _ yes no b => mTryAs i j yes no (denB C b)
  | .doE e => mDo (den C e)
  | .bk => mBk
  | .ct => mCt
  | .pass => mPass
def denB (C : Cs) : Ss → SM
  | .nil => mPass
  | .cons s r => mSeq (denS C s) (denB C r)
end
def okVal : Expr → Bool
  | .ListComp .. => false
  | .SetComp .. => false
  | .DictComp .. => false
  | _ => true
def okTup : Expr → Bool
  | .Tuple .. => false
  | _ => true
def isComp : Ex → Bool
  | .comp _ _ _ _ _ => true
  | .compN _ _ _ _ _ => true
  | _ => false
section
variable (S : Sg) (N : List Str) (sc : Sc)
mutual
def chkS : Sm → Stmt → Bool
  | .set i e, s => match s with
    | .Assign [.Name x _] v _ => N[i]? == some x && loc sc x && (isComp e || okVal v) && chk S N e sc v
    | _ => false
  | .asg is e, s => match s with
    | .Assign [.Tuple ts k p] v _ => chkTg N sc (.tup is) (.Tuple ts k p) && okVal v && okTup v && chk S N e sc v
    | _ => false
  | .par i j a b, s => match s with
    | .Assign [.Tuple [.Name x px, .Name y py] _ _] (.Tuple [a', b'] _ _) _ => N[i]? == some x && N[j]? == some y && i != j && x != y && sc.lookup x == some .local && sc.lookup y == some .local && px.line == py.line && okArg a' && okArg b' &&
        !(foldedForSure 8 a' && foldedForSure 8 b') && !(constantsAlone 8 a' && constantsAlone 8 b') && chk S N a sc a' && chk S N b sc b'
    | _ => false
  | .setIx o i e, s => match s with
    | .Assign [.Subscript o' i' _] v _ => okIx i' && okVal v && chk S N o sc o' && chk S N i sc i' && chk S N e sc v
    | _ => false
  | .ret e, s => match s with
    | .Return (some v) _ => chk S N e sc v
    | _ => false
  | .retN, s => match s with
    | .Return none _ => true
    | _ => false
  | .ifs c a b, s => match s with
    | .If c' a' b' _ => chk S N c sc c' && chkB' a a' && chkB' b b'
    | _ => false
  | .for_ tg it b, s => match s with
    | .For t iter b' [] _ => chkTg N sc tg t && okIt iter && chkI S N it sc t iter && chkB' b b'
    | _ => false
  | .while_ _ c b, s => match s with
    | .While c' b' [] _ => chk S N c sc c' && chkB' b b'
    | _ => false
  | .dead, _ => true
  | .tryAs i j x yes no b, s => match s with
    | .Try b' [.ExceptHandler (some (.Name z _)) (some n) [.Assign [.Name y _] (.Name n2 _) _] _] [] [] _ => z == x && n2 == n && N[i]? == some n && N[j]? == some y && i != j && sc.lookup n == some .local && sc.lookup y == some .local && !(n == ("__debug__" : Str)) && !(n == ("__classdict__" : Str)) && gl sc z &&
        S.subs.any (fun p => p.2.1 == x) && yes.all (fun c => S.subs.contains (c, x, true)) && no.all (fun c => S.subs.contains (c, x, false)) && chkB' b b'
    | _ => false
  | .raise x, s => match s with
    | .Raise (some (.Call (.Name y _) [.Constant (.str _) _ _] [] _)) none _ => y == x && gl sc x && S.excs.contains x
    | _ => false
  | .doE e, s => match s with
    | .Expr v _ => okVal v && chk S N e sc v
    | _ => false
  | .bk, s => match s with
    | .Break _ => true
    | _ => false
  | .ct, s => match s with
    | .Continue _ => true
    | _ => false
  | .pass, s => match s with
    | .Pass _ => true
    | _ => false
def chkB' : Ss → List Stmt → Bool
  | .nil, ss => match ss with
    | [] => true
    | _ => false
  | .cons s r, ss => match ss with
    | s' :: r' => chkS s s' && chkB' r r'
    | _ => false
end
end
structure OkS (S : Sg) (C : Cs) (N : List Str) (sc : Sc) (X : Cx) (W : WX) : Prop where
  e : Ok S C N sc X W
  kind : X.env.scope.kind = .function
  passes : PassesOwn (model X.prog X.w) X.A X.env X.xe
  stk : X.stack = X.env :: X.outer
  frm : X.env.frame = some X.env.locals
section
variable {S : Sg} {C : Cs} {N : List Str} {sc : Sc} {X : Cx} {W : WX}
theorem OkS.tr (ok : OkS S C N sc X W) {pn : List (Addr × Obj)} {xe : Value → Shared → Prop} {W' : WX} (tk : Takes (X.tr pn xe) W') (ps : PassesOwn (model X.prog X.w) X.A X.env xe) : OkS S C N sc (X.tr pn xe) W' where
  e := { ok.e with takes := tk }
  kind := ok.kind
  passes := ps
  stk := ok.stk
  frm := ok.frm
theorem sw_val {v : Expr} {t : Option Expr} {l : Nat} {env : PySem.Env} (h : okVal v = true) : swapsWith v t l env = pure false := by
  cases v <;> first | rfl | cases h
theorem sw_lc {elt : Expr} {gs : List Comprehension} {scope : Scope} {pos py : Pos} {y : Str} {l : Nat} {env : PySem.Env} :
    swapsWith (.ListComp elt gs scope pos) (some (.Name y py)) l env = pure (env.blockKind == .function && env.kindOf y == some .local && py.line == pos.line && !(scope.names.any fun (n, k) => n == y && (k == .local || k == .cell))) := rfl
theorem ss_set' {i : Nat} {x : Str} {e : Expr} {m : EM} {pos pos' : Pos} (hN : X.N.Nodup) (hi : X.N[i]? = some x) (hx : Loc X.env.scope x) (he : PE X e (tM X W m)) (hs : swapsWith e (some (.Name x pos')) pos.line X.env = pure false) (hf : X.fn x = true ∨ X.env.scope.names.lookup x = some .local) :
    PS X (.Assign [.Name x pos'] e pos) (tS X W (mAsg (.name i) m)) := (ps_set hN hi hx he hs hf).imp fun D σ H h => tS_asg (gok_name i) h
theorem swapped_two {x y : Str} {px py pt pt2 : Pos} {kt k2 : Nat} {a b : Expr} {env : PySem.Env} (hk : env.scope.kind = .function) (hx : env.kindOf x = some .local) (hy : env.kindOf y = some .local) (hxy : (x != y) = true) (hl : (px.line == py.line) = true)
    (ha : okArg a = true) (hb : okArg b = true) (hf : (!(foldedForSure 8 a && foldedForSure 8 b)) = true) (hc : (!(constantsAlone 8 a && constantsAlone 8 b)) = true) :
    swappedStores [.Tuple [.Name x px, .Name y py] kt pt] (.Tuple [a, b] k2 pt2) env = pure (some [x, y]) := by
  have hbk : env.blockKind = .function := by unfold Env.blockKind; rw [hk]; rfl
  have hl' : py.line = px.line := (beq_iff_eq.mp hl).symm
  have hne : x ≠ y := by simpa using hxy
  have hed : [x, y].eraseDups.length = 2 := by
    have : (y == x) = false := beq_eq_false_iff_ne.mpr (Ne.symm hne)
    simp [List.eraseDups_cons, this]
  have hs : ([a, b].any fun | .Starred .. => true | _ => false) = false := by
    simp only [List.any_cons, List.any_nil, Bool.or_false]
    cases a <;> cases b <;> first | rfl | (cases ha; done) | (cases hb; done)
  have hf' : ([a, b].all (foldedForSure 8)) = false := by
    rw [List.all_cons, List.all_cons, List.all_nil, Bool.and_true]
    exact (Bool.not_eq_true' _).mp hf
  have hc' : ([a, b].all (constantsAlone 8)) = false := by
    rw [List.all_cons, List.all_cons, List.all_nil, Bool.and_true]
    exact (Bool.not_eq_true' _).mp hc
  unfold swappedStores
  simp only [hs, hf', hc', List.length_cons, List.length_nil, hbk, List.head?_cons, Option.map_some, Option.getD_some, List.filterMap_cons, List.filterMap_nil, hx, hy, hl', Expr.pos]
  simp [hed]
  intro h
  rcases h with h | h
  · cases a <;> first | (cases h; done) | (cases ha; done)
  · cases b <;> first | (cases h; done) | (cases hb; done)
theorem blk_local {scope : PySem.Env} {y : Str} (hk : scope.scope.kind = .function) : (scope.blockKind == ScopeKind.function) = true := by
  unfold Env.blockKind; rw [hk]; rfl
set_option linter.unusedVariables false in
mutual
theorem soundS : ∀ (x : Sm) {X : Cx} {W : WX} {s : Stmt}, OkS S C N sc X W → chkS S N sc x s = true → PS X s (tS X W (denS C x))
  | .set i e, X, W, s, ok, h => by
    unfold chkS at h; split at h
    · rename_i x px v pos
      obtain ⟨h, h4⟩ := and_split h
      obtain ⟨h, h3⟩ := and_split h
      obtain ⟨h1, h2⟩ := and_split h
      have hi : X.N[i]? = some x := by rw [ok.e.N]; exact beq_iff_eq.mp h1
      obtain ⟨l1, l2⟩ := ok.e.loc h2
      rcases (Bool.or_eq_true _ _).mp h3 with q | q
      · cases e with
        | comp own tg it c a =>
          have h4' := h4
          unfold chk at h4
          split at h4
          · rename_i elt t iter ifs n scope lpos _
            by_cases hb : (X.env.blockKind == .function && X.env.kindOf x == some .local && px.line == lpos.line && !(scope.names.any fun (n, k) => n == x && (k == .local || k == .cell))) = true
            · obtain ⟨g, g8⟩ := and_split h4
              obtain ⟨g, g7⟩ := and_split g
              obtain ⟨g, g6⟩ := and_split g
              obtain ⟨g, g5⟩ := and_split g
              obtain ⟨g, g4⟩ := and_split g
              obtain ⟨g, g3⟩ := and_split g
              obtain ⟨g1, g2⟩ := and_split g
              obtain rfl := beq_iff_eq.mp g1
              obtain ⟨hb1, _⟩ := and_split hb
              obtain ⟨hb1, _⟩ := and_split hb1
              obtain ⟨_, hb1⟩ := and_split hb1
              have key := ss_setLc (W := W) (elt := elt) (tg := t) (iter := iter) (ifs := ifs) (scope := scope) (pos := lpos) (spos := pos) (py := px) (mi := denI C it) (tgt := tg) (mt := denT C c) (me := den C a) ok.e.calm ok.e.nd hi (beq_iff_eq.mp hb1) (by rw [sw_lc, hb]) (soundI it ok.e g6) (blk_of ok.e g2)
                (fun s H D cl fp => pg_of (ok.e.blk s H scope D cl fp) g3) (gOf_ok (K := X.K) tg) (fun i hi => by
                  rw [own_back]
                  exact List.contains_iff_mem.mp (List.all_eq_true.mp g4 i hi)) (fun s H D cl fp => soundC c (ok.e.blk s H scope D cl fp) g7) (fun s H D cl fp => (sound a (ok.e.blk s H scope D cl fp) g8).1) (folded_of g5)
              rw [own_back] at key
              exact key
            · exact ss_set' ok.e.nd hi l1 (sound _ ok.e h4').1 (by rw [sw_lc, Bool.eq_false_iff.mpr hb]) l2
          · cases h4
        | compN own tg it c a =>
          have h4' := h4
          unfold chk at h4
          split at h4
          · rename_i elt t iter ifs n scope lpos _
            by_cases hb : (X.env.blockKind == .function && X.env.kindOf x == some .local && px.line == lpos.line && !(scope.names.any fun (n, k) => n == x && (k == .local || k == .cell))) = true
            · obtain ⟨g, g8⟩ := and_split h4
              obtain ⟨g, g7⟩ := and_split g
              obtain ⟨g, g6⟩ := and_split g
              obtain ⟨g, g5⟩ := and_split g
              obtain ⟨g, g4⟩ := and_split g
              obtain ⟨g, g3⟩ := and_split g
              obtain ⟨g1, g2⟩ := and_split g
              obtain rfl := beq_iff_eq.mp g1
              obtain ⟨hb1, _⟩ := and_split hb
              obtain ⟨hb1, _⟩ := and_split hb1
              obtain ⟨_, hb1⟩ := and_split hb1
              have key := ss_setLcN (W := W) (elt := elt) (tg := t) (iter := iter) (ifs := ifs) (scope := scope) (pos := lpos) (spos := pos) (py := px) (mi := denI C it) (tgt := tg) (mt := denT C c) (me := den C a) ok.e.calm ok.e.nd hi (beq_iff_eq.mp hb1) (by rw [sw_lc, hb]) (soundI it ok.e g6) (blk_of ok.e g2)
                (fun s H D cl fp => pg_of (ok.e.blk s H scope D cl fp) g3) (gOf_ok (K := X.K) tg) (fun i hi => by
                  rw [own_back]
                  exact List.contains_iff_mem.mp (List.all_eq_true.mp g4 i hi)) (fun s H D cl fp => soundC c (ok.e.blk s H scope D cl fp) g7) (fun s H D cl fp => (sound a (ok.e.blk s H scope D cl fp) g8).1) (folded_of g5)
              rw [own_back] at key
              exact key
            · exact ss_set' ok.e.nd hi l1 (sound _ ok.e h4').1 (by rw [sw_lc, Bool.eq_false_iff.mpr hb]) l2
          · cases h4
        | _ => cases q
      · exact ss_set' ok.e.nd hi l1 (sound e ok.e h4).1 (sw_val q) l2
    · cases h
  | .asg is e, X, W, s, ok, h => by
    unfold chkS at h; split at h
    · rename_i ts k p v pos
      obtain ⟨h, h4⟩ := and_split h
      obtain ⟨h, h3⟩ := and_split h
      obtain ⟨h1, h2⟩ := and_split h
      refine ss_asg (sound e ok.e h4).1 (pg_of ok.e h1) (gOf_ok (K := X.K) (.tup is)) (by unfold swapsWithSole; exact sw_val h2) ?_ rfl
      cases v <;> first | rfl | cases h3
    · cases h
  | .par i j a b, X, W, s, ok, h => by
    unfold chkS at h; split at h
    · rename_i x px y py kt pt a' b' k2 pt2 pos
      obtain ⟨h, h13⟩ := and_split h
      obtain ⟨h, h12⟩ := and_split h
      obtain ⟨h, h11⟩ := and_split h
      obtain ⟨h, h10⟩ := and_split h
      obtain ⟨h, h9⟩ := and_split h
      obtain ⟨h, h8⟩ := and_split h
      obtain ⟨h, h7⟩ := and_split h
      obtain ⟨h, h6⟩ := and_split h
      obtain ⟨h, h5⟩ := and_split h
      obtain ⟨h, h4⟩ := and_split h
      obtain ⟨h, h3⟩ := and_split h
      obtain ⟨h1, h2⟩ := and_split h
      have lc : ∀ {z : Str}, (sc.lookup z == some NameKind.local) = true → X.env.scope.names.lookup z = some .local := fun {z} e => by
        rcases ok.e.see _ _ (beq_iff_eq.mp e) with q | ⟨q, _⟩
        · exact q
        · cases q
      refine ss_par ok.e.calm ok.e.nd (by rw [ok.e.N]; exact beq_iff_eq.mp h1) (by rw [ok.e.N]; exact beq_iff_eq.mp h2) (by simpa using h3) (lc h5) (lc h6) (sound a ok.e h12).1 (sound b ok.e h13).1 (star_of h8) (star_of h9)
        (swapped_two ok.kind (lc h5) (lc h6) h4 h7 h8 h9 h10 h11) rfl
    · cases h
  | .setIx o i e, X, W, s, ok, h => by
    unfold chkS at h; split at h
    · rename_i o' i' p1 v pos
      obtain ⟨h, h5⟩ := and_split h
      obtain ⟨h, h4⟩ := and_split h
      obtain ⟨h, h3⟩ := and_split h
      obtain ⟨h1, h2⟩ := and_split h
      refine ss_setIx (sound e ok.e h5).1 (sound o ok.e h3).1 (sound i ok.e h4).1 ?_ (by unfold swapsWithSole; exact sw_val h2) ?_ rfl
      · intro v
        cases i' <;> first | rfl | cases h1
      · cases v <;> rfl
    · cases h
  | .ret e, X, W, s, ok, h => by
    unfold chkS at h; split at h
    · exact ss_ret (sound e ok.e h).1
    · cases h
  | .retN, X, W, s, ok, h => by
    unfold chkS at h; split at h
    · exact ss_retN
    · cases h
  | .ifs c a b, X, W, s, ok, h => by
    unfold chkS at h; split at h
    · obtain ⟨h, h3⟩ := and_split h
      obtain ⟨h1, h2⟩ := and_split h
      exact ss_if (sound c ok.e h1).2 (soundB a ok h2) (soundB b ok h3)
    · cases h
  | .for_ tg it b, X, W, s, ok, h => by
    unfold chkS at h; split at h
    · obtain ⟨h, h4⟩ := and_split h
      obtain ⟨h, h3⟩ := and_split h
      obtain ⟨h1, h2⟩ := and_split h
      exact ss_for ok.passes ok.e.calm (soundI it ok.e h3) (pg_of ok.e h1) (gOf_ok tg) (soundB b ok h4) (folded_of h2)
    · cases h
  | .while_ n c b, X, W, s, ok, h => by
    unfold chkS at h; split at h
    · obtain ⟨h1, h2⟩ := and_split h
      exact ss_while ok.passes (sound c ok.e h1).2 (soundB b ok h2)
    · cases h
  | .dead, X, W, s, ok, h => by
    refine ⟨fun pins s σ H D I h => ?_⟩
    obtain ⟨_, _, _, _, _, z⟩ := h
    exact z.elim
  | .tryAs i j x yes no b, X, W, s, ok, h => by
    unfold chkS at h; split at h
    · obtain ⟨h, h14⟩ := and_split h
      obtain ⟨h, h13⟩ := and_split h
      obtain ⟨h, h12⟩ := and_split h
      obtain ⟨h, h11⟩ := and_split h
      obtain ⟨h, h10⟩ := and_split h
      obtain ⟨h, h9⟩ := and_split h
      obtain ⟨h, h8⟩ := and_split h
      obtain ⟨h, h7⟩ := and_split h
      obtain ⟨h, h6⟩ := and_split h
      obtain ⟨h, h5⟩ := and_split h
      obtain ⟨h, h4⟩ := and_split h
      obtain ⟨h, h3⟩ := and_split h
      obtain ⟨h1, h2⟩ := and_split h
      obtain rfl := beq_iff_eq.mp h1
      obtain rfl := beq_iff_eq.mp h2
      have lc : ∀ {z : Str}, (sc.lookup z == some NameKind.local) = true → X.env.kindOf z = some .local := fun {z} e => by
        rcases ok.e.see _ _ (beq_iff_eq.mp e) with q | ⟨q, _⟩
        · exact q
        · cases q
      obtain ⟨⟨p1, p2, p3⟩, hp, hp2⟩ := List.any_eq_true.mp h11
      obtain rfl := beq_iff_eq.mp hp2
      obtain ⟨hm, _⟩ := ok.e.subs p1 _ p3 (List.contains_iff_mem.mpr hp)
      exact ss_tryAs ok.stk ok.frm ok.e.nd (by rw [ok.e.N]; exact beq_iff_eq.mp h3) (by rw [ok.e.N]; exact beq_iff_eq.mp h4) (by simpa using h5) (lc h6) (lc h7) ⟨by simpa using h8, by simpa using h9⟩ ⟨(ok.e.gl h10).1, (ok.e.gl h10).2, .inl hm⟩ ok.e.takes
        (fun c hc => (ok.e.subs _ _ _ (List.all_eq_true.mp h12 c (List.contains_iff_mem.mp hc))).2) (fun c hc => (ok.e.subs _ _ _ (List.all_eq_true.mp h13 c (List.contains_iff_mem.mp hc))).2) (fun W' pn xe tk ps => soundB b (OkS.tr ok (pn := pn) (xe := xe) tk ps) h14)
    · cases h
  | .raise x, X, W, s, ok, h => by
    unfold chkS at h; split at h
    · obtain ⟨h, h3⟩ := and_split h
      obtain ⟨h1, h2⟩ := and_split h
      obtain rfl := beq_iff_eq.mp h1
      obtain ⟨e0, e1, e2, e3, e4, e5⟩ := ok.e.excs _ (List.contains_iff_mem.mp h3)
      exact ss_raise rfl e0 ok.e.calm ok.e.takes e1 e2 e3 e4 e5 (ok.e.gl h2).1 (ok.e.gl h2).2
    · cases h
  | .doE e, X, W, s, ok, h => by
    unfold chkS at h; split at h
    · obtain ⟨h1, h2⟩ := and_split h
      exact ss_do (sound e ok.e h2).1 (sw_val h1)
    · cases h
  | .bk, X, W, s, ok, h => by
    unfold chkS at h; split at h
    · exact ss_bk
    · cases h
  | .ct, X, W, s, ok, h => by
    unfold chkS at h; split at h
    · exact ss_ct
    · cases h
  | .pass, X, W, s, ok, h => by
    unfold chkS at h; split at h
    · exact ss_pass
    · cases h
theorem soundB : ∀ (x : Ss) {X : Cx} {W : WX} {ss : List Stmt}, OkS S C N sc X W → chkB' S N sc x ss = true → PSs X ss (tS X W (denB C x))
  | .nil, X, W, ss, ok, h => by
    unfold chkB' at h; split at h
    · exact ss_nil
    · cases h
  | .cons s r, X, W, ss, ok, h => by
    unfold chkB' at h; split at h
    · obtain ⟨h1, h2⟩ := and_split h
      exact ss_cons (soundS s ok h1) (soundB r ok h2)
    · cases h
end
end
end L2.Q

set_option maxHeartbeats 4000000
/-! Q layer, part O: defs as data, a table of them, what they do in so many steps. -/
namespace L2.Q
open PySem PySem.Spec PyProof.Rows

inductive Mode where
  | open_ | scope | pure
structure FnI where
  ps : List Str
  N : List Str
  mode : Mode
  body : Ss
abbrev FTab := List (Str × FnI)
def startE (n : Nat) (as : List Vv) : Env := as.map some ++ List.replicate (n - as.length) none
def bodyF (C : Cs) (n : Nat) (b : Ss) : List Vv → Sto → Res Vv := fun as st => match denB C b (startE n as) st with
  | .ok (.ret v) _ st' => .ok v st'
  | .ok .nx _ st' => .ok (.d .none) st'
  | .exc e _ st' => .exc e st'
  | _ => .fail
def Mode.of : Mode → (List Vv → Sto → Res Vv) → List Vv → Sto → Res Vv
  | .open_, F => F
  | .scope, F => scopeF F
  | .pure, F => pureF F
def FnI.run (F : FnI) (C : Cs) : List Vv → Sto → Res Vv := F.mode.of (bodyF C F.N.length F.body)
def run (T : FTab) : Nat → Cs
  | 0, _, _, _ => .fail
  | k + 1, x, as, st => match T.lookup x with
    | some F => F.run (run T k) as st
    | none => .fail
/-- what the top gives -/
structure Facts (S : Sg) (w : World) (K : PySem.W.Frag) (mg : Str → Option Value) : Prop where
  igi : ∀ x i, S.gi.lookup x = some i → ∃ t, mg x = some (.int i t)
  igs : ∀ x i, S.gs.lookup x = some i → ∃ t, mg x = some (.str i t)
  frees : ∀ x, x ∈ S.frees → mg x = none
  tabs : ∀ x t, S.tabs.lookup x = some t → ∃ a, mg x = some (.ref a) ∧ TabIs K w a t.dat
  excs : ∀ x, x ∈ S.excs → exKB K (He.ga K x) = true ∧ PySem.W.excIn K (He.ga K x) He.veBase "ValueError.__new__" = true ∧ mg x = some (.ref (He.ga K x)) ∧ PySem.W.keepIn K (.ref (He.ga K x)) = true ∧ PySem.W.subIn K (.ref (He.ga K x)) (.type "BaseException") = some true ∧ PySem.W.typeIn K (.ref (He.ga K x)) = some (.type "type")
  subs : ∀ x y b, S.subs.contains (x, y, b) = true → mg y = some (.ref (He.ga K y)) ∧ PySem.W.exmOne K (.ref (He.ga K x)) (.ref (He.ga K y)) = some b
  isas : ∀ x yes no, S.isas.contains (x, yes, no) = true → mg x = some (.ref (He.ga K x)) ∧ IsxK K (.ref (He.ga K x)) yes no
  isbs : ∀ x yes no, S.isbs.contains (x, yes, no) = true → IsxK K (.type "ValueError") yes no
  flds : ∀ c f, S.flds.contains (c, f) = true → PySem.W.findIn K (.ref (He.ga K c)) f = some none
/-- a def of the table stands in the text -/
structure FnP (S : Sg) (K : PySem.W.Frag) (mg : Str → Option Value) (x : Str) (F : FnI) (f : Addr) (fd : FuncData) : Prop where
  ex : ∃ params body scope, FunD K x x params body scope [] [] f fd ∧ FnScope F.N F.ps scope ∧ chkB' S F.N scope.names F.body body = true
  glo : mg x = some (.ref f)
  bindA : ∀ (s : Shared) (us : List Value), us.length = F.ps.length → BindsTo s fd ⟨us, []⟩ (F.ps.zip us)
theorem FnP.bind {S : Sg} {K : PySem.W.Frag} {mg : Str → Option Value} {x : Str} {F : FnI} {f : Addr} {fd : FuncData} (D : FnP S K mg x F f fd) : Binds K fd F.ps [] := fun s us _ hl => by
  rw [List.append_nil] at hl ⊢
  exact D.bindA s us hl
def FnsP (S : Sg) (K : PySem.W.Frag) (mg : Str → Option Value) : FTab → Prop
  | [] => True
  | (x, F) :: r => (∃ f fd, FnP S K mg x F f fd) ∧ FnsP S K mg r
theorem FnsP.at_ {S : Sg} {K : PySem.W.Frag} {mg : Str → Option Value} : ∀ {T : FTab} {x : Str} {F : FnI}, FnsP S K mg T → T.lookup x = some F → ∃ f fd, FnP S K mg x F f fd
  | [], _, _, _, e => by simp at e
  | (y, G) :: r, x, F, ⟨h1, h2⟩, e => by
    rw [List.lookup_cons] at e
    cases q : x == y with
    | true =>
      rw [q] at e
      cases e
      obtain rfl := beq_iff_eq.mp q
      exact h1
    | false =>
      rw [q] at e
      exact FnsP.at_ h2 e
section
variable {P : Program} {w : World} {K : PySem.W.Frag} {mg : Str → Option Value} {base : Heap} {S : Sg}
theorem start_env {c : Cfg} {N : List Str} {as : List Vv} {vs : List V} (h : RVs K c as vs) : EnvR K c (start N vs) (startE N.length as) := by
  have hl := RVs.many h
  refine ⟨?_, fun i x e => ?_⟩
  · unfold start startE
    simp only [List.length_append, List.length_map, List.length_replicate]
    omega
  · have gen : ∀ (as : List Vv) (vs : List V) (n m : Nat) (i : Nat), RVs K c as vs → (as.map some ++ List.replicate n none)[i]? = some (some x) → ∃ v, (vs.map some ++ List.replicate m none)[i]? = some (some v) ∧ RV K c x v := by
      intro as
      induction as with
      | nil =>
        intro vs n m i h e
        rw [List.map_nil, List.nil_append, List.getElem?_replicate] at e
        split at e <;> cases e
      | cons a as ih =>
        intro vs n m i h e
        obtain ⟨v, r, rfl, h1, h2⟩ := h
        cases i with
        | zero =>
          simp at e
          subst e
          exact ⟨v, by simp, h1⟩
        | succ i =>
          obtain ⟨u, q1, q2⟩ := ih r n m i h2 (by simpa using e)
          exact ⟨u, by simpa using q1, q2⟩
    exact gen as vs _ _ i h e
theorem body_out {c : Cfg} {H : Hp} {C : Cs} {n : Nat} {b : Ss} {as : List Vv} {st : Sto} {Q : VK} {E : XK} (h : Out K mg c H (bodyF C n b as st) (fun a _ c' H' => ∀ x, RV K c' a x → Q x H') E) :
    SOut K mg (fun cls d _ H => E cls d H) { nx := fun _ H' => Q .non H', rt := Q } c H (denB C b (startE n as) st) := by
  unfold bodyF at h
  cases e : denB C b (startE n as) st with
  | fail => rw [e] at h; exact h
  | exc x ρ st1 =>
    rw [e] at h
    exact fun σ' cls d c' H' g r en y => h cls d c' H' g r y
  | ok f ρ st1 =>
    rw [e] at h
    cases f with
    | nx => exact fun σ' c' H' g r en => h c' H' g r .non .non
    | ret v => exact fun σ' c' H' g r en x hx => h c' H' g r x hx
    | bk => exact h.elim
    | ct => exact h.elim
/-- a def by its body -/
theorem fnG_body {C : Cs} {k : Nat} {x : Str} {F : FnI} {f : Addr} {fd : FuncData} (FA : Facts S w K mg) (D : FnP S K mg x F f fd)
    (hS : ∀ y n, S.fns.lookup y = some n → ∃ f fd ps, FnG P w K mg base k f fd ps (spF K mg n (C y)) ∧ mg y = some (.ref f) ∧ PySem.W.keepIn K (.ref f) = true ∧ Binds K fd ps []) :
    FnG P w K mg base (k + 1) f fd F.ps (spF K mg F.ps.length (bodyF C F.N.length F.body)) := by
  obtain ⟨params, body, scope, fD, sc, ck⟩ := D.ex
  obtain ⟨oc, od, dV, kV, doc, pm, an, cdv, ct, osl, efd, lk, hcd, _, _⟩ := fD.ex
  subst efd
  constructor
  · intro vs H Q E ⟨c, st, as, hl, hv, _⟩
    rw [RVs.many hv, hl]
  intro A outer s H us vs Q E hr hgu e0 hb r hsp
  obtain ⟨c, st, as, hl, hv, rel, o⟩ := hsp
  have lv : vs.length = F.ps.length := (RVs.many hv).trans hl
  have up : ∀ b ob, base.get? b = some ob → s.heap.get? b = some ob := fun b ob e => (e0.bs b ob e).1
  have hin : K.In s.heap := e0.mod.kin.keeps up
  have kinds : ∀ y ∈ F.ps.zip us, scope.names.lookup y.1 = some .local ∨ (scope.names.lookup y.1 = some .cell ∧ ((cellsFrom (s.heap.objs.size + 1) scope.names []).lookup y.1).isSome = true) := by
    rintro ⟨y, v⟩ hy
    have q := sc.par y (List.of_mem_zip hy).1
    exact q.elim .inl fun q => .inr ⟨q, PySem.W.cellsFrom_some _ _ _ (.inl q)⟩
  refine codeAny_call_function hr.depth (hin f _ lk) rfl sc.co sc.gen rfl (PySem.W.codeRec_of hin hcd) (hb _ _ _ _ ?_)
  apply wpAny_newFunctionEnv_cells sc.kind kinds
  rintro env rfl s1 x1
  refine ⟨(e0.mod.nolimit.keeps up).keeps x1.toInCall.keep, codeAny_func ?_⟩
  let X : Cx := cxOf (L2.CX P w) P w K mg base F.N x scope f cdv A outer s H E
  have I : Inv X [] (start F.N vs) H s1 := inv_start sc hr.hd e0 lv r x1
  have room : Room k X.A := hr.deeper _
  have ok : OkS S C F.N scope.names X (fun cls d _ H => E cls d H) := {
    e := {
      N := rfl
      nd := sc.nd
      calm := rfl
      gu := hgu
      un := by have := room.un; omega
      see := fun y k h => .inl h
      fn := fun _ _ => rfl
      takes := takes_of rfl rfl rfl rfl
      igi := FA.igi
      igs := FA.igs
      frees := FA.frees
      tabs := FA.tabs
      excs := FA.excs
      subs := FA.subs
      isas := FA.isas
      isbs := FA.isbs
      flds := FA.flds
      fns := fun y n h => by
        obtain ⟨f2, fd2, ps2, G, g1, g2, g3⟩ := hS y n h
        exact ⟨k, f2, fd2, ps2, G, room, g1, g2, g3⟩ }
    kind := sc.kind
    passes := passes_of (X := X) rfl
    stk := rfl
    frm := rfl }
  have T := soundB F.body ok ck
  refine wpAny_mono (T.run [] s1 (start F.N vs) H { nx := fun _ H' => Q .non H', rt := Q } I ⟨c, st, startE F.N.length as, start_env hv, rel, body_out o⟩) (fun fl s' hs => ?_) fun e s' hs => hs
  have fin : ∀ {σ' : St} {H' : Hp} {v : V} {u : Value}, Inv X [] σ' H' s' → RelV v u → Q v H' → CE outer P w H s Q u s' := fun {_ H' v _} J rv q => ⟨v, H', J.os, J.bare, J.base, J.hok, rv, q⟩
  cases fl with
  | ret u =>
    obtain ⟨v, _, _, J, rv, q⟩ := hs
    exact fin J rv q
  | next =>
    obtain ⟨_, _, J, q⟩ := hs
    exact fin (v := V.non) (u := Value.none) J rfl q
  | brk =>
    obtain ⟨_, _, _, q⟩ := hs
    exact q.elim
  | cont =>
    obtain ⟨_, _, _, q⟩ := hs
    exact q.elim
theorem FnG.imp {k : Nat} {f : Addr} {fd : FuncData} {ps : List Str} {sp sp' : Sp} (G : FnG P w K mg base k f fd ps sp) (h : ∀ vs H Q E, sp' vs H Q E → sp vs H Q E) : FnG P w K mg base k f fd ps sp' :=
  ⟨fun vs H Q E q => G.many _ _ _ _ (h _ _ _ _ q), fun A outer s H us vs Q E hr hg e0 hb r q => G.runs A outer s H us vs Q E hr hg e0 hb r (h _ _ _ _ q)⟩
theorem fnG_run {C : Cs} {k : Nat} {x : Str} {F : FnI} {f : Addr} {fd : FuncData} (FA : Facts S w K mg) (D : FnP S K mg x F f fd)
    (hS : ∀ y n, S.fns.lookup y = some n → ∃ f fd ps, FnG P w K mg base k f fd ps (spF K mg n (C y)) ∧ mg y = some (.ref f) ∧ PySem.W.keepIn K (.ref f) = true ∧ Binds K fd ps []) :
    FnG P w K mg base (k + 1) f fd F.ps (spF K mg F.ps.length (F.run C)) := by
  have G := fnG_body (C := C) FA D hS
  unfold FnI.run
  cases F.mode with
  | open_ => exact G
  | scope => exact G.imp fun vs H Q E h => sp_scope h
  | pure => exact G.imp fun vs H Q E h => sp_pure h
/-- all defs of the table, in so many steps -/
theorem fns_run {T : FTab} (FA : Facts S w K mg) (FT : FnsP S K mg T) (hS : ∀ x n, S.fns.lookup x = some n → ∃ F, T.lookup x = some F ∧ F.ps.length = n) : ∀ (k : Nat) (x : Str) (n : Nat), S.fns.lookup x = some n →
    ∃ f fd ps, FnG P w K mg base k f fd ps (spF K mg n (run T k x)) ∧ mg x = some (.ref f) ∧ PySem.W.keepIn K (.ref f) = true ∧ Binds K fd ps []
  | 0, x, n, h => by
    obtain ⟨F, h1, h2⟩ := hS x n h
    obtain ⟨f, fd, D⟩ := FT.at_ h1
    obtain ⟨_, _, _, fD, _, _⟩ := D.ex
    refine ⟨f, fd, F.ps, ⟨fun vs H Q E ⟨c, st, as, hl, hv, rel, o⟩ => o.elim, fun A outer s H us vs Q E hr hgu e0 hb r ⟨c, st, as, hl, hv, rel, o⟩ => o.elim⟩, D.glo, fD.kp, D.bind⟩
  | k + 1, x, n, h => by
    obtain ⟨F, h1, h2⟩ := hS x n h
    obtain ⟨f, fd, D⟩ := FT.at_ h1
    obtain ⟨_, _, _, fD, _, _⟩ := D.ex
    have G := fnG_run (P := P) (base := base) (C := run T k) (k := k) FA D (fns_run FA FT hS k)
    refine ⟨f, fd, F.ps, ?_, D.glo, fD.kp, D.bind⟩
    have e : run T (k + 1) x = F.run (run T k) := by
      funext as st
      show (match T.lookup x with
        | some F => F.run (run T k) as st
        | none => Res.fail) = _
      rw [h1]
    rw [e, ← h2]
    exact G
end
end L2.Q

set_option maxHeartbeats 4000000
/-! Q layer, part P: a law's end. -/
namespace L2.Q
open PySem PySem.Spec PyProof.Rows

/-- the law as a def of the table, called with the script -/
theorem end_call {P : Program} {w : World} {K : PySem.W.Frag} {mg mb : Str → Option Value} {k : Nat} {fa a : Addr} {fd : FuncData} {x : Str} {F : List Vv → Sto → Res Vv} {s₁ : Shared} {vs : List Value} {ns : List Int}
    (KX : K.In s₁.heap) (hns : s₁.heap.Ns mainGlobals mg) (hb : s₁.heap.Ns builtinsNs mb) (hbb : ∀ x : Str, x ≠ "__name__" → mb x = bootBuiltins x) (hlim : s₁.heap.NoLimit) (hg : s₁.gens = #[])
    (ha : s₁.heap.get? a = some { cls := .type "list", data := .seq vs.toArray }) (hi : IntsAre vs ns) (hl : ns.length ≤ sizeLine) (hr : Room k callerA)
    (G : ∀ base : Heap, K.In base → FnG P w K mg base k fa fd [x] (spF K mg 1 F)) (hbind : ∀ (s : Shared) (u : Value), BindsTo s fd ⟨[u], []⟩ [(x, u)])
    (hF : ∃ st, F [.d (.list (ns.map .int))] [] = .ok (.d (.bool true)) st) :
    codeAny (model P w) callerA (.call (.ref fa) ⟨[.ref a], []⟩) (fun r s' => r = .ok (.ret (.bool true)) ∧ OldK s₁.heap s'.heap ∧ s'.os = s₁.os ∧ AllBare s'.gens) s₁ := by
  have rv := vals_ints hi
  have lenV := hi.length
  have allInts : ∀ (G : Hp) (ns : List Int), DQAll K G (ns.map V.int) (ns.map PyData.int) := fun G ns => by
    induction ns with
    | nil => exact .nil
    | cons n ns ih => exact .cons (.int n) ih
  suffices core : ∀ H : Hp, (∀ b u, H b = some u → b = a ∧ u = .frz { cls := .type "list", data := .seq vs.toArray } (.lst (ns.map V.int))) → RdL K H a (ns.map V.int) → (∀ b, H b ≠ none → K.lookup b = none) →
      codeAny (model P w) callerA (.call (.ref fa) ⟨[.ref a], []⟩) (fun r s' => r = .ok (.ret (.bool true)) ∧ OldK s₁.heap s'.heap ∧ s'.os = s₁.os ∧ AllBare s'.gens) s₁ by
    cases hk : K.lookup a with
    | some o =>
      have e := KX a o hk
      rw [ha] at e
      cases e
      refine core (fun _ => none) (fun b u z => nomatch (show (none : Option HO) = some u from z)) (.inr ⟨vs.toArray, _, hk, ?_, by simpa using rv⟩) fun b z => absurd rfl z
      rw [List.size_toArray, lenV]
      exact hl
    | none =>
      refine core (upd (fun _ => none) a (.frz { cls := .type "list", data := .seq vs.toArray } (.lst (ns.map V.int)))) (fun b u z => ?_) (.inl (.inr ⟨_, upd_same⟩)) fun b z => ?_
      · by_cases e : b = a
        · subst e
          rw [upd_same] at z
          exact ⟨rfl, (Option.some.inj z).symm⟩
        · rw [upd_ne e] at z
          cases z
      · by_cases e : b = a
        · rw [e]; exact hk
        · rw [upd_ne e] at z
          exact absurd rfl z
  intro H only hS hK
  have hok : HOk P w H s₁.heap := fun b u e => by
    obtain ⟨rfl, rfl⟩ := only b u e
    exact ⟨ha, by rw [List.length_map]; exact hl, vs, 0, rv, ha⟩
  have still : ∀ {b : Addr} {o : Obj}, s₁.heap.get? b = some o → H b = none → (hidT s₁.heap H).get? b = some o := fun e n => hidT_get e n
  have dict : ∀ {b : Addr} {o : Obj} {es : Array DictEntry} {n : Nat}, s₁.heap.get? b = some o → o.data = .dict es n → H b = none := fun {b o es n} e d => by
    cases q : H b with
    | none => rfl
    | some u =>
      obtain ⟨rfl, _⟩ := only b u q
      rw [ha] at e
      cases e
      cases d
  have space : ∀ {b : Addr} {m : Str → Option Value}, s₁.heap.Ns b m → (hidT s₁.heap H).Ns b m := fun {b m} ⟨o, es, n, e, d, r⟩ => ⟨o, es, n, still e (dict e d), d, r⟩
  have inB : K.In (hidT s₁.heap H) := fun b o e => still (KX b o e) (by
    cases q : H b with
    | none => rfl
    | some u =>
      have z := hK b (by rw [q]; simp)
      rw [e] at z
      cases z)
  have md : Mod K mg (hidT s₁.heap H) := { kin := inB, glob := space hns, blt := ⟨mb, space hb, hbb⟩, nolimit := let ⟨mc, h1, h2⟩ := hlim; ⟨mc, space h1, h2⟩ }
  have env : Env0 P w K mg (hidT s₁.heap H) callerA [] s₁ H := { frames := rfl, mod := md, bs := fun b o e => of_hidT e, bsz := Nat.le_of_eq (hidT_size _ _), funs := trivial, frf := fun b hb => (nomatch (show b ∈ ([] : List Addr) from hb)), hok := hok, bare := .of_eq hg }
  obtain ⟨stF, eF⟩ := hF
  have sp : spF K mg 1 F [.ref a] H (fun v _ => v = .bl true) fun _ _ _ => False := by
    refine ⟨⟨H, []⟩, [], [.d (.list (ns.map .int))], rfl, ⟨.ref a, [], rfl, .lst hS (by rw [List.length_map]; exact hl) (allInts H ns), rfl⟩, ⟨fun _ _ e => e, rfl, List.nodup_nil, fun n b o h => by simp at h, fun n b o h => by simp at h⟩, ?_⟩
    rw [eF]
    exact fun c' H' g r x hx => dp_bool hx
  refine codeAny_mono ((G _ inB).runs callerA [] s₁ H [.ref a] [.ref a] _ _ hr rfl env (hbind s₁ (.ref a)) (.cons rfl .nil) sp) fun r s' h => ?_
  cases r with
  | error e =>
    obtain ⟨_, _, _, _, _, _, _, _, _, _, _, _, q⟩ := h
    exact q.elim
  | ok fl =>
    cases fl with
    | next => exact h.elim
    | brk => exact h.elim
    | cont => exact h.elim
    | ret u =>
      obtain ⟨v, H', os, bare, un, hok', r', rfl⟩ := h
      cases (show u = Value.bool true from r')
      refine ⟨rfl, OldK.of_keep fun b o e => ?_, os, bare⟩
      cases q : H b with
      | none => exact un.keep b o e q (fun z => nomatch (show b ∈ ([] : List Addr) from z)) (by simp)
      | some u =>
        obtain ⟨rfl, rfl⟩ := only b u q
        have same := (hok b _ q).1
        rw [e] at same
        cases same
        exact (hok' b _ (un.frzs b _ _ q)).1
/-- the goal that the head leaves, from what the law's def does -/
theorem law_end {l : PySem.W.OpenLaw} {n k : Nat} {q : Program} {loose : List Str} {XP : (Str → Option Value) → Heap → Prop} {YP : World → Heap → Prop} {d : DefRec} {x : Str} {F : List Vv → Sto → Res Vv}
    (hn : l.most = some n) (hn2 : n ≤ sizeLine) (hdf : d.params.defaults = []) (hr : Room k callerA)
    (hY : ∀ (w : World) (mg : Str → Option Value) (fa : Addr) (h : Heap), YP w h → h.Ns mainGlobals mg → mg d.name = some (.ref fa) →
      ∃ (K : PySem.W.Frag) (fd : FuncData), K.In h ∧ (∀ (s : Shared) (u : Value), BindsTo s fd ⟨[u], []⟩ [(x, u)]) ∧ ∀ base : Heap, K.In base → FnG l.prog w K mg base k fa fd [x] (spF K mg 1 F))
    (hF : ∀ ns : List Int, ns.length ≤ n → ∃ st, F [.d (.list (ns.map .int))] [] = .ok (.d (.bool true)) st) :
    PySem.W.WalkO q loose XP YP l.row.toRowW d [] (fun f vs => PySem.call f vs) := by
  refine Att.attach_call hn hdf fun w s₀ s₁ mg mb fa o pm cd doc a vs ns gr Y ho hd hcd hmg hobj hints hlen hg => ?_
  obtain ⟨K, fd, KX, hb, hG⟩ := hY w mg fa _ Y gr.T.g hmg
  exact end_call KX gr.T.g gr.T.b gr.T.builtins gr.T.nolimit hg hobj hints (Nat.le_trans hlen hn2) hr hG hb (hF ns hlen)
end L2.Q

set_option maxHeartbeats 4000000
/-! Q layer, part R: what the head tells. -/
namespace L2.Q
open PySem PySem.Spec PyProof.Rows

/-! ### plain parameters -/
def plainP (p : Arguments) (ps : List Str) : Bool := match p with
  | ⟨[], as, none, [], _, none, []⟩ => as.map (·.arg) == ps && decide ps.Nodup
  | _ => false
theorem zip_look {ps : List Str} {us : List Value} (hl : us.length = ps.length) : ∀ n ∈ ps, ((ps.zip us).lookup n).isSome = true := by
  induction ps generalizing us with
  | nil => intro n h; cases h
  | cons p ps ih =>
    intro n h
    cases us with
    | nil => cases hl
    | cons u us =>
      rw [List.zip_cons_cons, List.lookup_cons]
      cases q : n == p with
      | true => rfl
      | false =>
        refine ih (by simpa using hl) n ?_
        rcases List.mem_cons.mp h with z | z
        · rw [z] at q; simp at q
        · exact z
theorem zip_all : ∀ {ps : List Str} {us : List Value}, ps.Nodup → us.length = ps.length → (ps.filterMap fun n => ((ps.zip us).lookup n).map (n, ·)) = ps.zip us := by
  have gen : ∀ (ps : List Str) (us : List Value) (l : List (Str × Value)), us.length = ps.length → (∀ n u, (n, u) ∈ ps.zip us → l.lookup n = some u) → (ps.filterMap fun n => (l.lookup n).map (n, ·)) = ps.zip us := by
    intro ps
    induction ps with
    | nil => intro us l hl h; cases us <;> rfl
    | cons p ps ih =>
      intro us l hl h
      cases us with
      | nil => cases hl
      | cons u us =>
        rw [List.zip_cons_cons] at h ⊢
        rw [List.filterMap_cons, h p u (List.mem_cons_self ..)]
        exact congrArg ((p, u) :: ·) (ih us l (by simpa using hl) fun n v hm => h n v (List.mem_cons_of_mem _ hm))
  intro ps us nd hl
  refine gen ps us _ hl ?_
  clear gen
  induction ps generalizing us with
  | nil => intro n u h; cases us <;> cases h
  | cons p ps ih =>
    intro n u h
    cases us with
    | nil => cases hl
    | cons v us =>
      rw [List.zip_cons_cons] at h ⊢
      rw [List.lookup_cons]
      rcases List.mem_cons.mp h with z | z
      · cases z
        simp
      · have hn : n ∈ ps := (List.of_mem_zip z).1
        have ne : (n == p) = false := by
          rw [beq_eq_false_iff_ne]
          rintro rfl
          exact (List.nodup_cons.mp nd).1 hn
        rw [ne]
        exact ih (List.nodup_cons.mp nd).2 (by simpa using hl) n u z
theorem bind_plain {x qual : Str} {params : Arguments} {body : List Stmt} {scope : Scope} {kV doc pm : Value} {an : Option Addr} {cdv ct : Value} {ps : List Str} {us : List Value} (h : plainP params ps = true) (hl : us.length = ps.length) :
    bindArgs (PySem.W.fnOf x qual params body scope .none kV doc pm an cdv ct) ⟨us, []⟩ = pure (ps.zip us) := by
  unfold plainP at h
  split at h
  · rename_i as kd
    obtain ⟨h1, h2⟩ := and_split h
    have e : as.map (·.arg) = ps := beq_iff_eq.mp h1
    have nd : ps.Nodup := of_decide_eq_true h2
    have miss : (ps.filter fun n => ((ps.zip us).lookup n).isNone) = [] := by
      rw [List.filter_eq_nil_iff]
      intro n hn
      have := zip_look hl n hn
      cases q : (ps.zip us).lookup n with
      | none => rw [q] at this; cases this
      | some v => simp
    have lg : ¬ us.length > ps.length := by omega
    have all := zip_all nd hl
    simp only [bindArgs, PySem.W.fnOf, e, List.map_nil, List.nil_append, List.append_nil, List.length_nil]
    have sq : seqItems? Value.none = pure none := rfl
    rw [sq]
    simp [miss, lg, all, List.take_length]
  · cases h

/-! ### a def of the text by a look -/
def scopeB (N ps : List Str) (sc : Scope) : Bool :=
  sc.kind == .function && !sc.isCoroutine && !sc.isGenerator && decide N.Nodup && N.take ps.length == ps && ps.all (fun x => loc sc.names x) && sc.names.all (fun y => y.2 != .free)
theorem scope_of {N ps : List Str} {sc : Scope} (h : scopeB N ps sc = true) : FnScope N ps sc := by
  unfold scopeB at h
  obtain ⟨h, h7⟩ := and_split h
  obtain ⟨h, h6⟩ := and_split h
  obtain ⟨h, h5⟩ := and_split h
  obtain ⟨h, h4⟩ := and_split h
  obtain ⟨h, h3⟩ := and_split h
  obtain ⟨h1, h2⟩ := and_split h
  refine ⟨beq_iff_eq.mp h1, by simpa using h2, by simpa using h3, of_decide_eq_true h4, beq_iff_eq.mp h5, fun x hx => ?_, fun y hy e => ?_⟩
  · have q := List.all_eq_true.mp h6 x hx
    unfold loc at q
    split at q
    · left; assumption
    · right; assumption
    · cases q
  · have q := List.all_eq_true.mp h7 y hy
    rw [e] at q
    simp at q
structure Row where
  x : Str
  F : FnI
  i : Nat
def stAt (body : List Stmt) (i : Nat) : Stmt := body.getD i (.Pass ⟨0, 0, 0, 0⟩)
def Row.def_ (body : List Stmt) (r : Row) : He.DefD := ⟨(r.x, none), r.x, r.x, defArgs (stAt body r.i), defBody (stAt body r.i), defScope (stAt body r.i), [], []⟩
def Row.ok (S : Sg) (body : List Stmt) (r : Row) : Bool := plainP (defArgs (stAt body r.i)) r.F.ps && scopeB r.F.N r.F.ps (defScope (stAt body r.i)) && chkB' S r.F.N (defScope (stAt body r.i)).names r.F.body (defBody (stAt body r.i))
abbrev tabOf (rows : List Row) : FTab := rows.map fun r => (r.x, r.F)
/-! ### a table of the text -/
def entB : List DictEntry → Tab → Bool
  | [], [] => true
  | e :: es, (k, c) :: t => (match e.key with
    | .str x _ => x == k
    | _ => false) && (match c, e.val with
    | .i n, .int m _ => n == m
    | .s z, .str y _ => z == y
    | _, _ => false) && entB es t
  | _, _ => false
def tabB (K : PySem.W.Frag) (a : Addr) (t : Tab) : Bool := match K.lookup a with
  | some ⟨_, _, .dict es _, _⟩ => entB es.toList t
  | _ => false
def Meet (K : PySem.W.Frag) (o : Option PyData) (p : Option Value) : Prop := match o, p with
  | some d, some u => ∃ v, RelV v u ∧ ∀ G, DQ K G v d
  | none, none => True
  | _, _ => False
theorem ent_look {K : PySem.W.Frag} : ∀ {es : List DictEntry} {t : Tab}, entB es t = true → ∀ z : Str, Meet K ((t.dat).lookup z) ((es.find? fun e => Value.isStrOf z e.key).map (·.val))
  | [], [], _, z => trivial
  | [], _ :: _, h, _ => by cases h
  | _ :: _, [], h, _ => by cases h
  | e :: es, (k, c) :: t, h, z => by
    unfold entB at h
    obtain ⟨h, h3⟩ := and_split h
    obtain ⟨h1, h2⟩ := and_split h
    have ih := ent_look (K := K) h3 z
    obtain ⟨hash, key, val⟩ := e
    cases key with
    | str x tk =>
      have ex : x = k := beq_iff_eq.mp h1
      subst ex
      show Meet K (List.lookup z ((x, c.dat) :: Tab.dat t)) ((List.find? (fun e : DictEntry => Value.isStrOf z e.key) (⟨hash, .str x tk, val⟩ :: es)).map (·.val))
      by_cases q : z = x
      · subst q
        have e1 : (List.find? (fun e : DictEntry => Value.isStrOf z e.key) (⟨hash, .str z tk, val⟩ :: es)) = some ⟨hash, .str z tk, val⟩ := by
          rw [List.find?_cons]
          have : Value.isStrOf z (.str z tk) = true := by simp [Value.isStrOf]
          rw [this]
        rw [e1, List.lookup_cons, beq_self_eq_true]
        show ∃ v, RelV v val ∧ ∀ G, DQ K G v c.dat
        cases c with
        | i n =>
          cases val with
          | int m t2 =>
            obtain rfl : n = m := beq_iff_eq.mp h2
            exact ⟨.int n, ⟨t2, rfl⟩, fun G => .int n⟩
          | _ => cases h2
        | s y =>
          cases val with
          | str m t2 =>
            obtain rfl : y = m := beq_iff_eq.mp h2
            exact ⟨.str y, ⟨t2, rfl⟩, fun G => .str y⟩
          | _ => cases h2
      · have e1 : (List.find? (fun e : DictEntry => Value.isStrOf z e.key) (⟨hash, .str x tk, val⟩ :: es)) = List.find? (fun e : DictEntry => Value.isStrOf z e.key) es := by
          rw [List.find?_cons]
          have : Value.isStrOf z (.str x tk) = false := by simp [Value.isStrOf]; exact fun e => q e.symm
          rw [this]
        have e2 : (z == x) = false := beq_eq_false_iff_ne.mpr q
        rw [e1, List.lookup_cons, e2]
        exact ih
    | _ => cases h1
theorem tab_of {K : PySem.W.Frag} {w : World} {a : Addr} {t : Tab} {es : Array DictEntry} {n : Nat} (k : KDict K w a es n) (h : tabB K a t = true) : TabIs K w a t.dat := by
  unfold tabB at h
  rw [k.at_] at h
  refine ⟨es, n, k, fun z => ?_⟩
  have e := ent_look (K := K) h z
  unfold findBy
  rw [← Array.find?_toList]
  exact e
/-! ### the head's facts from the signature -/
def faOf0 (S : Sg) : List He.Fa := S.fns.map (fun p => .glo p.1) ++ S.frees.map .free ++ S.gi.map (fun p => .int p.1 p.2) ++ S.gs.map (fun p => .str p.1 p.2) ++ S.tabs.map (fun p => .glo p.1) ++ S.excs.map .exc ++ S.excs.map .glo
def faOf (S : Sg) : List He.Fa := faOf0 S ++ (S.subs.map (fun p => .glo p.2.1) ++ S.isas.map (fun p => .glo p.1))
def tsOf (S : Sg) : List He.Tab := S.tabs.map fun p => ((fun K => He.ga K p.1), p.2.map (·.1))
def isxB (K : PySem.W.Frag) (cv : Value) (yes no : List Str) : Bool := yes.all (fun C => decide (PySem.W.kitOne K (.ref (He.ga K C)) cv = some true)) && no.all (fun C => decide (PySem.W.kitOne K (.ref (He.ga K C)) cv = some false)) && tyNames.all fun t => decide (PySem.W.kitOne K (.type t) cv = some false)
theorem isx_of {K : PySem.W.Frag} {cv : Value} {yes no : List Str} (h : isxB K cv yes no = true) : IsxK K cv yes no := by
  unfold isxB at h
  simp only [Bool.and_eq_true, List.all_eq_true, decide_eq_true_eq] at h
  obtain ⟨⟨h1, h2⟩, h3⟩ := h
  exact ⟨fun C hC => h1 C (List.contains_iff_mem.mp hC), fun C hC => h2 C (List.contains_iff_mem.mp hC), h3⟩
def exOf (S : Sg) (K : PySem.W.Frag) : Bool := (S.tabs.all fun p => tabB K (He.ga K p.1) p.2) && (S.excs.all fun x => exKB K (He.ga K x)) && (S.subs.all fun p => decide (PySem.W.exmOne K (.ref (He.ga K p.1)) (.ref (He.ga K p.2.1)) = some p.2.2)) &&
  (S.isas.all fun p => isxB K (.ref (He.ga K p.1)) p.2.1 p.2.2) && (S.isbs.all fun p => isxB K (.type "ValueError") p.2.1 p.2.2) && (S.flds.all fun p => decide (PySem.W.findIn K (.ref (He.ga K p.1)) p.2 = some none))
theorem lookup_mem2 {α : Type} {l : List (Str × α)} {x : Str} {a : α} (h : l.lookup x = some a) : (x, a) ∈ l := PySem.mem_of_lookup h
section
variable {S : Sg} {rows : List Row} {body : List Stmt} {w : World} {h : Heap} {K : PySem.W.Frag} {mg : Str → Option Value}
abbrev Says (S : Sg) (rows : List Row) (body : List Stmt) (w : World) (h : Heap) (K : PySem.W.Frag) : Prop := He.SaysX (faOf S) (rows.map (Row.def_ body)) (tsOf S) [] (exOf S) w h K
theorem facts_of (X : K.In h) (G : h.Ns mainGlobals mg) (c : Says S rows body w h K) : Facts S w K mg := by
  have d := c.t.d
  have f0 : ∀ f ∈ faOf S, f.ok K = true := fun f hf => d.facts hf
  have f : ∀ f ∈ faOf0 S, f.ok K = true := fun f hf => f0 f (List.mem_append_left _ hf)
  have f1 : ∀ p ∈ S.subs, (He.Fa.glo p.2.1).ok K = true := fun p hp => f0 _ (List.mem_append_right _ (List.mem_append_left _ (List.mem_map.mpr ⟨p, hp, rfl⟩)))
  have f2 : ∀ p ∈ S.isas, (He.Fa.glo p.1).ok K = true := fun p hp => f0 _ (List.mem_append_right _ (List.mem_append_right _ (List.mem_map.mpr ⟨p, hp, rfl⟩)))
  unfold faOf0 at f
  simp only [List.mem_append] at f
  have more := c.more
  unfold exOf at more
  simp only [Bool.and_eq_true, List.all_eq_true, decide_eq_true_eq] at more
  obtain ⟨⟨⟨⟨⟨m1, m2⟩, m3⟩, m4⟩, m5⟩, m6⟩ := more
  refine ⟨fun x i e => ?_, fun x i e => ?_, fun x e => ?_, fun x t e => ?_, fun x e => ?_, fun x y b e => ?_, fun x yes no e => ?_, fun x yes no e => ?_, fun c f e => ?_⟩
  · exact He.int_ok X G (f _ (.inl (.inl (.inl (.inl (.inr (List.mem_map.mpr ⟨_, lookup_mem2 e, rfl⟩)))))))
  · exact He.str_ok X G (f _ (.inl (.inl (.inl (.inr (List.mem_map.mpr ⟨_, lookup_mem2 e, rfl⟩))))))
  · exact He.free_ok X G (f _ (.inl (.inl (.inl (.inl (.inl (.inr (List.mem_map.mpr ⟨_, e, rfl⟩))))))))
  · have hm := lookup_mem2 e
    have g := He.glo_ok X G (f (.glo x) (.inl (.inl (.inr (List.mem_map.mpr ⟨_, hm, rfl⟩)))))
    refine ⟨_, g, ?_⟩
    obtain ⟨i, hi, e2⟩ := List.mem_iff_getElem.mp hm
    obtain ⟨es, n, kd⟩ := c.t.tab i (t := ((fun K => He.ga K x), t.map (·.1))) (by
      unfold tsOf
      rw [List.getElem?_map, List.getElem?_eq_getElem hi, e2]
      rfl)
    exact tab_of kd (m1 _ hm)
  · have g := He.glo_ok X G (f (.glo x) (.inr (List.mem_map.mpr ⟨_, e, rfl⟩)))
    obtain ⟨q1, q2, q3, q4⟩ := He.exc_ok (f (.exc x) (.inl (.inr (List.mem_map.mpr ⟨_, e, rfl⟩))))
    exact ⟨m2 x e, q1, g, q2, q3, q4⟩
  · have hm := List.contains_iff_mem.mp e
    exact ⟨He.glo_ok X G (f1 _ hm), m3 _ hm⟩
  · have hm := List.contains_iff_mem.mp e
    exact ⟨He.glo_ok X G (f2 _ hm), isx_of (m4 _ hm)⟩
  · exact isx_of (m5 _ (List.contains_iff_mem.mp e))
  · exact m6 _ (List.contains_iff_mem.mp e)
theorem fns_of (X : K.In h) (G : h.Ns mainGlobals mg) (c : Says S rows body w h K) (hS : S.fns = rows.map fun r => (r.x, r.F.ps.length)) (hr : rows.all (Row.ok S body) = true) : FnsP S K mg (tabOf rows) := by
  have d := c.t.d
  have key : ∀ rs : List Row, (∀ r ∈ rs, r ∈ rows) → FnsP S K mg (tabOf rs) := by
    intro rs
    induction rs with
    | nil => intro _; trivial
    | cons r rs ih =>
      intro hm
      have hr1 : r ∈ rows := hm r (List.mem_cons_self ..)
      refine ⟨?_, ih fun q hq => hm q (List.mem_cons_of_mem _ hq)⟩
      obtain ⟨fd, F⟩ := d.defs (d := r.def_ body) (List.mem_map.mpr ⟨r, hr1, rfl⟩)
      have ok := List.all_eq_true.mp hr r hr1
      unfold Row.ok at ok
      obtain ⟨ok, ok3⟩ := and_split ok
      obtain ⟨ok1, ok2⟩ := and_split ok
      have g := He.glo_ok X G (x := r.x) (d.facts (List.mem_append_left _ (by
        unfold faOf0
        simp only [List.mem_append]
        refine .inl (.inl (.inl (.inl (.inl (.inl (List.mem_map.mpr ⟨(r.x, r.F.ps.length), ?_, rfl⟩))))))
        rw [hS]
        exact List.mem_map.mpr ⟨r, hr1, rfl⟩)))
      exact ⟨_, fd, ⟨_, _, _, F, scope_of ok2, ok3⟩, g, fun s us hl => F.bindsA (fun kV doc pm an cdv ct us hl => bind_plain ok1 hl) s us hl⟩
  exact key rows fun r h => h
theorem fns_look {x : Str} {n : Nat} (e : (rows.map fun r => (r.x, r.F.ps.length)).lookup x = some n) : ∃ F, (tabOf rows).lookup x = some F ∧ F.ps.length = n := by
  induction rows with
  | nil => cases e
  | cons r rs ih =>
    rw [List.map_cons, List.lookup_cons] at e
    show ∃ F, List.lookup x ((r.x, r.F) :: tabOf rs) = some F ∧ F.ps.length = n
    rw [List.lookup_cons]
    cases q : x == r.x with
    | true =>
      rw [q] at e
      cases e
      exact ⟨_, rfl, rfl⟩
    | false =>
      rw [q] at e
      exact ih e
/-- what the law's end asks, from the head's facts -/
theorem says_law {P : Program} {k : Nat} {fa : Addr} {lx x : Str} {F : FnI} (hS : S.fns = rows.map fun r => (r.x, r.F.ps.length)) (hr : rows.all (Row.ok S body) = true) (hl : (tabOf rows).lookup lx = some F) (hx : F.ps = [x]) (hk : S.fns.lookup lx = some 1)
    (X : K.In h) (G : h.Ns mainGlobals mg) (c : Says S rows body w h K) (hm : mg lx = some (.ref fa)) :
    ∃ fd : FuncData, (∀ (s : Shared) (u : Value), BindsTo s fd ⟨[u], []⟩ [(x, u)]) ∧ ∀ base : Heap, FnG P w K mg base k fa fd [x] (spF K mg 1 (run (tabOf rows) k lx)) := by
  have FA := facts_of X G c
  have FT := fns_of X G c hS hr
  have hT : ∀ x n, S.fns.lookup x = some n → ∃ F, (tabOf rows).lookup x = some F ∧ F.ps.length = n := fun x n e => fns_look (by rw [← hS]; exact e)
  obtain ⟨f, fd, D⟩ := FT.at_ hl
  have ef : f = fa := by
    have := D.glo.symm.trans hm
    cases this
    rfl
  subst ef
  refine ⟨fd, fun s u => ?_, fun base => ?_⟩
  · have := D.bindA s [u] (by rw [hx]; rfl)
    rw [hx] at this
    exact this
  · cases k with
    | zero => exact ⟨fun vs H Q E ⟨c, st, as, hl, hv, rel, o⟩ => o.elim, fun A outer s H us vs Q E hr hgu e0 hb r ⟨c, st, as, hl, hv, rel, o⟩ => o.elim⟩
    | succ k =>
      have G := fnG_run (P := P) (base := base) (C := run (tabOf rows) k) (k := k) FA D (fns_run FA FT hT k)
      have e : run (tabOf rows) (k + 1) lx = F.run (run (tabOf rows) k) := by
        funext as st
        show (match (tabOf rows).lookup lx with
          | some F => F.run (run (tabOf rows) k) as st
          | none => Res.fail) = _
        rw [hl]
      rw [e]
      rw [hx] at G
      exact G
end
end L2.Q

set_option maxHeartbeats 0
/-! The law k14 as data: its defs, its signature, its head. Printed by wip/emit.py. -/
namespace L2.Q.k14
open PySem PySem.Spec PyProof.Rows L2 L2.Q
def tab_PARTS : Tab := [("under", .i 3), ("not", .i 2), ("and", .i 3), ("or", .i 3)]
def F_is_whole : FnI := ⟨["thing"], ["thing"], .pure, (.cons (.ret (.conj (.cons (.isi .int (.var 0)) (.cons (.nt (.isi .bool (.var 0))) .nil)))) .nil)⟩
def F_need_width : FnI := ⟨["width"], ["width"], .pure, (.cons (.ifs (.disj (.cons (.nt (.call 1 "is_whole" (.cons (.var 0) .nil))) (.cons (.nt (.chain .LtE .LtE (.int 1) (.var 0) (.gint "MOST_WIDTH" 3))) .nil))) (.cons (.raise "NoWidth") .nil) .nil) .nil)⟩
def F_is_row : FnI := ⟨["width", "thing"], ["width", "thing", "part"], .pure, (.cons (.doE (.call 1 "need_width" (.cons (.var 0) .nil))) (.cons (.ret (.conj (.cons (.isi .tuple (.var 1)) (.cons (.cmp .Eq (.bf .len (.cons (.var 1) .nil)) (.var 0)) (.cons (.bf .all (.cons (.comp [2] (.name 2) (.items (.var 1)) .no (.call 1 "is_whole" (.cons (.var 2) .nil))) .nil)) .nil))))) .nil))⟩
def F_is_under : FnI := ⟨["width", "thing"], ["width", "thing"], .pure, (.cons (.ret (.conj (.cons (.call 1 "is_whole" (.cons (.idx (.var 1) (.int 1)) .nil)) (.cons (.chain .LtE .Lt (.int 0) (.idx (.var 1) (.int 1)) (.var 0)) (.cons (.call 1 "is_whole" (.cons (.idx (.var 1) (.int 2)) .nil)) .nil))))) .nil)⟩
def F_is_made : FnI := ⟨["width", "thing", "deep"], ["width", "thing", "deep", "part"], .pure, (.cons (.ifs (.disj (.cons (.nt (.isi .tuple (.var 1))) (.cons (.cmp .Eq (.var 1) (.tup .nil)) (.cons (.nt (.isi .str (.idx (.var 1) (.int 0)))) (.cons (.cmp .Gt (.var 2) (.gint "MOST_DEEP" 8)) .nil))))) (.cons (.ret (.bl false)) .nil) .nil) (.cons (.ifs (.cmp .NotEq (.tabGet "PARTS" tab_PARTS (.idx (.var 1) (.int 0)) (.int 0)) (.bf .len (.cons (.var 1) .nil))) (.cons (.ret (.bl false)) .nil) .nil) (.cons (.ifs (.cmp .Eq (.idx (.var 1) (.int 0)) (.str "under")) (.cons (.ret (.call 2 "is_under" (.cons (.var 0) (.cons (.var 1) .nil)))) .nil) .nil) (.cons (.ret (.bf .all (.cons (.comp [3] (.name 3) (.items (.sl (.var 1) (.at_ (.int 1)) .no)) .no (.call 3 "is_made" (.cons (.var 0) (.cons (.var 3) (.cons (.bin .Add (.var 2) (.int 1)) .nil))))) .nil))) .nil))))⟩
def F_many_parts : FnI := ⟨["saying"], ["saying", "part"], .pure, (.cons (.ifs (.cmp .Eq (.idx (.var 0) (.int 0)) (.str "under")) (.cons (.ret (.int 1)) .nil) .nil) (.cons (.ret (.bin .Add (.int 1) (.bf .sum (.cons (.comp [1] (.name 1) (.items (.sl (.var 0) (.at_ (.int 1)) .no)) .no (.call 1 "many_parts" (.cons (.var 1) .nil))) .nil)))) .nil))⟩
def F_is_saying : FnI := ⟨["width", "thing"], ["width", "thing"], .pure, (.cons (.doE (.call 1 "need_width" (.cons (.var 0) .nil))) (.cons (.ret (.conj (.cons (.call 3 "is_made" (.cons (.var 0) (.cons (.var 1) (.cons (.int 1) .nil)))) (.cons (.cmp .LtE (.call 1 "many_parts" (.cons (.var 1) .nil)) (.gint "MOST_PARTS" 15)) .nil)))) .nil))⟩
def F_need_saying : FnI := ⟨["width", "saying"], ["width", "saying"], .pure, (.cons (.ifs (.nt (.call 2 "is_saying" (.cons (.var 0) (.cons (.var 1) .nil)))) (.cons (.raise "NoSaying") .nil) .nil) .nil)⟩
def F_holds : FnI := ⟨["saying", "row"], ["saying", "row"], .pure, (.cons (.ifs (.cmp .Eq (.idx (.var 0) (.int 0)) (.str "under")) (.cons (.ret (.cmp .Lt (.idx (.var 1) (.idx (.var 0) (.int 1))) (.idx (.var 0) (.int 2)))) .nil) .nil) (.cons (.ifs (.cmp .Eq (.idx (.var 0) (.int 0)) (.str "not")) (.cons (.ret (.nt (.call 2 "holds" (.cons (.idx (.var 0) (.int 1)) (.cons (.var 1) .nil))))) .nil) .nil) (.cons (.ifs (.cmp .Eq (.idx (.var 0) (.int 0)) (.str "and")) (.cons (.ret (.conj (.cons (.call 2 "holds" (.cons (.idx (.var 0) (.int 1)) (.cons (.var 1) .nil))) (.cons (.call 2 "holds" (.cons (.idx (.var 0) (.int 2)) (.cons (.var 1) .nil))) .nil)))) .nil) .nil) (.cons (.ret (.disj (.cons (.call 2 "holds" (.cons (.idx (.var 0) (.int 1)) (.cons (.var 1) .nil))) (.cons (.call 2 "holds" (.cons (.idx (.var 0) (.int 2)) (.cons (.var 1) .nil))) .nil)))) .nil))))⟩
def F_unders : FnI := ⟨["saying"], ["saying", "found", "part"], .pure, (.cons (.ifs (.cmp .Eq (.idx (.var 0) (.int 0)) (.str "under")) (.cons (.ret (.lst (.cons (.sl (.var 0) (.at_ (.int 1)) .no) .nil))) .nil) .nil) (.cons (.set 1 (.new .nil)) (.cons (.for_ (.name 2) (.items (.sl (.var 0) (.at_ (.int 1)) .no)) (.cons (.doE (.ext (.var 1) (.call 1 "unders" (.cons (.var 2) .nil)))) .nil)) (.cons (.ret (.frz (.var 1))) .nil))))⟩
def F_unlike_cuts : FnI := ⟨["sayings"], ["sayings", "saying", "cut"], .pure, (.cons (.ret (.uniq false [1, 2] [2] (.name 1) (.items (.var 0)) (.name 2) (.items (.call 1 "unders" (.cons (.var 1) .nil))) (.var 2))) .nil)⟩
def F_is_fact : FnI := ⟨["width", "thing"], ["width", "thing"], .pure, (.cons (.ret (.conj (.cons (.isi .tuple (.var 1)) (.cons (.cmp .Eq (.bf .len (.cons (.var 1) .nil)) (.int 2)) (.cons (.call 2 "is_saying" (.cons (.var 0) (.cons (.idx (.var 1) (.int 0)) .nil))) (.cons (.isi .bool (.idx (.var 1) (.int 1))) .nil)))))) .nil)⟩
def F_is_facts : FnI := ⟨["width", "thing"], ["width", "thing", "fact"], .pure, (.cons (.doE (.call 1 "need_width" (.cons (.var 0) .nil))) (.cons (.ret (.conj (.cons (.isi .tuple (.var 1)) (.cons (.cmp .LtE (.bf .len (.cons (.var 1) .nil)) (.gint "MOST_FACTS" 12)) (.cons (.bf .all (.cons (.comp [2] (.name 2) (.items (.var 1)) .no (.call 2 "is_fact" (.cons (.var 0) (.cons (.var 2) .nil)))) .nil)) .nil))))) .nil))⟩
def F_need_facts : FnI := ⟨["width", "facts"], ["width", "facts"], .pure, (.cons (.ifs (.nt (.call 2 "is_facts" (.cons (.var 0) (.cons (.var 1) .nil)))) (.cons (.raise "NoFacts") .nil) .nil) .nil)⟩
def F_sayings_of : FnI := ⟨["facts"], ["facts", "saying", "answer"], .pure, (.cons (.ret (.comp [1, 2] (.tup [1, 2]) (.items (.var 0)) .no (.var 1))) .nil)⟩
def F_need_few : FnI := ⟨["sayings", "most"], ["sayings", "most", "many"], .pure, (.cons (.set 2 (.bf .len (.cons (.call 1 "unlike_cuts" (.cons (.var 0) .nil)) .nil))) (.cons (.ifs (.cmp .Gt (.var 2) (.var 1)) (.cons .dead .nil) .nil) .nil))⟩
def F_agreed : FnI := ⟨["facts", "row"], ["facts", "row", "saying", "answer"], .pure, (.cons (.ret (.bf .all (.cons (.comp [2, 3] (.tup [2, 3]) (.items (.var 0)) .no (.cmp .Eq (.call 2 "holds" (.cons (.var 2) (.cons (.var 1) .nil))) (.var 3))) .nil))) .nil)⟩
def F_is_pair : FnI := ⟨["width", "facts", "saying", "thing"], ["width", "facts", "saying", "thing", "row"], .pure, (.cons (.doE (.call 2 "need_facts" (.cons (.var 0) (.cons (.var 1) .nil)))) (.cons (.doE (.call 2 "need_saying" (.cons (.var 0) (.cons (.var 2) .nil)))) (.cons (.doE (.call 2 "need_few" (.cons (.bin .Add (.call 1 "sayings_of" (.cons (.var 1) .nil)) (.lst (.cons (.var 2) .nil))) (.cons (.gint "MOST_CUTS" 12) .nil)))) (.cons (.ifs (.disj (.cons (.nt (.isi .tuple (.var 3))) (.cons (.cmp .NotEq (.bf .len (.cons (.var 3) .nil)) (.int 2)) (.cons (.nt (.bf .all (.cons (.comp [4] (.name 4) (.items (.var 3)) .no (.call 2 "is_row" (.cons (.var 0) (.cons (.var 4) .nil)))) .nil))) .nil)))) (.cons (.ret (.bl false)) .nil) .nil) (.cons (.ifs (.nt (.bf .all (.cons (.comp [4] (.name 4) (.items (.var 3)) .no (.call 2 "agreed" (.cons (.var 1) (.cons (.var 4) .nil)))) .nil))) (.cons (.ret (.bl false)) .nil) .nil) (.cons (.ret (.conj (.cons (.call 2 "holds" (.cons (.var 2) (.cons (.idx (.var 3) (.int 0)) .nil))) (.cons (.nt (.call 2 "holds" (.cons (.var 2) (.cons (.idx (.var 3) (.int 1)) .nil)))) .nil)))) .nil))))))⟩
def F__law_spread : FnI := ⟨["_law_cell", "_law_at"], ["_law_cell", "_law_at", "_law_primes", "_law_one", "_law_two", "_law_three"], .pure, (.cons (.ifs (.cmp .GtE (.var 0) (.bin .Pow (.int 10) (.int 18))) (.cons (.ret (.var 0)) .nil) .nil) (.cons (.set 2 (.lst (.cons (.int 2147483629) (.cons (.int 2147483587) (.cons (.int 2147483579) (.cons (.int 2147483563) (.cons (.int 2147483549) (.cons (.int 2147483543) (.cons (.int 2147483497) (.cons (.int 2147483489) .nil)))))))))) (.cons (.set 2 (.bin .Add (.var 2) (.lst (.cons (.int 2147483477) (.cons (.int 2147483423) (.cons (.int 2147483399) (.cons (.int 2147483353) (.cons (.int 2147483323) .nil)))))))) (.cons (.set 3 (.bin .Mod (.bin .Pow (.bin .Add (.bin .Add (.bin .Mult (.bin .Mod (.var 0) (.int 1000000007)) (.bin .Add (.bin .Mult (.int 2) (.var 1)) (.int 69069))) (.bin .Mult (.var 1) (.int 40503))) (.int 977)) (.int 3)) (.idx (.var 2) (.bin .Mod (.var 1) (.int 13))))) (.cons (.set 4 (.bin .Mod (.bin .Pow (.bin .Add (.bin .Add (.bin .Mult (.var 3) (.bin .Add (.var 1) (.int 3))) (.bin .Mod (.var 0) (.int 65537))) (.int 5)) (.int 5)) (.idx (.var 2) (.bin .Mod (.bin .Add (.var 1) (.int 5)) (.int 13))))) (.cons (.set 5 (.bin .Mod (.bin .Pow (.bin .Add (.bin .Add (.var 4) (.bin .Mod (.var 3) (.int 1009))) (.var 1)) (.int 3)) (.idx (.var 2) (.bin .Mod (.bin .Add (.var 1) (.int 7)) (.int 13))))) (.cons (.ret (.bin .Add (.bin .Mult (.bin .Add (.bin .Mult (.var 3) (.int 2147483647)) (.var 4)) (.int 2147483647)) (.var 5))) .nil)))))))⟩
def F__law_open : FnI := ⟨["_law_script"], ["_law_script", "_law_cells", "_law_k", "_law_cell"], .open_, (.cons (.set 1 (.newL (.sl (.var 0) .no (.at_ (.int 12))))) (.cons (.for_ (.tup [2, 3]) (.enum (.sl (.var 0) (.at_ (.int 12)) (.at_ (.int 63)))) (.cons (.setIx (.var 1) (.bin .Mod (.var 2) (.int 12)) (.bin .Add (.idx (.var 1) (.bin .Mod (.var 2) (.int 12))) (.var 3))) .nil)) (.cons (.ret (.new (.cons (.frz (.var 1)) (.cons (.int 0) (.cons (.int 0) .nil))))) .nil)))⟩
def F__law_take : FnI := ⟨["_law_pen", "_law_many"], ["_law_pen", "_law_many", "_law_found", "_law_at", "_law_cell"], .scope, (.cons (.ifs (.cmp .Lt (.idx (.var 0) (.int 2)) (.var 1)) (.cons (.set 3 (.idx (.var 0) (.int 1))) (.cons (.set 4 (.int 0)) (.cons (.ifs (.cmp .Lt (.var 3) (.bf .len (.cons (.idx (.var 0) (.int 0)) .nil))) (.cons (.set 4 (.idx (.idx (.var 0) (.int 0)) (.var 3))) .nil) (.cons (.ifs (.cmp .Gt (.bf .len (.cons (.idx (.var 0) (.int 0)) .nil)) (.int 0)) (.cons (.set 4 (.bin .Mod (.idx (.idx (.var 0) (.int 0)) (.bin .Mod (.bin .Add (.bin .Mult (.var 3) (.int 5)) (.int 3)) (.bf .len (.cons (.idx (.var 0) (.int 0)) .nil)))) (.bin .Add (.bin .Pow (.int 10) (.int 17)) (.var 3)))) .nil) .nil) .nil)) (.cons (.setIx (.var 0) (.int 1) (.bin .Add (.var 3) (.int 1))) (.cons (.setIx (.var 0) (.int 2) (.call 2 "_law_spread" (.cons (.var 4) (.cons (.var 3) .nil)))) .nil))))) .nil) (.cons (.set 2 (.bin .Mod (.idx (.var 0) (.int 2)) (.var 1))) (.cons (.setIx (.var 0) (.int 2) (.bin .FloorDiv (.idx (.var 0) (.int 2)) (.var 1))) (.cons (.ret (.var 2)) .nil))))⟩
def F__law_o_bound : FnI := ⟨["_law_pen"], ["_law_pen", "_law_way", "_law_great"], .scope, (.cons (.set 1 (.call 2 "_law_take" (.cons (.var 0) (.cons (.int 8) .nil)))) (.cons (.ifs (.cmp .Lt (.var 1) (.int 6)) (.cons (.ret (.bin .Sub (.call 2 "_law_take" (.cons (.var 0) (.cons (.int 9) .nil))) (.int 4))) .nil) .nil) (.cons (.set 2 (.lst (.cons (.bin .Pow (.int 10) (.int 20)) (.cons (.bin .Sub (.int 0) (.bin .Pow (.int 10) (.int 20))) (.cons (.bin .Pow (.int 10) (.int 39)) (.cons (.bin .Sub (.int 0) (.bin .Pow (.int 10) (.int 39))) (.cons (.bin .Pow (.int 10) (.int 29)) .nil))))))) (.cons (.ret (.idx (.lst (.cons (.bin .Sub (.call 2 "_law_take" (.cons (.var 0) (.cons (.int 201) .nil))) (.int 100)) (.cons (.idx (.var 2) (.call 2 "_law_take" (.cons (.var 0) (.cons (.int 5) .nil)))) .nil))) (.bin .Sub (.var 1) (.int 6)))) .nil))))⟩
def F__law_o_cuts : FnI := ⟨["_law_pen", "_law_width", "_law_most"], ["_law_pen", "_law_width", "_law_most", "_law_turn"], .scope, (.cons (.ret (.comp [3] (.name 3) (.rng1 (.bin .Add (.int 1) (.call 2 "_law_take" (.cons (.var 0) (.cons (.var 2) .nil))))) .no (.tup (.cons (.call 2 "_law_take" (.cons (.var 0) (.cons (.var 1) .nil))) (.cons (.call 1 "_law_o_bound" (.cons (.var 0) .nil)) .nil))))) .nil)⟩
def F__law_o_size : FnI := ⟨["_law_saying"], ["_law_saying", "_law_parts", "_law_part", "_law_many", "_law_deep"], .pure, (.cons (.ifs (.cmp .Eq (.idx (.var 0) (.int 0)) (.str "under")) (.cons (.ret (.tup (.cons (.int 1) (.cons (.int 1) .nil)))) .nil) .nil) (.cons (.set 1 (.comp [2] (.name 2) (.items (.sl (.var 0) (.at_ (.int 1)) .no)) .no (.call 1 "_law_o_size" (.cons (.var 2) .nil)))) (.cons (.ret (.tup (.cons (.bin .Add (.int 1) (.bf .sum (.cons (.comp [3, 4] (.tup [3, 4]) (.items (.var 1)) .no (.var 3)) .nil))) (.cons (.bin .Add (.int 1) (.bf .max1 (.cons (.comp [3, 4] (.tup [3, 4]) (.items (.var 1)) .no (.var 4)) .nil))) .nil)))) .nil)))⟩
def F__law_o_made : FnI := ⟨["_law_pen", "_law_cuts", "_law_deep"], ["_law_pen", "_law_cuts", "_law_deep", "_law_way"], .scope, (.cons (.set 3 (.bin .Mult (.call 2 "_law_take" (.cons (.var 0) (.cons (.int 6) .nil))) (.bf .int (.cons (.cmp .Gt (.var 2) (.int 0)) .nil)))) (.cons (.ifs (.cmp .Lt (.var 3) (.int 2)) (.cons (.ret (.bin .Add (.tup (.cons (.str "under") .nil)) (.idx (.var 1) (.call 2 "_law_take" (.cons (.var 0) (.cons (.bf .len (.cons (.var 1) .nil)) .nil)))))) .nil) .nil) (.cons (.ifs (.cmp .Eq (.var 3) (.int 2)) (.cons (.ret (.tup (.cons (.str "not") (.cons (.call 3 "_law_o_made" (.cons (.var 0) (.cons (.var 1) (.cons (.bin .Sub (.var 2) (.int 1)) .nil)))) .nil)))) .nil) .nil) (.cons (.ret (.tup (.cons (.idx (.lst (.cons (.str "and") (.cons (.str "or") .nil))) (.bin .Mod (.var 3) (.int 2))) (.cons (.call 3 "_law_o_made" (.cons (.var 0) (.cons (.var 1) (.cons (.bin .Sub (.var 2) (.int 1)) .nil)))) (.cons (.call 3 "_law_o_made" (.cons (.var 0) (.cons (.var 1) (.cons (.bin .Sub (.var 2) (.int 1)) .nil)))) .nil))))) .nil))))⟩
def F__law_o_saying : FnI := ⟨["_law_pen", "_law_cuts"], ["_law_pen", "_law_cuts", "_law_found", "_law_turn", "_law_many", "_law_deep"], .scope, (.cons (.set 2 (.call 3 "_law_o_made" (.cons (.var 0) (.cons (.var 1) (.cons (.call 2 "_law_take" (.cons (.var 0) (.cons (.int 4) .nil))) .nil))))) (.cons (.asg [4, 5] (.call 1 "_law_o_size" (.cons (.var 2) .nil))) (.cons (.for_ (.name 3) (.rng1 (.bf .min3 (.cons (.call 2 "_law_take" (.cons (.var 0) (.cons (.int 5) .nil))) (.cons (.bin .Sub (.int 15) (.var 4)) (.cons (.bin .Sub (.int 8) (.var 5)) .nil))))) (.cons (.set 2 (.tup (.cons (.str "not") (.cons (.var 2) .nil)))) .nil)) (.cons (.ret (.var 2)) .nil))))⟩
def F__law_o_truth : FnI := ⟨["_law_saying", "_law_row"], ["_law_saying", "_law_row", "_law_some", "_law_part"], .pure, (.cons (.ifs (.cmp .Eq (.idx (.var 0) (.int 0)) (.str "under")) (.cons (.ret (.cmp .Lt (.idx (.var 1) (.idx (.var 0) (.int 1))) (.idx (.var 0) (.int 2)))) .nil) .nil) (.cons (.set 2 (.comp [3] (.name 3) (.items (.sl (.var 0) (.at_ (.int 1)) .no)) .no (.call 2 "_law_o_truth" (.cons (.var 3) (.cons (.var 1) .nil))))) (.cons (.ifs (.cmp .Eq (.idx (.var 0) (.int 0)) (.str "not")) (.cons (.ret (.nt (.idx (.var 2) (.int 0)))) .nil) .nil) (.cons (.ret (.ife (.cmp .Eq (.idx (.var 0) (.int 0)) (.str "and")) (.cmp .NotIn (.bl false) (.var 2)) (.cmp .In (.bl true) (.var 2)))) .nil))))⟩
def F__law_o_row : FnI := ⟨["_law_pen", "_law_width", "_law_cuts"], ["_law_pen", "_law_width", "_law_cuts", "_law_row", "_law_turn", "_law_column", "_law_bound"], .scope, (.cons (.set 3 (.compN [5] (.name 5) (.rng1 (.var 1)) .no (.call 1 "_law_o_bound" (.cons (.var 0) .nil)))) (.cons (.for_ (.name 4) (.rng1 (.call 2 "_law_take" (.cons (.var 0) (.cons (.bin .Add (.var 1) (.int 2)) .nil)))) (.cons (.asg [5, 6] (.idx (.var 2) (.call 2 "_law_take" (.cons (.var 0) (.cons (.bf .len (.cons (.var 2) .nil)) .nil))))) (.cons (.setIx (.var 3) (.var 5) (.bin .Add (.var 6) (.idx (.lst (.cons (.neg (.int 1)) (.cons (.int 0) (.cons (.int 1) (.cons (.neg (.int 1)) (.cons (.int 0) .nil)))))) (.call 2 "_law_take" (.cons (.var 0) (.cons (.int 5) .nil)))))) .nil))) (.cons (.ret (.bf .tuple (.cons (.var 3) .nil))) .nil)))⟩
def F__law_o_no_row : FnI := ⟨["_law_pen", "_law_row"], ["_law_pen", "_law_row", "_law_at", "_law_some", "_law_part"], .scope, (.cons (.set 2 (.call 2 "_law_take" (.cons (.var 0) (.cons (.bf .len (.cons (.var 1) .nil)) .nil)))) (.cons (.set 3 (.lst (.cons (.bin .Add (.var 1) (.tup (.cons (.int 0) .nil))) (.cons (.sl (.var 1) (.at_ (.int 1)) .no) (.cons (.bf .list (.cons (.var 1) .nil)) (.cons .non (.cons (.int 5) (.cons (.str "row") (.cons .dct0 (.cons (.tup (.cons (.var 1) .nil)) .nil)))))))))) (.cons (.set 3 (.bin .Add (.var 3) (.comp [4] (.name 4) (.items (.lst (.cons (.bl true) (.cons (.bl false) (.cons .non (.cons (.str "1") (.cons (.tup (.cons (.int 1) .nil)) (.cons (.lst (.cons (.int 1) .nil)) (.cons .dct0 .nil))))))))) .no (.bin .Add (.bin .Add (.sl (.var 1) .no (.at_ (.var 2))) (.tup (.cons (.var 4) .nil))) (.sl (.var 1) (.at_ (.bin .Add (.var 2) (.int 1))) .no))))) (.cons (.ret (.idx (.var 3) (.call 2 "_law_take" (.cons (.var 0) (.cons (.bf .len (.cons (.var 3) .nil)) .nil))))) .nil))))⟩
def F__law_o_facts : FnI := ⟨["_law_pen", "_law_width", "_law_cuts", "_law_most"], ["_law_pen", "_law_width", "_law_cuts", "_law_most", "_law_row", "_law_found", "_law_turn", "_law_saying", "_law_at"], .scope, (.cons (.set 4 (.call 3 "_law_o_row" (.cons (.var 0) (.cons (.var 1) (.cons (.var 2) .nil))))) (.cons (.set 5 (.new .nil)) (.cons (.for_ (.name 6) (.rng1 (.call 2 "_law_take" (.cons (.var 0) (.cons (.bin .Add (.var 3) (.int 1)) .nil)))) (.cons (.set 7 (.call 2 "_law_o_saying" (.cons (.var 0) (.cons (.var 2) .nil)))) (.cons (.doE (.app (.var 5) (.tup (.cons (.var 7) (.cons (.call 2 "_law_o_truth" (.cons (.var 7) (.cons (.var 4) .nil))) .nil))))) .nil))) (.cons (.ifs (.conj (.cons (.cmp .NotEq (.var 5) (.lst .nil)) (.cons (.cmp .Eq (.call 2 "_law_take" (.cons (.var 0) (.cons (.int 3) .nil))) (.int 0)) .nil))) (.cons (.set 8 (.call 2 "_law_take" (.cons (.var 0) (.cons (.bf .len (.cons (.var 5) .nil)) .nil)))) (.cons (.setIx (.var 5) (.var 8) (.tup (.cons (.idx (.idx (.var 5) (.var 8)) (.int 0)) (.cons (.nt (.idx (.idx (.var 5) (.var 8)) (.int 1))) .nil)))) .nil)) .nil) (.cons (.ret (.bf .tuple (.cons (.var 5) .nil))) .nil)))))⟩
def F__law_o_agrees : FnI := ⟨["_law_facts", "_law_row"], ["_law_facts", "_law_row", "_law_saying", "_law_answer"], .pure, (.cons (.ret (.cmp .NotIn (.bl false) (.comp [2, 3] (.tup [2, 3]) (.items (.var 0)) .no (.cmp .Eq (.call 2 "_law_o_truth" (.cons (.var 2) (.cons (.var 1) .nil))) (.var 3))))) .nil)⟩
def F__law_o_spread : FnI := ⟨["_law_width", "_law_cuts"], ["_law_width", "_law_cuts", "_law_found", "_law_column", "_law_bounds", "_law_ends", "_law_more", "_law_row", "_law_end", "_law_one", "_law_bound"], .pure, (.cons (.set 2 (.lst (.cons (.tup .nil) .nil))) (.cons (.for_ (.name 3) (.rng1 (.var 0)) (.cons (.set 4 (.usortI false (.comp [9, 10] (.tup [9, 10]) (.items (.var 1)) (.at_ (.cmp .Eq (.var 9) (.var 3))) (.var 10)))) (.cons (.set 5 (.ife (.cmp .NotEq (.var 4) (.lst .nil)) (.bin .Add (.lst (.cons (.bin .Sub (.idx (.var 4) (.int 0)) (.int 1)) .nil)) (.var 4)) (.lst (.cons (.int 0) .nil)))) (.cons (.set 6 (.lst .nil)) (.cons (.for_ (.name 7) (.items (.var 2)) (.cons (.set 6 (.bin .Add (.var 6) (.comp [8] (.name 8) (.items (.var 5)) .no (.bin .Add (.var 7) (.tup (.cons (.var 8) .nil)))))) .nil)) (.cons (.set 2 (.var 6)) .nil)))))) (.cons (.ret (.var 2)) .nil)))⟩
def F__law_o_is_pair : FnI := ⟨["_law_width", "_law_facts", "_law_saying", "_law_thing"], ["_law_width", "_law_facts", "_law_saying", "_law_thing", "_law_row", "_law_part"], .pure, (.cons (.ifs (.disj (.cons (.nt (.isi .tuple (.var 3))) (.cons (.cmp .NotEq (.bf .len (.cons (.var 3) .nil)) (.int 2)) .nil))) (.cons (.ret (.bl false)) .nil) .nil) (.cons (.for_ (.name 4) (.items (.var 3)) (.cons (.ifs (.disj (.cons (.nt (.isi .tuple (.var 4))) (.cons (.cmp .NotEq (.bf .len (.cons (.var 4) .nil)) (.var 0)) .nil))) (.cons (.ret (.bl false)) .nil) .nil) (.cons (.ifs (.cmp .NotEq (.comp [5] (.name 5) (.items (.var 4)) (.at_ (.disj (.cons (.isi .bool (.var 5)) (.cons (.nt (.isi .int (.var 5))) .nil)))) (.var 5)) (.lst .nil)) (.cons (.ret (.bl false)) .nil) .nil) (.cons (.ifs (.nt (.call 2 "_law_o_agrees" (.cons (.var 1) (.cons (.var 4) .nil)))) (.cons (.ret (.bl false)) .nil) .nil) .nil)))) (.cons (.ret (.conj (.cons (.call 2 "_law_o_truth" (.cons (.var 2) (.cons (.idx (.var 3) (.int 0)) .nil))) (.cons (.nt (.call 2 "_law_o_truth" (.cons (.var 2) (.cons (.idx (.var 3) (.int 1)) .nil)))) .nil)))) .nil)))⟩
def F__law_o_pairs : FnI := ⟨["_law_pen", "_law_width", "_law_facts", "_law_saying", "_law_cuts"], ["_law_pen", "_law_width", "_law_facts", "_law_saying", "_law_cuts", "_law_rows", "_law_good", "_law_some", "_law_ones", "_law_others", "_law_found", "_law_turn", "_law_odd", "_law_row", "_law_one", "_law_other"], .scope, (.cons (.set 5 (.call 2 "_law_o_spread" (.cons (.var 1) (.cons (.var 4) .nil)))) (.cons (.set 6 (.comp [13] (.name 13) (.items (.var 5)) (.at_ (.call 2 "_law_o_agrees" (.cons (.var 2) (.cons (.var 13) .nil)))) (.var 13))) (.cons (.set 7 (.sl (.bin .Add (.var 6) (.var 5)) .no (.at_ (.int 60)))) (.cons (.set 8 (.bin .Add (.comp [13] (.name 13) (.items (.var 7)) (.at_ (.call 2 "_law_o_truth" (.cons (.var 3) (.cons (.var 13) .nil)))) (.var 13)) (.lst (.cons (.idx (.var 5) (.int 0)) .nil)))) (.cons (.set 9 (.bin .Add (.comp [13] (.name 13) (.items (.var 7)) (.at_ (.nt (.call 2 "_law_o_truth" (.cons (.var 3) (.cons (.var 13) .nil))))) (.var 13)) (.lst (.cons (.idx (.var 5) (.neg (.int 1))) .nil)))) (.cons (.set 10 (.lst .nil)) (.cons (.for_ (.name 11) (.rng1 (.int 3)) (.cons (.par 14 15 (.idx (.var 8) (.call 2 "_law_take" (.cons (.var 0) (.cons (.bf .len (.cons (.var 8) .nil)) .nil)))) (.idx (.var 9) (.call 2 "_law_take" (.cons (.var 0) (.cons (.bf .len (.cons (.var 9) .nil)) .nil))))) (.cons (.set 12 (.call 2 "_law_o_no_row" (.cons (.var 0) (.cons (.var 14) .nil)))) (.cons (.set 10 (.bin .Add (.var 10) (.lst (.cons (.tup (.cons (.var 14) (.cons (.var 15) .nil))) (.cons (.tup (.cons (.var 15) (.cons (.var 14) .nil))) (.cons (.tup (.cons (.var 14) (.cons (.var 14) .nil))) (.cons (.lst (.cons (.var 14) (.cons (.var 15) .nil))) (.cons (.tup (.cons (.var 14) (.cons (.var 15) (.cons (.var 14) .nil)))) (.cons (.tup (.cons (.var 14) .nil)) (.cons (.tup (.cons (.var 12) (.cons (.var 15) .nil))) .nil)))))))))) (.cons (.set 10 (.bin .Add (.var 10) (.lst (.cons (.tup (.cons (.var 14) (.cons (.var 12) .nil))) (.cons (.tup (.cons (.var 14) (.cons (.call 3 "_law_o_row" (.cons (.var 0) (.cons (.var 1) (.cons (.var 4) .nil)))) .nil))) (.cons (.tup (.cons (.call 3 "_law_o_row" (.cons (.var 0) (.cons (.var 1) (.cons (.var 4) .nil)))) (.cons (.var 15) .nil))) (.cons (.var 12) .nil))))))) .nil))))) (.cons (.ret (.bin .Add (.var 10) (.lst (.cons (.tup (.cons (.idx (.var 8) (.int 0)) (.cons (.idx (.var 9) (.int 0)) .nil))) (.cons .non (.cons (.tup .nil) (.cons (.int 5) (.cons .dct0 (.cons (.bl true) (.cons (.str "pair") .nil)))))))))) .nil))))))))⟩
def F_law : FnI := ⟨["_law_script"], ["_law_script", "_law_pen", "_law_turn", "_law_width", "_law_cuts", "_law_facts", "_law_more", "_law_lots", "_law_thing", "_law_saying", "_law_last", "_law_seen", "_law_some", "_law_found"], .pure, (.cons (.set 1 (.call 1 "_law_open" (.cons (.var 0) .nil))) (.cons (.for_ (.name 2) (.rng1 (.int 2)) (.cons (.set 3 (.bin .Add (.int 1) (.call 2 "_law_take" (.cons (.var 1) (.cons (.int 3) .nil))))) (.cons (.set 4 (.call 3 "_law_o_cuts" (.cons (.var 1) (.cons (.var 3) (.cons (.int 5) .nil))))) (.cons (.set 5 (.call 4 "_law_o_facts" (.cons (.var 1) (.cons (.var 3) (.cons (.var 4) (.cons (.int 4) .nil)))))) (.cons (.par 9 10 (.call 2 "_law_o_saying" (.cons (.var 1) (.cons (.var 4) .nil))) (.call 2 "_law_o_saying" (.cons (.var 1) (.cons (.var 4) .nil)))) (.cons (.set 6 (.sl (.bin .Mult (.var 5) (.int 11)) .no (.at_ (.call 2 "_law_take" (.cons (.var 1) (.cons (.int 12) .nil)))))) (.cons (.set 7 (.lst (.cons (.var 5) (.cons (.bin .Add (.var 6) (.tup (.cons (.tup (.cons (.var 10) (.cons (.bl true) .nil))) .nil))) (.cons (.bin .Add (.var 6) (.tup (.cons (.tup (.cons (.var 10) (.cons (.bl false) .nil))) .nil))) .nil))))) (.cons (.for_ (.name 8) (.items (.call 5 "_law_o_pairs" (.cons (.var 1) (.cons (.var 3) (.cons (.var 5) (.cons (.var 9) (.cons (.var 4) .nil))))))) (.cons (.set 11 (.bf .repr (.cons (.var 8) .nil))) (.cons (.for_ (.name 12) (.items (.var 7)) (.cons (.set 13 (.call 4 "is_pair" (.cons (.var 3) (.cons (.var 12) (.cons (.var 9) (.cons (.var 8) .nil)))))) (.cons (.ifs (.disj (.cons (.nt (.isi .bool (.var 13))) (.cons (.cmp .NotEq (.var 13) (.call 4 "_law_o_is_pair" (.cons (.var 3) (.cons (.var 12) (.cons (.var 9) (.cons (.var 8) .nil)))))) .nil))) (.cons (.ret (.bl false)) .nil) .nil) .nil))) (.cons (.ifs (.cmp .NotEq (.bf .repr (.cons (.var 8) .nil)) (.var 11)) (.cons (.ret (.bl false)) .nil) .nil) .nil)))) .nil)))))))) (.cons (.ret (.bl true)) .nil)))⟩
def rows : List Row := List.cons (⟨"is_whole", F_is_whole, 11⟩ : Row) (List.cons (⟨"need_width", F_need_width, 12⟩ : Row) (List.cons (⟨"is_row", F_is_row, 13⟩ : Row) (List.cons (⟨"is_under", F_is_under, 14⟩ : Row) (List.cons (⟨"is_made", F_is_made, 15⟩ : Row) (List.cons (⟨"many_parts", F_many_parts, 16⟩ : Row) (List.cons (⟨"is_saying", F_is_saying, 17⟩ : Row) (List.cons (⟨"need_saying", F_need_saying, 18⟩ : Row) (List.cons (⟨"holds", F_holds, 19⟩ : Row) (List.cons (⟨"unders", F_unders, 20⟩ : Row) (List.cons (⟨"unlike_cuts", F_unlike_cuts, 21⟩ : Row) (List.cons (⟨"is_fact", F_is_fact, 25⟩ : Row) (List.cons (⟨"is_facts", F_is_facts, 26⟩ : Row) (List.cons (⟨"need_facts", F_need_facts, 27⟩ : Row) (List.cons (⟨"sayings_of", F_sayings_of, 28⟩ : Row) (List.cons (⟨"need_few", F_need_few, 29⟩ : Row) (List.cons (⟨"agreed", F_agreed, 30⟩ : Row) (List.cons (⟨"is_pair", F_is_pair, 31⟩ : Row) (List.cons (⟨"_law_spread", F__law_spread, 33⟩ : Row) (List.cons (⟨"_law_open", F__law_open, 34⟩ : Row) (List.cons (⟨"_law_take", F__law_take, 35⟩ : Row) (List.cons (⟨"_law_o_bound", F__law_o_bound, 36⟩ : Row) (List.cons (⟨"_law_o_cuts", F__law_o_cuts, 37⟩ : Row) (List.cons (⟨"_law_o_size", F__law_o_size, 38⟩ : Row) (List.cons (⟨"_law_o_made", F__law_o_made, 39⟩ : Row) (List.cons (⟨"_law_o_saying", F__law_o_saying, 40⟩ : Row) (List.cons (⟨"_law_o_truth", F__law_o_truth, 41⟩ : Row) (List.cons (⟨"_law_o_row", F__law_o_row, 42⟩ : Row) (List.cons (⟨"_law_o_no_row", F__law_o_no_row, 43⟩ : Row) (List.cons (⟨"_law_o_facts", F__law_o_facts, 44⟩ : Row) (List.cons (⟨"_law_o_agrees", F__law_o_agrees, 45⟩ : Row) (List.cons (⟨"_law_o_spread", F__law_o_spread, 46⟩ : Row) (List.cons (⟨"_law_o_is_pair", F__law_o_is_pair, 47⟩ : Row) (List.cons (⟨"_law_o_pairs", F__law_o_pairs, 48⟩ : Row) (List.cons (⟨"law", F_law, 49⟩ : Row) (([] : List Row))))))))))))))))))))))))))))))))))))
def S : Sg where
  fns := List.cons (("is_whole", 1) : (Str × Nat)) (List.cons (("need_width", 1) : (Str × Nat)) (List.cons (("is_row", 2) : (Str × Nat)) (List.cons (("is_under", 2) : (Str × Nat)) (List.cons (("is_made", 3) : (Str × Nat)) (List.cons (("many_parts", 1) : (Str × Nat)) (List.cons (("is_saying", 2) : (Str × Nat)) (List.cons (("need_saying", 2) : (Str × Nat)) (List.cons (("holds", 2) : (Str × Nat)) (List.cons (("unders", 1) : (Str × Nat)) (List.cons (("unlike_cuts", 1) : (Str × Nat)) (List.cons (("is_fact", 2) : (Str × Nat)) (List.cons (("is_facts", 2) : (Str × Nat)) (List.cons (("need_facts", 2) : (Str × Nat)) (List.cons (("sayings_of", 1) : (Str × Nat)) (List.cons (("need_few", 2) : (Str × Nat)) (List.cons (("agreed", 2) : (Str × Nat)) (List.cons (("is_pair", 4) : (Str × Nat)) (List.cons (("_law_spread", 2) : (Str × Nat)) (List.cons (("_law_open", 1) : (Str × Nat)) (List.cons (("_law_take", 2) : (Str × Nat)) (List.cons (("_law_o_bound", 1) : (Str × Nat)) (List.cons (("_law_o_cuts", 3) : (Str × Nat)) (List.cons (("_law_o_size", 1) : (Str × Nat)) (List.cons (("_law_o_made", 3) : (Str × Nat)) (List.cons (("_law_o_saying", 2) : (Str × Nat)) (List.cons (("_law_o_truth", 2) : (Str × Nat)) (List.cons (("_law_o_row", 3) : (Str × Nat)) (List.cons (("_law_o_no_row", 2) : (Str × Nat)) (List.cons (("_law_o_facts", 4) : (Str × Nat)) (List.cons (("_law_o_agrees", 2) : (Str × Nat)) (List.cons (("_law_o_spread", 2) : (Str × Nat)) (List.cons (("_law_o_is_pair", 4) : (Str × Nat)) (List.cons (("_law_o_pairs", 5) : (Str × Nat)) (List.cons (("law", 1) : (Str × Nat)) (([] : List (Str × Nat)))))))))))))))))))))))))))))))))))))
  gi := [("MOST_WIDTH", 3), ("MOST_PARTS", 15), ("MOST_DEEP", 8), ("MOST_FACTS", 12), ("MOST_CUTS", 12)]
  gs := []
  tabs := [("PARTS", tab_PARTS)]
  frees := ["all", "bool", "enumerate", "int", "isinstance", "len", "list", "max", "min", "range", "repr", "set", "sorted", "str", "sum", "tuple"]
  excs := ["NoFacts", "NoSaying", "NoWidth"]
  subs := []
  isas := []
  isbs := []
def body : List Stmt := PySem.Challenge.pw_openfew_k14_pairs_known.main.body
theorem rows_ok : rows.all (Row.ok S body) = true := by decide +kernel
abbrev R : PySem.W.OpenRow := PySem.W.OpenLaw.row PySem.Challenge.rw_openfew_k14_pairs_known
abbrev hk : PySem.W.Hook := He.hookX 5 (faOf S) (rows.map (Row.def_ body)) (tsOf S) [] (exOf S)
def ob (s : PySem.W.SharedT) : He.AlX := He.obsX 5 (faOf S) (rows.map (Row.def_ body)) (tsOf S) [] (exOf S) (HandSHeadRun.getT s)
theorem ob_eq (s : PySem.W.SharedT) : ob s = hk.obs s.abs := He.obsX_eq (HandSHeadRun.getT_eq s)
def names : List Str := (["OpenError", "NoWidth", "NoSaying", "NoFacts", "TooMany", "MOST_WIDTH", "MOST_PARTS", "MOST_DEEP", "PARTS", "is_whole", "need_width", "is_row", "is_under", "is_made", "many_parts", "is_saying", "need_saying", "holds", "unders", "unlike_cuts"] : List Str) ++ (["MOST_FACTS", "MOST_CUTS", "is_fact", "is_facts", "need_facts", "sayings_of", "need_few", "agreed", "is_pair", "_law_spread", "_law_open", "_law_take", "_law_o_bound", "_law_o_cuts", "_law_o_size", "_law_o_made", "_law_o_saying", "_law_o_truth", "_law_o_row", "_law_o_no_row"] : List Str) ++ (["_law_o_facts", "_law_o_agrees", "_law_o_spread", "_law_o_is_pair", "_law_o_pairs"] : List Str)
theorem run_f (w : World) : HandSHeadRun.RunEq R (PySem.W.view R.prog [49]) hk ob 20000 names (w.withFollow "special-get-raises" false) := by intro os; kernel_rfl
theorem run_t (w : World) : HandSHeadRun.RunEq R (PySem.W.view R.prog [49]) hk ob 20000 names (w.withFollow "special-get-raises" true) := by intro os; kernel_rfl
theorem run_ (w : World) : HandSHeadRun.RunEq R (PySem.W.view R.prog [49]) hk ob 20000 names w :=
  PySem.W.byRow2 "special-get-raises" (P := fun w => HandSHeadRun.RunEq R (PySem.W.view R.prog [49]) hk ob 20000 names w) run_f run_t w
abbrev T : FTab := tabOf rows
end L2.Q.k14
open PySem PySem.W PySem.Calls PyProof.Rows L2.Q L2.Q.k14
theorem L2.Q.k14.holds_of (hF : ∀ ns : List Int, ns.length ≤ 63 → ∃ st, L2.Q.run T 60 "law" [.d (.list (ns.map .int))] [] = .ok (.d (.bool true)) st) : PySem.Challenge.rw_openfew_k14_pairs_known.Holds := by
  w_on; o_law
  refine HandSHeadRun.head_any (r := OpenLaw.row PySem.Challenge.rw_openfew_k14_pairs_known) (q := view (OpenLaw.row PySem.Challenge.rw_openfew_k14_pairs_known).prog [49]) (H := hk) (ob := ob) (M := 20000) (loose := names) (d := HandSHeadRun.topDef (OpenLaw.row PySem.Challenge.rw_openfew_k14_pairs_known).prog 49) (kwd := []) ob_eq
    (by kernel_rfl) (fun s => by kernel_rfl) run_ (by kernel_rfl) (by kernel_rfl) (by kernel_rfl) (by rfl) (by first | assumption | decide +kernel) (by decide +kernel) ⟨rfl, rfl, rfl, rfl, rfl, by decide +kernel⟩ ?hw ?hc
  case hw => w_witness2
  case hc =>
    refine law_end (l := PySem.Challenge.rw_openfew_k14_pairs_known) (n := 63) (k := 60) (x := "_law_script") (F := L2.Q.run T 60 "law") rfl (by decide) (by kernel_rfl) ⟨rfl, by decide, by decide⟩ ?F hF
    intro w mg fa h Y G hmg0
    obtain ⟨K, KX, c⟩ := Y
    have hmg : mg ("law" : PySem.Str) = some (.ref fa) := by
      have e : (HandSHeadRun.topDef (OpenLaw.row PySem.Challenge.rw_openfew_k14_pairs_known).prog 49).name = ("law" : PySem.Str) := by kernel_rfl
      rw [← e]
      exact hmg0
    obtain ⟨fd, hb, hG⟩ := says_law (P := (PySem.Challenge.rw_openfew_k14_pairs_known).prog) (k := 60) (F := F_law) (x := "_law_script") (S := S) (rows := rows) rfl rows_ok rfl rfl rfl KX G c hmg
    exact ⟨K, fd, KX, hb, fun base _ => hG base⟩

set_option maxHeartbeats 1000000
/-! Q layer, part S: what a piece of data code tells, asked from its end. -/
namespace L2.Q
open PySem PySem.Spec PyProof.Rows

abbrev XE' := Exn → Sto → Prop
def Wp {α : Type} (r : Res α) (P : α → Sto → Prop) (E : XE') : Prop := match r with
  | .ok a st => P a st
  | .exc e st => E e st
  | .fail => False
def Ws (r : SR) (P : Fl → Env → Sto → Prop) (E : XE') : Prop := match r with
  | .ok f ρ st => P f ρ st
  | .exc e _ st => E e st
  | .fail => False
theorem Wp.mono {α : Type} {r : Res α} {P P' : α → Sto → Prop} {E E' : XE'} (h : Wp r P E) (k : ∀ a st, P a st → P' a st) (ke : ∀ e st, E e st → E' e st) : Wp r P' E' := by
  cases r with
  | ok a st => exact k a st h
  | exc e st => exact ke e st h
  | fail => exact h
theorem Wp.imp {α : Type} {r : Res α} {P P' : α → Sto → Prop} {E : XE'} (h : Wp r P E) (k : ∀ a st, P a st → P' a st) : Wp r P' E := h.mono k fun _ _ x => x
theorem Ws.mono {r : SR} {P P' : Fl → Env → Sto → Prop} {E E' : XE'} (h : Ws r P E) (k : ∀ f ρ st, P f ρ st → P' f ρ st) (ke : ∀ e st, E e st → E' e st) : Ws r P' E' := by
  cases r with
  | ok f ρ st => exact k f ρ st h
  | exc e _ st => exact ke e st h
  | fail => exact h
theorem Ws.imp {r : SR} {P P' : Fl → Env → Sto → Prop} {E : XE'} (h : Ws r P E) (k : ∀ f ρ st, P f ρ st → P' f ρ st) : Ws r P' E := h.mono k fun _ _ x => x
abbrev E0' : XE' := fun _ _ => False
/-- equal to a value -/
theorem Wp.eq {α : Type} {r : Res α} {a : α} {st : Sto} (h : Wp r (fun b st' => b = a ∧ st' = st) E0') : r = .ok a st := by
  cases r with
  | ok b st' => obtain ⟨rfl, rfl⟩ := h; rfl
  | exc e st' => exact h.elim
  | fail => exact h.elim
theorem Wp.of_eq {α : Type} {r : Res α} {a : α} {st : Sto} {P : α → Sto → Prop} {E : XE'} (e : r = .ok a st) (h : P a st) : Wp r P E := by rw [e]; exact h
theorem Wp.of_exc {α : Type} {r : Res α} {e : Exn} {st : Sto} {P : α → Sto → Prop} {E : XE'} (q : r = .exc e st) (h : E e st) : Wp r P E := by rw [q]; exact h
theorem Wp.exc {α : Type} {r : Res α} {e : Exn} {st : Sto} (h : Wp r (fun _ _ => False) fun e' st' => e' = e ∧ st' = st) : r = .exc e st := by
  cases r with
  | ok b st' => exact h.elim
  | exc e st' => obtain ⟨rfl, rfl⟩ := h; rfl
  | fail => exact h.elim
theorem wp_congr {α : Type} {r r' : Res α} {P : α → Sto → Prop} {E : XE'} (h : r = r') : Wp r P E = Wp r' P E := by rw [h]
theorem ws_congr {r r' : SR} {P : Fl → Env → Sto → Prop} {E : XE'} (h : r = r') : Ws r P E = Ws r' P E := by rw [h]

/-! ### what stands where -/
def nth : Env → Nat → Option Vv
  | [], _ => none
  | a :: _, 0 => a
  | _ :: l, n + 1 => nth l n
def put : Env → Nat → Vv → Env
  | [], _, _ => []
  | _ :: l, 0, v => some v :: l
  | a :: l, n + 1, v => a :: put l n v
theorem put_eq : ∀ (ρ : Env) (i : Nat) (v : Vv), ρ.set i (some v) = put ρ i v
  | [], _, _ => rfl
  | _ :: _, 0, _ => rfl
  | a :: l, n + 1, v => congrArg (a :: ·) (put_eq l n v)
def onO {α : Type} (o : Option α) (k : α → Prop) : Prop := match o with
  | some a => k a
  | none => False
def onB (v : Vv) (a b : Prop) : Prop := match v with
  | .d (.bool true) => a
  | .d (.bool false) => b
  | _ => False
def onD (v : Vv) (k : PyData → Prop) : Prop := match v with
  | .d x => k x
  | .ref _ => False
def onF (f : Fl) (a b : Prop) : Prop := match f with
  | .nx => a
  | _ => b
theorem onO_some {α : Type} {a : α} {k : α → Prop} : onO (some a) k = k a := rfl
theorem onO_none {α : Type} {k : α → Prop} : onO none k = False := rfl
theorem onO_if {α : Type} {c : Prop} [Decidable c] {a : α} {k : α → Prop} : onO (if c then some a else none) k = (c ∧ k a) := by
  by_cases h : c
  · rw [if_pos h]; exact propext ⟨fun x => ⟨h, x⟩, fun x => x.2⟩
  · rw [if_neg h]; exact propext ⟨fun x => x.elim, fun x => h x.1⟩
theorem onO_map {α β : Type} {o : Option α} {f : α → β} {k : β → Prop} : onO (o.map f) k = onO o fun a => k (f a) := by cases o <;> rfl
theorem onO_eq {α : Type} {o : Option α} {a : α} {k : α → Prop} (e : o = some a) (h : k a) : onO o k := by rw [e]; exact h
theorem onB_t {a b : Prop} : onB (.d (.bool true)) a b = a := rfl
theorem onB_f {a b : Prop} : onB (.d (.bool false)) a b = b := rfl
theorem onB_b {c : Bool} {a b : Prop} : onB (.d (.bool c)) a b = (if c = true then a else b) := by cases c <;> rfl
theorem onB_not {c : Bool} {a b : Prop} : onB (.d (.bool (!c))) a b = onB (.d (.bool c)) b a := by cases c <;> rfl
theorem onB_ex {v : Vv} {c : Bool} {a b : Prop} (e : v = .d (.bool c)) (h1 : c = true → a) (h2 : c = false → b) : onB v a b := by
  subst e
  cases c
  · exact h2 rfl
  · exact h1 rfl
theorem onD_d {x : PyData} {k : PyData → Prop} : onD (.d x) k = k x := rfl
theorem onF_nx {a b : Prop} : onF .nx a b = a := rfl
theorem onF_ret {v : Vv} {a b : Prop} : onF (.ret v) a b = b := rfl
theorem onF_bk {a b : Prop} : onF .bk a b = b := rfl
theorem onF_ct {a b : Prop} : onF .ct a b = b := rfl
def drf : Option Ob → Option PyData
  | some (.lst xs) => some (.list xs)
  | some (.frz xs) => some (.list xs)
  | none => none
theorem deref_d {x : PyData} {st : Sto} : deref (.d x) st = some x := rfl
theorem deref_r {n : Nat} {st : Sto} : deref (.ref n) st = drf st[n]? := by
  show (match st[n]? with
    | some (.lst xs) => some (PyData.list xs)
    | some (.frz xs) => some (PyData.list xs)
    | none => none) = drf st[n]?
  cases st[n]? with
  | none => rfl
  | some o => cases o <;> rfl

/-! ### expressions -/
section
variable {C : Cs} {ρ : Env} {st : Sto} {P : Vv → Sto → Prop} {E : XE'}
theorem wp_ok {α : Type} {a : α} {Q : α → Sto → Prop} : Wp (.ok a st) Q E = Q a st := rfl
theorem wp_exc {α : Type} {e : Exn} {Q : α → Sto → Prop} : Wp (.exc e st) Q E = E e st := rfl
theorem wp_bind {α β : Type} {r : Res α} {k : α → Sto → Res β} {Q : β → Sto → Prop} : Wp (r.bind k) Q E = Wp r (fun a st => Wp (k a st) Q E) E := by cases r <;> rfl
theorem wp_ofO {o : Option PyData} : Wp (ofO o st) P E = onO o fun d => P (.d d) st := by cases o <;> rfl
theorem w_var {i : Nat} : Wp (den C (.var i) ρ st) P E = onO (nth ρ i) fun v => P v st := by
  show Wp (mVar i ρ st) P E = _
  unfold mVar
  have e : ∀ (ρ : Env) (i : Nat), nth ρ i = (match ρ[i]? with
    | some (some v) => some v
    | _ => none) := by
    intro ρ
    induction ρ with
    | nil => intro i; rfl
    | cons a l ih =>
      intro i
      cases i with
      | zero => cases a <;> rfl
      | succ i => simp only [nth, List.getElem?_cons_succ]; exact ih i
  rw [e]
  cases ρ[i]? with
  | none => rfl
  | some v => cases v <;> rfl
theorem w_int {i : Int} : Wp (den C (.int i) ρ st) P E = P (.d (.int i)) st := rfl
theorem w_str {i : Str} : Wp (den C (.str i) ρ st) P E = P (.d (.str i)) st := rfl
theorem w_bl {i : Bool} : Wp (den C (.bl i) ρ st) P E = P (.d (.bool i)) st := rfl
theorem w_dct0 : Wp (den C .dct0 ρ st) P E = P (.d (.dict [])) st := rfl
theorem w_non : Wp (den C .non ρ st) P E = P (.d .none) st := rfl
theorem w_gint {x : Str} {i : Int} : Wp (den C (.gint x i) ρ st) P E = P (.d (.int i)) st := rfl
theorem w_gstr {x i : Str} : Wp (den C (.gstr x i) ρ st) P E = P (.d (.str i)) st := rfl
def bin2 (f : PyData → PyData → Option PyData) (x y : Vv) (st : Sto) (P : Vv → Sto → Prop) : Prop := onO (deref x st) fun d => onO (deref y st) fun e => onO (f d e) fun r => P (.d r) st
theorem w_mBin {f : PyData → PyData → Option PyData} {ma mb : EM} : Wp (mBin f ma mb ρ st) P E = Wp (ma ρ st) (fun x st1 => Wp (mb ρ st1) (fun y st2 => bin2 f x y st2 P) E) E := by
  unfold mBin
  rw [wp_bind]
  congr 1
  funext x st1
  rw [wp_bind]
  congr 1
  funext y st2
  unfold bin2
  cases deref x st2 with
  | none => rfl
  | some d =>
    cases deref y st2 with
    | none => rfl
    | some e => exact wp_ofO
theorem w_bin {op : Operator} {a b : Ex} : Wp (den C (.bin op a b) ρ st) P E = Wp (den C a ρ st) (fun x st1 => Wp (den C b ρ st1) (fun y st2 => bin2 (opBin op) x y st2 P) E) E := w_mBin
theorem w_cmp {op : CmpOp} {a b : Ex} : Wp (den C (.cmp op a b) ρ st) P E = Wp (den C a ρ st) (fun x st1 => Wp (den C b ρ st1) (fun y st2 => bin2 (opCmp op) x y st2 P) E) E := w_mBin
theorem w_idx {a b : Ex} : Wp (den C (.idx a b) ρ st) P E = Wp (den C a ρ st) (fun x st1 => Wp (den C b ρ st1) (fun y st2 => bin2 opIdx x y st2 P) E) E := w_mBin
theorem w_tabGet {x : Str} {t : Tab} {a b : Ex} : Wp (den C (.tabGet x t a b) ρ st) P E = Wp (den C a ρ st) (fun x st1 => Wp (den C b ρ st1) (fun y st2 => bin2 (fTab t.dat) x y st2 P) E) E := w_mBin
theorem w_litGet {t : Tab} {a b : Ex} : Wp (den C (.litGet t a b) ρ st) P E = Wp (den C a ρ st) (fun x st1 => Wp (den C b ρ st1) (fun y st2 => bin2 (fLit t) x y st2 P) E) E := w_mBin
theorem w_tabIx {x : Str} {t : Tab} {a : Ex} : Wp (den C (.tabIx x t a) ρ st) P E = Wp (den C a ρ st) (fun x st1 => onO (deref x st1) fun d => onO (iTab t.dat d) fun r => P (.d r) st1) E := by
  show Wp (mTabIx t.dat (den C a) ρ st) P E = _
  unfold mTabIx
  rw [wp_bind]
  congr 1
  funext x st1
  cases deref x st1 with
  | none => rfl
  | some d => exact wp_ofO
theorem w_chain {op op2 : CmpOp} {a b c : Ex} : Wp (den C (.chain op op2 a b c) ρ st) P E = Wp (den C a ρ st) (fun x st1 => Wp (den C b ρ st1) (fun y st2 => onO (deref x st2) fun d => onO (deref y st2) fun e => onO (opCmp op d e) fun r => onB (.d r)
    (Wp (den C c ρ st2) (fun z st3 => bin2 (opCmp op2) y z st3 P) E) (P (.d (.bool false)) st2)) E) E := by
  show Wp (mChain (opCmp op) (opCmp op2) (den C a) (den C b) (den C c) ρ st) P E = _
  unfold mChain
  rw [wp_bind]
  congr 1
  funext x st1
  rw [wp_bind]
  congr 1
  funext y st2
  cases deref x st2 with
  | none => rfl
  | some d =>
    cases deref y st2 with
    | none => rfl
    | some e =>
      simp only [onO_some]
      cases opCmp op d e with
      | none => rfl
      | some r =>
        simp only [onO_some]
        cases r with
        | bool k =>
          cases k with
          | false => rfl
          | true =>
            show Wp (Res.bind _ _) P E = Wp _ _ E
            rw [wp_bind]
            congr 1
            funext z st3
            unfold bin2
            cases deref y st3 with
            | none => rfl
            | some d =>
              cases deref z st3 with
              | none => rfl
              | some e => exact wp_ofO
        | _ => rfl
theorem w_nt {a : Ex} : Wp (den C (.nt a) ρ st) P E = Wp (den C a ρ st) (fun x st1 => onB x (P (.d (.bool false)) st1) (P (.d (.bool true)) st1)) E := by
  show Wp (mNot (den C a) ρ st) P E = _
  unfold mNot
  rw [wp_bind]
  congr 1
  funext x st1
  cases x with
  | ref n => rfl
  | d x =>
    cases x with
    | bool b => cases b <;> rfl
    | _ => rfl
theorem w_rev {a : Ex} : Wp (den C (.rev a) ρ st) P E = Wp (den C a ρ st) (fun x st1 => onO (deref x st1) fun d => onO (opRev d) fun r => P (.d r) st1) E := by
  show Wp (mRev (den C a) ρ st) P E = _
  unfold mRev
  rw [wp_bind]
  congr 1
  funext x st1
  cases deref x st1 with
  | none => rfl
  | some d =>
    show Wp (ofO (opRev d) st1) P E = onO (opRev d) fun r => P (.d r) st1
    cases opRev d <;> rfl
theorem w_neg {a : Ex} : Wp (den C (.neg a) ρ st) P E = Wp (den C a ρ st) (fun x st1 => match x with
    | .d (.int i) => P (.d (.int (-i))) st1
    | _ => False) E := by
  show Wp (mNeg (den C a) ρ st) P E = _
  unfold mNeg
  rw [wp_bind]
  congr 1
  funext x st1
  cases x with
  | ref n => rfl
  | d x => cases x <;> rfl
theorem w_ife {c a b : Ex} : Wp (den C (.ife c a b) ρ st) P E = Wp (den C c ρ st) (fun x st1 => onB x (Wp (den C a ρ st1) P E) (Wp (den C b ρ st1) P E)) E := by
  show Wp (mIf (den C c) (den C a) (den C b) ρ st) P E = _
  unfold mIf
  rw [wp_bind]
  congr 1
  funext x st1
  cases x with
  | ref n => rfl
  | d x =>
    cases x with
    | bool b => cases b <;> rfl
    | _ => rfl
theorem w_conj1 {a : Ex} : Wp (den C (.conj (.cons a .nil)) ρ st) P E = Wp (den C a ρ st) P E := rfl
theorem w_conj {a b : Ex} {r : Es} : Wp (den C (.conj (.cons a (.cons b r))) ρ st) P E = Wp (den C a ρ st) (fun x st1 => onB x (Wp (den C (.conj (.cons b r)) ρ st1) P E) (P (.d (.bool false)) st1)) E := by
  show Wp (mAnd (den C a) (denAnd C (.cons b r)) ρ st) P E = _
  unfold mAnd
  rw [wp_bind]
  congr 1
  funext x st1
  cases x with
  | ref n => rfl
  | d x =>
    cases x with
    | bool b => cases b <;> rfl
    | _ => rfl
theorem w_disj1 {a : Ex} : Wp (den C (.disj (.cons a .nil)) ρ st) P E = Wp (den C a ρ st) P E := rfl
theorem w_disj {a b : Ex} {r : Es} : Wp (den C (.disj (.cons a (.cons b r))) ρ st) P E = Wp (den C a ρ st) (fun x st1 => onB x (P (.d (.bool true)) st1) (Wp (den C (.disj (.cons b r)) ρ st1) P E)) E := by
  show Wp (mOr (den C a) (denOr C (.cons b r)) ρ st) P E = _
  unfold mOr
  rw [wp_bind]
  congr 1
  funext x st1
  cases x with
  | ref n => rfl
  | d x =>
    cases x with
    | bool b => cases b <;> rfl
    | _ => rfl
/-! argument lists -/
theorem wl_nil {Q : List Vv → Sto → Prop} : Wp (denL C .nil ρ st) Q E = Q [] st := rfl
theorem wl_cons {a : Ex} {r : Es} {Q : List Vv → Sto → Prop} : Wp (denL C (.cons a r) ρ st) Q E = Wp (den C a ρ st) (fun x st1 => Wp (denL C r ρ st1) (fun xs st2 => Q (x :: xs) st2) E) E := by
  show Wp (mCons (den C a) (denL C r) ρ st) Q E = _
  unfold mCons
  rw [wp_bind]
  congr 1
  funext x st1
  rw [wp_bind]
  rfl
theorem w_tup {es : Es} : Wp (den C (.tup es) ρ st) P E = Wp (denL C es ρ st) (fun xs st1 => onO (allD xs) fun ds => ds.length ≤ sizeLine ∧ P (.d (.tuple ds)) st1) E := by
  show Wp (mTup (denL C es) ρ st) P E = _
  unfold mTup
  rw [wp_bind]
  congr 1
  funext xs st1
  cases allD xs with
  | none => rfl
  | some ds =>
    show Wp (if _ then _ else _) P E = _
    split
    · exact propext ⟨fun x => ⟨by assumption, x⟩, fun x => x.2⟩
    · exact propext ⟨fun x => x.elim, fun x => absurd x.1 (by assumption)⟩
theorem w_lst {es : Es} : Wp (den C (.lst es) ρ st) P E = Wp (denL C es ρ st) (fun xs st1 => onO (allD xs) fun ds => ds.length ≤ sizeLine ∧ P (.d (.list ds)) st1) E := by
  show Wp (mLst (denL C es) ρ st) P E = _
  unfold mLst
  rw [wp_bind]
  congr 1
  funext xs st1
  cases allD xs with
  | none => rfl
  | some ds =>
    show Wp (if _ then _ else _) P E = _
    split
    · exact propext ⟨fun x => ⟨by assumption, x⟩, fun x => x.2⟩
    · exact propext ⟨fun x => x.elim, fun x => absurd x.1 (by assumption)⟩
theorem w_new {es : Es} : Wp (den C (.new es) ρ st) P E = Wp (denL C es ρ st) (fun xs st1 => onO (allD xs) fun ds => ds.length ≤ sizeLine ∧ P (.ref st1.length) (st1 ++ [.lst ds])) E := by
  show Wp (mNew (denL C es) ρ st) P E = _
  unfold mNew
  rw [wp_bind]
  congr 1
  funext xs st1
  cases allD xs with
  | none => rfl
  | some ds =>
    show Wp (if _ then _ else _) P E = _
    split
    · exact propext ⟨fun x => ⟨by assumption, x⟩, fun x => x.2⟩
    · exact propext ⟨fun x => x.elim, fun x => absurd x.1 (by assumption)⟩
theorem w_call {n : Nat} {f : Str} {es : Es} : Wp (den C (.call n f es) ρ st) P E = Wp (denL C es ρ st) (fun as st1 => as.length = n ∧ Wp (C f as st1) P E) E := by
  show Wp (mFn n (C f) (denL C es) ρ st) P E = _
  unfold mFn
  rw [wp_bind]
  congr 1
  funext as st1
  split
  · exact propext ⟨fun x => ⟨by assumption, x⟩, fun x => x.2⟩
  · exact propext ⟨fun x => x.elim, fun x => absurd x.1 (by assumption)⟩
theorem w_bf {b : BF} {es : Es} : Wp (den C (.bf b es) ρ st) P E = Wp (denL C es ρ st) (fun as st1 => onO (derefs as st1) fun ds => onO (fBF b ds) fun r => P (.d r) st1) E := by
  show Wp (mCall (fBF b) (denL C es) ρ st) P E = _
  unfold mCall
  rw [wp_bind]
  congr 1
  funext as st1
  cases derefs as st1 with
  | none => rfl
  | some ds => exact wp_ofO
theorem w_isi {b : BT} {a : Ex} : Wp (den C (.isi b a) ρ st) P E = Wp (den C a ρ st) (fun x st1 => onO (deref x st1) fun d => P (.d (.bool (isiD b d))) st1) E := by
  show Wp (mIsi b (den C a) ρ st) P E = _
  unfold mIsi
  rw [wp_bind]
  congr 1
  funext x st1
  cases deref x st1 <;> rfl
def frz1 (x : Vv) (st : Sto) (P : Vv → Sto → Prop) : Prop := match x with
  | .d x => P (.d x) st
  | .ref n => onO st[n]? fun o => match o with
    | .lst xs => P (.d (.list xs)) (st.set n (.frz xs))
    | .frz xs => P (.d (.list xs)) st
theorem w_frz {a : Ex} : Wp (den C (.frz a) ρ st) P E = Wp (den C a ρ st) (fun x st1 => frz1 x st1 P) E := by
  show Wp (mFrz (den C a) ρ st) P E = _
  unfold mFrz
  rw [wp_bind]
  congr 1
  funext x st1
  cases x with
  | d x => rfl
  | ref n =>
    show Wp (match st1[n]? with
      | some (.lst xs) => .ok (.d (.list xs)) (st1.set n (.frz xs))
      | some (.frz xs) => .ok (.d (.list xs)) st1
      | none => .fail) P E = onO st1[n]? _
    cases st1[n]? with
    | none => rfl
    | some o => cases o <;> rfl
theorem w_newL {a : Ex} : Wp (den C (.newL a) ρ st) P E = Wp (den C a ρ st) (fun x st1 => onO (deref x st1) fun d => onO (listOf d) fun ys => P (.ref st1.length) (st1 ++ [.lst ys])) E := by
  show Wp (mNewL (den C a) ρ st) P E = _
  unfold mNewL
  rw [wp_bind]
  congr 1
  funext x st1
  cases deref x st1 with
  | none => rfl
  | some d => cases hh : listOf d <;> simp only [onO_some, hh] <;> rfl
/-! slices -/
theorem wo_no {Q : Option Int → Sto → Prop} : Wp (denO C .no ρ st) Q E = Q none st := rfl
def onI (x : Vv) (k : Int → Prop) : Prop := match x with
  | .d (.int i) => k i
  | _ => False
theorem onI_i {i : Int} {k : Int → Prop} : onI (.d (.int i)) k = k i := rfl
theorem wo_at {a : Ex} {Q : Option Int → Sto → Prop} : Wp (denO C (.at_ a) ρ st) Q E = Wp (den C a ρ st) (fun x st1 => onI x fun i => Q (some i) st1) E := by
  show Wp (oAt (den C a) ρ st) Q E = _
  unfold oAt
  rw [wp_bind]
  congr 1
  funext x st1
  cases x with
  | ref n => rfl
  | d x => cases x <;> rfl
theorem w_sl {a : Ex} {lo hi : Eo} : Wp (den C (.sl a lo hi) ρ st) P E = Wp (den C a ρ st) (fun x st1 => Wp (denO C lo ρ st1) (fun l st2 => Wp (denO C hi ρ st2) (fun h st3 => onO (deref x st3) fun d => onO (opSl l h d) fun r => P (.d r) st3) E) E) E := by
  show Wp (mSl (den C a) (denO C lo) (denO C hi) ρ st) P E = _
  unfold mSl
  rw [wp_bind]
  congr 1
  funext x st1
  rw [wp_bind]
  congr 1
  funext l st2
  rw [wp_bind]
  congr 1
  funext h st3
  cases deref x st3 with
  | none => rfl
  | some d => exact wp_ofO
/-! append -/
def app2 (x y : Vv) (st : Sto) (P : Vv → Sto → Prop) : Prop := match x, y with
  | .ref n, .d y => onO st[n]? fun o => match o with
    | .lst xs => xs.length < sizeLine ∧ P (.d .none) (st.set n (.lst (xs ++ [y])))
    | .frz _ => False
  | _, _ => False
theorem w_app {o e : Ex} : Wp (den C (.app o e) ρ st) P E = Wp (den C o ρ st) (fun x st1 => match x with
    | .ref n => onO st1[n]? fun _ => Wp (den C e ρ st1) (fun y st2 => app2 x y st2 P) E
    | _ => False) E := by
  show Wp (mApp (den C o) (den C e) ρ st) P E = _
  unfold mApp
  rw [wp_bind]
  congr 1
  funext x st1
  cases x with
  | d x => rfl
  | ref n =>
    show Wp (match st1[n]? with
      | some _ => _
      | none => Res.fail) P E = onO st1[n]? _
    cases st1[n]? with
    | none => rfl
    | some o =>
      show Wp (Res.bind _ _) P E = Wp _ _ E
      rw [wp_bind]
      congr 1
      funext y st2
      cases y with
      | ref m => rfl
      | d y =>
        show Wp (match (Vv.d y), st2[n]? with
          | .d y, some (.lst xs) => if xs.length < sizeLine then .ok (.d .none) (st2.set n (.lst (xs ++ [y]))) else .fail
          | _, _ => .fail) P E = onO st2[n]? _
        cases st2[n]? with
        | none => rfl
        | some o =>
          cases o with
          | frz xs => rfl
          | lst xs =>
            show Wp (if _ then _ else _) P E = _
            split
            · exact propext ⟨fun x => ⟨by assumption, x⟩, fun x => x.2⟩
            · exact propext ⟨fun x => x.elim, fun x => absurd x.1 (by assumption)⟩
def cat2 (x y : Vv) (st : Sto) (P : Vv → Sto → Prop) : Prop := onO (deref x st) fun d => onO (deref y st) fun e => onO (listOnly d) fun xs => onO (listOnly e) fun ys => xs.length + ys.length ≤ sizeLine ∧ P (.ref st.length) (st ++ [.lst (xs ++ ys)])
where
  listOnly : PyData → Option (List PyData)
    | .list xs => some xs
    | _ => none
theorem w_catN {a b : Ex} : Wp (den C (.catN a b) ρ st) P E = Wp (den C a ρ st) (fun x st1 => Wp (den C b ρ st1) (fun y st2 => cat2 x y st2 P) E) E := by
  show Wp (mCatN (den C a) (den C b) ρ st) P E = _
  unfold mCatN
  rw [wp_bind]
  congr 1
  funext x st1
  rw [wp_bind]
  congr 1
  funext y st2
  unfold cat2
  cases deref x st2 with
  | none => rfl
  | some d =>
    cases deref y st2 with
    | none => cases d <;> rfl
    | some e =>
      cases d with
      | list xs =>
        cases e with
        | list ys =>
          show Wp (if _ then _ else _) P E = _
          split
          · exact propext ⟨fun x => ⟨by assumption, x⟩, fun x => x.2⟩
          · exact propext ⟨fun x => x.elim, fun x => absurd x.1 (by assumption)⟩
        | _ => rfl
      | _ => cases e <;> rfl
def ext2 (x y : Vv) (st : Sto) (P : Vv → Sto → Prop) : Prop := match x with
  | .ref n => onO (deref y st) fun d => onO (cat2.listOnly d) fun ys => onO st[n]? fun o => match o with
    | .lst xs => xs.length + ys.length ≤ sizeLine ∧ P (.d .none) (st.set n (.lst (xs ++ ys)))
    | .frz _ => False
  | .d _ => False
theorem w_ext {o e : Ex} : Wp (den C (.ext o e) ρ st) P E = Wp (den C o ρ st) (fun x st1 => match x with
    | .ref n => onO st1[n]? fun _ => Wp (den C e ρ st1) (fun y st2 => ext2 x y st2 P) E
    | _ => False) E := by
  show Wp (mExt (den C o) (den C e) ρ st) P E = _
  unfold mExt
  rw [wp_bind]
  congr 1
  funext x st1
  cases x with
  | d x => rfl
  | ref n =>
    show Wp (match st1[n]? with
      | some _ => _
      | none => Res.fail) P E = onO st1[n]? _
    cases st1[n]? with
    | none => rfl
    | some o =>
      show Wp (Res.bind _ _) P E = Wp _ _ E
      rw [wp_bind]
      congr 1
      funext y st2
      unfold ext2
      show Wp (match deref y st2, st2[n]? with
        | some (.list ys), some (.lst xs) => if xs.length + ys.length ≤ sizeLine then .ok (.d .none) (st2.set n (.lst (xs ++ ys))) else .fail
        | _, _ => .fail) P E = onO (deref y st2) _
      cases deref y st2 with
      | none => rfl
      | some d =>
        cases d with
        | list ys =>
          show Wp (match some (PyData.list ys), st2[n]? with
            | some (.list ys), some (.lst xs) => if xs.length + ys.length ≤ sizeLine then .ok (.d .none) (st2.set n (.lst (xs ++ ys))) else .fail
            | _, _ => .fail) P E = onO st2[n]? _
          cases st2[n]? with
          | none => rfl
          | some o =>
            cases o with
            | frz xs => rfl
            | lst xs =>
              show Wp (if _ then _ else _) P E = _
              split
              · exact propext ⟨fun x => ⟨by assumption, x⟩, fun x => x.2⟩
              · exact propext ⟨fun x => x.elim, fun x => absurd x.1 (by assumption)⟩
        | _ => rfl
/-! what is walked -/
def items1 (x : Vv) (k : List PyData → Prop) : Prop := match x with
  | .d (.list xs) => k xs
  | .d (.tuple xs) => k xs
  | _ => False
theorem items_l {xs : List PyData} {k : List PyData → Prop} : items1 (.d (.list xs)) k = k xs := rfl
theorem items_t {xs : List PyData} {k : List PyData → Prop} : items1 (.d (.tuple xs)) k = k xs := rfl
theorem wi_items {a : Ex} {Q : List PyData → Sto → Prop} : Wp (denI C (.items a) ρ st) Q E = Wp (den C a ρ st) (fun x st1 => items1 x fun xs => Q xs st1) E := by
  show Wp (mItems (den C a) ρ st) Q E = _
  unfold mItems
  rw [wp_bind]
  congr 1
  funext x st1
  cases x with
  | ref n => rfl
  | d x => cases x <;> rfl
theorem wi_rng1 {a : Ex} {Q : List PyData → Sto → Prop} : Wp (denI C (.rng1 a) ρ st) Q E = Wp (den C a ρ st) (fun x st1 => onI x fun n => (n ≤ 1000000 ∧ -1000000 ≤ n) ∧ Q (upFrom 0 n.toNat) st1) E := by
  show Wp (mRng1 (den C a) ρ st) Q E = _
  unfold mRng1
  rw [wp_bind]
  congr 1
  funext x st1
  cases x with
  | ref n => rfl
  | d x =>
    cases x with
    | int n =>
      show Wp (if _ then _ else _) Q E = _
      split
      · exact propext ⟨fun x => ⟨by assumption, x⟩, fun x => x.2⟩
      · exact propext ⟨fun x => x.elim, fun x => absurd x.1 (by assumption)⟩
    | _ => rfl
theorem wi_rng2 {a b : Ex} {Q : List PyData → Sto → Prop} : Wp (denI C (.rng2 a b) ρ st) Q E = Wp (den C a ρ st) (fun x st1 => Wp (den C b ρ st1) (fun y st2 => onI x fun i => onI y fun j => (i ≤ 1000000 ∧ -1000000 ≤ i ∧ j ≤ 1000000 ∧ -1000000 ≤ j) ∧ Q (upFrom i (j - i).toNat) st2) E) E := by
  show Wp (mRng2 (den C a) (den C b) ρ st) Q E = _
  unfold mRng2
  rw [wp_bind]
  congr 1
  funext x st1
  rw [wp_bind]
  congr 1
  funext y st2
  cases x with
  | ref n => rfl
  | d x =>
    cases x with
    | int n =>
      cases y with
      | ref m => rfl
      | d y =>
        cases y with
        | int m =>
          show Wp (if _ then _ else _) Q E = _
          split
          · exact propext ⟨fun x => ⟨by assumption, x⟩, fun x => x.2⟩
          · exact propext ⟨fun x => x.elim, fun x => absurd x.1 (by assumption)⟩
        | _ => rfl
    | _ => rfl
theorem wi_enum {a : Ex} {Q : List PyData → Sto → Prop} : Wp (denI C (.enum a) ρ st) Q E = Wp (den C a ρ st) (fun x st1 => items1 x fun xs => Q (numbered 0 xs) st1) E := by
  show Wp (mEnum (den C a) ρ st) Q E = _
  unfold mEnum
  rw [wp_bind]
  congr 1
  funext x st1
  cases x with
  | ref n => rfl
  | d x => cases x <;> rfl
theorem wi_rngD {a b : Ex} {Q : List PyData → Sto → Prop} : Wp (denI C (.rngD a b) ρ st) Q E = Wp (den C a ρ st) (fun x st1 => Wp (den C b ρ st1) (fun y st2 => onI x fun i => onI y fun j => (i ≤ 1000000 ∧ -1000000 ≤ i ∧ j ≤ 1000000 ∧ -1000000 ≤ j) ∧ Q (downFrom i (i - j).toNat) st2) E) E := by
  show Wp (mRngD (den C a) (den C b) ρ st) Q E = _
  unfold mRngD
  rw [wp_bind]
  congr 1
  funext x st1
  rw [wp_bind]
  congr 1
  funext y st2
  cases x with
  | ref n => rfl
  | d x =>
    cases x with
    | int n =>
      cases y with
      | ref m => rfl
      | d y =>
        cases y with
        | int m =>
          show Wp (if _ then _ else _) Q E = _
          split
          · exact propext ⟨fun x => ⟨by assumption, x⟩, fun x => x.2⟩
          · exact propext ⟨fun x => x.elim, fun x => absurd x.1 (by assumption)⟩
        | _ => rfl
    | _ => rfl
def zip2 (x y : Vv) (k : List PyData → Prop) : Prop := match x, y with
  | .d (.list xs), .d (.list ys) => k (zipD xs ys)
  | .d (.tuple xs), .d (.tuple ys) => k (zipD xs ys)
  | _, _ => False
theorem zip2_l {xs ys : List PyData} {k : List PyData → Prop} : zip2 (.d (.list xs)) (.d (.list ys)) k = k (zipD xs ys) := rfl
theorem zip2_t {xs ys : List PyData} {k : List PyData → Prop} : zip2 (.d (.tuple xs)) (.d (.tuple ys)) k = k (zipD xs ys) := rfl
theorem wi_zip {a b : Ex} {Q : List PyData → Sto → Prop} : Wp (denI C (.zip a b) ρ st) Q E = Wp (den C a ρ st) (fun x st1 => Wp (den C b ρ st1) (fun y st2 => zip2 x y fun xs => Q xs st2) E) E := by
  show Wp (mZip (den C a) (den C b) ρ st) Q E = _
  unfold mZip
  rw [wp_bind]
  congr 1
  funext x st1
  rw [wp_bind]
  congr 1
  funext y st2
  cases x with
  | ref n => rfl
  | d x =>
    cases y with
    | ref m => cases x <;> rfl
    | d y => cases x <;> cases y <;> rfl
def pop1 (x : Vv) (st : Sto) (P : Vv → Sto → Prop) : Prop := match x with
  | .ref n => onO st[n]? fun o => match o with
    | .lst xs => onO xs[xs.length - 1]? fun y => P (.d y) (st.set n (.lst xs.dropLast))
    | .frz _ => False
  | .d _ => False
theorem w_pop {o : Ex} : Wp (den C (.pop o) ρ st) P E = Wp (den C o ρ st) (fun x st1 => pop1 x st1 P) E := by
  show Wp (mPop (den C o) ρ st) P E = _
  unfold mPop
  rw [wp_bind]
  congr 1
  funext x st1
  cases x with
  | d x => rfl
  | ref n =>
    show Wp (match st1[n]? with
      | some (.lst xs) => (match xs[xs.length - 1]? with
        | some y => .ok (.d y) (st1.set n (.lst xs.dropLast))
        | none => .fail)
      | _ => .fail) P E = onO st1[n]? _
    cases st1[n]? with
    | none => rfl
    | some o =>
      cases o with
      | frz xs => rfl
      | lst xs =>
        show Wp (match xs[xs.length - 1]? with
          | some y => .ok (.d y) (st1.set n (.lst xs.dropLast))
          | none => .fail) P E = onO xs[xs.length - 1]? _
        cases xs[xs.length - 1]? <;> rfl
/-! comprehensions -/
theorem w_comp {own : List Nat} {tg : Tg} {it : It} {c : Eo} {a : Ex} : Wp (den C (.comp own tg it c a) ρ st) P E = Wp (denI C it ρ st) (fun xs st1 => Wp (compL tg (denT C c) (den C a) (wipeE ρ own) xs st1) (fun ys st2 => P (.d (.list ys)) st2) E) E := by
  show Wp (mComp (denI C it) own tg (denT C c) (den C a) ρ st) P E = _
  unfold mComp mCompF
  rw [wp_bind]
  congr 1
  funext xs st1
  rw [wp_bind]
  rfl
theorem w_compN {own : List Nat} {tg : Tg} {it : It} {c : Eo} {a : Ex} : Wp (den C (.compN own tg it c a) ρ st) P E = Wp (denI C it ρ st) (fun xs st1 => Wp (compL tg (denT C c) (den C a) (wipeE ρ own) xs st1) (fun ys st2 => P (.ref st2.length) (st2 ++ [.lst ys])) E) E := by
  show Wp (mCompF okN (denI C it) own tg (denT C c) (den C a) ρ st) P E = _
  unfold mCompF
  rw [wp_bind]
  congr 1
  funext xs st1
  rw [wp_bind]
  rfl
theorem w_uniq {fr : Bool} {own own' : List Nat} {tg tg' : Tg} {it it' : It} {a : Ex} : Wp (den C (.uniq fr own own' tg it tg' it' a) ρ st) P E = Wp (denI C it ρ st) (fun xs st1 => Wp (uOut tg (denI C it') own' tg' (den C a) (wipeE ρ own) xs [] st1) (fun acc st2 => Wp (okB fr (rowsD acc) st2) P E) E) E := by
  show Wp (mUniq (okB fr) (denI C it) own own' tg (denI C it') tg' (den C a) ρ st) P E = _
  unfold mUniq
  rw [wp_bind]
  congr 1
  funext xs st1
  rw [wp_bind]
theorem okB_f {ys : List PyData} : Wp (okB false ys st) P E = P (.d (.list ys)) st := rfl
theorem okB_t {ys : List PyData} : Wp (okB true ys st) P E = P (.ref st.length) (st ++ [.lst ys]) := rfl
def onlyRows (d : PyData) : Option (List PyData) := match d with
  | .list xs => some xs
  | _ => none
theorem list1_l {xs : List PyData} : onlyRows (.list xs) = some xs := rfl
theorem w_usort {fr : Bool} {a : Ex} : Wp (den C (.usort fr a) ρ st) P E = Wp (den C a ρ st) (fun v st1 => onO (deref v st1) fun d => onO (onlyRows d) fun ds => onO (rowsAll ds) fun ks => ks.length < 64 ∧ Wp (okB fr (rowsD (dedup ks)) st1) P E) E := by
  show Wp (mUsort (okB fr) (den C a) ρ st) P E = _
  unfold mUsort
  rw [wp_bind]
  congr 1
  funext v st1
  cases deref v st1 with
  | none => rfl
  | some d =>
    cases d with
    | list ds =>
      show Wp (match rowsAll ds with
        | some ks => if ks.length < 64 then okB fr (rowsD (dedup ks)) st1 else .fail
        | none => .fail) P E = onO (rowsAll ds) _
      cases rowsAll ds with
      | none => rfl
      | some ks =>
        show Wp (if ks.length < 64 then okB fr (rowsD (dedup ks)) st1 else .fail) P E = (_ ∧ _)
        by_cases h : ks.length < 64
        · rw [if_pos h]; exact propext ⟨fun z => ⟨h, z⟩, fun z => z.2⟩
        · rw [if_neg h]; exact propext ⟨fun z => z.elim, fun z => absurd z.1 h⟩
    | _ => rfl
theorem w_usortI {fr : Bool} {a : Ex} : Wp (den C (.usortI fr a) ρ st) P E = Wp (den C a ρ st) (fun v st1 => onO (deref v st1) fun d => onO (onlyRows d) fun ds => onO (intsOf ds) fun ks => ks.length < 63 ∧ Wp (okB fr ((sortI ks).map .int) st1) P E) E := by
  show Wp (mUsortI (okB fr) (den C a) ρ st) P E = _
  unfold mUsortI
  rw [wp_bind]
  congr 1
  funext v st1
  cases deref v st1 with
  | none => rfl
  | some d =>
    cases d with
    | list ds =>
      show Wp (match intsOf ds with
        | some ks => if ks.length < 63 then okB fr ((sortI ks).map .int) st1 else .fail
        | none => .fail) P E = onO (intsOf ds) _
      cases intsOf ds with
      | none => rfl
      | some ks =>
        show Wp (if ks.length < 63 then okB fr ((sortI ks).map .int) st1 else .fail) P E = (ks.length < 63 ∧ Wp (okB fr ((sortI ks).map .int) st1) P E)
        split
        · exact propext ⟨fun x => ⟨by assumption, x⟩, fun x => x.2⟩
        · exact propext ⟨fun x => x.elim, fun x => absurd x.1 (by assumption)⟩
    | _ => rfl
/-- the rows told by one walk, then by all -/
theorem uIn_rule {tg' : Tg} {me : EM} {Q : List (List Int) → Sto → Prop} {E : XE'} : ∀ {ys : List PyData} {ks : List (List Int)} {acc : List (List Int)}, (∀ (i : Nat) (y : PyData), ys[i]? = some y → onO (tg'.asg (.d y) ρ) fun ρ1 => Wp (me ρ1 st) (fun v st1 => st1 = st ∧ onD v fun z => rowD z = ks[i]? ∧ ks[i]? ≠ none) E0') → ys.length = ks.length → acc.length + ks.length ≤ 63 →
    Q (ks.foldl putRow acc) st → Wp (uIn tg' me ρ ys acc st) Q E
  | [], [], acc, _, _, _, q => q
  | y :: ys, k :: ks, acc, h, hl, hz, q => by
    have h0 := h 0 y rfl
    unfold uIn
    cases ea : tg'.asg (.d y) ρ with
    | none => rw [ea] at h0; exact h0.elim
    | some ρ1 =>
      rw [ea] at h0
      have h0 : Wp (me ρ1 st) _ E0' := h0
      show Wp (Res.bind (noX (me ρ1 st)) _) _ _
      cases em : me ρ1 st with
      | fail => rw [em] at h0; exact h0.elim
      | exc e s => rw [em] at h0; exact h0.elim
      | ok v st1 =>
        rw [em] at h0
        obtain ⟨e1, h0⟩ := h0
        have e1' := e1.symm
        subst e1'
        cases v with
        | ref n => exact h0.elim
        | d z =>
          obtain ⟨h0, _⟩ := h0
          have h0 : rowD z = some k := h0
          show Wp (match rowD z with
            | none => (.fail : Res (List (List Int)))
            | some k => if acc.length < 63 then uIn tg' me ρ ys (putRow acc k) st else .fail) _ _
          rw [h0]
          show Wp (if acc.length < 63 then uIn tg' me ρ ys (putRow acc k) st else .fail) _ _
          simp only [List.length_cons] at hz hl
          rw [if_pos (by omega)]
          have lp : (putRow acc k).length ≤ acc.length + 1 := by
            unfold putRow
            split
            · omega
            · rw [List.length_append]; exact Nat.le_refl _
          exact uIn_rule (fun i y hy => h (i + 1) y hy) (by omega) (by omega) q
  | [], _ :: _, _, _, hl, _, _ => by cases hl
  | _ :: _, [], _, _, hl, _, _ => by cases hl
theorem len_fold : ∀ (ks acc : List (List Int)), (ks.foldl putRow acc).length ≤ acc.length + ks.length
  | [], acc => by simp
  | k :: ks, acc => by
    have := len_fold ks (putRow acc k)
    have lp : (putRow acc k).length ≤ acc.length + 1 := by
      unfold putRow
      split
      · omega
      · rw [List.length_append]; exact Nat.le_refl _
    rw [List.foldl_cons, List.length_cons]
    omega
theorem uOut_rule {tg tg' : Tg} {mb : IM} {own' : List Nat} {me : EM} {Q : List (List Int) → Sto → Prop} {E : XE'} : ∀ {xs : List PyData} {kss : List (List (List Int))} {acc : List (List Int)}, (∀ (i : Nat) (x : PyData), xs[i]? = some x → onO (tg.asg (.d x) ρ) fun ρ1 => Wp (mb ρ1 st) (fun ys st1 => st1 = st ∧
      ∃ ks, kss[i]? = some ks ∧ ys.length = ks.length ∧ ∀ (j : Nat) (y : PyData), ys[j]? = some y → onO (tg'.asg (.d y) (wipeE ρ1 own')) fun ρ2 => Wp (me ρ2 st) (fun v st2 => st2 = st ∧ onD v fun z => rowD z = ks[j]? ∧ ks[j]? ≠ none) E0') E0') → xs.length = kss.length → acc.length + kss.flatten.length ≤ 63 →
    Q (kss.flatten.foldl putRow acc) st → Wp (uOut tg mb own' tg' me ρ xs acc st) Q E
  | [], [], acc, _, _, _, q => q
  | x :: xs, ks :: kss, acc, h, hl, hz, q => by
    have h0 := h 0 x rfl
    unfold uOut
    cases ea : tg.asg (.d x) ρ with
    | none => rw [ea] at h0; exact h0.elim
    | some ρ1 =>
      rw [ea] at h0
      have h0 : Wp (mb ρ1 st) _ E0' := h0
      show Wp (Res.bind (noX (mb ρ1 st)) _) _ _
      cases em : mb ρ1 st with
      | fail => rw [em] at h0; exact h0.elim
      | exc e s => rw [em] at h0; exact h0.elim
      | ok ys st1 =>
        rw [em] at h0
        obtain ⟨e1, ks', e2, hy, hr⟩ := h0
        have e1' := e1.symm
        subst e1'
        obtain rfl : ks = ks' := Option.some.inj e2
        show Wp (Res.bind (uIn tg' me (wipeE ρ1 own') ys acc st) _) _ _
        rw [wp_bind]
        rw [List.flatten_cons, List.length_append] at hz
        rw [List.flatten_cons, List.foldl_append] at q
        refine uIn_rule hr hy (by omega) ?_
        have := len_fold ks acc
        exact uOut_rule (fun i x hx => h (i + 1) x hx) (by simpa using hl) (by omega) q
  | [], _ :: _, _, _, hl, _, _ => by cases hl
  | _ :: _, [], _, _, hl, _, _ => by cases hl
/-- a comprehension by an invariant: R n ys, behind n members, ys told (no exception may come) -/
theorem wc_inv {tg : Tg} {mt me : EM} {Q : List PyData → Sto → Prop} (R : Nat → List PyData → Sto → Prop) {xs : List PyData} (h0 : R 0 [] st) (step : ∀ (i : Nat) (x : PyData) (ys : List PyData) (st : Sto), xs[i]? = some x → R i ys st → onO (tg.asg (.d x) ρ) fun ρ1 =>
    Wp (mt ρ1 st) (fun b st1 => onB b (Wp (me ρ1 st1) (fun y st2 => onD y fun y => R (i + 1) (ys ++ [y]) st2) E0') (R (i + 1) ys st1)) E0') (fin : ∀ ys st, R xs.length ys st → Q ys st) : Wp (compL tg mt me ρ xs st) Q E := by
  have gen : ∀ (l : List PyData) (pre : List PyData) (zs : List PyData) (st : Sto), xs = pre ++ l → R pre.length zs st → Wp (compL tg mt me ρ l st) (fun ys st' => R xs.length (zs ++ ys) st') E0' := by
    intro l
    induction l with
    | nil =>
      intro pre zs st e h
      show R xs.length (zs ++ []) st
      rw [List.append_nil, e, List.append_nil]
      exact h
    | cons x l ih =>
      intro pre zs st e h
      have q := step pre.length x zs st (by rw [e]; simp) h
      unfold compL
      cases ea : tg.asg (.d x) ρ with
      | none => rw [ea] at q; exact q.elim
      | some ρ1 =>
        rw [ea] at q
        have q : Wp (mt ρ1 st) _ E0' := q
        show Wp (Res.bind (noX (mt ρ1 st)) _) _ E0'
        cases em : mt ρ1 st with
        | fail => rw [em] at q; exact q.elim
        | exc e s => rw [em] at q; exact q.elim
        | ok b st1 =>
          rw [em] at q
          have q : onB b _ _ := q
          have next : ∀ (zs2 : List PyData) (st2 : Sto), R (pre.length + 1) zs2 st2 → Wp (compL tg mt me ρ l st2) (fun ys st' => R xs.length (zs2 ++ ys) st') E0' := fun zs2 st2 h2 => ih (pre ++ [x]) zs2 st2 (by rw [e]; simp) (by rw [List.length_append]; exact h2)
          cases b with
          | ref n => exact q.elim
          | d b =>
            cases b with
            | bool b =>
              cases b with
              | false => exact next zs st1 q
              | true =>
                have q : Wp (me ρ1 st1) _ E0' := q
                show Wp (Res.bind (noX (me ρ1 st1)) _) _ E0'
                cases ee : me ρ1 st1 with
                | fail => rw [ee] at q; exact q.elim
                | exc e s => rw [ee] at q; exact q.elim
                | ok y st2 =>
                  rw [ee] at q
                  have q : onD y _ := q
                  cases y with
                  | ref n => exact q.elim
                  | d y =>
                    show Wp (Res.bind (compL tg mt me ρ l st2) _) _ E0'
                    rw [wp_bind]
                    refine (next (zs ++ [y]) st2 q).imp fun ys st' hq => ?_
                    show R xs.length (zs ++ y :: ys) st'
                    rw [List.append_assoc] at hq
                    exact hq
            | _ => exact q.elim
  exact (gen xs [] [] st rfl h0).mono (fun ys st' h => fin ys st' h) fun e s h => h.elim
end

/-! ### statements -/
section
variable {C : Cs} {ρ : Env} {st : Sto} {P : Fl → Env → Sto → Prop} {E : XE'}
theorem ws_ok {f : Fl} : Ws (.ok f ρ st) P E = P f ρ st := rfl
theorem ws_ofE {α : Type} {r : Res α} {k : α → Sto → SR} : Ws (ofE ρ r k) P E = Wp r (fun a st => Ws (k a st) P E) E := by cases r <;> rfl
theorem b_nil : Ws (denB C .nil ρ st) P E = P .nx ρ st := rfl
theorem b_cons {s : Sm} {r : Ss} : Ws (denB C (.cons s r) ρ st) P E = Ws (denS C s ρ st) (fun f ρ1 st1 => onF f (Ws (denB C r ρ1 st1) P E) (P f ρ1 st1)) E := by
  show Ws (mSeq (denS C s) (denB C r) ρ st) P E = _
  unfold mSeq
  cases denS C s ρ st with
  | ok f ρ1 st1 => cases f <;> rfl
  | exc e ρ1 st1 => rfl
  | fail => rfl
theorem s_set {i : Nat} {e : Ex} : Ws (denS C (.set i e) ρ st) P E = Wp (den C e ρ st) (fun v st1 => P .nx (put ρ i v) st1) E := by
  show Ws (mAsg (.name i) (den C e) ρ st) P E = _
  unfold mAsg
  rw [ws_ofE]
  congr 1
  funext v st1
  show Ws (.ok .nx (ρ.set i (some v)) st1) P E = _
  rw [put_eq]
  rfl
theorem s_asg {is : List Nat} {e : Ex} : Ws (denS C (.asg is e) ρ st) P E = Wp (den C e ρ st) (fun v st1 => onO (Tg.asg (.tup is) v ρ) fun ρ1 => P .nx ρ1 st1) E := by
  show Ws (mAsg (.tup is) (den C e) ρ st) P E = _
  unfold mAsg
  rw [ws_ofE]
  congr 1
  funext v st1
  cases Tg.asg (.tup is) v ρ <;> rfl
theorem s_par {i j : Nat} {a b : Ex} : Ws (denS C (.par i j a b) ρ st) P E = Wp (den C a ρ st) (fun v st1 => Wp (den C b ρ st1) (fun w st2 => P .nx (put (put ρ i v) j w) st2) E) E := by
  show Ws (mPar i j (den C a) (den C b) ρ st) P E = _
  unfold mPar
  rw [ws_ofE]
  congr 1
  funext v st1
  rw [ws_ofE]
  congr 1
  funext w st2
  rw [put_eq, put_eq]
  rfl
def setIx3 (o i v : Vv) (st : Sto) (k : Sto → Prop) : Prop := match o, i, v with
  | .ref n, .d (.int z), .d y => onO st[n]? fun ob => match ob with
    | .lst xs => onO (ixN xs.length z) fun j => k (st.set n (.lst (xs.set j y)))
    | .frz _ => False
  | _, _, _ => False
theorem s_setIx {o i e : Ex} : Ws (denS C (.setIx o i e) ρ st) P E = Wp (den C e ρ st) (fun v st1 => Wp (den C o ρ st1) (fun x st2 => Wp (den C i ρ st2) (fun y st3 => setIx3 x y v st3 fun st4 => P .nx ρ st4) E) E) E := by
  show Ws (mSetIx (den C o) (den C i) (den C e) ρ st) P E = _
  unfold mSetIx
  rw [ws_ofE]
  congr 1
  funext v st1
  rw [ws_ofE]
  congr 1
  funext x st2
  rw [ws_ofE]
  congr 1
  funext y st3
  unfold setIx3
  cases x with
  | d x => rfl
  | ref n =>
    cases y with
    | ref m => rfl
    | d y =>
      cases y with
      | int z =>
        cases v with
        | ref m => rfl
        | d v =>
          show Ws (match st3[n]? with
            | some (.lst xs) => (match ixN xs.length z with
              | some j => .ok .nx ρ (st3.set n (.lst (xs.set j v)))
              | none => .fail)
            | _ => .fail) P E = onO st3[n]? _
          cases st3[n]? with
          | none => rfl
          | some ob =>
            cases ob with
            | frz xs => rfl
            | lst xs =>
              show Ws (match ixN xs.length z with
                | some j => .ok .nx ρ (st3.set n (.lst (xs.set j v)))
                | none => .fail) P E = onO (ixN xs.length z) _
              cases ixN xs.length z <;> rfl
      | _ => rfl
theorem s_ret {e : Ex} : Ws (denS C (.ret e) ρ st) P E = Wp (den C e ρ st) (fun v st1 => P (.ret v) ρ st1) E := by
  show Ws (mRet (den C e) ρ st) P E = _
  unfold mRet
  rw [ws_ofE]
  rfl
theorem s_retN : Ws (denS C .retN ρ st) P E = P (.ret (.d .none)) ρ st := rfl
theorem s_ifs {c : Ex} {a b : Ss} : Ws (denS C (.ifs c a b) ρ st) P E = Wp (den C c ρ st) (fun x st1 => onB x (Ws (denB C a ρ st1) P E) (Ws (denB C b ρ st1) P E)) E := by
  show Ws (mIfS (den C c) (denB C a) (denB C b) ρ st) P E = _
  unfold mIfS
  rw [ws_ofE]
  congr 1
  funext x st1
  cases x with
  | ref n => rfl
  | d x =>
    cases x with
    | bool b => cases b <;> rfl
    | _ => rfl
theorem s_for {tg : Tg} {it : It} {b : Ss} : Ws (denS C (.for_ tg it b) ρ st) P E = Wp (denI C it ρ st) (fun xs st1 => Ws (forL tg (denB C b) xs ρ st1) P E) E := by
  show Ws (mFor (denI C it) tg (denB C b) ρ st) P E = _
  unfold mFor
  rw [ws_ofE]
theorem s_raise {x : Str} : Ws (denS C (.raise x) ρ st) P E = E ⟨x, none⟩ st := rfl
theorem s_doE {e : Ex} : Ws (denS C (.doE e) ρ st) P E = Wp (den C e ρ st) (fun _ st1 => P .nx ρ st1) E := by
  show Ws (mDo (den C e) ρ st) P E = _
  unfold mDo
  rw [ws_ofE]
  rfl
theorem s_bk : Ws (denS C .bk ρ st) P E = P .bk ρ st := rfl
theorem s_ct : Ws (denS C .ct ρ st) P E = P .ct ρ st := rfl
theorem s_pass : Ws (denS C .pass ρ st) P E = P .nx ρ st := rfl
/-- a loop by an invariant: R n, behind n members -/
theorem for_inv {tg : Tg} {body : SM} (R : Nat → Env → Sto → Prop) {xs : List PyData} (h0 : R 0 ρ st) (step : ∀ (i : Nat) (x : PyData) (ρ : Env) (st : Sto), xs[i]? = some x → R i ρ st → onO (tg.asg (.d x) ρ) fun ρ1 =>
    Ws (body ρ1 st) (fun f ρ2 st2 => match f with
      | .nx => R (i + 1) ρ2 st2
      | .ct => R (i + 1) ρ2 st2
      | .bk => P .nx ρ2 st2
      | .ret v => P (.ret v) ρ2 st2) E) (fin : ∀ ρ st, R xs.length ρ st → P .nx ρ st) : Ws (forL tg body xs ρ st) P E := by
  have gen : ∀ (l : List PyData) (pre : List PyData) (ρ : Env) (st : Sto), xs = pre ++ l → R pre.length ρ st → Ws (forL tg body l ρ st) P E := by
    intro l
    induction l with
    | nil =>
      intro pre ρ st e h
      exact fin ρ st (by rw [e, List.append_nil]; exact h)
    | cons x l ih =>
      intro pre ρ st e h
      have q := step pre.length x ρ st (by rw [e]; simp) h
      unfold forL
      cases ea : tg.asg (.d x) ρ with
      | none => rw [ea] at q; exact q.elim
      | some ρ1 =>
        rw [ea] at q
        have q : Ws (body ρ1 st) _ E := q
        have next : ∀ (ρ2 : Env) (st2 : Sto), R (pre.length + 1) ρ2 st2 → Ws (forL tg body l ρ2 st2) P E := fun ρ2 st2 h2 => ih (pre ++ [x]) ρ2 st2 (by rw [e]; simp) (by rw [List.length_append]; exact h2)
        show Ws (match body ρ1 st with
          | .ok .nx ρ2 st2 => forL tg body l ρ2 st2
          | .ok .ct ρ2 st2 => forL tg body l ρ2 st2
          | .ok .bk ρ2 st2 => .ok .nx ρ2 st2
          | r => r) P E
        cases eb : body ρ1 st with
        | fail => rw [eb] at q; exact q.elim
        | exc e ρ2 st2 => rw [eb] at q; exact q
        | ok f ρ2 st2 =>
          rw [eb] at q
          cases f with
          | nx => exact next ρ2 st2 q
          | ct => exact next ρ2 st2 q
          | bk => exact q
          | ret v => exact q
  exact gen xs [] ρ st rfl h0
/-- while, by an invariant and what falls -/
theorem while_inv {n : Nat} {c : Ex} {b : Ss} (R : Env → Sto → Prop) (m : Env → Sto → Nat) (h0 : R ρ st) (hm : m ρ st < n) (step : ∀ (ρ : Env) (st : Sto), R ρ st → Wp (den C c ρ st) (fun v st1 => onB v (Ws (denB C b ρ st1) (fun f ρ2 st2 => match f with
      | .nx => R ρ2 st2 ∧ m ρ2 st2 < m ρ st
      | .ct => R ρ2 st2 ∧ m ρ2 st2 < m ρ st
      | .bk => P .nx ρ2 st2
      | .ret v => P (.ret v) ρ2 st2) E) (P .nx ρ st1)) E) : Ws (denS C (.while_ n c b) ρ st) P E := by
  show Ws (whileN (den C c) (denB C b) n ρ st) P E
  induction n generalizing ρ st with
  | zero => omega
  | succ n ih =>
    have q := step ρ st h0
    unfold whileN
    rw [ws_ofE]
    refine q.imp fun v st1 q => ?_
    cases v with
    | ref k => exact q.elim
    | d v =>
      cases v with
      | bool v =>
        cases v with
        | false => exact q
        | true =>
          have q : Ws (denB C b ρ st1) _ E := q
          show Ws (match denB C b ρ st1 with
            | .ok .nx ρ2 st2 => whileN (den C c) (denB C b) n ρ2 st2
            | .ok .ct ρ2 st2 => whileN (den C c) (denB C b) n ρ2 st2
            | .ok .bk ρ2 st2 => .ok .nx ρ2 st2
            | r => r) P E
          cases eb : denB C b ρ st1 with
          | fail => rw [eb] at q; exact q.elim
          | exc e ρ2 st2 => rw [eb] at q; exact q
          | ok f ρ2 st2 =>
            rw [eb] at q
            cases f with
            | nx => exact ih q.1 (by have := q.2; omega)
            | ct => exact ih q.1 (by have := q.2; omega)
            | bk => exact q
            | ret v => exact q
      | _ => exact q.elim
end

/-! ### defs -/
section
variable {C : Cs} {as : List Vv} {st : Sto} {P : Vv → Sto → Prop} {E : XE'}
def retF (P : Vv → Sto → Prop) : Fl → Env → Sto → Prop := fun f _ st => match f with
  | .ret v => P v st
  | .nx => P (.d .none) st
  | _ => False
theorem retF_ret {v : Vv} {ρ : Env} : retF P (.ret v) ρ st = P v st := rfl
theorem retF_nx {ρ : Env} : retF P .nx ρ st = P (.d .none) st := rfl
theorem w_body {n : Nat} {b : Ss} : Wp (bodyF C n b as st) P E = Ws (denB C b (startE n as) st) (retF P) E := by
  unfold bodyF
  cases denB C b (startE n as) st with
  | ok f ρ st => cases f <;> rfl
  | exc e ρ st => rfl
  | fail => rfl
theorem w_pure {F : List Vv → Sto → Res Vv} {ds : List PyData} (h : allD as = some ds) : Wp (pureF F as st) P E = Wp (F as []) (fun a _ => onD a fun x => P (.d x) st) fun e _ => E e st := by
  unfold pureF
  rw [h]
  cases F as [] with
  | ok a s => cases a <;> rfl
  | exc e s => rfl
  | fail => rfl
theorem w_scope {F : List Vv → Sto → Res Vv} : Wp (scopeF F as st) P E = Wp (F as st) (fun a st' => onD a fun x => P (.d x) (st'.take st.length)) fun e st' => E e (st'.take st.length) := by
  unfold scopeF
  cases F as st with
  | ok a s => cases a <;> rfl
  | exc e s => rfl
  | fail => rfl
theorem run_at {T : FTab} {x : Str} {F : FnI} {k : Nat} (h : T.lookup x = some F) : run T (k + 1) x as st = F.run (run T k) as st := by
  show (match T.lookup x with
    | some F => F.run (run T k) as st
    | none => Res.fail) = _
  rw [h]
end
end L2.Q

set_option maxHeartbeats 1000000
/-! Q layer, part T: the tactic; operations on what is known. -/
namespace L2.Q
open PySem PySem.Spec PyProof.Rows

section
variable {i j : Int} {x y : Str} {a b : Bool} {xs ys : List PyData} {d : PyData}
theorem add_i : opBin .Add (.int i) (.int j) = some (.int (i + j)) := rfl
theorem sub_i : opBin .Sub (.int i) (.int j) = some (.int (i - j)) := rfl
theorem mul_i : opBin .Mult (.int i) (.int j) = if mulOk i j = true then some (.int (i * j)) else none := rfl
theorem div_i : opBin .FloorDiv (.int i) (.int j) = if 0 < j ∧ j < 1606938044258990275541962092341162602522202993782792835301376 then some (.int (i / j)) else none := rfl
theorem mod_i : opBin .Mod (.int i) (.int j) = if 0 < j then some (.int (i % j)) else none := rfl
theorem pow_i : opBin .Pow (.int i) (.int j) = if 0 ≤ j ∧ j ≤ 1000000 ∧ i.natAbs < 2 ^ 64 then some (.int (i ^ j.toNat)) else none := rfl
theorem add_t : opBin .Add (.tuple xs) (.tuple ys) = if xs.length + ys.length ≤ sizeLine then some (.tuple (xs ++ ys)) else none := rfl
theorem add_l : opBin .Add (.list xs) (.list ys) = if xs.length + ys.length ≤ sizeLine then some (.list (xs ++ ys)) else none := rfl
theorem lt_i : opCmp .Lt (.int i) (.int j) = some (.bool (decide (i < j))) := rfl
theorem le_i : opCmp .LtE (.int i) (.int j) = some (.bool (decide (i ≤ j))) := rfl
theorem gt_i : opCmp .Gt (.int i) (.int j) = some (.bool (decide (j < i))) := rfl
theorem ge_i : opCmp .GtE (.int i) (.int j) = some (.bool (decide (j ≤ i))) := rfl
theorem eq_i : opCmp .Eq (.int i) (.int j) = some (.bool (i == j)) := rfl
theorem ne_i : opCmp .NotEq (.int i) (.int j) = some (.bool (!(i == j))) := rfl
theorem eq_s : opCmp .Eq (.str x) (.str y) = some (.bool (x == y)) := rfl
theorem ne_s : opCmp .NotEq (.str x) (.str y) = some (.bool (!(x == y))) := rfl
theorem eq_b : opCmp .Eq (.bool a) (.bool b) = some (.bool (a == b)) := rfl
theorem is_n : opCmp .Is d .none = some (.bool (isN d)) := by cases d <;> rfl
theorem isnot_n : opCmp .IsNot d .none = some (.bool (!isN d)) := by cases d <;> rfl
theorem isN_n : isN .none = true := rfl
theorem isN_i : isN (.int i) = false := rfl
theorem idx_t : opIdx (.tuple xs) (.int i) = atI xs i := rfl
theorem idx_l : opIdx (.list xs) (.int i) = atI xs i := rfl
theorem sl_t {lo hi : Option Int} : opSl lo hi (.tuple xs) = some (.tuple (cutD xs lo hi)) := rfl
theorem sl_l {lo hi : Option Int} : opSl lo hi (.list xs) = some (.list (cutD xs lo hi)) := rfl
theorem tab_s {t : List (Str × PyData)} : iTab t (.str x) = t.lookup x := rfl
theorem tab_g {t : List (Str × PyData)} : fTab t (.str x) (.int i) = some ((t.lookup x).getD (.int i)) := rfl
theorem len_t : fBF .len [.tuple xs] = some (.int xs.length) := rfl
theorem len_l : fBF .len [.list xs] = some (.int xs.length) := rfl
theorem min2_i : fBF .min2 [.int i, .int j] = some (.int (minI i j)) := rfl
theorem max2_i : fBF .max2 [.int i, .int j] = some (.int (maxI i j)) := rfl
theorem min3_i {k : Int} : fBF .min3 [.int i, .int j, .int k] = some (.int (minI (minI i j) k)) := rfl
theorem int_b : fBF .int [.bool a] = some (.int (if a then 1 else 0)) := rfl
theorem int_i : fBF .int [.int i] = some (.int i) := rfl
theorem tuple_l : fBF .tuple [.list xs] = some (.tuple xs) := rfl
theorem tuple_t : fBF .tuple [.tuple xs] = some (.tuple xs) := rfl
theorem list_l : fBF .list [.list xs] = some (.list xs) := rfl
theorem list_t : fBF .list [.tuple xs] = some (.list xs) := rfl
theorem all_l : fBF .all [.list xs] = (boolsOf xs).map fun bs => .bool (bs.all id) := rfl
theorem any_l : fBF .any [.list xs] = (boolsOf xs).map fun bs => .bool (bs.any id) := rfl
theorem sum_l : fBF .sum [.list xs] = (intsOf xs).map fun ns => .int ns.sum := rfl
theorem max1_l : fBF .max1 [.list xs] = (intsOf xs).bind fun ns => ns.max?.map .int := rfl
theorem min1_l : fBF .min1 [.list xs] = (intsOf xs).bind fun ns => ns.min?.map .int := rfl
theorem asg_n {n : Nat} {v : Vv} {ρ : Env} : Tg.asg (.name n) v ρ = some (put ρ n v) := by rw [← put_eq]; rfl
theorem asg_t0 {ρ : Env} : Tg.asg (.tup []) (.d (.tuple [])) ρ = some ρ := rfl
theorem asg_t {n : Nat} {is : List Nat} {ρ : Env} : Tg.asg (.tup (n :: is)) (.d (.tuple (d :: xs))) ρ = Tg.asg (.tup is) (.d (.tuple xs)) (put ρ n (.d d)) := by rw [← put_eq]; rfl
theorem asg_p0 {ρ : Env} : Tg.asg (.nest []) (.d (.tuple [])) ρ = some ρ := rfl
theorem asg_pn {n : Nat} {ts : List Tp} {ρ : Env} : Tg.asg (.nest (.n n :: ts)) (.d (.tuple (d :: xs))) ρ = Tg.asg (.nest ts) (.d (.tuple xs)) (put ρ n (.d d)) := by rw [← put_eq]; rfl
theorem asg_pt {is : List Nat} {ts : List Tp} {ρ : Env} : Tg.asg (.nest (.t is :: ts)) (.d (.tuple (.tuple ys :: xs))) ρ = (Tg.asg (.tup is) (.d (.tuple ys)) ρ).bind fun ρ1 => Tg.asg (.nest ts) (.d (.tuple xs)) ρ1 := rfl
theorem derefs_n {st : Sto} : derefs [] st = some [] := rfl
theorem derefs_c {v : Vv} {vs : List Vv} {st : Sto} : derefs (v :: vs) st = (deref v st).bind fun d => (derefs vs st).map (d :: ·) := by
  show (match deref v st, derefs vs st with
    | some d, some ds => some (d :: ds)
    | _, _ => none) = _
  cases deref v st <;> cases derefs vs st <;> rfl
theorem allD_n : allD [] = some [] := rfl
theorem allD_c {vs : List Vv} : allD (.d d :: vs) = (allD vs).map (d :: ·) := rfl
theorem start_0 : startE 0 [] = [] := rfl
theorem frz1_d {st : Sto} {P : Vv → Sto → Prop} : frz1 (.d d) st P = P (.d d) st := rfl
theorem listOf_l : listOf (.list xs) = some xs := rfl
theorem listOf_t : listOf (.tuple xs) = some xs := rfl
theorem onO_bind {α β : Type} {o : Option α} {f : α → Option β} {k : β → Prop} : onO (o.bind f) k = onO o fun a => onO (f a) k := by cases o <;> rfl
theorem wipe_0 {ρ : Env} : wipeE ρ [] = ρ := rfl
def clear : Env → Nat → Env
  | [], _ => []
  | _ :: l, 0 => none :: l
  | a :: l, n + 1 => a :: clear l n
theorem clear_eq : ∀ (ρ : Env) (i : Nat), ρ.set i none = clear ρ i
  | [], _ => rfl
  | _ :: _, 0 => rfl
  | a :: l, n + 1 => congrArg (a :: ·) (clear_eq l n)
theorem wipe_c {ρ : Env} {n : Nat} {is : List Nat} : wipeE ρ (n :: is) = clear (wipeE ρ is) n := by rw [← clear_eq]; rfl
theorem wt_no {C : Cs} {ρ : Env} {st : Sto} {P : Vv → Sto → Prop} {E : XE'} : Wp (denT C .no ρ st) P E = P (.d (.bool true)) st := rfl
theorem wt_at {C : Cs} {ρ : Env} {st : Sto} {P : Vv → Sto → Prop} {E : XE'} {e : Ex} : Wp (denT C (.at_ e) ρ st) P E = Wp (den C e ρ st) P E := rfl
theorem isi_iI : isiD .int (.int i) = true := rfl
theorem isi_bI : isiD .bool (.int i) = false := rfl
theorem isi_sI : isiD .str (.int i) = false := rfl
theorem isi_tI : isiD .tuple (.int i) = false := rfl
theorem isi_sS : isiD .str (.str x) = true := rfl
theorem isi_tT : isiD .tuple (.tuple xs) = true := rfl
end
theorem drf_l {xs : List PyData} : drf (some (.lst xs)) = some (.list xs) := rfl
theorem drf_f {xs : List PyData} : drf (some (.frz xs)) = some (.list xs) := rfl
section
variable {α : Type} {a b : α} {l : List α} {n : Nat}
theorem get_0 : (a :: l)[0]? = some a := rfl
theorem get_s : (a :: l)[n + 1]? = l[n]? := rfl
theorem set_0 : (a :: l).set 0 b = b :: l := rfl
theorem set_s : (a :: l).set (n + 1) b = a :: l.set n b := rfl
end
theorem ix31 : ixN 3 1 = some 1 := rfl
theorem ix32 : ixN 3 2 = some 2 := rfl
section
variable {α : Type} {a b c d : α} {l : List α}
theorem atI_nat {xs : List α} {i : Int} (h0 : 0 ≤ i) (h1 : i < xs.length) : ∃ x, atI xs i = some x ∧ xs[i.toNat]? = some x := by
  have hl : i.toNat < xs.length := by omega
  refine ⟨xs[i.toNat], ?_, List.getElem?_eq_getElem hl⟩
  unfold atI ixN
  rw [if_pos h0, if_pos h1]
  show xs[i.toNat]? = _
  exact List.getElem?_eq_getElem hl
theorem atI_get {xs : List α} {i : Int} {x : α} (h0 : 0 ≤ i) (h : xs[i.toNat]? = some x) : atI xs i = some x := by
  have hl := (List.getElem?_eq_some_iff.mp h).1
  obtain ⟨y, e, q⟩ := atI_nat (xs := xs) h0 (by omega)
  rw [e, ← q, h]
theorem at0 : atI (a :: l) 0 = some a := atI_get (by decide) rfl
theorem at1 : atI (a :: b :: l) 1 = some b := atI_get (by decide) rfl
theorem at2 : atI (a :: b :: c :: l) 2 = some c := atI_get (by decide) rfl
theorem at3 : atI (a :: b :: c :: d :: l) 3 = some d := atI_get (by decide) rfl
end
def onL (o : Ob) (k : List PyData → Prop) : Prop := match o with
  | .lst xs => k xs
  | .frz _ => False
theorem onL_l {xs : List PyData} {k : List PyData → Prop} : onL (.lst xs) k = k xs := rfl
theorem setIx3_r {n : Nat} {z : Int} {y : PyData} {st : Sto} {k : Sto → Prop} : setIx3 (.ref n) (.d (.int z)) (.d y) st k = onO st[n]? fun o => onL o fun xs => onO (ixN xs.length z) fun j => k (st.set n (.lst (xs.set j y))) := by
  show onO st[n]? _ = onO st[n]? _
  cases st[n]? with
  | none => rfl
  | some o => cases o <;> rfl
theorem app2_r {n : Nat} {y : PyData} {st : Sto} {P : Vv → Sto → Prop} : app2 (.ref n) (.d y) st P = onO st[n]? fun o => onL o fun xs => xs.length < sizeLine ∧ P (.d .none) (st.set n (.lst (xs ++ [y]))) := by
  show onO st[n]? _ = onO st[n]? _
  cases st[n]? with
  | none => rfl
  | some o => cases o <;> rfl
theorem frz1_r {n : Nat} {st : Sto} {P : Vv → Sto → Prop} : frz1 (.ref n) st P = onO st[n]? fun o => match o with
    | .lst xs => P (.d (.list xs)) (st.set n (.frz xs))
    | .frz xs => P (.d (.list xs)) st := rfl
section
variable {tg : Tg} {mt me : EM} {ρ : Env} {st : Sto} {Q : List PyData → Sto → Prop} {E : XE'}
theorem wc_nil : Wp (compL tg mt me ρ [] st) Q E = Q [] st := rfl
theorem noX_wp {α : Type} {r : Res α} {P : α → Sto → Prop} : Wp (noX r) P E = Wp r P E0' := by cases r <;> rfl
theorem compL_noX : ∀ (xs : List PyData) (st : Sto), noX (compL tg mt me ρ xs st) = compL tg mt me ρ xs st
  | [], _ => rfl
  | x :: xs, st => by
    unfold compL
    cases tg.asg (.d x) ρ with
    | none => rfl
    | some ρ1 =>
      show noX ((noX (mt ρ1 st)).bind _) = (noX (mt ρ1 st)).bind _
      cases mt ρ1 st with
      | fail => rfl
      | exc e s => rfl
      | ok b st1 =>
        cases b with
        | ref n => rfl
        | d b =>
          cases b with
          | bool b =>
            cases b with
            | false => exact compL_noX xs st1
            | true =>
              show noX ((noX (me ρ1 st1)).bind _) = (noX (me ρ1 st1)).bind _
              cases me ρ1 st1 with
              | fail => rfl
              | exc e s => rfl
              | ok y st2 =>
                cases y with
                | ref n => rfl
                | d y =>
                  have ih := compL_noX xs st2
                  show noX ((compL tg mt me ρ xs st2).bind fun ys st3 => .ok (y :: ys) st3) = (compL tg mt me ρ xs st2).bind fun ys st3 => .ok (y :: ys) st3
                  cases h : compL tg mt me ρ xs st2 with
                  | ok ys s => rfl
                  | exc e s => rw [h] at ih; cases ih
                  | fail => rfl
          | _ => rfl
theorem wc_cons {x : PyData} {xs : List PyData} : Wp (compL tg mt me ρ (x :: xs) st) Q E = onO (tg.asg (.d x) ρ) fun ρ1 => Wp (mt ρ1 st) (fun b st1 => onB b (Wp (me ρ1 st1) (fun y st2 => onD y fun y => Wp (compL tg mt me ρ xs st2) (fun ys st3 => Q (y :: ys) st3) E0') E0') (Wp (compL tg mt me ρ xs st1) Q E0')) E0' := by
  have drop : ∀ (st : Sto) (Q : List PyData → Sto → Prop), Wp (compL tg mt me ρ xs st) Q E = Wp (compL tg mt me ρ xs st) Q E0' := fun st Q => by
    rw [← compL_noX xs st]
    cases compL tg mt me ρ xs st <;> rfl
  show Wp (match tg.asg (.d x) ρ with
    | none => .fail
    | some ρ1 => (noX (mt ρ1 st)).bind fun b st1 => match b with
      | .d (.bool true) => (noX (me ρ1 st1)).bind fun y st2 => match y with
        | .d y => (compL tg mt me ρ xs st2).bind fun ys st3 => .ok (y :: ys) st3
        | .ref _ => .fail
      | .d (.bool false) => compL tg mt me ρ xs st1
      | _ => .fail) Q E = _
  cases tg.asg (.d x) ρ with
  | none => rfl
  | some ρ1 =>
    show Wp ((noX (mt ρ1 st)).bind _) Q E = Wp (mt ρ1 st) _ E0'
    rw [wp_bind, noX_wp]
    congr 1
    funext b st1
    cases b with
    | ref n => rfl
    | d b =>
      cases b with
      | bool b =>
        cases b with
        | false => exact drop st1 Q
        | true =>
          show Wp ((noX (me ρ1 st1)).bind _) Q E = Wp (me ρ1 st1) _ E0'
          rw [wp_bind, noX_wp]
          congr 1
          funext y st2
          cases y with
          | ref n => rfl
          | d y =>
            show Wp ((compL tg mt me ρ xs st2).bind _) Q E = Wp (compL tg mt me ρ xs st2) _ E0'
            rw [wp_bind, drop]
            rfl
      | _ => rfl
/-- a comprehension of which each member tells one thing and leaves the store -/
theorem wc_map {f : PyData → PyData} {xs : List PyData} (h : ∀ x ∈ xs, onO (tg.asg (.d x) ρ) fun ρ1 => Wp (me ρ1 st) (fun y st' => y = .d (f x) ∧ st' = st) E0') (q : Q (xs.map f) st) : Wp (compL tg mYes me ρ xs st) Q E := by
  refine wc_inv (fun i ys st' => ys = (xs.take i).map f ∧ st' = st) ⟨rfl, rfl⟩ ?_ ?_
  · rintro i x ys st' hx ⟨rfl, rfl⟩
    have hm := h x (List.mem_of_getElem? hx)
    cases e : tg.asg (.d x) ρ with
    | none => rw [e] at hm; exact hm.elim
    | some ρ1 =>
      rw [e] at hm
      refine Wp.imp (P := fun y s => y = Vv.d (f x) ∧ s = _) hm ?_
      rintro y s ⟨rfl, rfl⟩
      refine ⟨?_, rfl⟩
      rw [List.take_succ, hx]
      simp
  · rintro ys st' ⟨rfl, rfl⟩
    rw [List.take_length]
    exact q
end
theorem cut_to {α : Type} (xs : List α) (n : Nat) : cutD xs none (some (n : Int)) = xs.take n := by
  unfold cutD
  rw [HT.sIx_none, HT.sIx_nat, List.drop_zero, Nat.sub_zero]
  by_cases h : n ≤ xs.length
  · rw [Nat.min_eq_left h]
  · rw [Nat.min_eq_right (by omega), List.take_length, List.take_of_length_le (by omega)]
theorem cut_from {α : Type} (xs : List α) (n : Nat) : cutD xs (some (n : Int)) none = xs.drop n := by
  unfold cutD
  rw [HT.sIx_none, HT.sIx_nat]
  by_cases h : n ≤ xs.length
  · rw [Nat.min_eq_left h, List.take_of_length_le (by rw [List.length_drop]; omega)]
  · rw [Nat.min_eq_right (by omega), List.drop_eq_nil_of_le (Nat.le_refl _), List.drop_eq_nil_of_le (by omega), List.take_nil]
theorem cut_mid {α : Type} (xs : List α) (m n : Nat) (h : m ≤ n) : cutD xs (some (m : Int)) (some (n : Int)) = (xs.drop m).take (n - m) := by
  unfold cutD
  rw [HT.sIx_nat, HT.sIx_nat]
  by_cases h1 : m ≤ xs.length
  · rw [Nat.min_eq_left h1]
    by_cases h2 : n ≤ xs.length
    · rw [Nat.min_eq_left h2]
    · rw [Nat.min_eq_right (by omega), List.take_of_length_le (by rw [List.length_drop]; omega), List.take_of_length_le (by rw [List.length_drop]; omega)]
  · rw [List.drop_eq_nil_of_le (as := xs) (i := min m xs.length) (by omega), List.drop_eq_nil_of_le (as := xs) (i := m) (by omega), List.take_nil, List.take_nil]
theorem cut1 {α : Type} {x : α} {xs : List α} : cutD (x :: xs) (some 1) none = xs := cut_from (x :: xs) 1
theorem start1 {a : Vv} {n : Nat} {as : List Vv} : startE (n + 1) (a :: as) = some a :: startE n as := by
  unfold startE
  simp
theorem startN {n : Nat} : startE (n + 1) [] = none :: startE n [] := by
  unfold startE
  simp [List.replicate_succ]
end L2.Q

set_option maxHeartbeats 2000000
/-! Methods on data, isinstance of classes of the text, fields, try: asked from the end. -/
namespace L2.Q
open PySem PySem.Spec PyProof.Rows
section
variable {C : Cs} {ρ : Env} {st : Sto} {P : Vv → Sto → Prop} {E : XE'}
theorem w_bm {b : BM} {o e : Ex} : Wp (den C (.bm b o e) ρ st) P E = Wp (den C o ρ st) (fun x st1 => onO (deref x st1) fun d => okBM b d = true ∧ Wp (den C e ρ st1) (fun y st2 => bin2 (fBM b) x y st2 P) E) E := by
  show Wp (mBM b (den C o) (den C e) ρ st) P E = _
  unfold mBM
  rw [wp_bind]
  congr 1
  funext x st1
  cases deref x st1 with
  | none => rfl
  | some d =>
    show Wp (if okBM b d = true then _ else _) P E = (okBM b d = true ∧ _)
    by_cases h : okBM b d = true
    · rw [if_pos h, wp_bind]
      refine propext ⟨fun q => ⟨h, ?_⟩, fun q => ?_⟩
      · refine q.imp fun y st2 q2 => ?_
        unfold bin2
        revert q2
        cases deref x st2 with
        | none => exact id
        | some d =>
          cases deref y st2 with
          | none => exact id
          | some e => exact fun q2 => wp_ofO ▸ q2
      · refine q.2.imp fun y st2 q2 => ?_
        unfold bin2 at q2
        revert q2
        cases deref x st2 with
        | none => exact id
        | some d =>
          cases deref y st2 with
          | none => exact id
          | some e =>
            intro q2
            show Wp (ofO _ _) P E
            rw [wp_ofO]
            exact q2
    · rw [if_neg h]
      exact propext ⟨fun q => q.elim, fun q => absurd q.1 h⟩
theorem w_mIsx {yes no : List Str} {m : EM} : Wp (mIsx yes no m ρ st) P E = Wp (m ρ st) (fun x st1 => onO (deref x st1) fun d => onO (isxD yes no d) fun b => P (.d (.bool b)) st1) E := by
  unfold mIsx
  rw [wp_bind]
  congr 1
  funext x st1
  cases deref x st1 with
  | none => rfl
  | some d =>
    show Wp (ofO _ _) P E = _
    rw [wp_ofO, onO_map]
    rfl
theorem w_isx {x : Str} {yes no : List Str} {a : Ex} : Wp (den C (.isx x yes no a) ρ st) P E = Wp (den C a ρ st) (fun x st1 => onO (deref x st1) fun d => onO (isxD yes no d) fun b => P (.d (.bool b)) st1) E := w_mIsx
theorem w_isxB {x : Str} {yes no : List Str} {a : Ex} : Wp (den C (.isxB x yes no a) ρ st) P E = Wp (den C a ρ st) (fun x st1 => onO (deref x st1) fun d => onO (isxD yes no d) fun b => P (.d (.bool b)) st1) E := w_mIsx
theorem w_fld {f : Str} {cls : List Str} {a : Ex} : Wp (den C (.fld f cls a) ρ st) P E = Wp (den C a ρ st) (fun x st1 => onD x fun d => onO (fldD cls f d) fun r => P (.d r) st1) E := by
  show Wp (mFld cls f (den C a) ρ st) P E = _
  unfold mFld
  rw [wp_bind]
  congr 1
  funext x st1
  cases x with
  | ref n => rfl
  | d d => exact wp_ofO
end
/-- with the slots as they are where an exception leaves -/
def Wt (r : SR) (P : Fl → Env → Sto → Prop) (E : Exn → Env → Sto → Prop) : Prop := match r with
  | .ok f ρ st => P f ρ st
  | .exc e ρ st => E e ρ st
  | .fail => False
section
variable {C : Cs} {ρ : Env} {st : Sto} {P : Fl → Env → Sto → Prop} {E : XE'} {E' : Exn → Env → Sto → Prop}
theorem s_tryAs {i j : Nat} {x : Str} {yes no : List Str} {b : Ss} : Ws (denS C (.tryAs i j x yes no b) ρ st) P E = Wt (denB C b ρ st) P fun e ρ1 st1 => if yes.contains e.cls = true then P .nx (clear (put ρ1 j (.d e.dat)) i) st1 else (no.contains e.cls = true ∧ E e st1) := by
  show Ws (mTryAs i j yes no (denB C b) ρ st) P E = _
  unfold mTryAs
  cases denB C b ρ st with
  | ok f ρ1 st1 => rfl
  | fail => rfl
  | exc e ρ1 st1 =>
    show Ws (if yes.contains e.cls = true then _ else if no.contains e.cls = true then _ else _) P E = if yes.contains e.cls = true then _ else _
    by_cases h : yes.contains e.cls = true
    · rw [if_pos h, if_pos h, clear_eq, put_eq]
      rfl
    · rw [if_neg h, if_neg h]
      by_cases h2 : no.contains e.cls = true
      · rw [if_pos h2]
        exact propext ⟨fun q => ⟨h2, q⟩, fun q => q.2⟩
      · rw [if_neg h2]
        exact propext ⟨fun q => q.elim, fun q => absurd q.1 h2⟩
theorem wt_ofE {α : Type} {r : Res α} {k : α → Sto → SR} : Wt (ofE ρ r k) P E' = Wp r (fun a st1 => Wt (k a st1) P E') fun e st1 => E' e ρ st1 := by cases r <;> rfl
theorem t_nil : Wt (denB C .nil ρ st) P E' = P .nx ρ st := rfl
theorem t_cons {s : Sm} {r : Ss} : Wt (denB C (.cons s r) ρ st) P E' = Wt (denS C s ρ st) (fun f ρ1 st1 => onF f (Wt (denB C r ρ1 st1) P E') (P f ρ1 st1)) E' := by
  show Wt (mSeq (denS C s) (denB C r) ρ st) P E' = _
  unfold mSeq
  cases denS C s ρ st with
  | ok f ρ1 st1 => cases f <;> rfl
  | exc e ρ1 st1 => rfl
  | fail => rfl
theorem t_set {i : Nat} {e : Ex} : Wt (denS C (.set i e) ρ st) P E' = Wp (den C e ρ st) (fun v st1 => P .nx (put ρ i v) st1) fun e st1 => E' e ρ st1 := by
  show Wt (mAsg (.name i) (den C e) ρ st) P E' = _
  unfold mAsg
  rw [wt_ofE]
  congr 1
  funext v st1
  show Wt (.ok .nx (ρ.set i (some v)) st1) P E' = _
  rw [put_eq]
  rfl
theorem t_doE {e : Ex} : Wt (denS C (.doE e) ρ st) P E' = Wp (den C e ρ st) (fun _ st1 => P .nx ρ st1) fun e st1 => E' e ρ st1 := by
  show Wt (mDo (den C e) ρ st) P E' = _
  unfold mDo
  rw [wt_ofE]
  rfl
theorem t_ifs {c : Ex} {a b : Ss} : Wt (denS C (.ifs c a b) ρ st) P E' = Wp (den C c ρ st) (fun x st1 => onB x (Wt (denB C a ρ st1) P E') (Wt (denB C b ρ st1) P E')) fun e st1 => E' e ρ st1 := by
  show Wt (mIfS (den C c) (denB C a) (denB C b) ρ st) P E' = _
  unfold mIfS
  rw [wt_ofE]
  congr 1
  funext x st1
  cases x with
  | ref n => rfl
  | d x =>
    cases x with
    | bool b => cases b <;> rfl
    | _ => rfl
end
end L2.Q

set_option maxHeartbeats 2000000
namespace L2.Q
open PySem PySem.Spec PyProof.Rows
-- BODY
/-! More of what operations tell. -/
theorem zi_int_none  : isiD .int (.none) = false := rfl
theorem zi_int_bool {b : Bool} : isiD .int (.bool b) = true := rfl
theorem zi_int_int {i : Int} : isiD .int (.int i) = true := rfl
theorem zi_int_str {x : Str} : isiD .int (.str x) = false := rfl
theorem zi_int_list {xs : List PyData} : isiD .int (.list xs) = false := rfl
theorem zi_int_tuple {xs : List PyData} : isiD .int (.tuple xs) = false := rfl
theorem zi_int_dict {ps : List (PyData × PyData)} : isiD .int (.dict ps) = false := rfl
theorem zi_bool_none  : isiD .bool (.none) = false := rfl
theorem zi_bool_bool {b : Bool} : isiD .bool (.bool b) = true := rfl
theorem zi_bool_int {i : Int} : isiD .bool (.int i) = false := rfl
theorem zi_bool_str {x : Str} : isiD .bool (.str x) = false := rfl
theorem zi_bool_list {xs : List PyData} : isiD .bool (.list xs) = false := rfl
theorem zi_bool_tuple {xs : List PyData} : isiD .bool (.tuple xs) = false := rfl
theorem zi_bool_dict {ps : List (PyData × PyData)} : isiD .bool (.dict ps) = false := rfl
theorem zi_str_none  : isiD .str (.none) = false := rfl
theorem zi_str_bool {b : Bool} : isiD .str (.bool b) = false := rfl
theorem zi_str_int {i : Int} : isiD .str (.int i) = false := rfl
theorem zi_str_str {x : Str} : isiD .str (.str x) = true := rfl
theorem zi_str_list {xs : List PyData} : isiD .str (.list xs) = false := rfl
theorem zi_str_tuple {xs : List PyData} : isiD .str (.tuple xs) = false := rfl
theorem zi_str_dict {ps : List (PyData × PyData)} : isiD .str (.dict ps) = false := rfl
theorem zi_tuple_none  : isiD .tuple (.none) = false := rfl
theorem zi_tuple_bool {b : Bool} : isiD .tuple (.bool b) = false := rfl
theorem zi_tuple_int {i : Int} : isiD .tuple (.int i) = false := rfl
theorem zi_tuple_str {x : Str} : isiD .tuple (.str x) = false := rfl
theorem zi_tuple_list {xs : List PyData} : isiD .tuple (.list xs) = false := rfl
theorem zi_tuple_tuple {xs : List PyData} : isiD .tuple (.tuple xs) = true := rfl
theorem zi_tuple_dict {ps : List (PyData × PyData)} : isiD .tuple (.dict ps) = false := rfl
theorem zi_list_none  : isiD .list (.none) = false := rfl
theorem zi_list_bool {b : Bool} : isiD .list (.bool b) = false := rfl
theorem zi_list_int {i : Int} : isiD .list (.int i) = false := rfl
theorem zi_list_str {x : Str} : isiD .list (.str x) = false := rfl
theorem zi_list_list {xs : List PyData} : isiD .list (.list xs) = true := rfl
theorem zi_list_tuple {xs : List PyData} : isiD .list (.tuple xs) = false := rfl
theorem zi_list_dict {ps : List (PyData × PyData)} : isiD .list (.dict ps) = false := rfl
theorem zi_dict_none  : isiD .dict (.none) = false := rfl
theorem zi_dict_bool {b : Bool} : isiD .dict (.bool b) = false := rfl
theorem zi_dict_int {i : Int} : isiD .dict (.int i) = false := rfl
theorem zi_dict_str {x : Str} : isiD .dict (.str x) = false := rfl
theorem zi_dict_list {xs : List PyData} : isiD .dict (.list xs) = false := rfl
theorem zi_dict_tuple {xs : List PyData} : isiD .dict (.tuple xs) = false := rfl
theorem zi_dict_dict : isiD .dict (.dict []) = true := rfl
theorem str_inj {a b : String} : (Str.ofString a = Str.ofString b) = (a = b) := by
  refine propext ⟨fun h => ?_, fun h => by rw [h]⟩
  rw [Str.ofString_eq_toList, Str.ofString_eq_toList] at h
  injection h with h
  have h2 : a.toList.map Char.toNat = b.toList.map Char.toNat := by
    have := congrArg Array.toList h
    simpa using this
  have hi : ∀ (l m : List Char), l.map Char.toNat = m.map Char.toNat → l = m := by
    intro l
    induction l with
    | nil => intro m h; cases m <;> first | rfl | cases h
    | cons c l ih =>
      intro m h
      cases m with
      | nil => cases h
      | cons d m =>
        rw [List.map_cons, List.map_cons] at h
        injection h with h1 h3
        rw [ih m h3, Char.toNat_inj.mp h1]
  exact String.toList_inj.mp (hi _ _ h2)
theorem str_beq {a b : String} : (Str.ofString a == Str.ofString b) = decide (a = b) := by
  by_cases h : a = b
  · subst h; simp
  · rw [decide_eq_false h, beq_eq_false_iff_ne]
    intro e
    exact h ((str_inj (a := a) (b := b)).mp e)
theorem eq_tt {xs : List PyData} : opCmp .Eq (.tuple xs) (.tuple []) = some (.bool xs.isEmpty) := by cases xs <;> rfl
theorem eq_ll {xs : List PyData} : opCmp .Eq (.list xs) (.list []) = some (.bool xs.isEmpty) := by cases xs <;> rfl
theorem ne_ll {xs : List PyData} : opCmp .NotEq (.list xs) (.list []) = some (.bool (!xs.isEmpty)) := by cases xs <;> rfl
theorem ne_tt {xs : List PyData} : opCmp .NotEq (.tuple xs) (.tuple []) = some (.bool (!xs.isEmpty)) := by cases xs <;> rfl
theorem lit_s {t : Tab} {x : Str} {n : Int} : fLit t (.str x) (.int n) = some (((t.lookup x).map Cn.dat).getD (.int n)) := rfl
theorem rev_t {xs : List PyData} : opRev (.tuple xs) = some (.tuple xs.reverse) := rfl
theorem rev_l {xs : List PyData} : opRev (.list xs) = some (.list xs.reverse) := rfl
theorem only_l {xs : List PyData} : cat2.listOnly (.list xs) = some xs := rfl
theorem cat2_e {x y : Vv} {st : Sto} {P : Vv → Sto → Prop} : cat2 x y st P = onO (deref x st) fun d => onO (deref y st) fun e => onO (cat2.listOnly d) fun xs => onO (cat2.listOnly e) fun ys => xs.length + ys.length ≤ sizeLine ∧ P (.ref st.length) (st ++ [.lst (xs ++ ys)]) := rfl
theorem neg_i {i : Int} {st : Sto} {P : Vv → Sto → Prop} : (match (Vv.d (.int i)) with
    | .d (.int i) => P (.d (.int (-i))) st
    | _ => False) = P (.d (.int (-i))) st := rfl
theorem sz_l : ∀ n : Nat, (n ≤ sizeLine) = (n ≤ 16777216) := fun n => by rw [sizeLine_eq]
theorem get_cc {α : Type} {l : List α} {x : α} : (l ++ [x])[l.length]? = some x := by simp
theorem set_cc {α : Type} {l : List α} {x y : α} : (l ++ [x]).set l.length y = l ++ [y] := by simp
theorem is_t {xs : List PyData} : isN (.tuple xs) = false := rfl
theorem is_s {x : Str} : isN (.str x) = false := rfl
theorem is_l {x : List PyData} : isN (.list x) = false := rfl
theorem is_b {x : Bool} : isN (.bool x) = false := rfl
theorem is_bb {a b : Bool} : opCmp .Is (.bool a) (.bool b) = some (.bool (a == b)) := rfl
theorem isnot_bb {a b : Bool} : opCmp .IsNot (.bool a) (.bool b) = some (.bool (!(a == b))) := rfl
theorem bm_c {xs : List PyData} : okBM .count (.list xs) = true := rfl
theorem bm_i {xs : List PyData} : okBM .index (.list xs) = true := rfl
theorem bm_s {x : Str} : okBM .split (.str x) = true := rfl
theorem isx_e {yes no : List Str} {c : Str} : isxD yes no (.dict [(.none, .str c)]) = pick yes no c := rfl
theorem isx_n {yes no : List Str} : isxD yes no .none = some false := rfl
theorem isx_t {yes no : List Str} {xs : List PyData} : isxD yes no (.tuple xs) = some false := rfl
theorem dat_n {c : Str} : Exn.dat ⟨c, none⟩ = .dict [(.none, .str c)] := rfl
theorem isN_d {ps : List (PyData × PyData)} : isN (.dict ps) = false := rfl
theorem add_s {x y : Str} : opBin .Add (.str x) (.str y) = if x.length + y.length ≤ sizeLine then some (.str (x ++ y)) else none := rfl
end L2.Q

set_option maxHeartbeats 1000000
/-! The pen: what is drawn. -/
namespace L2.Q
open PySem PySem.Spec PyProof.Rows
local macro_rules | `(tactic| walk_at "wps") => `(tactic| simp (config := { failIfUnchanged := false }) only [w_var, w_int, w_str, w_bl, w_non, w_gint, w_gstr, w_bin, w_cmp, w_idx, w_tabGet, w_tabIx, w_chain, w_nt, w_neg, w_ife, w_conj1, w_conj, w_disj1, w_disj, wl_nil, wl_cons, w_tup, w_lst, w_new, w_call, w_bf, w_isi,
  w_frz, w_newL, wo_no, wo_at, w_sl, w_app, wi_items, wi_rng1, wi_rng2, wi_enum, w_comp, cut1, wc_nil, wc_cons, wt_no, wt_at, b_nil, b_cons, s_set, s_asg, s_par, s_setIx, s_ret, s_retN, s_ifs, s_for, s_raise, s_doE, s_bk, s_ct, s_pass, w_body, start1, startN, start_0, retF_ret, retF_nx, wp_ok, wp_exc, wp_bind, ws_ok,
  nth, put, clear, wipe_0, wipe_c, onO_some, onO_none, onO_if, onO_map, onO_bind, onB_t, onB_f, onB_not, onB_b, onD_d, onF_nx, onF_ret, onF_bk, onF_ct, onI_i, items_l, items_t, deref_d, deref_r, drf_l, drf_f, bin2, setIx3_r, app2_r, frz1_r, onL_l, List.take_succ_cons, List.take_length, List.take_left, get_0, get_s, set_0, set_s, ix31, ix32, at0, at1, at2, at3, frz1_d, listOf_l, listOf_t, derefs_n, derefs_c, allD_n, allD_c,
  Option.map_some, Option.map_none, Option.bind_some, Option.bind_none, List.length_cons, List.length_nil, Nat.zero_add, Nat.reduceAdd, Int.cast_ofNat_Int, Int.natCast_zero, Int.natCast_one,
  add_i, sub_i, mul_i, div_i, mod_i, pow_i, add_t, add_l, lt_i, le_i, gt_i, ge_i, eq_i, ne_i, eq_s, ne_s, eq_b, is_n, isnot_n, isN_n, isN_i, idx_t, idx_l, sl_t, sl_l, tab_s, tab_g, len_t, len_l, min2_i, max2_i, min3_i, int_b, int_i, tuple_l, tuple_t, list_l, list_t, all_l, any_l, sum_l, max1_l, min1_l,
  asg_n, asg_t0, asg_t, isi_iI, isi_bI, isi_sI, isi_tI, isi_sS, isi_tT, Bool.not_true, Bool.not_false, decide_eq_true_eq, beq_iff_eq, if_true, if_false, ite_true, ite_false, true_and, and_true, Bool.false_eq_true, reduceIte, eq_self_iff_true])
def ir_spread : FnI := ⟨["_law_cell", "_law_at"], ["_law_cell", "_law_at", "_law_primes", "_law_one", "_law_two", "_law_three"], .pure, (.cons (.ifs (.cmp .GtE (.var 0) (.bin .Pow (.int 10) (.int 18))) (.cons (.ret (.var 0)) .nil) .nil) (.cons (.set 2 (.lst (.cons (.int 2147483629) (.cons (.int 2147483587) (.cons (.int 2147483579) (.cons (.int 2147483563) (.cons (.int 2147483549) (.cons (.int 2147483543) (.cons (.int 2147483497) (.cons (.int 2147483489) .nil)))))))))) (.cons (.set 2 (.bin .Add (.var 2) (.lst (.cons (.int 2147483477) (.cons (.int 2147483423) (.cons (.int 2147483399) (.cons (.int 2147483353) (.cons (.int 2147483323) .nil)))))))) (.cons (.set 3 (.bin .Mod (.bin .Pow (.bin .Add (.bin .Add (.bin .Mult (.bin .Mod (.var 0) (.int 1000000007)) (.bin .Add (.bin .Mult (.int 2) (.var 1)) (.int 69069))) (.bin .Mult (.var 1) (.int 40503))) (.int 977)) (.int 3)) (.idx (.var 2) (.bin .Mod (.var 1) (.int 13))))) (.cons (.set 4 (.bin .Mod (.bin .Pow (.bin .Add (.bin .Add (.bin .Mult (.var 3) (.bin .Add (.var 1) (.int 3))) (.bin .Mod (.var 0) (.int 65537))) (.int 5)) (.int 5)) (.idx (.var 2) (.bin .Mod (.bin .Add (.var 1) (.int 5)) (.int 13))))) (.cons (.set 5 (.bin .Mod (.bin .Pow (.bin .Add (.bin .Add (.var 4) (.bin .Mod (.var 3) (.int 1009))) (.var 1)) (.int 3)) (.idx (.var 2) (.bin .Mod (.bin .Add (.var 1) (.int 7)) (.int 13))))) (.cons (.ret (.bin .Add (.bin .Mult (.bin .Add (.bin .Mult (.var 3) (.int 2147483647)) (.var 4)) (.int 2147483647)) (.var 5))) .nil)))))))⟩

def ir_open : FnI := ⟨["_law_script"], ["_law_script", "_law_cells", "_law_k", "_law_cell"], .open_, (.cons (.set 1 (.newL (.sl (.var 0) .no (.at_ (.int 12))))) (.cons (.for_ (.tup [2, 3]) (.enum (.sl (.var 0) (.at_ (.int 12)) (.at_ (.int 63)))) (.cons (.setIx (.var 1) (.bin .Mod (.var 2) (.int 12)) (.bin .Add (.idx (.var 1) (.bin .Mod (.var 2) (.int 12))) (.var 3))) .nil)) (.cons (.ret (.new (.cons (.frz (.var 1)) (.cons (.int 0) (.cons (.int 0) .nil))))) .nil)))⟩

def ir_take : FnI := ⟨["_law_pen", "_law_many"], ["_law_pen", "_law_many", "_law_found", "_law_at", "_law_cell"], .scope, (.cons (.ifs (.cmp .Lt (.idx (.var 0) (.int 2)) (.var 1)) (.cons (.set 3 (.idx (.var 0) (.int 1))) (.cons (.set 4 (.int 0)) (.cons (.ifs (.cmp .Lt (.var 3) (.bf .len (.cons (.idx (.var 0) (.int 0)) .nil))) (.cons (.set 4 (.idx (.idx (.var 0) (.int 0)) (.var 3))) .nil) (.cons (.ifs (.cmp .Gt (.bf .len (.cons (.idx (.var 0) (.int 0)) .nil)) (.int 0)) (.cons (.set 4 (.bin .Mod (.idx (.idx (.var 0) (.int 0)) (.bin .Mod (.bin .Add (.bin .Mult (.var 3) (.int 5)) (.int 3)) (.bf .len (.cons (.idx (.var 0) (.int 0)) .nil)))) (.bin .Add (.bin .Pow (.int 10) (.int 17)) (.var 3)))) .nil) .nil) .nil)) (.cons (.setIx (.var 0) (.int 1) (.bin .Add (.var 3) (.int 1))) (.cons (.setIx (.var 0) (.int 2) (.call 2 "_law_spread" (.cons (.var 4) (.cons (.var 3) .nil)))) .nil))))) .nil) (.cons (.set 2 (.bin .Mod (.idx (.var 0) (.int 2)) (.var 1))) (.cons (.setIx (.var 0) (.int 2) (.bin .FloorDiv (.idx (.var 0) (.int 2)) (.var 1))) (.cons (.ret (.var 2)) .nil))))⟩

/-- the store that a pen stands in -/
def sto (o : Ob) (cs : List Int) (a v : Int) (r : Sto) : Sto := o :: .lst [.list (cs.map .int), .int a, .int v] :: r
def Gn (o : Ob) (cs : List Int) (a : Int) (r : Sto) (b : Int) (P : PyData → Prop) : Vv → Sto → Prop := fun x st' => ∃ a' v' d, x = .d d ∧ st' = sto o cs a' v' r ∧ a ≤ a' ∧ a' ≤ a + b ∧ P d
theorem mul_ok_r {i j : Int} (h1 : -(2 ^ 64) < j) (h2 : j < 2 ^ 64) : mulOk i j = true := by
  unfold mulOk
  simp only [Bool.or_eq_true, Bool.and_eq_true, decide_eq_true_eq]
  exact .inr ⟨h1, h2⟩
theorem mul_ok_l {i j : Int} (h1 : -(2 ^ 64) < i) (h2 : i < 2 ^ 64) : mulOk i j = true := by
  unfold mulOk
  simp only [Bool.or_eq_true, Bool.and_eq_true, decide_eq_true_eq]
  exact .inl ⟨h1, h2⟩
def primes : List PyData := [.int 2147483629, .int 2147483587, .int 2147483579, .int 2147483563, .int 2147483549, .int 2147483543, .int 2147483497, .int 2147483489, .int 2147483477, .int 2147483423, .int 2147483399, .int 2147483353, .int 2147483323]
theorem primes_at {i : Int} : ∃ p : Int, atI primes (i % 13) = some (.int p) ∧ 0 < p ∧ p < 2147483648 := by
  have h0 : 0 ≤ i % 13 := Int.emod_nonneg _ (by decide)
  have h1 : i % 13 < 13 := Int.emod_lt_of_pos _ (by decide)
  generalize i % 13 = j at h0 h1
  have : j = 0 ∨ j = 1 ∨ j = 2 ∨ j = 3 ∨ j = 4 ∨ j = 5 ∨ j = 6 ∨ j = 7 ∨ j = 8 ∨ j = 9 ∨ j = 10 ∨ j = 11 ∨ j = 12 := by omega
  rcases this with h | h | h | h | h | h | h | h | h | h | h | h | h <;> subst h <;> exact ⟨_, rfl, by decide, by decide⟩
theorem nat_abs_lt {i : Int} (h0 : 0 ≤ i) (h : i < 2 ^ 64) : i.natAbs < 2 ^ 64 := by omega
section
variable {T : FTab} {k : Nat}
theorem spread_ok (h : T.lookup ("_law_spread" : Str) = some ir_spread) (cell a : Int) (st : Sto) (h0 : 0 ≤ a) (h1 : a < 1000000000) : ∃ v : Int, run T (k + 1) "_law_spread" [.d (.int cell), .d (.int a)] st = .ok (.d (.int v)) st := by
  have key : Wp (run T (k + 1) "_law_spread" [.d (.int cell), .d (.int a)] st) (fun x st' => ∃ v : Int, x = .d (.int v) ∧ st' = st) E0' := by
    rw [run_at h]
    unfold FnI.run ir_spread Mode.of
    rw [w_pure rfl]
    walk_at "wps"
    refine ⟨⟨by decide, by decide, by decide⟩, ?_⟩
    split
    · exact ⟨_, rfl⟩
    rename_i hc
    have z : ∀ n : Nat, n ≤ 13 → n ≤ sizeLine := fun n hn => by rw [sizeLine_eq]; omega
    refine ⟨z _ (by decide), z _ (by decide), z _ (by decide), by decide, mul_ok_l (by decide) (by decide), ?_⟩
    have c0 : 0 ≤ cell % 1000000007 := Int.emod_nonneg _ (by decide)
    have c1 : cell % 1000000007 < 1000000007 := Int.emod_lt_of_pos _ (by decide)
    have d0 : 0 ≤ cell % 65537 := Int.emod_nonneg _ (by decide)
    have d1 : cell % 65537 < 65537 := Int.emod_lt_of_pos _ (by decide)
    generalize cell % 1000000007 = x at c0 c1
    generalize cell % 65537 = y at d0 d1
    refine ⟨mul_ok_l (by omega) (by omega), mul_ok_r (by decide) (by decide), ⟨by decide, by decide, ?_⟩, by decide, ?_⟩
    · have m0 : 0 ≤ x * (2 * a + 69069) := Int.mul_nonneg c0 (by omega)
      have m1 : x * (2 * a + 69069) ≤ 1000000007 * (2 * a + 69069) := Int.mul_le_mul_of_nonneg_right (by omega) (by omega)
      exact nat_abs_lt (by omega) (by omega)
    obtain ⟨p, e1, p0, p1⟩ := primes_at (i := a)
    have e1' : atI ([PyData.int 2147483629, .int 2147483587, .int 2147483579, .int 2147483563, .int 2147483549, .int 2147483543, .int 2147483497, .int 2147483489] ++ [.int 2147483477, .int 2147483423, .int 2147483399, .int 2147483353, .int 2147483323]) (a % 13) = some (.int p) := e1
    rw [e1']
    obtain ⟨p2, e2, q0, q1⟩ := primes_at (i := a + 5)
    have e2' : atI ([PyData.int 2147483629, .int 2147483587, .int 2147483579, .int 2147483563, .int 2147483549, .int 2147483543, .int 2147483497, .int 2147483489] ++ [.int 2147483477, .int 2147483423, .int 2147483399, .int 2147483353, .int 2147483323]) ((a + 5) % 13) = some (.int p2) := e2
    rw [e2']
    obtain ⟨p3, e3, r0, r1⟩ := primes_at (i := a + 7)
    have e3' : atI ([PyData.int 2147483629, .int 2147483587, .int 2147483579, .int 2147483563, .int 2147483549, .int 2147483543, .int 2147483497, .int 2147483489] ++ [.int 2147483477, .int 2147483423, .int 2147483399, .int 2147483353, .int 2147483323]) ((a + 7) % 13) = some (.int p3) := e3
    rw [e3']
    walk_at "wps"
    generalize (x * (2 * a + 69069) + a * 40503 + 977) ^ Int.toNat 3 = u
    have f0 : 0 ≤ u % p := Int.emod_nonneg _ (by omega)
    have f1 : u % p < p := Int.emod_lt_of_pos _ p0
    generalize u % p = g at f0 f1
    refine ⟨p0, mul_ok_l (by omega) (by omega), by decide, ⟨by decide, by decide, ?_⟩, by decide, q0, ?_⟩
    · have m0 : 0 ≤ g * (a + 3) := Int.mul_nonneg f0 (by omega)
      have m1 : g * (a + 3) ≤ 2147483648 * (a + 3) := Int.mul_le_mul_of_nonneg_right (by omega) (by omega)
      exact nat_abs_lt (by omega) (by omega)
    generalize (g * (a + 3) + y + 5) ^ Int.toNat 5 = u
    have f2 : 0 ≤ u % p2 := Int.emod_nonneg _ (by omega)
    have f3 : u % p2 < p2 := Int.emod_lt_of_pos _ q0
    generalize u % p2 = g2 at f2 f3
    have f4 : 0 ≤ g % 1009 := Int.emod_nonneg _ (by decide)
    have f5 : g % 1009 < 1009 := Int.emod_lt_of_pos _ (by decide)
    exact ⟨by decide, ⟨by decide, by decide, nat_abs_lt (by omega) (by omega)⟩, by decide, r0, mul_ok_r (by decide) (by decide), mul_ok_r (by decide) (by decide), _, rfl⟩
  cases e : run T (k + 1) "_law_spread" [.d (.int cell), .d (.int a)] st with
  | ok x st' => rw [e] at key; obtain ⟨v, rfl, rfl⟩ := key; exact ⟨v, rfl⟩
  | exc x st' => rw [e] at key; exact key.elim
  | fail => rw [e] at key; exact key.elim
theorem take_sto {o : Ob} {cs : List Int} {a v a' v' : Int} {r e : Sto} : (sto o cs a' v' (r ++ e)).take (sto o cs a v r).length = sto o cs a' v' r := by
  unfold sto
  simp only [List.length_cons, List.take_succ_cons, List.take_left]
theorem take_sto0 {o : Ob} {cs : List Int} {a v a' v' : Int} {r : Sto} : (sto o cs a' v' r).take (sto o cs a v r).length = sto o cs a' v' r := by
  unfold sto
  simp only [List.length_cons, List.take_succ_cons, List.take_length]
theorem take_okW (h : T.lookup ("_law_spread" : Str) = some ir_spread) (h2 : T.lookup ("_law_take" : Str) = some ir_take) (o : Ob) (cs : List Int) (a v : Int) (r : Sto) (m : Int) (h0 : 0 ≤ a) (h1 : a < 1000000000) (m0 : 0 < m) (m1 : m < 1606938044258990275541962092341162602522202993782792835301376) :
    Wp (run T (k + 2) "_law_take" [.ref 1, .d (.int m)] (sto o cs a v r)) (Gn o cs a r 1 fun d => ∃ i : Int, d = .int i ∧ 0 ≤ i ∧ i < m) E0' := by
  rw [run_at h2]
  unfold FnI.run ir_take Mode.of
  rw [w_scope]
  unfold sto
  walk_at "wps"
  have at_cs : ∀ i : Int, 0 ≤ i → i < (cs.map PyData.int).length → ∃ c, atI (cs.map PyData.int) i = some (.int c) := fun i i0 i1 => by
    obtain ⟨x, e1, e2⟩ := atI_nat i0 i1
    rw [List.getElem?_map] at e2
    obtain ⟨c, _, rfl⟩ := Option.map_eq_some_iff.mp e2
    exact ⟨c, e1⟩
  have q0 : ∀ w : Int, 0 ≤ w % m ∧ w % m < m := fun w => ⟨Int.emod_nonneg _ (by omega), Int.emod_lt_of_pos _ m0⟩
  split
  · split
    · obtain ⟨c, e⟩ := at_cs a h0 (by assumption)
      rw [e]
      walk_at "wps"
      obtain ⟨w, ew⟩ := spread_ok (k := k) h c a (o :: Ob.lst [PyData.list (List.map PyData.int cs), PyData.int (a + 1), PyData.int v] :: r) h0 h1
      rw [ew]
      walk_at "wps"
      exact ⟨m0, ⟨m0, m1⟩, _, _, _, rfl, rfl, by omega, by omega, _, rfl, q0 w⟩
    · split
      · rename_i hc
        obtain ⟨c, e⟩ := at_cs ((a * 5 + 3) % ((cs.map PyData.int).length : Nat)) (Int.emod_nonneg _ (by omega)) (Int.emod_lt_of_pos _ hc)
        rw [e]
        walk_at "wps"
        refine ⟨mul_ok_r (by decide) (by decide), hc, ⟨by decide, by decide, by decide⟩, ?_, ?_⟩
        · show (0 : Int) < 10 ^ 17 + a
          have : (10 : Int) ^ 17 = 100000000000000000 := by decide
          omega
        obtain ⟨w, ew⟩ := spread_ok (k := k) h (c % (10 ^ Int.toNat 17 + a)) a (o :: Ob.lst [PyData.list (List.map PyData.int cs), PyData.int (a + 1), PyData.int v] :: r) h0 h1
        rw [ew]
        walk_at "wps"
        exact ⟨m0, ⟨m0, m1⟩, _, _, _, rfl, rfl, by omega, by omega, _, rfl, q0 w⟩
      · obtain ⟨w, ew⟩ := spread_ok (k := k) h 0 a (o :: Ob.lst [PyData.list (List.map PyData.int cs), PyData.int (a + 1), PyData.int v] :: r) h0 h1
        rw [ew]
        walk_at "wps"
        exact ⟨m0, ⟨m0, m1⟩, _, _, _, rfl, rfl, by omega, by omega, _, rfl, q0 w⟩
  · exact ⟨m0, ⟨m0, m1⟩, _, _, _, rfl, rfl, by omega, by omega, _, rfl, q0 v⟩
theorem take_ok (h : T.lookup ("_law_spread" : Str) = some ir_spread) (h2 : T.lookup ("_law_take" : Str) = some ir_take) (o : Ob) (cs : List Int) (a v : Int) (r : Sto) (m : Int) (h0 : 0 ≤ a) (h1 : a < 1000000000) (m0 : 0 < m) (m1 : m < 1073741824) :
    Wp (run T (k + 2) "_law_take" [.ref 1, .d (.int m)] (sto o cs a v r)) (Gn o cs a r 1 fun d => ∃ i : Int, d = .int i ∧ 0 ≤ i ∧ i < m) E0' := take_okW h h2 o cs a v r m h0 h1 m0 (by omega)
theorem open_ok (h : T.lookup ("_law_open" : Str) = some ir_open) (ns : List Int) (hl : ns.length ≤ 63) : ∃ cs : List Int, run T (k + 1) "_law_open" [.d (.list (ns.map .int))] [] = .ok (.ref 1) (sto (.frz (cs.map .int)) cs 0 0 []) := by
  have key : Wp (run T (k + 1) "_law_open" [.d (.list (ns.map .int))] []) (fun x st => ∃ cs : List Int, x = .ref 1 ∧ st = sto (.frz (cs.map .int)) cs 0 0 []) E0' := by
    rw [run_at h]
    unfold FnI.run ir_open Mode.of
    walk_at "wps"
    have e1 : cutD (ns.map PyData.int) none (some 12) = (ns.take 12).map PyData.int := by rw [show (12 : Int) = ((12 : Nat) : Int) from rfl, cut_to, List.map_take]
    have e2 : cutD (ns.map PyData.int) (some 12) (some 63) = ((ns.drop 12).take 51).map PyData.int := by rw [show (12 : Int) = ((12 : Nat) : Int) from rfl, show (63 : Int) = ((63 : Nat) : Int) from rfl, cut_mid _ _ _ (by decide), List.map_take, List.map_drop]
    rw [e1, e2]
    refine for_inv (fun i ρ st => ∃ a b cs, ρ = [some (.d (.list (ns.map .int))), some (.ref 0), a, b] ∧ st = [.lst (cs.map PyData.int)] ∧ cs.length = min 12 ns.length) ⟨_, _, ns.take 12, rfl, rfl, by rw [List.length_take]⟩ ?_ ?_
    · rintro i x ρ st hx ⟨a, b, cs, rfl, rfl, hc⟩
      rw [numbered_get, List.getElem?_map] at hx
      obtain ⟨y, hy, rfl⟩ := Option.map_eq_some_iff.mp hx
      obtain ⟨c, hc2, rfl⟩ := Option.map_eq_some_iff.mp hy
      have hi : 12 ≤ cs.length := by
        have := (List.getElem?_eq_some_iff.mp hc2).1
        rw [List.length_take, List.length_drop] at this
        omega
      rw [Nat.zero_add]
      walk_at "wps"
      have g0 : 0 ≤ (i : Int) % 12 := Int.emod_nonneg _ (by decide)
      have g1 : (i : Int) % 12 < 12 := Int.emod_lt_of_pos _ (by decide)
      generalize (i : Int) % 12 = j at g0 g1
      have hj : j.toNat < cs.length := by omega
      have e3 : atI (cs.map PyData.int) j = some (.int cs[j.toNat]) := atI_get g0 (by rw [List.getElem?_map, List.getElem?_eq_getElem hj]; rfl)
      have e4 : ixN (cs.map PyData.int).length j = some j.toNat := by
        unfold ixN
        rw [if_pos g0, if_pos (by rw [List.length_map]; omega)]
      rw [e3]
      walk_at "wps"
      rw [e4]
      refine ⟨by decide, by decide, _, _, cs.set j.toNat (cs[j.toNat] + c), rfl, ?_, by rw [List.length_set]; exact hc⟩
      rw [List.map_set]
    · rintro ρ st ⟨a, b, cs, rfl, rfl, hc⟩
      walk_at "wps"
      exact ⟨by rw [sizeLine_eq]; decide, cs, rfl⟩
  cases e : run T (k + 1) "_law_open" [.d (.list (ns.map .int))] [] with
  | ok x st' => rw [e] at key; obtain ⟨cs, rfl, rfl⟩ := key; exact ⟨cs, rfl⟩
  | exc x st' => rw [e] at key; exact key.elim
  | fail => rw [e] at key; exact key.elim
end
end L2.Q

set_option maxHeartbeats 1000000
/-! How long a thing is shown. -/
namespace L2.Q
open PySem PySem.Spec PyProof.Rows
mutual
/-- a bound of what is shown: texts of few signs -/
def wid : PyData → Nat
  | .none => 4
  | .bool _ => 5
  | .int _ => 1921
  | .str x => 10 * x.length + 2
  | .list xs => widAll xs + 3
  | .tuple xs => widAll xs + 3
  | .dict _ => 2
def widAll : List PyData → Nat
  | [] => 0
  | x :: xs => wid x + 2 + widAll xs
end
mutual
def plainD : PyData → Bool
  | .none => true
  | .bool _ => true
  | .int i => decide (i.natAbs.log2 < 1920)
  | .str x => x.cps.toList.all fun c => decide (c < 16 ^ 8)
  | .list xs => plainAll xs
  | .tuple xs => plainAll xs
  | .dict ps => ps.isEmpty
def plainAll : List PyData → Bool
  | [] => true
  | x :: xs => plainD x && plainAll xs
end
theorem textFrom_up : ∀ (ts : List Str) (k : Nat) (acc : Str), (textFrom k acc ts).length ≤ acc.length + piled ts
  | [], k, acc => by show acc.length ≤ _; omega
  | t :: r, k, acc => by
    have ih := textFrom_up r (k + 1) (acc ++ (if k > 0 then ", " else "" : String) ++ t)
    have e : (acc ++ ((if k > 0 then ", " else "" : String) : Str) ++ t).length ≤ acc.length + 2 + t.length := by
      rw [Str.length_append, Str.length_append]
      split
      · have : (Str.ofString ", ").length = 2 := by decide
        omega
      · have : (Str.ofString "").length = 0 := by decide
        omega
    show (textFrom (k + 1) (acc ++ ((if k > 0 then ", " else "" : String) : Str) ++ t) r).length ≤ acc.length + piled (t :: r)
    have p : piled (t :: r) = t.length + 2 + piled r := by simp [piled]
    omega
theorem listText_up (ts : List Str) : (listText ts).length ≤ piled ts + 2 := by
  unfold listText
  rw [Str.length_append]
  have h := textFrom_up ts 0 "["
  have e1 : (Str.ofString "[").length = 1 := by decide
  have e2 : (Str.ofString "]").length = 1 := by decide
  omega
theorem tupleText_up (ts : List Str) : (tupleText ts).length ≤ piled ts + 3 := by
  unfold tupleText
  rw [Str.length_append, Str.length_append]
  have e1 : (Str.ofString "(").length = 1 := by decide
  have e2 : ((if ts.length == 1 then ",)" else ")" : String) : Str).length ≤ 2 := by split <;> decide
  cases ts with
  | nil =>
    have : (Str.join ", " ([] : List Str)).length = 0 := by decide
    omega
  | cons t r =>
    have h := join_length_add (t :: r) (by simp)
    omega
mutual
theorem shown_up : ∀ d : PyData, plainD d = true → d.showable = true ∧ d.shown.length ≤ wid d
  | .none, _ => ⟨rfl, by show (Str.ofString "None").length ≤ 4; decide⟩
  | .bool b, _ => ⟨rfl, by cases b <;> (show Str.length _ ≤ 5) <;> decide⟩
  | .int i, h => ⟨h, int_text_len_1921 (of_decide_eq_true h)⟩
  | .str x, h => ⟨rfl, PySem.StrLaws.reprText_len x fun c hc => of_decide_eq_true (List.all_eq_true.mp h c hc)⟩
  | .list xs, h => by
    obtain ⟨h1, h2⟩ := shownAll_up xs h
    refine ⟨h1, ?_⟩
    have := listText_up (PyData.shownAll xs)
    show (listText (PyData.shownAll xs)).length ≤ widAll xs + 3
    omega
  | .tuple xs, h => by
    obtain ⟨h1, h2⟩ := shownAll_up xs h
    refine ⟨h1, ?_⟩
    have := tupleText_up (PyData.shownAll xs)
    show (tupleText (PyData.shownAll xs)).length ≤ widAll xs + 3
    omega
  | .dict [], _ => ⟨rfl, by show Str.length _ ≤ 2; decide +kernel⟩
  | .dict (_ :: _), h => by cases h
theorem shownAll_up : ∀ ds : List PyData, plainAll ds = true → PyData.showableAll ds = true ∧ piled (PyData.shownAll ds) ≤ widAll ds
  | [], _ => ⟨rfl, by show piled [] ≤ 0; simp [piled]⟩
  | d :: ds, h => by
    obtain ⟨h1, h2⟩ := and_split (show (plainD d && plainAll ds) = true from h)
    obtain ⟨a1, a2⟩ := shown_up d h1
    obtain ⟨b1, b2⟩ := shownAll_up ds h2
    refine ⟨by show (d.showable && PyData.showableAll ds) = true; rw [a1, b1]; rfl, ?_⟩
    show piled (d.shown :: PyData.shownAll ds) ≤ wid d + 2 + widAll ds
    have p : piled (d.shown :: PyData.shownAll ds) = d.shown.length + 2 + piled (PyData.shownAll ds) := by simp [piled]
    omega
end
mutual
theorem plain_obj : ∀ d : PyData, plainD d = true → noObj d = true
  | .none, _ => rfl
  | .bool _, _ => rfl
  | .int _, _ => rfl
  | .str _, _ => rfl
  | .list xs, h => plain_objs xs h
  | .tuple xs, h => plain_objs xs h
  | .dict [], _ => rfl
  | .dict (_ :: _), h => by cases h
theorem plain_objs : ∀ ds : List PyData, plainAll ds = true → noObjs ds = true
  | [], _ => rfl
  | d :: ds, h => by
    obtain ⟨h1, h2⟩ := and_split (show (plainD d && plainAll ds) = true from h)
    show (noObj d && noObjs ds) = true
    rw [plain_obj d h1, plain_objs ds h2]
    rfl
end
theorem repr_ok {d : PyData} (h : plainD d = true) (hw : wid d ≤ 16777216) (hd : d.depth ≤ 64) : fBF .repr [d] = some (.str d.shown) := by
  obtain ⟨h1, h2⟩ := shown_up d h
  show (if _ then _ else _) = _
  rw [if_pos ⟨plain_obj d h, h1, by rw [sizeLine_eq]; omega, hd⟩]
theorem log_ok {i : Int} (h : i.natAbs < 2 ^ 200) : decide (i.natAbs.log2 < 1920) = true := by
  refine decide_eq_true ?_
  by_cases h0 : i.natAbs = 0
  · rw [h0]; decide
  · have := (Nat.log2_lt h0).mpr (Nat.lt_of_lt_of_le h (Nat.pow_le_pow_right (by decide) (by decide : 200 ≤ 1920)))
    exact this
end L2.Q

set_option maxHeartbeats 2000000
namespace L2.Q
open PySem PySem.Spec PyProof.Rows
local macro_rules | `(tactic| walk_at "wps") => `(tactic| simp (config := { failIfUnchanged := false, maxSteps := 10000000 }) only [w_var, w_int, w_str, w_bl, w_non, w_gint, w_gstr, w_bin, w_cmp, w_idx, w_tabGet, w_tabIx, w_chain, w_nt, w_neg, w_ife, w_conj1, w_conj, w_disj1, w_disj, wl_nil, wl_cons, w_tup, w_lst, w_new, w_call, w_bf, w_isi,
  w_frz, w_newL, w_litGet, w_bm, w_isx, w_isxB, w_fld, s_tryAs, t_nil, t_cons, t_set, t_doE, t_ifs, bm_c, bm_i, bm_s, isx_e, isx_n, isx_t, dat_n, isN_d, add_s, w_compN, w_catN,  w_ext, ext2, w_pop, wi_zip, wi_rngD, w_dct0, w_rev,  wo_no, wo_at, w_sl, w_app, wi_items, wi_rng1, wi_rng2, wi_enum, w_comp, cut1, wc_nil, wc_cons, wt_no, wt_at, b_nil, b_cons, s_set, s_asg, s_par, s_setIx, s_ret, s_retN, s_ifs, s_for, s_raise, s_doE, s_bk, s_ct, s_pass, w_body, start1, startN, start_0, retF_ret, retF_nx, wp_ok, wp_exc, wp_bind, ws_ok,
  nth, put, clear, wipe_0, wipe_c, onO_some, onO_none, onO_if, onO_map, onO_bind, onB_t, onB_f, onB_not, onB_b, onD_d, onF_nx, onF_ret, onF_bk, onF_ct, onI_i, items_l, items_t, deref_d, deref_r, drf_l, drf_f, bin2, setIx3_r, app2_r, frz1_r, onL_l, List.take_succ_cons, List.take_length, List.take_left, get_0, get_s, set_0, set_s, ix31, ix32, at0, at1, at2, at3, frz1_d, listOf_l, listOf_t, derefs_n, derefs_c, allD_n, allD_c,
  Option.map_some, Option.map_none, Option.bind_some, Option.bind_none, List.length_cons, List.length_nil, Nat.zero_add, Nat.reduceAdd, Int.cast_ofNat_Int, Int.natCast_zero, Int.natCast_one,
  add_i, sub_i, mul_i, div_i, mod_i, pow_i, add_t, add_l, lt_i, le_i, gt_i, ge_i, eq_i, ne_i, eq_s, ne_s, eq_b, is_n, isnot_n, isN_n, isN_i, idx_t, idx_l, sl_t, sl_l, tab_s, tab_g, len_t, len_l, min2_i, max2_i, min3_i, int_b, int_i, tuple_l, tuple_t, list_l, list_t, all_l, any_l, sum_l, max1_l, min1_l,
  asg_n, asg_t0, asg_t, isi_iI, isi_bI, isi_sI, isi_tI, isi_sS, isi_tT, Bool.not_true, Bool.not_false, decide_eq_true_eq, beq_iff_eq, if_true, if_false, ite_true, ite_false, true_and, and_true, Bool.false_eq_true, reduceIte, eq_self_iff_true, beq_self_eq_true, str_inj, String.reduceEq, Int.reduceBEq, Int.reduceEq, Nat.reduceEqDiff, not_true_eq_false, not_false_eq_true, Bool.true_and, Bool.and_true, Bool.false_and, Bool.and_false, Bool.or_false, Bool.false_or, Bool.true_or, Bool.or_true, false_and, and_false, decide_true, decide_false, zi_int_none, zi_int_bool, zi_int_int, zi_int_str, zi_int_list, zi_int_tuple, zi_int_dict, zi_bool_none, zi_bool_bool, zi_bool_int, zi_bool_str, zi_bool_list, zi_bool_tuple, zi_bool_dict, zi_str_none, zi_str_bool, zi_str_int, zi_str_str, zi_str_list, zi_str_tuple, zi_str_dict, zi_tuple_none, zi_tuple_bool, zi_tuple_int, zi_tuple_str, zi_tuple_list, zi_tuple_tuple, zi_tuple_dict, zi_list_none, zi_list_bool, zi_list_int, zi_list_str, zi_list_list, zi_list_tuple, zi_list_dict, zi_dict_none, zi_dict_bool, zi_dict_int, zi_dict_str, zi_dict_list, zi_dict_tuple, zi_dict_dict, eq_tt, ne_tt, get_cc, set_cc, lit_s, rev_t, rev_l, only_l, cat2_e, sizeLine_eq, is_t, is_s, is_l, is_b, List.isEmpty_cons, List.isEmpty_nil, Nat.reduceLeDiff, Int.reduceLE, Int.reduceLT, Int.reduceAdd, Int.reduceSub, Int.reduceNeg, Int.reduceToNat, Int.reduceMul, Nat.reduceLT, Option.getD_some, Option.getD_none, onD_d, Nat.zero_le])
local macro_rules | `(tactic| walk_at "wpl") => `(tactic| simp (config := { failIfUnchanged := false, maxSteps := 10000000 }) only [w_var, w_int, w_str, w_bl, w_non, w_gint, w_gstr, w_bin, w_cmp, w_idx, w_tabGet, w_tabIx, w_chain, w_nt, w_neg, w_ife, w_conj1, w_conj, w_disj1, w_disj, wl_nil, wl_cons, w_tup, w_lst, w_new, w_call, w_bf, w_isi,
  w_frz, w_newL, w_litGet, w_bm, w_isx, w_isxB, w_fld, s_tryAs, t_nil, t_cons, t_set, t_doE, t_ifs, bm_c, bm_i, bm_s, isx_e, isx_n, isx_t, dat_n, isN_d, add_s, w_compN, w_catN,  w_ext, ext2, w_pop, wi_zip, wi_rngD, w_dct0, w_rev,  wo_no, wo_at, w_sl, w_app, wi_items, wi_rng1, wi_rng2, wi_enum, w_comp, cut1, wt_no, wt_at, b_nil, b_cons, s_set, s_asg, s_par, s_setIx, s_ret, s_retN, s_ifs, s_for, s_raise, s_doE, s_bk, s_ct, s_pass, w_body, start1, startN, start_0, retF_ret, retF_nx, wp_ok, wp_exc, wp_bind, ws_ok,
  nth, put, clear, wipe_0, wipe_c, onO_some, onO_none, onO_if, onO_map, onO_bind, onB_t, onB_f, onB_not, onB_b, onD_d, onF_nx, onF_ret, onF_bk, onF_ct, onI_i, items_l, items_t, deref_d, deref_r, drf_l, drf_f, bin2, setIx3_r, app2_r, frz1_r, onL_l, List.take_succ_cons, List.take_length, List.take_left, get_0, get_s, set_0, set_s, ix31, ix32, at0, at1, at2, at3, frz1_d, listOf_l, listOf_t, derefs_n, derefs_c, allD_n, allD_c,
  Option.map_some, Option.map_none, Option.bind_some, Option.bind_none, List.length_cons, List.length_nil, Nat.zero_add, Nat.reduceAdd, Int.cast_ofNat_Int, Int.natCast_zero, Int.natCast_one,
  add_i, sub_i, mul_i, div_i, mod_i, pow_i, add_t, add_l, lt_i, le_i, gt_i, ge_i, eq_i, ne_i, eq_s, ne_s, eq_b, is_n, isnot_n, isN_n, isN_i, idx_t, idx_l, sl_t, sl_l, tab_s, tab_g, len_t, len_l, min2_i, max2_i, min3_i, int_b, int_i, tuple_l, tuple_t, list_l, list_t, all_l, any_l, sum_l, max1_l, min1_l,
  asg_n, asg_t0, asg_t, isi_iI, isi_bI, isi_sI, isi_tI, isi_sS, isi_tT, Bool.not_true, Bool.not_false, decide_eq_true_eq, beq_iff_eq, if_true, if_false, ite_true, ite_false, true_and, and_true, Bool.false_eq_true, reduceIte, eq_self_iff_true, beq_self_eq_true, str_inj, String.reduceEq, Int.reduceBEq, Int.reduceEq, Nat.reduceEqDiff, not_true_eq_false, not_false_eq_true, Bool.true_and, Bool.and_true, Bool.false_and, Bool.and_false, Bool.or_false, Bool.false_or, Bool.true_or, Bool.or_true, false_and, and_false, decide_true, decide_false, zi_int_none, zi_int_bool, zi_int_int, zi_int_str, zi_int_list, zi_int_tuple, zi_int_dict, zi_bool_none, zi_bool_bool, zi_bool_int, zi_bool_str, zi_bool_list, zi_bool_tuple, zi_bool_dict, zi_str_none, zi_str_bool, zi_str_int, zi_str_str, zi_str_list, zi_str_tuple, zi_str_dict, zi_tuple_none, zi_tuple_bool, zi_tuple_int, zi_tuple_str, zi_tuple_list, zi_tuple_tuple, zi_tuple_dict, zi_list_none, zi_list_bool, zi_list_int, zi_list_str, zi_list_list, zi_list_tuple, zi_list_dict, zi_dict_none, zi_dict_bool, zi_dict_int, zi_dict_str, zi_dict_list, zi_dict_tuple, zi_dict_dict, eq_tt, ne_tt, get_cc, set_cc, lit_s, rev_t, rev_l, only_l, cat2_e, sizeLine_eq, is_t, is_s, is_l, is_b, List.isEmpty_cons, List.isEmpty_nil, Nat.reduceLeDiff, Int.reduceLE, Int.reduceLT, Int.reduceAdd, Int.reduceSub, Int.reduceNeg, Int.reduceToNat, Int.reduceMul, Nat.reduceLT, Option.getD_some, Option.getD_none, onD_d, Nat.zero_le])
-- BODY
/-! Fit: data that repr shows, so wide and so deep at most. -/
structure Fit (d : PyData) (n k : Nat) : Prop where
  p : plainD d = true
  w : wid d ≤ n
  h : d.depth ≤ k
structure FitAll (ds : List PyData) (n k : Nat) : Prop where
  p : plainAll ds = true
  w : widAll ds ≤ n
  h : PyData.depthAll ds ≤ k
theorem Fit.mono {d : PyData} {n k n' k' : Nat} (f : Fit d n k) (h1 : n ≤ n') (h2 : k ≤ k') : Fit d n' k' := ⟨f.p, Nat.le_trans f.w h1, Nat.le_trans f.h h2⟩
theorem FitAll.mono {d : List PyData} {n k n' k' : Nat} (f : FitAll d n k) (h1 : n ≤ n') (h2 : k ≤ k') : FitAll d n' k' := ⟨f.p, Nat.le_trans f.w h1, Nat.le_trans f.h h2⟩
theorem fit_nil {n k : Nat} : FitAll [] n k := ⟨rfl, Nat.zero_le _, Nat.zero_le _⟩
theorem FitAll.cons {d : PyData} {ds : List PyData} {n m k : Nat} (a : Fit d n k) (b : FitAll ds m k) : FitAll (d :: ds) (n + 2 + m) k :=
  ⟨by show (plainD d && plainAll ds) = true; rw [a.p, b.p]; rfl, by have := a.w; have := b.w; show wid d + 2 + widAll ds ≤ _; omega, by have := a.h; have := b.h; show max d.depth (PyData.depthAll ds) ≤ _; omega⟩
theorem Fit.tup {ds : List PyData} {n k : Nat} (a : FitAll ds n k) : Fit (.tuple ds) (n + 3) (k + 1) := ⟨a.p, by have := a.w; show widAll ds + 3 ≤ _; omega, by have := a.h; show PyData.depthAll ds + 1 ≤ _; omega⟩
theorem Fit.lst {ds : List PyData} {n k : Nat} (a : FitAll ds n k) : Fit (.list ds) (n + 3) (k + 1) := ⟨a.p, by have := a.w; show widAll ds + 3 ≤ _; omega, by have := a.h; show PyData.depthAll ds + 1 ≤ _; omega⟩
theorem Fit.of_tup {ds : List PyData} {n k : Nat} (a : Fit (.tuple ds) n k) : FitAll ds (n - 3) (k - 1) := ⟨a.p, by have : widAll ds + 3 ≤ n := a.w; omega, by have : PyData.depthAll ds + 1 ≤ k := a.h; omega⟩
theorem widAll_append : ∀ (xs ys : List PyData), widAll (xs ++ ys) = widAll xs + widAll ys
  | [], ys => by simp [widAll]
  | x :: xs, ys => by
    have := widAll_append xs ys
    simp only [List.cons_append, widAll, this]
    omega
theorem plainAll_append : ∀ (xs ys : List PyData), plainAll (xs ++ ys) = (plainAll xs && plainAll ys)
  | [], ys => by simp [plainAll]
  | x :: xs, ys => by simp only [List.cons_append, plainAll, plainAll_append xs ys, Bool.and_assoc]
theorem depthAll_append : ∀ (xs ys : List PyData), PyData.depthAll (xs ++ ys) = max (PyData.depthAll xs) (PyData.depthAll ys)
  | [], ys => by simp [PyData.depthAll]
  | x :: xs, ys => by
    have := depthAll_append xs ys
    simp only [List.cons_append, PyData.depthAll, this]
    omega
theorem FitAll.app {xs ys : List PyData} {n m k : Nat} (a : FitAll xs n k) (b : FitAll ys m k) : FitAll (xs ++ ys) (n + m) k :=
  ⟨by rw [plainAll_append, a.p, b.p]; rfl, by have := a.w; have := b.w; rw [widAll_append]; omega, by have := a.h; have := b.h; rw [depthAll_append]; omega⟩
theorem FitAll.get {xs : List PyData} {n k i : Nat} {x : PyData} (a : FitAll xs n k) (h : xs[i]? = some x) : Fit x n k := by
  induction xs generalizing i n with
  | nil => simp at h
  | cons y ys ih =>
    have hp : (plainD y && plainAll ys) = true := a.p
    obtain ⟨p1, p2⟩ := and_split hp
    have hw : wid y + 2 + widAll ys ≤ n := a.w
    have hh : max y.depth (PyData.depthAll ys) ≤ k := a.h
    cases i with
    | zero =>
      simp at h
      subst h
      exact ⟨p1, by omega, by omega⟩
    | succ i => exact (ih (n := widAll ys) ⟨p2, Nat.le_refl _, by omega⟩ (by simpa using h)).mono (by omega) (Nat.le_refl _)
theorem FitAll.take {xs : List PyData} {n k : Nat} (a : FitAll xs n k) (i : Nat) : FitAll (xs.take i) n k := by
  have e := List.take_append_drop i xs
  have p := a.p
  have w := a.w
  have h := a.h
  rw [← e, plainAll_append] at p
  rw [← e, widAll_append] at w
  rw [← e, depthAll_append] at h
  exact ⟨(and_split p).1, by omega, by omega⟩
theorem FitAll.drop {xs : List PyData} {n k : Nat} (a : FitAll xs n k) (i : Nat) : FitAll (xs.drop i) n k := by
  have e := List.take_append_drop i xs
  have p := a.p
  have w := a.w
  have h := a.h
  rw [← e, plainAll_append] at p
  rw [← e, widAll_append] at w
  rw [← e, depthAll_append] at h
  exact ⟨(and_split p).2, by omega, by omega⟩
theorem FitAll.rev {xs : List PyData} {n k : Nat} (a : FitAll xs n k) : FitAll xs.reverse n k := by
  induction xs generalizing n with
  | nil => exact fit_nil
  | cons y ys ih =>
    have hp : (plainD y && plainAll ys) = true := a.p
    obtain ⟨p1, p2⟩ := and_split hp
    have hw : wid y + 2 + widAll ys ≤ n := a.w
    have hh : max y.depth (PyData.depthAll ys) ≤ k := a.h
    rw [List.reverse_cons]
    refine (FitAll.app (ih (n := widAll ys) ⟨p2, Nat.le_refl _, by omega⟩) (FitAll.cons (n := wid y) (m := 0) ⟨p1, Nat.le_refl _, by omega⟩ fit_nil)).mono (by omega) (Nat.le_refl _)
theorem Fit.repr {d : PyData} {n k : Nat} (f : Fit d n k) (hn : n ≤ 16777216) (hk : k ≤ 64) : fBF .repr [d] = some (.str d.shown) := repr_ok f.p (Nat.le_trans f.w hn) (Nat.le_trans f.h hk)
theorem FitAll.len {xs : List PyData} {n k : Nat} (f : FitAll xs n k) : 2 * xs.length ≤ n := by
  induction xs generalizing n with
  | nil => exact Nat.zero_le _
  | cons y ys ih =>
    have hw : wid y + 2 + widAll ys ≤ n := f.w
    have hh : max y.depth (PyData.depthAll ys) ≤ k := f.h
    have := ih (n := widAll ys) ⟨(and_split (show (plainD y && plainAll ys) = true from f.p)).2, Nat.le_refl _, by omega⟩
    simp only [List.length_cons]
    omega
theorem fit_int {i : Int} {k : Nat} (h : i.natAbs ≤ 10 ^ 39 + 4) : Fit (.int i) 1921 k := ⟨log_ok (by
  have : (10 : Nat) ^ 39 + 4 < 2 ^ 200 := by decide +kernel
  exact Nat.lt_of_le_of_lt h this), Nat.le_refl _, Nat.zero_le _⟩
theorem fit_none {k : Nat} : Fit .none 4 k := ⟨rfl, Nat.le_refl _, Nat.zero_le _⟩
theorem fit_bool {b : Bool} {k : Nat} : Fit (.bool b) 5 k := ⟨rfl, Nat.le_refl _, Nat.zero_le _⟩
theorem fit_dct0 {k : Nat} : Fit (.dict []) 2 (k + 1) := ⟨rfl, Nat.le_refl _, by show 0 + 1 ≤ k + 1; omega⟩
theorem fit_under {k : Nat} : Fit (.str "under") 52 k := ⟨by decide +kernel, by decide +kernel, Nat.zero_le _⟩
theorem fit_not {k : Nat} : Fit (.str "not") 32 k := ⟨by decide +kernel, by decide +kernel, Nat.zero_le _⟩
theorem fit_and {k : Nat} : Fit (.str "and") 32 k := ⟨by decide +kernel, by decide +kernel, Nat.zero_le _⟩
theorem fit_or {k : Nat} : Fit (.str "or") 22 k := ⟨by decide +kernel, by decide +kernel, Nat.zero_le _⟩
end L2.Q

set_option maxHeartbeats 1000000
/-! Sayings: what the program tells of them. -/
namespace L2.Q
open PySem PySem.Spec PyProof.Rows
local macro_rules | `(tactic| walk_at "wps") => `(tactic| simp (config := { failIfUnchanged := false }) only [w_var, w_int, w_str, w_bl, w_non, w_gint, w_gstr, w_bin, w_cmp, w_idx, w_tabGet, w_tabIx, w_chain, w_nt, w_neg, w_ife, w_conj1, w_conj, w_disj1, w_disj, wl_nil, wl_cons, w_tup, w_lst, w_new, w_call, w_bf, w_isi,
  w_frz, w_newL, wo_no, wo_at, w_sl, w_app, wi_items, wi_rng1, wi_rng2, wi_enum, w_comp, cut1, wc_nil, wc_cons, wt_no, wt_at, b_nil, b_cons, s_set, s_asg, s_par, s_setIx, s_ret, s_retN, s_ifs, s_for, s_raise, s_doE, s_bk, s_ct, s_pass, w_body, start1, startN, start_0, retF_ret, retF_nx, wp_ok, wp_exc, wp_bind, ws_ok,
  nth, put, clear, wipe_0, wipe_c, onO_some, onO_none, onO_if, onO_map, onO_bind, onB_t, onB_f, onB_not, onB_b, onD_d, onF_nx, onF_ret, onF_bk, onF_ct, onI_i, items_l, items_t, deref_d, deref_r, drf_l, drf_f, bin2, setIx3_r, app2_r, frz1_r, onL_l, List.take_succ_cons, List.take_length, List.take_left, get_0, get_s, set_0, set_s, ix31, ix32, at0, at1, at2, at3, frz1_d, listOf_l, listOf_t, derefs_n, derefs_c, allD_n, allD_c,
  Option.map_some, Option.map_none, Option.bind_some, Option.bind_none, List.length_cons, List.length_nil, Nat.zero_add, Nat.reduceAdd, Int.cast_ofNat_Int, Int.natCast_zero, Int.natCast_one,
  add_i, sub_i, mul_i, div_i, mod_i, pow_i, add_t, add_l, lt_i, le_i, gt_i, ge_i, eq_i, ne_i, eq_s, ne_s, eq_b, is_n, isnot_n, isN_n, isN_i, idx_t, idx_l, sl_t, sl_l, tab_s, tab_g, len_t, len_l, min2_i, max2_i, min3_i, int_b, int_i, tuple_l, tuple_t, list_l, list_t, all_l, any_l, sum_l, max1_l, min1_l,
  asg_n, asg_t0, asg_t, isi_iI, isi_bI, isi_sI, isi_tI, isi_sS, isi_tT, Bool.not_true, Bool.not_false, decide_eq_true_eq, beq_iff_eq, if_true, if_false, ite_true, ite_false, true_and, and_true, Bool.false_eq_true, reduceIte, eq_self_iff_true])
def tab_PARTS : Tab := [("under", .i 3), ("not", .i 2), ("and", .i 3), ("or", .i 3)]
def ir_is_whole : FnI := ⟨["thing"], ["thing"], .pure, (.cons (.ret (.conj (.cons (.isi .int (.var 0)) (.cons (.nt (.isi .bool (.var 0))) .nil)))) .nil)⟩
def ir_need_width : FnI := ⟨["width"], ["width"], .pure, (.cons (.ifs (.disj (.cons (.nt (.call 1 "is_whole" (.cons (.var 0) .nil))) (.cons (.nt (.chain .LtE .LtE (.int 1) (.var 0) (.gint "MOST_WIDTH" 3))) .nil))) (.cons (.raise "NoWidth") .nil) .nil) .nil)⟩
def ir_is_under : FnI := ⟨["width", "thing"], ["width", "thing"], .pure, (.cons (.ret (.conj (.cons (.call 1 "is_whole" (.cons (.idx (.var 1) (.int 1)) .nil)) (.cons (.chain .LtE .Lt (.int 0) (.idx (.var 1) (.int 1)) (.var 0)) (.cons (.call 1 "is_whole" (.cons (.idx (.var 1) (.int 2)) .nil)) .nil))))) .nil)⟩
def ir_is_made : FnI := ⟨["width", "thing", "deep"], ["width", "thing", "deep", "part"], .pure, (.cons (.ifs (.disj (.cons (.nt (.isi .tuple (.var 1))) (.cons (.cmp .Eq (.var 1) (.tup .nil)) (.cons (.nt (.isi .str (.idx (.var 1) (.int 0)))) (.cons (.cmp .Gt (.var 2) (.gint "MOST_DEEP" 8)) .nil))))) (.cons (.ret (.bl false)) .nil) .nil) (.cons (.ifs (.cmp .NotEq (.tabGet "PARTS" tab_PARTS (.idx (.var 1) (.int 0)) (.int 0)) (.bf .len (.cons (.var 1) .nil))) (.cons (.ret (.bl false)) .nil) .nil) (.cons (.ifs (.cmp .Eq (.idx (.var 1) (.int 0)) (.str "under")) (.cons (.ret (.call 2 "is_under" (.cons (.var 0) (.cons (.var 1) .nil)))) .nil) .nil) (.cons (.ret (.bf .all (.cons (.comp [3] (.name 3) (.items (.sl (.var 1) (.at_ (.int 1)) .no)) .no (.call 3 "is_made" (.cons (.var 0) (.cons (.var 3) (.cons (.bin .Add (.var 2) (.int 1)) .nil))))) .nil))) .nil))))⟩
def ir_many_parts : FnI := ⟨["saying"], ["saying", "part"], .pure, (.cons (.ifs (.cmp .Eq (.idx (.var 0) (.int 0)) (.str "under")) (.cons (.ret (.int 1)) .nil) .nil) (.cons (.ret (.bin .Add (.int 1) (.bf .sum (.cons (.comp [1] (.name 1) (.items (.sl (.var 0) (.at_ (.int 1)) .no)) .no (.call 1 "many_parts" (.cons (.var 1) .nil))) .nil)))) .nil))⟩
def ir_is_saying : FnI := ⟨["width", "thing"], ["width", "thing"], .pure, (.cons (.doE (.call 1 "need_width" (.cons (.var 0) .nil))) (.cons (.ret (.conj (.cons (.call 3 "is_made" (.cons (.var 0) (.cons (.var 1) (.cons (.int 1) .nil)))) (.cons (.cmp .LtE (.call 1 "many_parts" (.cons (.var 1) .nil)) (.gint "MOST_PARTS" 15)) .nil)))) .nil))⟩
def ir_need_saying : FnI := ⟨["width", "saying"], ["width", "saying"], .pure, (.cons (.ifs (.nt (.call 2 "is_saying" (.cons (.var 0) (.cons (.var 1) .nil)))) (.cons (.raise "NoSaying") .nil) .nil) .nil)⟩

inductive Sy where
  | under (c b : Int) | nt (s : Sy) | con (a b : Sy) | dis (a b : Sy)
def Sy.d : Sy → PyData
  | .under c b => .tuple [.str "under", .int c, .int b]
  | .nt s => .tuple [.str "not", s.d]
  | .con a b => .tuple [.str "and", a.d, b.d]
  | .dis a b => .tuple [.str "or", a.d, b.d]
def Sy.parts : Sy → Nat
  | .under _ _ => 1
  | .nt s => 1 + s.parts
  | .con a b => 1 + (a.parts + b.parts)
  | .dis a b => 1 + (a.parts + b.parts)
def Sy.depth : Sy → Nat
  | .under _ _ => 1
  | .nt s => 1 + s.depth
  | .con a b => 1 + max a.depth b.depth
  | .dis a b => 1 + max a.depth b.depth
def Sy.all (p : Int → Int → Prop) : Sy → Prop
  | .under c b => p c b
  | .nt s => s.all p
  | .con a b => a.all p ∧ b.all p
  | .dis a b => a.all p ∧ b.all p
theorem Sy.all_imp {p q : Int → Int → Prop} (h : ∀ c b, p c b → q c b) : ∀ s : Sy, s.all p → s.all q
  | .under c b, x => h c b x
  | .nt s, x => all_imp h s x
  | .con a b, x => ⟨all_imp h a x.1, all_imp h b x.2⟩
  | .dis a b, x => ⟨all_imp h a x.1, all_imp h b x.2⟩
theorem Sy.depth_pos : ∀ s : Sy, 0 < s.depth
  | .under _ _ => Nat.one_pos
  | .nt s => by show 0 < 1 + s.depth; omega
  | .con a b => by show 0 < 1 + max a.depth b.depth; omega
  | .dis a b => by show 0 < 1 + max a.depth b.depth; omega
structure HasW (T : FTab) : Prop where
  is_whole : T.lookup ("is_whole" : Str) = some ir_is_whole
  need_width : T.lookup ("need_width" : Str) = some ir_need_width
structure HasSay (T : FTab) : Prop where
  w : HasW T
  is_under : T.lookup ("is_under" : Str) = some ir_is_under
  is_made : T.lookup ("is_made" : Str) = some ir_is_made
  many_parts : T.lookup ("many_parts" : Str) = some ir_many_parts
  is_saying : T.lookup ("is_saying" : Str) = some ir_is_saying
def isW (x : PyData) : Bool := isiD .int x && !isiD .bool x
theorem isW_i (i : Int) : isW (.int i) = true := rfl
theorem so_under : PyData.strOk ("under" : Str) = true := by decide +kernel
theorem so_not : PyData.strOk ("not" : Str) = true := by decide +kernel
theorem so_and : PyData.strOk ("and" : Str) = true := by decide +kernel
theorem so_or : PyData.strOk ("or" : Str) = true := by decide +kernel
theorem Sy.can : ∀ s : Sy, PyData.canLay0 s.d = true ∧ s.d.depth = s.depth
  | .under c b => ⟨by simp [Sy.d, PyData.canLay0, PyData.canLayAll0, so_under], rfl⟩
  | .nt s => by
    obtain ⟨h1, h2⟩ := Sy.can s
    have e : s.d.depth = s.depth := h2
    refine ⟨?_, ?_⟩
    · simp [Sy.d, PyData.canLay0, PyData.canLayAll0, so_not, so_and, so_or, h1]
    · simp [Sy.d, Sy.depth, PyData.depth, PyData.depthAll, e]; omega
  | .con a b => by
    obtain ⟨h1, h2⟩ := Sy.can a
    obtain ⟨h3, h4⟩ := Sy.can b
    refine ⟨?_, ?_⟩
    · simp [Sy.d, PyData.canLay0, PyData.canLayAll0, so_not, so_and, so_or, h1, h3]
    · simp [Sy.d, Sy.depth, PyData.depth, PyData.depthAll, h2, h4]; omega
  | .dis a b => by
    obtain ⟨h1, h2⟩ := Sy.can a
    obtain ⟨h3, h4⟩ := Sy.can b
    refine ⟨?_, ?_⟩
    · simp [Sy.d, PyData.canLay0, PyData.canLayAll0, so_not, so_and, so_or, h1, h3]
    · simp [Sy.d, Sy.depth, PyData.depth, PyData.depthAll, h2, h4]; omega
theorem Sy.shaped (s : Sy) (h : s.depth ≤ 64) : SeqAt.shaped s.d = true := by
  obtain ⟨h1, h2⟩ := Sy.can s
  unfold SeqAt.shaped
  rw [h1, h2, decide_eq_true h]
  rfl
theorem eq_t0 {x : PyData} {xs : List PyData} : opCmp .Eq (.tuple (x :: xs)) (.tuple []) = some (.bool false) := rfl
section
variable {T : FTab} (H : HasW T)
include H
theorem whole_ok (k : Nat) (x : PyData) (st : Sto) : run T (k + 1) "is_whole" [.d x] st = .ok (.d (.bool (isW x))) st := by
  apply Wp.eq
  rw [run_at H.is_whole]
  unfold FnI.run ir_is_whole Mode.of
  rw [w_pure rfl]
  walk_at "wps"
  unfold isW
  cases isiD .int x <;> cases isiD .bool x <;> rfl
theorem width_ok (k : Nat) (w : Int) (st : Sto) (h1 : 1 ≤ w) (h2 : w ≤ 3) : run T (k + 2) "need_width" [.d (.int w)] st = .ok (.d .none) st := by
  apply Wp.eq
  rw [run_at H.need_width]
  unfold FnI.run ir_need_width Mode.of
  rw [w_pure rfl]
  walk_at "wps"
  rw [whole_ok H k, isW_i]
  walk_at "wps"
  rw [if_pos h1, if_pos h2]
  trivial
end
section
variable {T : FTab} (H : HasSay T)
include H
theorem under_ok (k : Nat) (w c b : Int) (st : Sto) : run T (k + 2) "is_under" [.d (.int w), .d (.tuple [.str "under", .int c, .int b])] st = .ok (.d (.bool (decide (0 ≤ c) && decide (c < w)))) st := by
  apply Wp.eq
  rw [run_at H.is_under]
  unfold FnI.run ir_is_under Mode.of
  rw [w_pure rfl]
  walk_at "wps"
  rw [whole_ok H.w k, isW_i]
  walk_at "wps"
  by_cases h1 : 0 ≤ c
  · rw [if_pos h1]
    by_cases h2 : c < w
    · rw [if_pos h2, whole_ok H.w k, isW_i]
      walk_at "wps"
      simp [h1, h2]
    · rw [if_neg h2]
      simp [h2]
  · rw [if_neg h1]
    simp [h1]
omit H in
theorem parts_u {x : PyData} : (List.lookup ("under" : Str) tab_PARTS.dat).getD x = .int 3 := by kernel_rfl
omit H in
theorem parts_n {x : PyData} : (List.lookup ("not" : Str) tab_PARTS.dat).getD x = .int 2 := by kernel_rfl
omit H in
theorem parts_a {x : PyData} : (List.lookup ("and" : Str) tab_PARTS.dat).getD x = .int 3 := by kernel_rfl
omit H in
theorem parts_o {x : PyData} : (List.lookup ("or" : Str) tab_PARTS.dat).getD x = .int 3 := by kernel_rfl
omit H in
theorem s_nu : ¬ ("not" : Str) = "under" := by decide +kernel
omit H in
theorem s_au : ¬ ("and" : Str) = "under" := by decide +kernel
omit H in
theorem s_ou : ¬ ("or" : Str) = "under" := by decide +kernel
omit H in
theorem boolsOf_n : boolsOf [] = some [] := rfl
omit H in
theorem boolsOf_c {b : Bool} {xs : List PyData} : boolsOf (.bool b :: xs) = (boolsOf xs).map (b :: ·) := rfl
theorem made_ok (w : Int) : ∀ (s : Sy) (k : Nat) (deep : Int) (st : Sto), s.all (fun c _ => 0 ≤ c ∧ c < w) → 0 ≤ deep → deep + s.depth ≤ 9 → s.depth + 2 ≤ k → run T k "is_made" [.d (.int w), .d s.d, .d (.int deep)] st = .ok (.d (.bool true)) st := by
  intro s
  induction s with
  | under c b =>
    intro k deep st hs h0 hd hk
    obtain ⟨k, rfl⟩ : ∃ j, k = j + 3 := ⟨k - 3, by have : (Sy.under c b).depth = 1 := rfl; omega⟩
    have hd' : deep + 1 ≤ 9 := hd
    apply Wp.eq
    rw [run_at H.is_made]
    unfold FnI.run ir_is_made Mode.of Sy.d
    rw [w_pure rfl]
    walk_at "wps"
    rw [eq_t0]
    walk_at "wps"
    refine ⟨Nat.zero_le _, ?_⟩
    rw [if_neg (by omega), parts_u, under_ok H k]
    walk_at "wps"
    simp [hs.1, hs.2]
  | nt s ih =>
    intro k deep st hs h0 hd hk
    have e : (Sy.nt s).depth = 1 + s.depth := rfl
    obtain ⟨k, rfl⟩ : ∃ j, k = j + 1 := ⟨k - 1, by omega⟩
    apply Wp.eq
    rw [run_at H.is_made]
    unfold FnI.run ir_is_made Mode.of Sy.d
    rw [w_pure rfl]
    walk_at "wps"
    rw [eq_t0]
    walk_at "wps"
    refine ⟨Nat.zero_le _, ?_⟩
    rw [if_neg (by have := s.depth_pos; omega), parts_n]
    walk_at "wps"
    rw [if_neg s_nu, ih k (deep + 1) [] hs (by omega) (by omega) (by omega)]
    walk_at "wps"
    simp [boolsOf_n, boolsOf_c, onO_some]
  | con a b iha ihb =>
    intro k deep st hs h0 hd hk
    have e : (Sy.con a b).depth = 1 + max a.depth b.depth := rfl
    obtain ⟨k, rfl⟩ : ∃ j, k = j + 1 := ⟨k - 1, by omega⟩
    apply Wp.eq
    rw [run_at H.is_made]
    unfold FnI.run ir_is_made Mode.of Sy.d
    rw [w_pure rfl]
    walk_at "wps"
    rw [eq_t0]
    walk_at "wps"
    refine ⟨Nat.zero_le _, ?_⟩
    rw [if_neg (by have := a.depth_pos; omega), parts_a]
    walk_at "wps"
    rw [if_neg s_au, iha k (deep + 1) [] hs.1 (by omega) (by omega) (by omega)]
    walk_at "wps"
    rw [ihb k (deep + 1) [] hs.2 (by omega) (by omega) (by omega)]
    walk_at "wps"
    simp [boolsOf_n, boolsOf_c, onO_some]
  | dis a b iha ihb =>
    intro k deep st hs h0 hd hk
    have e : (Sy.dis a b).depth = 1 + max a.depth b.depth := rfl
    obtain ⟨k, rfl⟩ : ∃ j, k = j + 1 := ⟨k - 1, by omega⟩
    apply Wp.eq
    rw [run_at H.is_made]
    unfold FnI.run ir_is_made Mode.of Sy.d
    rw [w_pure rfl]
    walk_at "wps"
    rw [eq_t0]
    walk_at "wps"
    refine ⟨Nat.zero_le _, ?_⟩
    rw [if_neg (by have := a.depth_pos; omega), parts_o]
    walk_at "wps"
    rw [if_neg s_ou, iha k (deep + 1) [] hs.1 (by omega) (by omega) (by omega)]
    walk_at "wps"
    rw [ihb k (deep + 1) [] hs.2 (by omega) (by omega) (by omega)]
    walk_at "wps"
    simp [boolsOf_n, boolsOf_c, onO_some]
omit H in
theorem intsOf_n : intsOf [] = some [] := rfl
omit H in
theorem intsOf_c {b : Int} {xs : List PyData} : intsOf (.int b :: xs) = (intsOf xs).map (b :: ·) := rfl
theorem many_ok : ∀ (s : Sy) (k : Nat) (st : Sto), s.depth ≤ k → run T k "many_parts" [.d s.d] st = .ok (.d (.int s.parts)) st := by
  intro s
  induction s with
  | under c b =>
    intro k st hk
    obtain ⟨k, rfl⟩ : ∃ j, k = j + 1 := ⟨k - 1, by have : (Sy.under c b).depth = 1 := rfl; omega⟩
    apply Wp.eq
    rw [run_at H.many_parts]
    unfold FnI.run ir_many_parts Mode.of Sy.d
    rw [w_pure rfl]
    walk_at "wps"
    rfl
  | nt s ih =>
    intro k st hk
    have e : (Sy.nt s).depth = 1 + s.depth := rfl
    obtain ⟨k, rfl⟩ : ∃ j, k = j + 1 := ⟨k - 1, by omega⟩
    apply Wp.eq
    rw [run_at H.many_parts]
    unfold FnI.run ir_many_parts Mode.of Sy.d
    rw [w_pure rfl]
    walk_at "wps"
    rw [if_neg s_nu, ih k [] (by omega)]
    walk_at "wps"
    simp [intsOf_n, intsOf_c, Sy.parts, onO_some]
  | con a b iha ihb =>
    intro k st hk
    have e : (Sy.con a b).depth = 1 + max a.depth b.depth := rfl
    obtain ⟨k, rfl⟩ : ∃ j, k = j + 1 := ⟨k - 1, by omega⟩
    apply Wp.eq
    rw [run_at H.many_parts]
    unfold FnI.run ir_many_parts Mode.of Sy.d
    rw [w_pure rfl]
    walk_at "wps"
    rw [if_neg s_au, iha k [] (by omega)]
    walk_at "wps"
    rw [ihb k [] (by omega)]
    walk_at "wps"
    simp [intsOf_n, intsOf_c, Sy.parts, onO_some]
  | dis a b iha ihb =>
    intro k st hk
    have e : (Sy.dis a b).depth = 1 + max a.depth b.depth := rfl
    obtain ⟨k, rfl⟩ : ∃ j, k = j + 1 := ⟨k - 1, by omega⟩
    apply Wp.eq
    rw [run_at H.many_parts]
    unfold FnI.run ir_many_parts Mode.of Sy.d
    rw [w_pure rfl]
    walk_at "wps"
    rw [if_neg s_ou, iha k [] (by omega)]
    walk_at "wps"
    rw [ihb k [] (by omega)]
    walk_at "wps"
    simp [intsOf_n, intsOf_c, Sy.parts, onO_some]
/-- a saying of a width -/
structure Sy.Ok (w : Int) (s : Sy) : Prop where
  cols : s.all fun c _ => 0 ≤ c ∧ c < w
  deep : s.depth ≤ 8
  few : s.parts ≤ 15
theorem saying_ok (w : Int) (s : Sy) (k : Nat) (st : Sto) (h1 : 1 ≤ w) (h2 : w ≤ 3) (hs : s.Ok w) (hk : 12 ≤ k) : run T k "is_saying" [.d (.int w), .d s.d] st = .ok (.d (.bool true)) st := by
  obtain ⟨k, rfl⟩ : ∃ j, k = j + 3 := ⟨k - 3, by omega⟩
  have := hs.deep
  apply Wp.eq
  rw [run_at H.is_saying]
  unfold FnI.run ir_is_saying Mode.of
  rw [w_pure rfl]
  walk_at "wps"
  rw [width_ok H.w k w [] h1 h2]
  walk_at "wps"
  rw [made_ok H w s (k + 2) 1 [] hs.cols (by decide) (by omega) (by omega)]
  walk_at "wps"
  rw [many_ok H s (k + 2) [] (by omega)]
  walk_at "wps"
  have := hs.few
  simp
  omega
theorem need_saying_ok (hn : T.lookup ("need_saying" : Str) = some ir_need_saying) (w : Int) (s : Sy) (k : Nat) (st : Sto) (h1 : 1 ≤ w) (h2 : w ≤ 3) (hs : s.Ok w) (hk : 13 ≤ k) : run T k "need_saying" [.d (.int w), .d s.d] st = .ok (.d .none) st := by
  obtain ⟨k, rfl⟩ : ∃ j, k = j + 1 := ⟨k - 1, by omega⟩
  apply Wp.eq
  rw [run_at hn]
  unfold FnI.run ir_need_saying Mode.of
  rw [w_pure rfl]
  walk_at "wps"
  rw [saying_ok H w s k [] h1 h2 hs (by omega)]
  walk_at "wps"
end
end L2.Q

set_option maxHeartbeats 2000000
namespace L2.Q
open PySem PySem.Spec PyProof.Rows
local macro_rules | `(tactic| walk_at "wps") => `(tactic| simp (config := { failIfUnchanged := false, maxSteps := 10000000 }) only [w_var, w_int, w_str, w_bl, w_non, w_gint, w_gstr, w_bin, w_cmp, w_idx, w_tabGet, w_tabIx, w_chain, w_nt, w_neg, w_ife, w_conj1, w_conj, w_disj1, w_disj, wl_nil, wl_cons, w_tup, w_lst, w_new, w_call, w_bf, w_isi,
  w_frz, w_newL, w_litGet, w_bm, w_isx, w_isxB, w_fld, s_tryAs, t_nil, t_cons, t_set, t_doE, t_ifs, bm_c, bm_i, bm_s, isx_e, isx_n, isx_t, dat_n, isN_d, add_s, w_compN, w_catN,  w_ext, ext2, w_pop, wi_zip, wi_rngD, w_dct0, w_rev,  wo_no, wo_at, w_sl, w_app, wi_items, wi_rng1, wi_rng2, wi_enum, w_comp, cut1, wc_nil, wc_cons, wt_no, wt_at, b_nil, b_cons, s_set, s_asg, s_par, s_setIx, s_ret, s_retN, s_ifs, s_for, s_raise, s_doE, s_bk, s_ct, s_pass, w_body, start1, startN, start_0, retF_ret, retF_nx, wp_ok, wp_exc, wp_bind, ws_ok,
  nth, put, clear, wipe_0, wipe_c, onO_some, onO_none, onO_if, onO_map, onO_bind, onB_t, onB_f, onB_not, onB_b, onD_d, onF_nx, onF_ret, onF_bk, onF_ct, onI_i, items_l, items_t, deref_d, deref_r, drf_l, drf_f, bin2, setIx3_r, app2_r, frz1_r, onL_l, List.take_succ_cons, List.take_length, List.take_left, get_0, get_s, set_0, set_s, ix31, ix32, at0, at1, at2, at3, frz1_d, listOf_l, listOf_t, derefs_n, derefs_c, allD_n, allD_c,
  Option.map_some, Option.map_none, Option.bind_some, Option.bind_none, List.length_cons, List.length_nil, Nat.zero_add, Nat.reduceAdd, Int.cast_ofNat_Int, Int.natCast_zero, Int.natCast_one,
  add_i, sub_i, mul_i, div_i, mod_i, pow_i, add_t, add_l, lt_i, le_i, gt_i, ge_i, eq_i, ne_i, eq_s, ne_s, eq_b, is_n, isnot_n, isN_n, isN_i, idx_t, idx_l, sl_t, sl_l, tab_s, tab_g, len_t, len_l, min2_i, max2_i, min3_i, int_b, int_i, tuple_l, tuple_t, list_l, list_t, all_l, any_l, sum_l, max1_l, min1_l,
  asg_n, asg_t0, asg_t, isi_iI, isi_bI, isi_sI, isi_tI, isi_sS, isi_tT, Bool.not_true, Bool.not_false, decide_eq_true_eq, beq_iff_eq, if_true, if_false, ite_true, ite_false, true_and, and_true, Bool.false_eq_true, reduceIte, eq_self_iff_true, beq_self_eq_true, str_inj, String.reduceEq, Int.reduceBEq, Int.reduceEq, Nat.reduceEqDiff, not_true_eq_false, not_false_eq_true, Bool.true_and, Bool.and_true, Bool.false_and, Bool.and_false, Bool.or_false, Bool.false_or, Bool.true_or, Bool.or_true, false_and, and_false, decide_true, decide_false, zi_int_none, zi_int_bool, zi_int_int, zi_int_str, zi_int_list, zi_int_tuple, zi_int_dict, zi_bool_none, zi_bool_bool, zi_bool_int, zi_bool_str, zi_bool_list, zi_bool_tuple, zi_bool_dict, zi_str_none, zi_str_bool, zi_str_int, zi_str_str, zi_str_list, zi_str_tuple, zi_str_dict, zi_tuple_none, zi_tuple_bool, zi_tuple_int, zi_tuple_str, zi_tuple_list, zi_tuple_tuple, zi_tuple_dict, zi_list_none, zi_list_bool, zi_list_int, zi_list_str, zi_list_list, zi_list_tuple, zi_list_dict, zi_dict_none, zi_dict_bool, zi_dict_int, zi_dict_str, zi_dict_list, zi_dict_tuple, zi_dict_dict, eq_tt, ne_tt, get_cc, set_cc, lit_s, rev_t, rev_l, only_l, cat2_e, sizeLine_eq, is_t, is_s, is_l, is_b, List.isEmpty_cons, List.isEmpty_nil, Nat.reduceLeDiff, Int.reduceLE, Int.reduceLT, Int.reduceAdd, Int.reduceSub, Int.reduceNeg, Int.reduceToNat, Int.reduceMul, Nat.reduceLT, Option.getD_some, Option.getD_none, onD_d, Nat.zero_le])
local macro_rules | `(tactic| walk_at "wpl") => `(tactic| simp (config := { failIfUnchanged := false, maxSteps := 10000000 }) only [w_var, w_int, w_str, w_bl, w_non, w_gint, w_gstr, w_bin, w_cmp, w_idx, w_tabGet, w_tabIx, w_chain, w_nt, w_neg, w_ife, w_conj1, w_conj, w_disj1, w_disj, wl_nil, wl_cons, w_tup, w_lst, w_new, w_call, w_bf, w_isi,
  w_frz, w_newL, w_litGet, w_bm, w_isx, w_isxB, w_fld, s_tryAs, t_nil, t_cons, t_set, t_doE, t_ifs, bm_c, bm_i, bm_s, isx_e, isx_n, isx_t, dat_n, isN_d, add_s, w_compN, w_catN,  w_ext, ext2, w_pop, wi_zip, wi_rngD, w_dct0, w_rev,  wo_no, wo_at, w_sl, w_app, wi_items, wi_rng1, wi_rng2, wi_enum, w_comp, cut1, wt_no, wt_at, b_nil, b_cons, s_set, s_asg, s_par, s_setIx, s_ret, s_retN, s_ifs, s_for, s_raise, s_doE, s_bk, s_ct, s_pass, w_body, start1, startN, start_0, retF_ret, retF_nx, wp_ok, wp_exc, wp_bind, ws_ok,
  nth, put, clear, wipe_0, wipe_c, onO_some, onO_none, onO_if, onO_map, onO_bind, onB_t, onB_f, onB_not, onB_b, onD_d, onF_nx, onF_ret, onF_bk, onF_ct, onI_i, items_l, items_t, deref_d, deref_r, drf_l, drf_f, bin2, setIx3_r, app2_r, frz1_r, onL_l, List.take_succ_cons, List.take_length, List.take_left, get_0, get_s, set_0, set_s, ix31, ix32, at0, at1, at2, at3, frz1_d, listOf_l, listOf_t, derefs_n, derefs_c, allD_n, allD_c,
  Option.map_some, Option.map_none, Option.bind_some, Option.bind_none, List.length_cons, List.length_nil, Nat.zero_add, Nat.reduceAdd, Int.cast_ofNat_Int, Int.natCast_zero, Int.natCast_one,
  add_i, sub_i, mul_i, div_i, mod_i, pow_i, add_t, add_l, lt_i, le_i, gt_i, ge_i, eq_i, ne_i, eq_s, ne_s, eq_b, is_n, isnot_n, isN_n, isN_i, idx_t, idx_l, sl_t, sl_l, tab_s, tab_g, len_t, len_l, min2_i, max2_i, min3_i, int_b, int_i, tuple_l, tuple_t, list_l, list_t, all_l, any_l, sum_l, max1_l, min1_l,
  asg_n, asg_t0, asg_t, isi_iI, isi_bI, isi_sI, isi_tI, isi_sS, isi_tT, Bool.not_true, Bool.not_false, decide_eq_true_eq, beq_iff_eq, if_true, if_false, ite_true, ite_false, true_and, and_true, Bool.false_eq_true, reduceIte, eq_self_iff_true, beq_self_eq_true, str_inj, String.reduceEq, Int.reduceBEq, Int.reduceEq, Nat.reduceEqDiff, not_true_eq_false, not_false_eq_true, Bool.true_and, Bool.and_true, Bool.false_and, Bool.and_false, Bool.or_false, Bool.false_or, Bool.true_or, Bool.or_true, false_and, and_false, decide_true, decide_false, zi_int_none, zi_int_bool, zi_int_int, zi_int_str, zi_int_list, zi_int_tuple, zi_int_dict, zi_bool_none, zi_bool_bool, zi_bool_int, zi_bool_str, zi_bool_list, zi_bool_tuple, zi_bool_dict, zi_str_none, zi_str_bool, zi_str_int, zi_str_str, zi_str_list, zi_str_tuple, zi_str_dict, zi_tuple_none, zi_tuple_bool, zi_tuple_int, zi_tuple_str, zi_tuple_list, zi_tuple_tuple, zi_tuple_dict, zi_list_none, zi_list_bool, zi_list_int, zi_list_str, zi_list_list, zi_list_tuple, zi_list_dict, zi_dict_none, zi_dict_bool, zi_dict_int, zi_dict_str, zi_dict_list, zi_dict_tuple, zi_dict_dict, eq_tt, ne_tt, get_cc, set_cc, lit_s, rev_t, rev_l, only_l, cat2_e, sizeLine_eq, is_t, is_s, is_l, is_b, List.isEmpty_cons, List.isEmpty_nil, Nat.reduceLeDiff, Int.reduceLE, Int.reduceLT, Int.reduceAdd, Int.reduceSub, Int.reduceNeg, Int.reduceToNat, Int.reduceMul, Nat.reduceLT, Option.getD_some, Option.getD_none, onD_d, Nat.zero_le])
-- BODY
/-! What is_made, many_parts, is_saying tell of anything. -/
theorem isW_t {x : PyData} : isW x = true ↔ ∃ i, x = .int i := by
  cases x <;> simp [isW, isiD]
def underB (w : Int) : PyData → PyData → Bool
  | .int c, .int _ => decide (0 ≤ c) && decide (c < w)
  | _, _ => false
def madeB (w : Int) : Nat → PyData → Bool
  | n + 1, .tuple (.str x :: xs) =>
    if x = "under" then (match xs with
      | [c, b] => underB w c b
      | _ => false)
    else if x = "not" then (match xs with
      | [a] => madeB w n a
      | _ => false)
    else if x = "and" ∨ x = "or" then (match xs with
      | [a, b] => madeB w n a && madeB w n b
      | _ => false)
    else false
  | _, _ => false
def partsB : Nat → PyData → Nat
  | n + 1, .tuple [.str _, a] => 1 + partsB n a
  | n + 1, .tuple [.str x, a, b] => if x = "under" then 1 else 1 + (partsB n a + partsB n b)
  | _, _ => 1
theorem parts_e {x : Str} {d : PyData} (h1 : ¬ x = "under") (h2 : ¬ x = "not") (h3 : ¬ (x = "and" ∨ x = "or")) : (List.lookup x tab_PARTS.dat).getD d = d := by
  have g : ∀ (y : Str) (c : PyData) (l : List (Str × PyData)), ¬ x = y → List.lookup x ((y, c) :: l) = List.lookup x l := fun y c l h => by
    rw [List.lookup_cons, beq_eq_false_iff_ne.mpr h]
  show (List.lookup x [("under", PyData.int 3), ("not", .int 2), ("and", .int 3), ("or", .int 3)]).getD d = d
  rw [g _ _ _ h1, g _ _ _ h2, g _ _ _ (fun h => h3 (.inl h)), g _ _ _ (fun h => h3 (.inr h))]
  rfl
section
variable {T : FTab} (H : HasSay T)
include H
theorem under_any (k : Nat) (w : Int) (x c b : PyData) (st : Sto) : run T (k + 2) "is_under" [.d (.int w), .d (.tuple [x, c, b])] st = .ok (.d (.bool (underB w c b))) st := by
  apply Wp.eq
  rw [run_at H.is_under]
  unfold FnI.run ir_is_under Mode.of
  rw [w_pure rfl]
  walk_at "wps"
  rw [whole_ok H.w k]
  walk_at "wps"
  split
  · rename_i h
    obtain ⟨i, rfl⟩ := isW_t.mp h
    walk_at "wps"
    by_cases h1 : 0 ≤ i
    · rw [if_pos h1]
      by_cases h2 : i < w
      · rw [if_pos h2, whole_ok H.w k]
        walk_at "wps"
        cases b <;> simp [underB, isW, isiD, h1, h2]
      · rw [if_neg h2]
        cases b <;> simp [underB, h2]
    · rw [if_neg h1]
      cases b <;> simp [underB, h1]
  · rename_i h
    cases c <;> simp_all [underB, isW, isiD]
theorem made_any (w : Int) : ∀ (n : Nat) (x : PyData) (k : Nat) (deep : Int) (st : Sto), deep + n = 9 → n + 2 ≤ k → run T k "is_made" [.d (.int w), .d x, .d (.int deep)] st = .ok (.d (.bool (madeB w n x))) st := by
  intro n
  induction n with
  | zero =>
    intro x k deep st hd hk
    obtain ⟨k, rfl⟩ : ∃ j, k = j + 2 := ⟨k - 2, by omega⟩
    have hd : deep = 9 := by omega
    subst hd
    apply Wp.eq
    rw [run_at H.is_made]
    unfold FnI.run ir_is_made Mode.of
    rw [w_pure rfl]
    cases x with
    | tuple xs =>
      cases xs with
      | nil => walk_at "wps"; simp [madeB]
      | cons y ys =>
        cases y <;> walk_at "wps" <;> simp [madeB]
    | _ => walk_at "wps"; simp [madeB]
  | succ n ih =>
    intro x k deep st hd hk
    obtain ⟨k, rfl⟩ : ∃ j, k = j + 3 := ⟨k - 3, by omega⟩
    have hd8 : ¬ (8 < deep) := by omega
    apply Wp.eq
    rw [run_at H.is_made]
    unfold FnI.run ir_is_made Mode.of
    rw [w_pure rfl]
    cases x with
    | tuple xs =>
      cases xs with
      | nil => walk_at "wps"; simp [madeB]
      | cons y ys =>
        cases y with
        | str x =>
          walk_at "wps"
          rw [if_neg hd8]
          by_cases h1 : x = "under"
          · subst h1
            rw [parts_u]
            rcases ys with _ | ⟨c, _ | ⟨b, _ | ⟨e, r⟩⟩⟩
            · walk_at "wps"; simp [madeB]
            · walk_at "wps"; simp [madeB]
            · walk_at "wps"
              rw [under_any H k w]
              walk_at "wps"
              simp [madeB]
            · walk_at "wps"
              simp [madeB]
              intro h
              omega
          · by_cases h2 : x = "not"
            · subst h2
              rw [parts_n]
              rcases ys with _ | ⟨c, _ | ⟨b, r⟩⟩
              · walk_at "wps"; simp [madeB, h1]
              · walk_at "wps"
                rw [ih c (k + 2) (deep + 1) [] (by omega) (by omega)]
                walk_at "wps"
                rw [boolsOf_c, boolsOf_n]
                walk_at "wps"
                simp [madeB, h1]
              · walk_at "wps"
                simp [madeB, h1]
                intro h
                omega
            · by_cases h3 : x = "and" ∨ x = "or"
              · have e3 : (List.lookup x tab_PARTS.dat).getD (PyData.int 0) = .int 3 := by
                  rcases h3 with rfl | rfl
                  · exact parts_a
                  · exact parts_o
                rw [e3]
                rcases ys with _ | ⟨c, _ | ⟨b, _ | ⟨e, r⟩⟩⟩
                · walk_at "wps"; simp [madeB, h1, h2, h3]
                · walk_at "wps"; simp [madeB, h1, h2, h3]
                · walk_at "wps"
                  rw [if_neg h1, ih c (k + 2) (deep + 1) [] (by omega) (by omega)]
                  walk_at "wps"
                  rw [ih b (k + 2) (deep + 1) [] (by omega) (by omega)]
                  walk_at "wps"
                  rw [boolsOf_c, boolsOf_c, boolsOf_n]
                  walk_at "wps"
                  simp [madeB, h1, h2, h3]
                · walk_at "wps"
                  simp [madeB, h1, h2, h3]
                  intro h
                  omega
              · rw [parts_e h1 h2 h3]
                walk_at "wps"
                simp [madeB, h1, h2, h3]
                intro h
                omega
        | _ => walk_at "wps"; simp [madeB]
    | _ => walk_at "wps"; simp [madeB]
theorem many_any (w : Int) : ∀ (n : Nat) (x : PyData) (k : Nat) (st : Sto), madeB w n x = true → n ≤ k → run T k "many_parts" [.d x] st = .ok (.d (.int (partsB n x))) st := by
  intro n
  induction n with
  | zero => intro x k st h; cases h
  | succ n ih =>
    intro x k st h hk
    obtain ⟨k, rfl⟩ : ∃ j, k = j + 1 := ⟨k - 1, by omega⟩
    apply Wp.eq
    rw [run_at H.many_parts]
    unfold FnI.run ir_many_parts Mode.of
    rw [w_pure rfl]
    unfold madeB at h
    split at h
    · rename_i n' x ys e
      cases e
      by_cases h1 : x = "under"
      · subst h1
        rcases ys with _ | ⟨c, _ | ⟨b, _ | ⟨e, r⟩⟩⟩
        · simp at h
        · simp at h
        · walk_at "wps"
          simp [partsB]
        · simp at h
      · rw [if_neg h1] at h
        by_cases h2 : x = "not"
        · subst h2
          rcases ys with _ | ⟨c, _ | ⟨b, r⟩⟩
          · simp at h
          · simp at h
            walk_at "wps"
            rw [ih c k [] h (by omega)]
            walk_at "wps"
            rw [intsOf_c, intsOf_n]
            walk_at "wps"
            simp [partsB]
          · simp at h
        · rw [if_neg h2] at h
          by_cases h3 : x = "and" ∨ x = "or"
          · rw [if_pos h3] at h
            rcases ys with _ | ⟨c, _ | ⟨b, _ | ⟨e, r⟩⟩⟩
            · simp at h
            · simp at h
            · obtain ⟨ha, hb⟩ := and_split h
              walk_at "wps"
              rw [if_neg h1, ih c k [] ha (by omega)]
              walk_at "wps"
              rw [ih b k [] hb (by omega)]
              walk_at "wps"
              rw [intsOf_c, intsOf_c, intsOf_n]
              walk_at "wps"
              simp [partsB, h1]
            · simp at h
          · rw [if_neg h3] at h
            cases h
    · cases h
def sayB (w : Int) (x : PyData) : Bool := madeB w 8 x && decide (partsB 8 x ≤ 15)
theorem saying_any (w : Int) (x : PyData) (k : Nat) (st : Sto) (h1 : 1 ≤ w) (h2 : w ≤ 3) (hk : 12 ≤ k) : run T k "is_saying" [.d (.int w), .d x] st = .ok (.d (.bool (sayB w x))) st := by
  obtain ⟨k, rfl⟩ : ∃ j, k = j + 3 := ⟨k - 3, by omega⟩
  apply Wp.eq
  rw [run_at H.is_saying]
  unfold FnI.run ir_is_saying Mode.of
  rw [w_pure rfl]
  walk_at "wps"
  rw [width_ok H.w k w [] h1 h2]
  walk_at "wps"
  rw [made_any H w 8 x (k + 2) 1 [] (by decide) (by omega)]
  walk_at "wps"
  unfold sayB
  cases hm : madeB w 8 x with
  | false => rfl
  | true =>
    simp only [if_true]
    rw [many_any H w 8 x (k + 2) [] hm (by omega)]
    walk_at "wps"
    simp
    omega
end
end L2.Q

set_option maxHeartbeats 1000000
/-! Boxes and words: what the program tells of them. -/
namespace L2.Q
open PySem PySem.Spec PyProof.Rows
local macro_rules | `(tactic| walk_at "wps") => `(tactic| simp (config := { failIfUnchanged := false }) only [w_var, w_int, w_str, w_bl, w_non, w_gint, w_gstr, w_bin, w_cmp, w_idx, w_tabGet, w_tabIx, w_chain, w_nt, w_neg, w_ife, w_conj1, w_conj, w_disj1, w_disj, wl_nil, wl_cons, w_tup, w_lst, w_new, w_call, w_bf, w_isi,
  w_frz, w_newL, wo_no, wo_at, w_sl, w_app, wi_items, wi_rng1, wi_rng2, wi_enum, w_comp, cut1, wc_nil, wc_cons, wt_no, wt_at, b_nil, b_cons, s_set, s_asg, s_par, s_setIx, s_ret, s_retN, s_ifs, s_for, s_raise, s_doE, s_bk, s_ct, s_pass, w_body, start1, startN, start_0, retF_ret, retF_nx, wp_ok, wp_exc, wp_bind, ws_ok,
  nth, put, clear, wipe_0, wipe_c, onO_some, onO_none, onO_if, onO_map, onO_bind, onB_t, onB_f, onB_not, onB_b, onD_d, onF_nx, onF_ret, onF_bk, onF_ct, onI_i, items_l, items_t, deref_d, deref_r, drf_l, drf_f, bin2, setIx3_r, app2_r, frz1_r, onL_l, List.take_succ_cons, List.take_length, List.take_left, get_0, get_s, set_0, set_s, ix31, ix32, at0, at1, at2, at3, frz1_d, listOf_l, listOf_t, derefs_n, derefs_c, allD_n, allD_c,
  Option.map_some, Option.map_none, Option.bind_some, Option.bind_none, List.length_cons, List.length_nil, Nat.zero_add, Nat.reduceAdd, Int.cast_ofNat_Int, Int.natCast_zero, Int.natCast_one,
  add_i, sub_i, mul_i, div_i, mod_i, pow_i, add_t, add_l, lt_i, le_i, gt_i, ge_i, eq_i, ne_i, eq_s, ne_s, eq_b, is_n, isnot_n, isN_n, isN_i, idx_t, idx_l, sl_t, sl_l, tab_s, tab_g, len_t, len_l, min2_i, max2_i, min3_i, int_b, int_i, tuple_l, tuple_t, list_l, list_t, all_l, any_l, sum_l, max1_l, min1_l,
  asg_n, asg_t0, asg_t, isi_iI, isi_bI, isi_sI, isi_tI, isi_sS, isi_tT, Bool.not_true, Bool.not_false, decide_eq_true_eq, beq_iff_eq, if_true, if_false, ite_true, ite_false, true_and, and_true, Bool.false_eq_true, reduceIte, eq_self_iff_true])
def tab_TURNED : Tab := [("yes", .s "no"), ("no", .s "yes"), ("open", .s "open")]
def ir_is_side : FnI := ⟨["thing"], ["thing", "part"], .pure, (.cons (.ifs (.disj (.cons (.nt (.isi .tuple (.var 0))) (.cons (.cmp .NotEq (.bf .len (.cons (.var 0) .nil)) (.int 2)) .nil))) (.cons (.ret (.bl false)) .nil) .nil) (.cons (.ifs (.nt (.bf .all (.cons (.comp [1] (.name 1) (.items (.var 0)) .no (.disj (.cons (.cmp .Is (.var 1) .non) (.cons (.call 1 "is_whole" (.cons (.var 1) .nil)) .nil)))) .nil))) (.cons (.ret (.bl false)) .nil) .nil) (.cons (.ret (.disj (.cons (.cmp .In .non (.var 0)) (.cons (.cmp .Lt (.idx (.var 0) (.int 0)) (.idx (.var 0) (.int 1))) .nil)))) .nil)))⟩
def ir_is_box : FnI := ⟨["width", "thing"], ["width", "thing", "side"], .pure, (.cons (.doE (.call 1 "need_width" (.cons (.var 0) .nil))) (.cons (.ret (.conj (.cons (.isi .tuple (.var 1)) (.cons (.cmp .Eq (.bf .len (.cons (.var 1) .nil)) (.var 0)) (.cons (.bf .all (.cons (.comp [2] (.name 2) (.items (.var 1)) .no (.call 1 "is_side" (.cons (.var 2) .nil))) .nil)) .nil))))) .nil))⟩
def ir_need_box : FnI := ⟨["width", "box"], ["width", "box"], .pure, (.cons (.ifs (.nt (.call 2 "is_box" (.cons (.var 0) (.cons (.var 1) .nil)))) (.cons (.raise "NoBox") .nil) .nil) .nil)⟩
def ir_whole_box : FnI := ⟨["width"], ["width"], .pure, (.cons (.doE (.call 1 "need_width" (.cons (.var 0) .nil))) (.cons (.ret (.bin .Mult (.tup (.cons (.tup (.cons .non (.cons .non .nil))) .nil)) (.var 0))) .nil))⟩
def ir_under_word : FnI := ⟨["column", "bound", "box"], ["column", "bound", "box", "low", "high"], .pure, (.cons (.asg [3, 4] (.idx (.var 2) (.var 0))) (.cons (.ifs (.conj (.cons (.cmp .IsNot (.var 4) .non) (.cons (.cmp .LtE (.var 4) (.var 1)) .nil))) (.cons (.ret (.str "yes")) .nil) .nil) (.cons (.ret (.ife (.conj (.cons (.cmp .IsNot (.var 3) .non) (.cons (.cmp .GtE (.var 3) (.var 1)) .nil))) (.str "no") (.str "open"))) .nil)))⟩
def ir_weighed : FnI := ⟨["one", "other", "strong"], ["one", "other", "strong"], .pure, (.cons (.ifs (.cmp .In (.var 2) (.tup (.cons (.var 0) (.cons (.var 1) .nil)))) (.cons (.ret (.var 2)) .nil) .nil) (.cons (.ret (.ife (.cmp .Eq (.var 0) (.var 1)) (.var 0) (.str "open"))) .nil))⟩
def ir_plain_word : FnI := ⟨["saying", "box"], ["saying", "box", "one", "other"], .pure, (.cons (.ifs (.cmp .Eq (.idx (.var 0) (.int 0)) (.str "under")) (.cons (.ret (.call 3 "under_word" (.cons (.idx (.var 0) (.int 1)) (.cons (.idx (.var 0) (.int 2)) (.cons (.var 1) .nil))))) .nil) .nil) (.cons (.ifs (.cmp .Eq (.idx (.var 0) (.int 0)) (.str "not")) (.cons (.ret (.tabIx "TURNED" tab_TURNED (.call 2 "plain_word" (.cons (.idx (.var 0) (.int 1)) (.cons (.var 1) .nil))))) .nil) .nil) (.cons (.par 2 3 (.call 2 "plain_word" (.cons (.idx (.var 0) (.int 1)) (.cons (.var 1) .nil))) (.call 2 "plain_word" (.cons (.idx (.var 0) (.int 2)) (.cons (.var 1) .nil)))) (.cons (.ret (.call 3 "weighed" (.cons (.var 2) (.cons (.var 3) (.cons (.ife (.cmp .Eq (.idx (.var 0) (.int 0)) (.str "and")) (.str "no") (.str "yes")) .nil))))) .nil))))⟩
def ir_word_on : FnI := ⟨["width", "saying", "box"], ["width", "saying", "box"], .pure, (.cons (.doE (.call 2 "need_saying" (.cons (.var 0) (.cons (.var 1) .nil)))) (.cons (.doE (.call 2 "need_box" (.cons (.var 0) (.cons (.var 2) .nil)))) (.cons (.ret (.call 2 "plain_word" (.cons (.var 1) (.cons (.var 2) .nil)))) .nil)))⟩
def ir_o_weight : FnI := ⟨["_law_saying", "_law_box"], ["_law_saying", "_law_box", "_law_some", "_law_low", "_law_high", "_law_part"], .pure, (.cons (.ifs (.cmp .Eq (.idx (.var 0) (.int 0)) (.str "under")) (.cons (.asg [3, 4] (.idx (.var 1) (.idx (.var 0) (.int 1)))) (.cons (.ifs (.conj (.cons (.cmp .IsNot (.var 4) .non) (.cons (.cmp .LtE (.var 4) (.idx (.var 0) (.int 2))) .nil))) (.cons (.ret (.int 2)) .nil) .nil) (.cons (.ret (.ife (.conj (.cons (.cmp .IsNot (.var 3) .non) (.cons (.cmp .GtE (.var 3) (.idx (.var 0) (.int 2))) .nil))) (.int 0) (.int 1))) .nil))) .nil) (.cons (.set 2 (.comp [5] (.name 5) (.items (.sl (.var 0) (.at_ (.int 1)) .no)) .no (.call 2 "_law_o_weight" (.cons (.var 5) (.cons (.var 1) .nil))))) (.cons (.ifs (.cmp .Eq (.idx (.var 0) (.int 0)) (.str "not")) (.cons (.ret (.bin .Sub (.int 2) (.idx (.var 2) (.int 0)))) .nil) .nil) (.cons (.ret (.ife (.cmp .Eq (.idx (.var 0) (.int 0)) (.str "and")) (.bf .min1 (.cons (.var 2) .nil)) (.bf .max1 (.cons (.var 2) .nil)))) .nil))))⟩
def ir_o_word : FnI := ⟨["_law_saying", "_law_box"], ["_law_saying", "_law_box"], .pure, (.cons (.ret (.idx (.lst (.cons (.str "no") (.cons (.str "open") (.cons (.str "yes") .nil)))) (.call 2 "_law_o_weight" (.cons (.var 0) (.cons (.var 1) .nil))))) .nil)⟩

def optD : Option Int → PyData
  | none => .none
  | some i => .int i
abbrev Sd := Option Int × Option Int
def sdD (s : Sd) : PyData := .tuple [optD s.1, optD s.2]
def SdOk (s : Sd) : Prop := ∀ l h, s.1 = some l → s.2 = some h → l < h
def bxD (b : List Sd) : PyData := .tuple (b.map sdD)
structure HasBox (T : FTab) : Prop where
  say : HasSay T
  need_saying : T.lookup ("need_saying" : Str) = some ir_need_saying
  is_side : T.lookup ("is_side" : Str) = some ir_is_side
  is_box : T.lookup ("is_box" : Str) = some ir_is_box
  need_box : T.lookup ("need_box" : Str) = some ir_need_box
  whole_box : T.lookup ("whole_box" : Str) = some ir_whole_box
  under_word : T.lookup ("under_word" : Str) = some ir_under_word
  weighed : T.lookup ("weighed" : Str) = some ir_weighed
  plain_word : T.lookup ("plain_word" : Str) = some ir_plain_word
  word_on : T.lookup ("word_on" : Str) = some ir_word_on
theorem isN_o (o : Option Int) : isN (optD o) = o.isNone := by cases o <;> rfl
theorem isW_o (o : Option Int) : isW (optD o) = o.isSome := by cases o <;> rfl
theorem flat_o (o : Option Int) : flatD (optD o) = true := by cases o <;> rfl
section
variable {T : FTab} (H : HasBox T)
include H
theorem side_ok (s : Sd) (k : Nat) (st : Sto) (h : SdOk s) : run T (k + 2) "is_side" [.d (sdD s)] st = .ok (.d (.bool true)) st := by
  obtain ⟨lo, hi⟩ := s
  apply Wp.eq
  rw [run_at H.is_side]
  unfold FnI.run ir_is_side Mode.of sdD
  rw [w_pure rfl]
  have nb : (!(2 == (2 : Int))) = false := by decide
  cases lo with
  | none =>
    cases hi with
    | none =>
      simp only [optD]
      walk_at "wps"
      simp [nb, boolsOf_n, boolsOf_c, onO_some, opCmp, inQ, flatD, bO, PyData.eqv, onB]
    | some u =>
      simp only [optD]
      walk_at "wps"
      rw [whole_ok H.say.w k, isW_i]
      walk_at "wps"
      simp [nb, boolsOf_n, boolsOf_c, onO_some, opCmp, inQ, flatD, bO, PyData.eqv, onB]
  | some l =>
    cases hi with
    | none =>
      simp only [optD]
      walk_at "wps"
      rw [whole_ok H.say.w k, isW_i]
      walk_at "wps"
      simp [nb, boolsOf_n, boolsOf_c, onO_some, opCmp, inQ, flatD, bO, PyData.eqv, onB]
    | some u =>
      have hlu := h l u rfl rfl
      simp only [optD]
      walk_at "wps"
      rw [whole_ok H.say.w k, isW_i]
      walk_at "wps"
      rw [whole_ok H.say.w k, isW_i]
      walk_at "wps"
      simp [nb, boolsOf_n, boolsOf_c, onO_some, opCmp, inQ, flatD, bO, PyData.eqv, onB, hlu]
theorem box_ok (w : Int) (b : List Sd) (k : Nat) (st : Sto) (h1 : 1 ≤ w) (h2 : w ≤ 3) (hb : ∀ s ∈ b, SdOk s) (hl : (b.length : Int) = w) : run T (k + 3) "is_box" [.d (.int w), .d (bxD b)] st = .ok (.d (.bool true)) st := by
  apply Wp.eq
  rw [run_at H.is_box]
  unfold FnI.run ir_is_box Mode.of bxD
  rw [w_pure rfl]
  walk_at "wps"
  rw [width_ok H.say.w k w [] h1 h2]
  walk_at "wps"
  rw [List.length_map, if_pos hl]
  refine wc_map (f := fun _ => .bool true) ?_ ?_
  · intro x hx
    obtain ⟨s, hs, rfl⟩ := List.mem_map.mp hx
    walk_at "wps"
    rw [side_ok H s k [] (hb s hs)]
    walk_at "wps"
  · have e : boolsOf ((b.map sdD).map fun _ => .bool true) = some (b.map fun _ => true) := by
      clear hl hb
      induction b with
      | nil => rfl
      | cons s b ih =>
        show boolsOf (.bool true :: _) = _
        rw [boolsOf_c, ih]
        rfl
    rw [e]
    walk_at "wps"
    simp
theorem need_box_ok (w : Int) (b : List Sd) (k : Nat) (st : Sto) (h1 : 1 ≤ w) (h2 : w ≤ 3) (hb : ∀ s ∈ b, SdOk s) (hl : (b.length : Int) = w) : run T (k + 4) "need_box" [.d (.int w), .d (bxD b)] st = .ok (.d .none) st := by
  apply Wp.eq
  rw [run_at H.need_box]
  unfold FnI.run ir_need_box Mode.of
  rw [w_pure rfl]
  walk_at "wps"
  rw [box_ok H w b k [] h1 h2 hb hl]
  walk_at "wps"
theorem whole_box_ok (w : Nat) (k : Nat) (st : Sto) (h1 : 1 ≤ w) (h2 : w ≤ 3) : run T (k + 3) "whole_box" [.d (.int w)] st = .ok (.d (bxD (List.replicate w (none, none)))) st := by
  apply Wp.eq
  rw [run_at H.whole_box]
  unfold FnI.run ir_whole_box Mode.of
  rw [w_pure rfl]
  walk_at "wps"
  rw [width_ok H.say.w k w [] (by omega) (by omega)]
  walk_at "wps"
  have : w = 1 ∨ w = 2 ∨ w = 3 := by omega
  rcases this with rfl | rfl | rfl <;> exact ⟨by decide +kernel, by decide +kernel, rfl⟩
/-- the word of a saying on a box: 0 no, 1 open, 2 yes -/
def wgU (b : Int) (s : Sd) : Int := if (match s.2 with | some h => decide (h ≤ b) | none => false) then 2 else if (match s.1 with | some l => decide (b ≤ l) | none => false) then 0 else 1
def Sy.wg (bx : List Sd) : Sy → Int
  | .under c b => wgU b (bx.getD c.toNat (none, none))
  | .nt s => 2 - s.wg bx
  | .con x y => minI (x.wg bx) (y.wg bx)
  | .dis x y => maxI (x.wg bx) (y.wg bx)
def wdS (i : Int) : Str := if i = 0 then "no" else if i = 1 then "open" else "yes"
omit H in
theorem wg_range (bx : List Sd) : ∀ s : Sy, s.wg bx = 0 ∨ s.wg bx = 1 ∨ s.wg bx = 2
  | .under c b => by
    have gen : ∀ c1 c2 : Bool, (if c1 = true then (2 : Int) else if c2 = true then 0 else 1) = 0 ∨ (if c1 = true then (2 : Int) else if c2 = true then 0 else 1) = 1 ∨ (if c1 = true then (2 : Int) else if c2 = true then 0 else 1) = 2 := by decide
    exact gen _ _
  | .nt s => by
    have := wg_range bx s
    unfold Sy.wg
    omega
  | .con x y => by
    have h1 := wg_range bx x
    have h2 := wg_range bx y
    unfold Sy.wg minI
    split <;> assumption
  | .dis x y => by
    have h1 := wg_range bx x
    have h2 := wg_range bx y
    unfold Sy.wg maxI
    split <;> assumption
omit H in
theorem bx_at {bx : List Sd} {c : Int} (h0 : 0 ≤ c) (h1 : c < bx.length) : atI (bx.map sdD) c = some (sdD (bx.getD c.toNat (none, none))) := by
  have hl : c.toNat < bx.length := by omega
  refine atI_get h0 ?_
  rw [List.getElem?_map, List.getD_eq_getElem?_getD, List.getElem?_eq_getElem hl]
  rfl
theorem under_word_ok (bx : List Sd) (c b : Int) (k : Nat) (st : Sto) (h0 : 0 ≤ c) (h1 : c < bx.length) : run T (k + 1) "under_word" [.d (.int c), .d (.int b), .d (bxD bx)] st = .ok (.d (.str (wdS (wgU b (bx.getD c.toNat (none, none)))))) st := by
  apply Wp.eq
  rw [run_at H.under_word]
  unfold FnI.run ir_under_word Mode.of bxD
  rw [w_pure rfl]
  walk_at "wps"
  rw [bx_at h0 h1]
  generalize bx.getD c.toNat (none, none) = s
  obtain ⟨lo, hi⟩ := s
  unfold sdD
  cases hi with
  | none =>
    cases lo with
    | none =>
      simp only [optD]
      walk_at "wps"
      simp [wgU, wdS]
    | some l =>
      simp only [optD]
      walk_at "wps"
      by_cases h : b ≤ l <;> simp [wgU, wdS, h]
  | some u =>
    by_cases h2 : u ≤ b
    · cases lo with
      | none =>
        simp only [optD]
        walk_at "wps"
        simp [wgU, wdS, h2]
      | some l =>
        simp only [optD]
        walk_at "wps"
        simp [wgU, wdS, h2]
    · cases lo with
      | none =>
        simp only [optD]
        walk_at "wps"
        simp [wgU, wdS, h2]
      | some l =>
        simp only [optD]
        walk_at "wps"
        by_cases h : b ≤ l <;> simp [wgU, wdS, h, h2]
omit H in
theorem ite_str {c e : Prop} [Decidable c] [Decidable e] {s t u m : Str} (key : (if c then s else if e then t else u) = m) : if c then Vv.d (.str s) = Vv.d (.str m) else if e then Vv.d (.str t) = Vv.d (.str m) else Vv.d (.str u) = Vv.d (.str m) := by
  subst key
  by_cases hc : c
  · simp [hc]
  · by_cases he : e <;> simp [hc, he]
omit H in
theorem s_yn : ¬ ("yes" : Str) = "no" := by decide +kernel
theorem weighed_ok (x y : Int) (a : Bool) (k : Nat) (st : Sto) (hx : x = 0 ∨ x = 1 ∨ x = 2) (hy : y = 0 ∨ y = 1 ∨ y = 2) : run T (k + 1) "weighed" [.d (.str (wdS x)), .d (.str (wdS y)), .d (.str (if a = true then "no" else "yes"))] st = .ok (.d (.str (wdS (if a = true then minI x y else maxI x y)))) st := by
  apply Wp.eq
  rw [run_at H.weighed]
  unfold FnI.run ir_weighed Mode.of
  rw [w_pure rfl]
  walk_at "wps"
  have e : ∀ x y z : Str, opCmp .In (.str x) (.tuple [.str y, .str z]) = some (.bool (y == x || (z == x || false))) := fun _ _ _ => rfl
  rw [e]
  walk_at "wps"
  refine ⟨by rw [sizeLine_eq]; decide, ?_⟩
  apply ite_str
  rcases hx with rfl | rfl | rfl <;> rcases hy with rfl | rfl | rfl <;> cases a <;> decide +kernel
theorem plain_word_ok (bx : List Sd) : ∀ (s : Sy) (k : Nat) (st : Sto), s.all (fun c _ => 0 ≤ c ∧ c < bx.length) → s.depth + 2 ≤ k → run T k "plain_word" [.d s.d, .d (bxD bx)] st = .ok (.d (.str (wdS (s.wg bx)))) st := by
  have su : ("under" : Str) = "under" := rfl
  intro s
  induction s with
  | under c b =>
    intro k st hs hk
    obtain ⟨k, rfl⟩ : ∃ j, k = j + 2 := ⟨k - 2, by omega⟩
    apply Wp.eq
    rw [run_at H.plain_word]
    unfold FnI.run ir_plain_word Mode.of Sy.d
    rw [w_pure rfl]
    walk_at "wps"
    rw [under_word_ok H bx c b k [] hs.1 hs.2]
    walk_at "wps"
    rfl
  | nt s ih =>
    intro k st hs hk
    have e : (Sy.nt s).depth = 1 + s.depth := rfl
    obtain ⟨k, rfl⟩ : ∃ j, k = j + 1 := ⟨k - 1, by omega⟩
    apply Wp.eq
    rw [run_at H.plain_word]
    unfold FnI.run ir_plain_word Mode.of Sy.d
    rw [w_pure rfl]
    walk_at "wps"
    rw [if_neg s_nu, ih k [] hs (by omega)]
    walk_at "wps"
    have t : ∀ x : Int, x = 0 ∨ x = 1 ∨ x = 2 → tab_TURNED.dat.lookup (wdS x) = some (.str (wdS (2 - x))) := by
      intro x hx
      rcases hx with rfl | rfl | rfl <;> kernel_rfl
    rw [t _ (wg_range bx s)]
    walk_at "wps"
    rfl
  | con a b iha ihb =>
    intro k st hs hk
    have e : (Sy.con a b).depth = 1 + max a.depth b.depth := rfl
    have := a.depth_pos
    obtain ⟨k, rfl⟩ : ∃ j, k = j + 2 := ⟨k - 2, by omega⟩
    apply Wp.eq
    rw [run_at H.plain_word]
    unfold FnI.run ir_plain_word Mode.of Sy.d
    rw [w_pure rfl]
    walk_at "wps"
    rw [if_neg s_au, if_neg (by decide +kernel), iha (k + 1) [] hs.1 (by omega)]
    walk_at "wps"
    rw [ihb (k + 1) [] hs.2 (by omega)]
    walk_at "wps"
    have z := weighed_ok H (a.wg bx) (b.wg bx) true k [] (wg_range bx a) (wg_range bx b)
    simp only [if_true, ite_true, reduceIte] at z
    rw [z]
    walk_at "wps"
    rfl
  | dis a b iha ihb =>
    intro k st hs hk
    have e : (Sy.dis a b).depth = 1 + max a.depth b.depth := rfl
    have := a.depth_pos
    obtain ⟨k, rfl⟩ : ∃ j, k = j + 2 := ⟨k - 2, by omega⟩
    apply Wp.eq
    rw [run_at H.plain_word]
    unfold FnI.run ir_plain_word Mode.of Sy.d
    rw [w_pure rfl]
    walk_at "wps"
    rw [if_neg s_ou, if_neg (by decide +kernel), iha (k + 1) [] hs.1 (by omega)]
    walk_at "wps"
    rw [ihb (k + 1) [] hs.2 (by omega)]
    walk_at "wps"
    rw [if_neg (by decide +kernel)]
    have z := weighed_ok H (a.wg bx) (b.wg bx) false k [] (wg_range bx a) (wg_range bx b)
    simp only [Bool.false_eq_true, if_false, ite_false, reduceIte] at z
    rw [z]
    walk_at "wps"
    rfl
theorem word_on_ok (w : Int) (s : Sy) (bx : List Sd) (k : Nat) (st : Sto) (h1 : 1 ≤ w) (h2 : w ≤ 3) (hs : s.Ok w) (hb : ∀ s ∈ bx, SdOk s) (hl : (bx.length : Int) = w) : run T (k + 14) "word_on" [.d (.int w), .d s.d, .d (bxD bx)] st = .ok (.d (.str (wdS (s.wg bx)))) st := by
  apply Wp.eq
  rw [run_at H.word_on]
  unfold FnI.run ir_word_on Mode.of
  rw [w_pure rfl]
  walk_at "wps"
  rw [need_saying_ok H.say H.need_saying w s (k + 13) [] h1 h2 hs (by omega)]
  walk_at "wps"
  rw [need_box_ok H w bx (k + 9) [] h1 h2 hb hl]
  walk_at "wps"
  have hd := hs.deep
  rw [plain_word_ok H bx s (k + 13) [] (Sy.all_imp (fun c b h => by omega) s hs.cols) (by omega)]
  walk_at "wps"
omit H in
theorem min2 (x y : Int) : [x, y].min? = some (minI x y) := by
  show some (min x y) = _
  unfold minI
  congr 1
  split <;> omega
omit H in
theorem max2 (x y : Int) : [x, y].max? = some (maxI x y) := by
  show some (max x y) = _
  unfold maxI
  congr 1
  split <;> omega
omit H in
theorem o_weight_ok (h : T.lookup ("_law_o_weight" : Str) = some ir_o_weight) (bx : List Sd) : ∀ (s : Sy) (k : Nat) (st : Sto), s.all (fun c _ => 0 ≤ c ∧ c < bx.length) → s.depth ≤ k → run T k "_law_o_weight" [.d s.d, .d (bxD bx)] st = .ok (.d (.int (s.wg bx))) st := by
  intro s
  induction s with
  | under c b =>
    intro k st hs hk
    obtain ⟨k, rfl⟩ : ∃ j, k = j + 1 := ⟨k - 1, by have : (Sy.under c b).depth = 1 := rfl; omega⟩
    apply Wp.eq
    rw [run_at h]
    unfold FnI.run ir_o_weight Mode.of Sy.d bxD
    rw [w_pure rfl]
    walk_at "wps"
    rw [bx_at hs.1 hs.2]
    unfold Sy.wg
    generalize bx.getD c.toNat (none, none) = s
    obtain ⟨lo, hi⟩ := s
    unfold sdD
    cases hi with
    | none =>
      cases lo with
      | none =>
        simp only [optD]
        walk_at "wps"
        simp [wgU]
      | some l =>
        simp only [optD]
        walk_at "wps"
        by_cases h : b ≤ l <;> simp [wgU, h]
    | some u =>
      by_cases h2 : u ≤ b
      · cases lo with
        | none =>
          simp only [optD]
          walk_at "wps"
          simp [wgU, h2]
        | some l =>
          simp only [optD]
          walk_at "wps"
          simp [wgU, h2]
      · cases lo with
        | none =>
          simp only [optD]
          walk_at "wps"
          simp [wgU, h2]
        | some l =>
          simp only [optD]
          walk_at "wps"
          by_cases h : b ≤ l <;> simp [wgU, h, h2]
  | nt s ih =>
    intro k st hs hk
    have e : (Sy.nt s).depth = 1 + s.depth := rfl
    obtain ⟨k, rfl⟩ : ∃ j, k = j + 1 := ⟨k - 1, by omega⟩
    apply Wp.eq
    rw [run_at h]
    unfold FnI.run ir_o_weight Mode.of Sy.d
    rw [w_pure rfl]
    walk_at "wps"
    rw [if_neg s_nu, ih k [] hs (by omega)]
    walk_at "wps"
    rfl
  | con a b iha ihb =>
    intro k st hs hk
    have e : (Sy.con a b).depth = 1 + max a.depth b.depth := rfl
    obtain ⟨k, rfl⟩ : ∃ j, k = j + 1 := ⟨k - 1, by omega⟩
    apply Wp.eq
    rw [run_at h]
    unfold FnI.run ir_o_weight Mode.of Sy.d
    rw [w_pure rfl]
    walk_at "wps"
    rw [if_neg s_au, iha k [] hs.1 (by omega)]
    walk_at "wps"
    rw [ihb k [] hs.2 (by omega)]
    walk_at "wps"
    rw [if_neg (by decide +kernel)]
    simp only [intsOf_n, intsOf_c, Option.map_some, onO_some, min2]
    rfl
  | dis a b iha ihb =>
    intro k st hs hk
    have e : (Sy.dis a b).depth = 1 + max a.depth b.depth := rfl
    obtain ⟨k, rfl⟩ : ∃ j, k = j + 1 := ⟨k - 1, by omega⟩
    apply Wp.eq
    rw [run_at h]
    unfold FnI.run ir_o_weight Mode.of Sy.d
    rw [w_pure rfl]
    walk_at "wps"
    rw [if_neg s_ou, iha k [] hs.1 (by omega)]
    walk_at "wps"
    rw [ihb k [] hs.2 (by omega)]
    walk_at "wps"
    rw [if_neg (by decide +kernel), if_neg (by decide +kernel)]
    simp only [intsOf_n, intsOf_c, Option.map_some, onO_some, max2]
    rfl
omit H in
theorem o_word_ok (h : T.lookup ("_law_o_weight" : Str) = some ir_o_weight) (h2 : T.lookup ("_law_o_word" : Str) = some ir_o_word) (bx : List Sd) (s : Sy) (k : Nat) (st : Sto) (hs : s.all (fun c _ => 0 ≤ c ∧ c < bx.length)) (hk : s.depth + 1 ≤ k) : run T k "_law_o_word" [.d s.d, .d (bxD bx)] st = .ok (.d (.str (wdS (s.wg bx)))) st := by
  obtain ⟨k, rfl⟩ : ∃ j, k = j + 1 := ⟨k - 1, by omega⟩
  apply Wp.eq
  rw [run_at h2]
  unfold FnI.run ir_o_word Mode.of
  rw [w_pure rfl]
  walk_at "wps"
  rw [o_weight_ok h bx s k [] hs (by omega)]
  walk_at "wps"
  refine ⟨by rw [sizeLine_eq]; decide, ?_⟩
  rcases wg_range bx s with e | e | e <;> rw [e]
  · rw [at0]; rfl
  · rw [at1]; rfl
  · rw [at2]; rfl
end
end L2.Q

set_option maxHeartbeats 1000000
/-! What is drawn: bounds, cuts, sayings. -/
namespace L2.Q
open PySem PySem.Spec PyProof.Rows
local macro_rules | `(tactic| walk_at "wps") => `(tactic| simp (config := { failIfUnchanged := false }) only [w_var, w_int, w_str, w_bl, w_non, w_gint, w_gstr, w_bin, w_cmp, w_idx, w_tabGet, w_tabIx, w_chain, w_nt, w_neg, w_ife, w_conj1, w_conj, w_disj1, w_disj, wl_nil, wl_cons, w_tup, w_lst, w_new, w_call, w_bf, w_isi,
  w_frz, w_newL, wo_no, wo_at, w_sl, w_app, wi_items, wi_rng1, wi_rng2, wi_enum, w_comp, cut1, wc_nil, wc_cons, wt_no, wt_at, b_nil, b_cons, s_set, s_asg, s_par, s_setIx, s_ret, s_retN, s_ifs, s_for, s_raise, s_doE, s_bk, s_ct, s_pass, w_body, start1, startN, start_0, retF_ret, retF_nx, wp_ok, wp_exc, wp_bind, ws_ok,
  nth, put, clear, wipe_0, wipe_c, onO_some, onO_none, onO_if, onO_map, onO_bind, onB_t, onB_f, onB_not, onB_b, onD_d, onF_nx, onF_ret, onF_bk, onF_ct, onI_i, items_l, items_t, deref_d, deref_r, drf_l, drf_f, bin2, setIx3_r, app2_r, frz1_r, onL_l, List.take_succ_cons, List.take_length, List.take_left, get_0, get_s, set_0, set_s, ix31, ix32, at0, at1, at2, at3, frz1_d, listOf_l, listOf_t, derefs_n, derefs_c, allD_n, allD_c,
  Option.map_some, Option.map_none, Option.bind_some, Option.bind_none, List.length_cons, List.length_nil, Nat.zero_add, Nat.reduceAdd, Int.cast_ofNat_Int, Int.natCast_zero, Int.natCast_one,
  add_i, sub_i, mul_i, div_i, mod_i, pow_i, add_t, add_l, lt_i, le_i, gt_i, ge_i, eq_i, ne_i, eq_s, ne_s, eq_b, is_n, isnot_n, isN_n, isN_i, idx_t, idx_l, sl_t, sl_l, tab_s, tab_g, len_t, len_l, min2_i, max2_i, min3_i, int_b, int_i, tuple_l, tuple_t, list_l, list_t, all_l, any_l, sum_l, max1_l, min1_l,
  asg_n, asg_t0, asg_t, isi_iI, isi_bI, isi_sI, isi_tI, isi_sS, isi_tT, Bool.not_true, Bool.not_false, decide_eq_true_eq, beq_iff_eq, if_true, if_false, ite_true, ite_false, true_and, and_true, Bool.false_eq_true, reduceIte, eq_self_iff_true])
def ir_o_bound : FnI := ⟨["_law_pen"], ["_law_pen", "_law_way", "_law_great"], .scope, (.cons (.set 1 (.call 2 "_law_take" (.cons (.var 0) (.cons (.int 8) .nil)))) (.cons (.ifs (.cmp .Lt (.var 1) (.int 6)) (.cons (.ret (.bin .Sub (.call 2 "_law_take" (.cons (.var 0) (.cons (.int 9) .nil))) (.int 4))) .nil) .nil) (.cons (.set 2 (.lst (.cons (.bin .Pow (.int 10) (.int 20)) (.cons (.bin .Sub (.int 0) (.bin .Pow (.int 10) (.int 20))) (.cons (.bin .Pow (.int 10) (.int 39)) (.cons (.bin .Sub (.int 0) (.bin .Pow (.int 10) (.int 39))) (.cons (.bin .Pow (.int 10) (.int 29)) .nil))))))) (.cons (.ret (.idx (.lst (.cons (.bin .Sub (.call 2 "_law_take" (.cons (.var 0) (.cons (.int 201) .nil))) (.int 100)) (.cons (.idx (.var 2) (.call 2 "_law_take" (.cons (.var 0) (.cons (.int 5) .nil)))) .nil))) (.bin .Sub (.var 1) (.int 6)))) .nil))))⟩
def ir_o_cuts : FnI := ⟨["_law_pen", "_law_width", "_law_most"], ["_law_pen", "_law_width", "_law_most", "_law_turn"], .scope, (.cons (.ret (.comp [3] (.name 3) (.rng1 (.bin .Add (.int 1) (.call 2 "_law_take" (.cons (.var 0) (.cons (.var 2) .nil))))) .no (.tup (.cons (.call 2 "_law_take" (.cons (.var 0) (.cons (.var 1) .nil))) (.cons (.call 1 "_law_o_bound" (.cons (.var 0) .nil)) .nil))))) .nil)⟩
def ir_o_size : FnI := ⟨["_law_saying"], ["_law_saying", "_law_parts", "_law_part", "_law_many", "_law_deep"], .pure, (.cons (.ifs (.cmp .Eq (.idx (.var 0) (.int 0)) (.str "under")) (.cons (.ret (.tup (.cons (.int 1) (.cons (.int 1) .nil)))) .nil) .nil) (.cons (.set 1 (.comp [2] (.name 2) (.items (.sl (.var 0) (.at_ (.int 1)) .no)) .no (.call 1 "_law_o_size" (.cons (.var 2) .nil)))) (.cons (.ret (.tup (.cons (.bin .Add (.int 1) (.bf .sum (.cons (.comp [3, 4] (.tup [3, 4]) (.items (.var 1)) .no (.var 3)) .nil))) (.cons (.bin .Add (.int 1) (.bf .max1 (.cons (.comp [3, 4] (.tup [3, 4]) (.items (.var 1)) .no (.var 4)) .nil))) .nil)))) .nil)))⟩
def ir_o_made : FnI := ⟨["_law_pen", "_law_cuts", "_law_deep"], ["_law_pen", "_law_cuts", "_law_deep", "_law_way"], .scope, (.cons (.set 3 (.bin .Mult (.call 2 "_law_take" (.cons (.var 0) (.cons (.int 6) .nil))) (.bf .int (.cons (.cmp .Gt (.var 2) (.int 0)) .nil)))) (.cons (.ifs (.cmp .Lt (.var 3) (.int 2)) (.cons (.ret (.bin .Add (.tup (.cons (.str "under") .nil)) (.idx (.var 1) (.call 2 "_law_take" (.cons (.var 0) (.cons (.bf .len (.cons (.var 1) .nil)) .nil)))))) .nil) .nil) (.cons (.ifs (.cmp .Eq (.var 3) (.int 2)) (.cons (.ret (.tup (.cons (.str "not") (.cons (.call 3 "_law_o_made" (.cons (.var 0) (.cons (.var 1) (.cons (.bin .Sub (.var 2) (.int 1)) .nil)))) .nil)))) .nil) .nil) (.cons (.ret (.tup (.cons (.idx (.lst (.cons (.str "and") (.cons (.str "or") .nil))) (.bin .Mod (.var 3) (.int 2))) (.cons (.call 3 "_law_o_made" (.cons (.var 0) (.cons (.var 1) (.cons (.bin .Sub (.var 2) (.int 1)) .nil)))) (.cons (.call 3 "_law_o_made" (.cons (.var 0) (.cons (.var 1) (.cons (.bin .Sub (.var 2) (.int 1)) .nil)))) .nil))))) .nil))))⟩
def ir_o_saying : FnI := ⟨["_law_pen", "_law_cuts"], ["_law_pen", "_law_cuts", "_law_found", "_law_turn", "_law_many", "_law_deep"], .scope, (.cons (.set 2 (.call 3 "_law_o_made" (.cons (.var 0) (.cons (.var 1) (.cons (.call 2 "_law_take" (.cons (.var 0) (.cons (.int 4) .nil))) .nil))))) (.cons (.asg [4, 5] (.call 1 "_law_o_size" (.cons (.var 2) .nil))) (.cons (.for_ (.name 3) (.rng1 (.bf .min3 (.cons (.call 2 "_law_take" (.cons (.var 0) (.cons (.int 5) .nil))) (.cons (.bin .Sub (.int 15) (.var 4)) (.cons (.bin .Sub (.int 8) (.var 5)) .nil))))) (.cons (.set 2 (.tup (.cons (.str "not") (.cons (.var 2) .nil)))) .nil)) (.cons (.ret (.var 2)) .nil))))⟩

structure HasPen (T : FTab) : Prop where
  spread : T.lookup ("_law_spread" : Str) = some ir_spread
  take : T.lookup ("_law_take" : Str) = some ir_take
  bound : T.lookup ("_law_o_bound" : Str) = some ir_o_bound
  cuts : T.lookup ("_law_o_cuts" : Str) = some ir_o_cuts
structure HasDraw (T : FTab) : Prop where
  pen : HasPen T
  size : T.lookup ("_law_o_size" : Str) = some ir_o_size
  made : T.lookup ("_law_o_made" : Str) = some ir_o_made
  saying : T.lookup ("_law_o_saying" : Str) = some ir_o_saying
/-- a bound of what is drawn -/
def Bnd (i : Int) : Prop := i.natAbs ≤ 10 ^ 39
def ctD (c : Int × Int) : PyData := .tuple [.int c.1, .int c.2]
theorem Gn.more {o : Ob} {cs : List Int} {a : Int} {r : Sto} {b c : Int} {P Q : PyData → Prop} {x : Vv} {st : Sto} (h : Gn o cs a r b P x st) (hb : b ≤ c) (hp : ∀ d, P d → Q d) : Gn o cs a r c Q x st := by
  obtain ⟨a', v', d, e1, e2, h1, h2, h3⟩ := h
  exact ⟨a', v', d, e1, e2, h1, by omega, hp d h3⟩
/-- how many draws, how many parts -/
def dr : Nat → Int
  | 0 => 2
  | n + 1 => 2 + 2 * dr n
def mp : Nat → Nat
  | 0 => 1
  | n + 1 => 1 + 2 * mp n
theorem dr_pos : ∀ n, 2 ≤ dr n
  | 0 => by decide
  | n + 1 => by have := dr_pos n; show 2 ≤ 2 + 2 * dr n; omega
theorem mp_pos : ∀ n, 1 ≤ mp n
  | 0 => by decide
  | n + 1 => by have := mp_pos n; show 1 ≤ 1 + 2 * mp n; omega
section
variable {T : FTab} (H : HasPen T) (o : Ob) (cs : List Int)
include H
theorem take' (k : Nat) (a v : Int) (r : Sto) (m : Int) (hk : 2 ≤ k) (h0 : 0 ≤ a) (h1 : a < 1000000000) (m0 : 0 < m) (m1 : m < 1073741824) :
    Wp (run T k "_law_take" [.ref 1, .d (.int m)] (sto o cs a v r)) (Gn o cs a r 1 fun d => ∃ i : Int, d = .int i ∧ 0 ≤ i ∧ i < m) E0' := by
  obtain ⟨k, rfl⟩ : ∃ j, k = j + 2 := ⟨k - 2, by omega⟩
  exact take_ok H.spread H.take o cs a v r m h0 h1 m0 m1
theorem bound_ok (k : Nat) (a v : Int) (r : Sto) (hk : 3 ≤ k) (h0 : 0 ≤ a) (h1 : a + 3 < 1000000000) : Wp (run T k "_law_o_bound" [.ref 1] (sto o cs a v r)) (Gn o cs a r 3 fun d => ∃ i : Int, d = .int i ∧ Bnd i) E0' := by
  obtain ⟨k, rfl⟩ : ∃ j, k = j + 1 := ⟨k - 1, by omega⟩
  rw [run_at H.bound]
  unfold FnI.run ir_o_bound Mode.of
  rw [w_scope]
  walk_at "wps"
  refine Wp.mono (take' H o cs k a v r 8 (by omega) h0 (by omega) (by decide) (by decide)) ?_ fun _ _ h => h.elim
  rintro x st ⟨a1, v1, d1, rfl, rfl, ha1, hb1, way, rfl, w0, w1⟩
  walk_at "wps"
  split
  · refine Wp.mono (take' H o cs k a1 v1 r 9 (by omega) (by omega) (by omega) (by decide) (by decide)) ?_ fun _ _ h => h.elim
    rintro x st ⟨a2, v2, d2, rfl, rfl, ha2, hb2, i, rfl, i0, i1⟩
    walk_at "wps"
    refine ⟨a2, v2, _, rfl, take_sto0, by omega, by omega, _, rfl, ?_⟩
    show (i - 4).natAbs ≤ 10 ^ 39
    have : (10 : Nat) ^ 39 = 1000000000000000000000000000000000000000 := by decide
    omega
  · rename_i hw
    have z : ∀ n : Nat, n ≤ 13 → n ≤ sizeLine := fun n hn => by rw [sizeLine_eq]; omega
    refine ⟨by decide, by decide, by decide, by decide, by decide, z _ (by decide), ?_⟩
    refine Wp.mono (take' H o cs k a1 v1 r 201 (by omega) (by omega) (by omega) (by decide) (by decide)) ?_ fun _ _ h => h.elim
    rintro x st ⟨a2, v2, d2, rfl, rfl, ha2, hb2, i, rfl, i0, i1⟩
    walk_at "wps"
    refine Wp.mono (take' H o cs k a2 v2 r 5 (by omega) (by omega) (by omega) (by decide) (by decide)) ?_ fun _ _ h => h.elim
    rintro x st ⟨a3, v3, d3, rfl, rfl, ha3, hb3, j, rfl, j0, j1⟩
    walk_at "wps"
    have g : ∃ n : Int, atI [PyData.int (10 ^ Int.toNat 20), PyData.int (0 - 10 ^ Int.toNat 20), PyData.int (10 ^ Int.toNat 39), PyData.int (0 - 10 ^ Int.toNat 39), PyData.int (10 ^ Int.toNat 29)] j = some (.int n) ∧ Bnd n := by
      have : j = 0 ∨ j = 1 ∨ j = 2 ∨ j = 3 ∨ j = 4 := by omega
      rcases this with h | h | h | h | h <;> subst h <;> exact ⟨_, rfl, by show Int.natAbs _ ≤ 10 ^ 39; decide +kernel⟩
    obtain ⟨n, e, hn⟩ := g
    rw [e]
    walk_at "wps"
    refine ⟨z _ (by decide), ?_⟩
    have hw2 : way - 6 = 0 ∨ way - 6 = 1 := by omega
    rcases hw2 with h | h <;> rw [h]
    · rw [at0]
      walk_at "wps"
      refine ⟨a3, v3, _, rfl, take_sto0, by omega, by omega, _, rfl, ?_⟩
      show (i - 100).natAbs ≤ 10 ^ 39
      have : (10 : Nat) ^ 39 = 1000000000000000000000000000000000000000 := by decide
      omega
    · rw [at1]
      walk_at "wps"
      exact ⟨a3, v3, _, rfl, take_sto0, by omega, by omega, _, rfl, hn⟩
theorem cuts_ok (k : Nat) (a v : Int) (r : Sto) (w m : Int) (hk : 4 ≤ k) (h0 : 0 ≤ a) (h1 : a + 1 + 4 * m < 1000000000) (w0 : 0 < w) (w1 : w < 1073741824) (m0 : 0 < m) (m1 : m < 1000) :
    Wp (run T k "_law_o_cuts" [.ref 1, .d (.int w), .d (.int m)] (sto o cs a v r)) (Gn o cs a r (1 + 4 * m) fun d => ∃ ks : List (Int × Int), d = .list (ks.map ctD) ∧ 0 < ks.length ∧ (ks.length : Int) ≤ m ∧ ∀ c ∈ ks, (0 ≤ c.1 ∧ c.1 < w) ∧ Bnd c.2) E0' := by
  obtain ⟨k, rfl⟩ : ∃ j, k = j + 1 := ⟨k - 1, by omega⟩
  rw [run_at H.cuts]
  unfold FnI.run ir_o_cuts Mode.of
  rw [w_scope]
  walk_at "wps"
  refine Wp.mono (take' H o cs k a v r m (by omega) h0 (by omega) m0 (by omega)) ?_ fun _ _ h => h.elim
  rintro x st ⟨a1, v1, d1, rfl, rfl, ha1, hb1, n, rfl, n0, n1⟩
  walk_at "wps"
  refine ⟨⟨by omega, by omega⟩, ?_⟩
  refine wc_inv (fun i ys st => ∃ (a2 v2 : Int) (ks : List (Int × Int)), st = sto o cs a2 v2 r ∧ a1 ≤ a2 ∧ a2 ≤ a1 + 4 * i ∧ ys = ks.map ctD ∧ ks.length = i ∧ ∀ c ∈ ks, (0 ≤ c.1 ∧ c.1 < w) ∧ Bnd c.2) ⟨a1, v1, [], rfl, by omega, by omega, rfl, rfl, fun c h => by cases h⟩ ?_ ?_
  · rintro i x ys st hx ⟨a2, v2, ks, rfl, h2, h3, rfl, hl, hc⟩
    have hi : i < (1 + n).toNat := by
      have := (List.getElem?_eq_some_iff.mp hx).1
      rw [upFrom_len] at this
      exact this
    walk_at "wps"
    refine Wp.mono (take' H o cs k a2 v2 r w (by omega) (by omega) (by omega) w0 w1) ?_ fun _ _ h => h.elim
    rintro x st ⟨a3, v3, d3, rfl, rfl, h4, h5, c, rfl, c0, c1⟩
    walk_at "wps"
    refine Wp.mono (bound_ok H o cs k a3 v3 r (by omega) (by omega) (by omega)) ?_ fun _ _ h => h.elim
    rintro x st ⟨a4, v4, d4, rfl, rfl, h6, h7, b, rfl, hb⟩
    walk_at "wps"
    refine ⟨by rw [sizeLine_eq]; decide, a4, v4, ks ++ [(c, b)], rfl, by omega, by omega, by simp [ctD], by simp [hl], fun e he => ?_⟩
    rcases List.mem_append.mp he with h | h
    · exact hc e h
    · rw [List.mem_singleton.mp h]
      exact ⟨⟨c0, c1⟩, hb⟩
  · rintro ys st ⟨a2, v2, ks, rfl, h2, h3, rfl, hl, hc⟩
    rw [upFrom_len] at h3 hl
    exact ⟨a2, v2, _, rfl, take_sto0, by omega, by omega, ks, rfl, by omega, by omega, hc⟩
end
section
variable {T : FTab} (H : HasDraw T) (o : Ob) (cs : List Int)
include H
theorem size_ok : ∀ (s : Sy) (k : Nat) (st : Sto), s.depth ≤ k → run T k "_law_o_size" [.d s.d] st = .ok (.d (.tuple [.int s.parts, .int s.depth])) st := by
  have z : ∀ n : Nat, n ≤ 13 → n ≤ sizeLine := fun n hn => by rw [sizeLine_eq]; omega
  intro s
  induction s with
  | under c b =>
    intro k st hk
    obtain ⟨k, rfl⟩ : ∃ j, k = j + 1 := ⟨k - 1, by have : (Sy.under c b).depth = 1 := rfl; omega⟩
    apply Wp.eq
    rw [run_at H.size]
    unfold FnI.run ir_o_size Mode.of Sy.d
    rw [w_pure rfl]
    walk_at "wps"
    exact ⟨z _ (by decide), rfl⟩
  | nt s ih =>
    intro k st hk
    have e : (Sy.nt s).depth = 1 + s.depth := rfl
    obtain ⟨k, rfl⟩ : ∃ j, k = j + 1 := ⟨k - 1, by omega⟩
    apply Wp.eq
    rw [run_at H.size]
    unfold FnI.run ir_o_size Mode.of Sy.d
    rw [w_pure rfl]
    walk_at "wps"
    rw [if_neg s_nu, ih k [] (by omega)]
    walk_at "wps"
    simp only [intsOf_n, intsOf_c, Option.map_some, onO_some]
    refine ⟨z _ (by decide), ?_⟩
    simp [Sy.parts, Sy.depth]
  | con a b iha ihb =>
    intro k st hk
    have e : (Sy.con a b).depth = 1 + max a.depth b.depth := rfl
    obtain ⟨k, rfl⟩ : ∃ j, k = j + 1 := ⟨k - 1, by omega⟩
    apply Wp.eq
    rw [run_at H.size]
    unfold FnI.run ir_o_size Mode.of Sy.d
    rw [w_pure rfl]
    walk_at "wps"
    rw [if_neg s_au, iha k [] (by omega)]
    walk_at "wps"
    rw [ihb k [] (by omega)]
    walk_at "wps"
    simp only [intsOf_n, intsOf_c, Option.map_some, onO_some, max2]
    refine ⟨z _ (by decide), ?_⟩
    have m : maxI (a.depth : Int) b.depth = ((max a.depth b.depth : Nat) : Int) := by
      unfold maxI
      split <;> omega
    rw [m]
    simp [Sy.parts, Sy.depth]
  | dis a b iha ihb =>
    intro k st hk
    have e : (Sy.dis a b).depth = 1 + max a.depth b.depth := rfl
    obtain ⟨k, rfl⟩ : ∃ j, k = j + 1 := ⟨k - 1, by omega⟩
    apply Wp.eq
    rw [run_at H.size]
    unfold FnI.run ir_o_size Mode.of Sy.d
    rw [w_pure rfl]
    walk_at "wps"
    rw [if_neg s_ou, iha k [] (by omega)]
    walk_at "wps"
    rw [ihb k [] (by omega)]
    walk_at "wps"
    simp only [intsOf_n, intsOf_c, Option.map_some, onO_some, max2]
    refine ⟨z _ (by decide), ?_⟩
    have m : maxI (a.depth : Int) b.depth = ((max a.depth b.depth : Nat) : Int) := by
      unfold maxI
      split <;> omega
    rw [m]
    simp [Sy.parts, Sy.depth]
omit H in
theorem ix_cut {ks : List (Int × Int)} {i : Int} (h0 : 0 ≤ i) (h1 : i < ks.length) : ∃ c ∈ ks, atI (ks.map ctD) i = some (ctD c) := by
  have hl : i.toNat < ks.length := by omega
  exact ⟨ks[i.toNat], List.getElem_mem hl, atI_get h0 (by rw [List.getElem?_map, List.getElem?_eq_getElem hl]; rfl)⟩
omit H in
theorem way_0 {w : Int} : (w * if (0 : Int) < ((0 : Nat) : Int) then 1 else 0) = 0 := by simp
theorem made_draw (p : Int → Int → Prop) (ks : List (Int × Int)) (hp : ∀ c ∈ ks, p c.1 c.2) (hn : 0 < ks.length) (hz : ks.length < 1000) : ∀ (deep : Nat) (k : Nat) (a v : Int) (r : Sto), deep + 3 ≤ k → 0 ≤ a → a + dr deep < 1000000000 →
    Wp (run T k "_law_o_made" [.ref 1, .d (.list (ks.map ctD)), .d (.int deep)] (sto o cs a v r)) (Gn o cs a r (dr deep) fun d => ∃ s : Sy, d = s.d ∧ s.all p ∧ s.depth ≤ deep + 1 ∧ s.parts ≤ mp deep) E0' := by
  have z : ∀ n : Nat, n ≤ 13 → n ≤ sizeLine := fun n hn => by rw [sizeLine_eq]; omega
  intro deep
  induction deep with
  | zero =>
    intro k a v r hk h0 h1
    obtain ⟨k, rfl⟩ : ∃ j, k = j + 1 := ⟨k - 1, by omega⟩
    have hd : dr 0 = 2 := rfl
    rw [run_at H.made]
    unfold FnI.run ir_o_made Mode.of
    rw [w_scope]
    walk_at "wps"
    refine Wp.mono (take' H.pen o cs k a v r 6 (by omega) h0 (by omega) (by decide) (by decide)) ?_ fun _ _ h => h.elim
    rintro x st ⟨a1, v1, d1, rfl, rfl, ha1, hb1, way, rfl, w0, w1⟩
    walk_at "wps"
    refine ⟨mul_ok_l (by omega) (by omega), ?_⟩
    have e0 : (way * if (0 : Int) < 0 then 1 else 0) = 0 := by simp
    rw [e0, if_pos (by decide)]
    refine ⟨z _ (by decide), ?_⟩
    refine Wp.mono (take' H.pen o cs k a1 v1 r ((ks.map ctD).length : Nat) (by omega) (by omega) (by omega) (by rw [List.length_map]; omega) (by rw [List.length_map]; omega)) ?_ fun _ _ h => h.elim
    rintro x st ⟨a2, v2, d2, rfl, rfl, ha2, hb2, i, rfl, i0, i1⟩
    rw [List.length_map] at i1
    obtain ⟨c, hc, ec⟩ := ix_cut i0 i1
    walk_at "wps"
    rw [ec]
    unfold ctD
    walk_at "wps"
    refine ⟨z _ (by decide), a2, v2, _, rfl, take_sto0, by omega, by omega, .under c.1 c.2, rfl, hp c hc, ?_, ?_⟩
    · exact Nat.le_refl _
    · exact Nat.le_refl _
  | succ deep ih =>
    intro k a v r hk h0 h1
    obtain ⟨k, rfl⟩ : ∃ j, k = j + 1 := ⟨k - 1, by omega⟩
    have hd : dr (deep + 1) = 2 + 2 * dr deep := rfl
    have hm : mp (deep + 1) = 1 + 2 * mp deep := rfl
    have hm1 := mp_pos deep
    have hdp := dr_pos deep
    rw [run_at H.made]
    unfold FnI.run ir_o_made Mode.of
    rw [w_scope]
    walk_at "wps"
    refine Wp.mono (take' H.pen o cs k a v r 6 (by omega) h0 (by omega) (by decide) (by decide)) ?_ fun _ _ h => h.elim
    rintro x st ⟨a1, v1, d1, rfl, rfl, ha1, hb1, way, rfl, w0, w1⟩
    walk_at "wps"
    refine ⟨mul_ok_l (by omega) (by omega), ?_⟩
    have e0 : (way * if (0 : Int) < ((deep + 1 : Nat) : Int) then 1 else 0) = way := by rw [if_pos (by omega), Int.mul_one]
    have e1 : ((deep + 1 : Nat) : Int) - 1 = deep := by omega
    rw [e0, e1]
    split
    · refine ⟨z _ (by decide), ?_⟩
      refine Wp.mono (take' H.pen o cs k a1 v1 r ((ks.map ctD).length : Nat) (by omega) (by omega) (by omega) (by rw [List.length_map]; omega) (by rw [List.length_map]; omega)) ?_ fun _ _ h => h.elim
      rintro x st ⟨a2, v2, d2, rfl, rfl, ha2, hb2, i, rfl, i0, i1⟩
      rw [List.length_map] at i1
      obtain ⟨c, hc, ec⟩ := ix_cut i0 i1
      walk_at "wps"
      rw [ec]
      unfold ctD
      walk_at "wps"
      refine ⟨z _ (by decide), a2, v2, _, rfl, take_sto0, by omega, by omega, .under c.1 c.2, rfl, hp c hc, ?_, ?_⟩
      · show 1 ≤ deep + 1 + 1; omega
      · show 1 ≤ mp (deep + 1); omega
    · split
      · refine Wp.mono (ih k a1 v1 r (by omega) (by omega) (by omega)) ?_ fun _ _ h => h.elim
        rintro x st ⟨a2, v2, d2, rfl, rfl, ha2, hb2, s, rfl, s1, s2, s3⟩
        walk_at "wps"
        exact ⟨z _ (by decide), a2, v2, _, rfl, take_sto0, by omega, by omega, .nt s, rfl, s1, by show 1 + s.depth ≤ _; omega, by show 1 + s.parts ≤ _; omega⟩
      · refine ⟨z _ (by decide), by decide, ?_⟩
        have two : way % 2 = 0 ∨ way % 2 = 1 := by omega
        rcases two with t | t <;> rw [t]
        · rw [at0]
          walk_at "wps"
          refine Wp.mono (ih k a1 v1 r (by omega) (by omega) (by omega)) ?_ fun _ _ h => h.elim
          rintro x st ⟨a2, v2, d2, rfl, rfl, ha2, hb2, s, rfl, s1, s2, s3⟩
          walk_at "wps"
          refine Wp.mono (ih k a2 v2 r (by omega) (by omega) (by omega)) ?_ fun _ _ h => h.elim
          rintro x st ⟨a3, v3, d3, rfl, rfl, ha3, hb3, s', rfl, t1, t2, t3⟩
          walk_at "wps"
          exact ⟨z _ (by decide), a3, v3, _, rfl, take_sto0, by omega, by omega, .con s s', rfl, ⟨s1, t1⟩, by show 1 + max s.depth s'.depth ≤ _; omega, by show 1 + (s.parts + s'.parts) ≤ _; omega⟩
        · rw [at1]
          walk_at "wps"
          refine Wp.mono (ih k a1 v1 r (by omega) (by omega) (by omega)) ?_ fun _ _ h => h.elim
          rintro x st ⟨a2, v2, d2, rfl, rfl, ha2, hb2, s, rfl, s1, s2, s3⟩
          walk_at "wps"
          refine Wp.mono (ih k a2 v2 r (by omega) (by omega) (by omega)) ?_ fun _ _ h => h.elim
          rintro x st ⟨a3, v3, d3, rfl, rfl, ha3, hb3, s', rfl, t1, t2, t3⟩
          walk_at "wps"
          exact ⟨z _ (by decide), a3, v3, _, rfl, take_sto0, by omega, by omega, .dis s s', rfl, ⟨s1, t1⟩, by show 1 + max s.depth s'.depth ≤ _; omega, by show 1 + (s.parts + s'.parts) ≤ _; omega⟩
theorem saying_draw (p : Int → Int → Prop) (ks : List (Int × Int)) (hp : ∀ c ∈ ks, p c.1 c.2) (hn : 0 < ks.length) (hz : ks.length < 1000) (k : Nat) (a v : Int) (r : Sto) (hk : 10 ≤ k) (h0 : 0 ≤ a) (h1 : a + 40 < 1000000000) :
    Wp (run T k "_law_o_saying" [.ref 1, .d (.list (ks.map ctD))] (sto o cs a v r)) (Gn o cs a r 40 fun d => ∃ s : Sy, d = s.d ∧ s.all p ∧ s.depth ≤ 8 ∧ s.parts ≤ 15) E0' := by
  have z : ∀ n : Nat, n ≤ 13 → n ≤ sizeLine := fun n hn => by rw [sizeLine_eq]; omega
  obtain ⟨k, rfl⟩ : ∃ j, k = j + 1 := ⟨k - 1, by omega⟩
  rw [run_at H.saying]
  unfold FnI.run ir_o_saying Mode.of
  rw [w_scope]
  walk_at "wps"
  refine Wp.mono (take' H.pen o cs k a v r 4 (by omega) h0 (by omega) (by decide) (by decide)) ?_ fun _ _ h => h.elim
  rintro x st ⟨a1, v1, d1, rfl, rfl, ha1, hb1, dp, rfl, w0, w1⟩
  walk_at "wps"
  obtain ⟨n, rfl⟩ : ∃ n : Nat, dp = n := ⟨dp.toNat, by omega⟩
  have hn3 : n ≤ 3 := by omega
  have hdr : dr n ≤ 30 ∧ mp n ≤ 15 := by
    have : n = 0 ∨ n = 1 ∨ n = 2 ∨ n = 3 := by omega
    rcases this with rfl | rfl | rfl | rfl <;> decide
  refine Wp.mono (made_draw H o cs p ks hp hn hz n k a1 v1 r (by omega) (by omega) (by omega)) ?_ fun _ _ h => h.elim
  rintro x st ⟨a2, v2, d2, rfl, rfl, ha2, hb2, s, rfl, s1, s2, s3⟩
  walk_at "wps"
  rw [size_ok H s k _ (by omega)]
  walk_at "wps"
  refine Wp.mono (take' H.pen o cs k a2 v2 r 5 (by omega) (by omega) (by omega) (by decide) (by decide)) ?_ fun _ _ h => h.elim
  rintro x st ⟨a3, v3, d3, rfl, rfl, ha3, hb3, i, rfl, i0, i1⟩
  walk_at "wps"
  have hN : ∃ N : Nat, minI (minI i (15 - (s.parts : Int))) (8 - (s.depth : Int)) = N ∧ s.parts + N ≤ 15 ∧ s.depth + N ≤ 8 := by
    refine ⟨(minI (minI i (15 - (s.parts : Int))) (8 - (s.depth : Int))).toNat, ?_⟩
    unfold minI
    split <;> split <;> refine ⟨?_, ?_, ?_⟩ <;> omega
  obtain ⟨N, eN, N1, N2⟩ := hN
  rw [eN, Int.toNat_natCast]
  refine ⟨⟨by omega, by omega⟩, ?_⟩
  refine for_inv (fun j ρ st => ∃ (t : Option Vv) (s' : Sy), ρ = [some (.ref 1), some (.d (.list (ks.map ctD))), some (.d s'.d), t, some (.d (.int s.parts)), some (.d (.int s.depth))] ∧ st = sto o cs a3 v3 r ∧ s'.all p ∧ s'.depth = s.depth + j ∧ s'.parts = s.parts + j) ⟨none, s, rfl, rfl, s1, rfl, rfl⟩ ?_ ?_
  · rintro j x ρ st hx ⟨t, s', rfl, rfl, q1, q2, q3⟩
    walk_at "wps"
    exact ⟨z _ (by decide), _, .nt s', rfl, q1, by show 1 + s'.depth = _; omega, by show 1 + s'.parts = _; omega⟩
  · rintro ρ st ⟨t, s', rfl, rfl, q1, q2, q3⟩
    rw [upFrom_len] at q2 q3
    walk_at "wps"
    exact ⟨a3, v3, _, rfl, take_sto0, by omega, by omega, s', rfl, q1, by omega, by omega⟩
end
end L2.Q

set_option maxHeartbeats 1000000
/-! What is drawn: boxes, full sayings. -/
namespace L2.Q
open PySem PySem.Spec PyProof.Rows
local macro_rules | `(tactic| walk_at "wps") => `(tactic| simp (config := { failIfUnchanged := false }) only [w_var, w_int, w_str, w_bl, w_non, w_gint, w_gstr, w_bin, w_cmp, w_idx, w_tabGet, w_tabIx, w_chain, w_nt, w_neg, w_ife, w_conj1, w_conj, w_disj1, w_disj, wl_nil, wl_cons, w_tup, w_lst, w_new, w_call, w_bf, w_isi,
  w_frz, w_newL, wo_no, wo_at, w_sl, w_app, wi_items, wi_rng1, wi_rng2, wi_enum, w_comp, cut1, wc_nil, wc_cons, wt_no, wt_at, b_nil, b_cons, s_set, s_asg, s_par, s_setIx, s_ret, s_retN, s_ifs, s_for, s_raise, s_doE, s_bk, s_ct, s_pass, w_body, start1, startN, start_0, retF_ret, retF_nx, wp_ok, wp_exc, wp_bind, ws_ok,
  nth, put, clear, wipe_0, wipe_c, onO_some, onO_none, onO_if, onO_map, onO_bind, onB_t, onB_f, onB_not, onB_b, onD_d, onF_nx, onF_ret, onF_bk, onF_ct, onI_i, items_l, items_t, deref_d, deref_r, drf_l, drf_f, bin2, setIx3_r, app2_r, frz1_r, onL_l, List.take_succ_cons, List.take_length, List.take_left, get_0, get_s, set_0, set_s, ix31, ix32, at0, at1, at2, at3, frz1_d, listOf_l, listOf_t, derefs_n, derefs_c, allD_n, allD_c,
  Option.map_some, Option.map_none, Option.bind_some, Option.bind_none, List.length_cons, List.length_nil, Nat.zero_add, Nat.reduceAdd, Int.cast_ofNat_Int, Int.natCast_zero, Int.natCast_one,
  add_i, sub_i, mul_i, div_i, mod_i, pow_i, add_t, add_l, lt_i, le_i, gt_i, ge_i, eq_i, ne_i, eq_s, ne_s, eq_b, is_n, isnot_n, isN_n, isN_i, idx_t, idx_l, sl_t, sl_l, tab_s, tab_g, len_t, len_l, min2_i, max2_i, min3_i, int_b, int_i, tuple_l, tuple_t, list_l, list_t, all_l, any_l, sum_l, max1_l, min1_l,
  asg_n, asg_t0, asg_t, isi_iI, isi_bI, isi_sI, isi_tI, isi_sS, isi_tT, Bool.not_true, Bool.not_false, decide_eq_true_eq, beq_iff_eq, if_true, if_false, ite_true, ite_false, true_and, and_true, Bool.false_eq_true, reduceIte, eq_self_iff_true])
def ir_o_side : FnI := ⟨["_law_pen", "_law_bounds"], ["_law_pen", "_law_bounds", "_law_some", "_law_bound", "_law_low", "_law_high"], .scope, (.cons (.set 2 (.lst (.cons .non (.cons .non .nil)))) (.cons (.for_ (.name 3) (.items (.var 1)) (.cons (.set 2 (.bin .Add (.var 2) (.lst (.cons (.var 3) (.cons (.var 3) (.cons (.bin .Sub (.var 3) (.int 1)) (.cons (.bin .Add (.var 3) (.int 1)) .nil))))))) .nil)) (.cons (.par 4 5 (.idx (.var 2) (.call 2 "_law_take" (.cons (.var 0) (.cons (.bf .len (.cons (.var 2) .nil)) .nil)))) (.idx (.var 2) (.call 2 "_law_take" (.cons (.var 0) (.cons (.bf .len (.cons (.var 2) .nil)) .nil))))) (.cons (.ifs (.disj (.cons (.cmp .Is (.var 4) .non) (.cons (.cmp .Is (.var 5) .non) .nil))) (.cons (.ret (.tup (.cons (.var 4) (.cons (.var 5) .nil)))) .nil) .nil) (.cons (.ret (.tup (.cons (.bf .min2 (.cons (.var 4) (.cons (.var 5) .nil))) (.cons (.bin .Add (.bf .max2 (.cons (.var 4) (.cons (.var 5) .nil))) (.bf .int (.cons (.cmp .Eq (.var 4) (.var 5)) .nil))) .nil)))) .nil)))))⟩
def ir_o_box : FnI := ⟨["_law_pen", "_law_width", "_law_cuts"], ["_law_pen", "_law_width", "_law_cuts", "_law_found", "_law_column", "_law_one", "_law_bound"], .scope, (.cons (.set 3 (.new .nil)) (.cons (.for_ (.name 4) (.rng1 (.var 1)) (.cons (.doE (.app (.var 3) (.call 2 "_law_o_side" (.cons (.var 0) (.cons (.bin .Add (.comp [5, 6] (.tup [5, 6]) (.items (.var 2)) (.at_ (.cmp .Eq (.var 5) (.var 4))) (.var 6)) (.lst (.cons (.int 0) .nil))) .nil))))) .nil)) (.cons (.ret (.bf .tuple (.cons (.var 3) .nil))) .nil)))⟩
def ir_o_full : FnI := ⟨["_law_pen", "_law_cuts"], ["_law_pen", "_law_cuts", "_law_found", "_law_spot", "_law_pair", "_law_turn"], .scope, (.cons (.set 2 (.comp [5] (.name 5) (.rng1 (.int 8)) .no (.bin .Add (.tup (.cons (.str "under") .nil)) (.idx (.var 1) (.call 2 "_law_take" (.cons (.var 0) (.cons (.bf .len (.cons (.var 1) .nil)) .nil))))))) (.cons (.while_ 64 (.cmp .Gt (.bf .len (.cons (.var 2) .nil)) (.int 1)) (.cons (.set 3 (.call 2 "_law_take" (.cons (.var 0) (.cons (.bf .min2 (.cons (.bin .Sub (.bf .len (.cons (.var 2) .nil)) (.int 1)) (.cons (.int 2) .nil))) .nil)))) (.cons (.set 4 (.tup (.cons (.idx (.lst (.cons (.str "and") (.cons (.str "or") .nil))) (.call 2 "_law_take" (.cons (.var 0) (.cons (.int 2) .nil)))) (.cons (.idx (.var 2) (.var 3)) (.cons (.idx (.var 2) (.bin .Add (.var 3) (.int 1))) .nil))))) (.cons (.set 2 (.bin .Add (.bin .Add (.sl (.var 2) .no (.at_ (.var 3))) (.lst (.cons (.var 4) .nil))) (.sl (.var 2) (.at_ (.bin .Add (.var 3) (.int 2))) .no))) .nil)))) (.cons (.ret (.idx (.var 2) (.int 0))) .nil)))⟩

theorem sto_len {o : Ob} {cs : List Int} {a v : Int} {r : Sto} : (sto o cs a v r).length = r.length + 2 := rfl
theorem sto_app {o : Ob} {cs : List Int} {a v : Int} {r e : Sto} : sto o cs a v r ++ e = sto o cs a v (r ++ e) := rfl
theorem sto_get {o p : Ob} {cs : List Int} {a v : Int} {r : Sto} : (sto o cs a v (r ++ [p]))[r.length + 2]? = some p := by
  show (r ++ [p])[r.length]? = some p
  simp
theorem sto_set {o p q : Ob} {cs : List Int} {a v : Int} {r : Sto} : (sto o cs a v (r ++ [p])).set (r.length + 2) q = sto o cs a v (r ++ [q]) := by
  show o :: _ :: (r ++ [p]).set r.length q = o :: _ :: (r ++ [q])
  simp
/-- a side drawn near bounds -/
def Nr (i : Int) : Prop := i.natAbs ≤ 10 ^ 39 + 4
def SdNr (s : Sd) : Prop := (∀ l, s.1 = some l → Nr l) ∧ ∀ h, s.2 = some h → Nr h
section
variable {T : FTab} (H : HasPen T) (o : Ob) (cs : List Int)
include H
theorem side_draw (h : T.lookup ("_law_o_side" : Str) = some ir_o_side) (bs : List Int) (hb : ∀ b ∈ bs, Bnd b) (hz : bs.length < 1000) (k : Nat) (a v : Int) (r : Sto) (hk : 3 ≤ k) (h0 : 0 ≤ a) (h1 : a + 2 < 1000000000) :
    Wp (run T k "_law_o_side" [.ref 1, .d (.list (bs.map .int))] (sto o cs a v r)) (Gn o cs a r 2 fun d => ∃ s : Sd, d = sdD s ∧ SdOk s ∧ SdNr s) E0' := by
  have z : ∀ n : Nat, n ≤ 13 → n ≤ sizeLine := fun n hn => by rw [sizeLine_eq]; omega
  obtain ⟨k, rfl⟩ : ∃ j, k = j + 1 := ⟨k - 1, by omega⟩
  rw [run_at h]
  unfold FnI.run ir_o_side Mode.of
  rw [w_scope]
  walk_at "wps"
  refine ⟨z _ (by decide), ?_⟩
  refine for_inv (fun j ρ st => ∃ (t : Option Vv) (os : List (Option Int)), ρ = [some (.ref 1), some (.d (.list (bs.map .int))), some (.d (.list (os.map optD))), t, none, none] ∧ st = sto o cs a v r ∧ os.length = 2 + 4 * j ∧ ∀ l : Int, some l ∈ os → l.natAbs ≤ 10 ^ 39 + 1) ⟨none, [none, none], rfl, rfl, rfl, fun l hl => by simp at hl⟩ ?_ ?_
  · rintro j x ρ st hx ⟨t, os, rfl, rfl, q1, q2⟩
    rw [List.getElem?_map] at hx
    obtain ⟨b, hb2, rfl⟩ := Option.map_eq_some_iff.mp hx
    have hj := (List.getElem?_eq_some_iff.mp hb2).1
    have hbb := hb b (List.mem_of_getElem? hb2)
    walk_at "wps"
    refine ⟨z _ (by decide), ?_, some (.d (.int b)), os ++ [some b, some b, some (b - 1), some (b + 1)], ?_, ?_, ?_⟩
    · rw [List.length_map, q1, sizeLine_eq]; omega
    · simp [optD]
    · rw [List.length_append, q1]; show 2 + 4 * j + 4 = _; omega
    · intro l hl
      unfold Bnd at hbb
      rcases List.mem_append.mp hl with hl | hl
      · exact q2 l hl
      · simp only [List.mem_cons, Option.some.injEq, List.not_mem_nil, or_false] at hl
        rcases hl with rfl | rfl | rfl | rfl <;> omega
  · rintro ρ st ⟨t, os, rfl, rfl, q1, q2⟩
    rw [List.length_map] at q1
    walk_at "wps"
    have ix : ∀ i : Int, 0 ≤ i → i < os.length → ∃ x ∈ os, atI (os.map optD) i = some (optD x) := fun i i0 i1 => by
      have hl : i.toNat < os.length := by omega
      exact ⟨os[i.toNat], List.getElem_mem hl, atI_get i0 (by rw [List.getElem?_map, List.getElem?_eq_getElem hl]; rfl)⟩
    refine Wp.mono (take' H o cs k a v r _ (by omega) h0 (by omega) (by rw [List.length_map]; omega) (by rw [List.length_map]; omega)) ?_ fun _ _ h => h.elim
    rintro x st ⟨a1, v1, d1, rfl, rfl, ha1, hb1, i, rfl, i0, i1⟩
    rw [List.length_map] at i1
    obtain ⟨lo, mlo, elo⟩ := ix i i0 i1
    walk_at "wps"
    rw [elo]
    walk_at "wps"
    refine Wp.mono (take' H o cs k a1 v1 r _ (by omega) (by omega) (by omega) (by rw [List.length_map]; omega) (by rw [List.length_map]; omega)) ?_ fun _ _ h => h.elim
    rintro x st ⟨a2, v2, d2, rfl, rfl, ha2, hb2, j, rfl, j0, j1⟩
    rw [List.length_map] at j1
    obtain ⟨hi, mhi, ehi⟩ := ix j j0 j1
    walk_at "wps"
    rw [ehi]
    walk_at "wps"
    cases lo with
    | none =>
      simp only [optD]
      walk_at "wps"
      exact ⟨z _ (by decide), a2, v2, _, rfl, take_sto0, by omega, by omega, (none, hi), rfl, fun l u e => (nomatch e), fun l e => (nomatch e), fun u e => Nat.le_trans (q2 u (by cases e; exact mhi)) (by omega)⟩
    | some l =>
      have nl := q2 l mlo
      cases hi with
      | none =>
        simp only [optD]
        walk_at "wps"
        exact ⟨z _ (by decide), a2, v2, _, rfl, take_sto0, by omega, by omega, (some l, none), rfl, fun l u _ e => (nomatch e), fun l e => by cases e; exact Nat.le_trans nl (by omega), fun u e => (nomatch e)⟩
      | some u =>
        have nu := q2 u mhi
        simp only [optD]
        walk_at "wps"
        refine ⟨z _ (by decide), a2, v2, _, rfl, take_sto0, by omega, by omega, (some (minI l u), some (maxI l u + if l = u then 1 else 0)), rfl, ?_, ?_, ?_⟩
        · intro x y ex ey
          cases ex
          cases ey
          unfold minI maxI
          split <;> split <;> split <;> omega
        · intro x ex
          cases ex
          unfold minI Nr
          split <;> omega
        · intro x ex
          cases ex
          unfold maxI Nr
          split <;> split <;> omega
theorem box_draw (h : T.lookup ("_law_o_side" : Str) = some ir_o_side) (h2 : T.lookup ("_law_o_box" : Str) = some ir_o_box) (ks : List (Int × Int)) (hb : ∀ c ∈ ks, Bnd c.2) (hz : ks.length < 900) (w : Nat) (hw : w ≤ 3) (k : Nat) (a v : Int) (r : Sto) (hk : 4 ≤ k) (h0 : 0 ≤ a) (h1 : a + 6 < 1000000000) :
    Wp (run T k "_law_o_box" [.ref 1, .d (.int w), .d (.list (ks.map ctD))] (sto o cs a v r)) (Gn o cs a r 6 fun d => ∃ b : List Sd, d = bxD b ∧ b.length = w ∧ (∀ s ∈ b, SdOk s) ∧ ∀ s ∈ b, SdNr s) E0' := by
  have z : ∀ n : Nat, n ≤ 13 → n ≤ sizeLine := fun n hn => by rw [sizeLine_eq]; omega
  obtain ⟨k, rfl⟩ : ∃ j, k = j + 1 := ⟨k - 1, by omega⟩
  rw [run_at h2]
  unfold FnI.run ir_o_box Mode.of
  rw [w_scope]
  walk_at "wps"
  refine ⟨z _ (by decide), ⟨by omega, by omega⟩, ?_⟩
  rw [sto_app, sto_len, Int.toNat_natCast]
  refine for_inv (fun j ρ st => ∃ (t x y : Option Vv) (b : List Sd) (a1 v1 : Int), ρ = [some (.ref 1), some (.d (.int w)), some (.d (.list (ks.map ctD))), some (.ref (r.length + 2)), t, x, y] ∧ st = sto o cs a1 v1 (r ++ [.lst (b.map sdD)]) ∧ b.length = j ∧ a ≤ a1 ∧ a1 ≤ a + 2 * j ∧ (∀ s ∈ b, SdOk s) ∧ ∀ s ∈ b, SdNr s) ⟨none, none, none, [], a, v, rfl, rfl, rfl, by omega, by omega, fun s hs => (nomatch hs), fun s hs => (nomatch hs)⟩ ?_ ?_
  · rintro j x ρ st hx ⟨t, x1, y1, b, a1, v1, rfl, rfl, q1, q2, q3, q4, q5⟩
    have hj : j < w := by
      have := (List.getElem?_eq_some_iff.mp hx).1
      rw [upFrom_len] at this
      exact this
    rw [upFrom_get _ _ _ hj] at hx
    cases hx
    walk_at "wps"
    rw [sto_get]
    walk_at "wps"
    refine wc_inv (fun i ys st => ∃ bs : List Int, ys = bs.map .int ∧ bs.length ≤ i ∧ (∀ b ∈ bs, Bnd b) ∧ st = sto o cs a1 v1 (r ++ [.lst (b.map sdD)])) ⟨[], rfl, Nat.le_refl _, fun b hb => (nomatch hb), rfl⟩ ?_ ?_
    · rintro i x ys st hx ⟨bs, rfl, p1, p2, rfl⟩
      rw [List.getElem?_map] at hx
      obtain ⟨c, hc, rfl⟩ := Option.map_eq_some_iff.mp hx
      have hcb := hb c (List.mem_of_getElem? hc)
      unfold ctD
      walk_at "wps"
      split
      · refine ⟨bs ++ [c.2], by simp, by simp; omega, fun e he => ?_⟩
        rcases List.mem_append.mp he with m | m
        · exact p2 e m
        · rw [List.mem_singleton.mp m]; exact hcb
      · exact ⟨bs, rfl, by omega, p2⟩
    · rintro ys st ⟨bs, rfl, p1, p2, rfl⟩
      rw [List.length_map] at p1
      walk_at "wps"
      refine ⟨z _ (by decide), by rw [List.length_map, sizeLine_eq]; omega, ?_⟩
      have e : bs.map PyData.int ++ [.int 0] = (bs ++ [0]).map PyData.int := by simp
      rw [e]
      refine Wp.mono (side_draw H o cs h (bs ++ [0]) (fun e he => ?_) (by simp; omega) k a1 v1 (r ++ [.lst (b.map sdD)]) (by omega) (by omega) (by omega)) ?_ fun _ _ h => h.elim
      · rcases List.mem_append.mp he with m | m
        · exact p2 e m
        · rw [List.mem_singleton.mp m]; show Int.natAbs 0 ≤ _; decide
      rintro x st ⟨a2, v2, d2, rfl, rfl, ha2, hb2, s, rfl, s1, s2⟩
      walk_at "wps"
      rw [sto_get]
      walk_at "wps"
      rw [sto_set]
      refine ⟨by rw [List.length_map, sizeLine_eq]; omega, _, _, _, b ++ [s], a2, v2, rfl, by simp, by simp [q1], by omega, by omega, fun e he => ?_, fun e he => ?_⟩
      · rcases List.mem_append.mp he with m | m
        · exact q4 e m
        · rw [List.mem_singleton.mp m]; exact s1
      · rcases List.mem_append.mp he with m | m
        · exact q5 e m
        · rw [List.mem_singleton.mp m]; exact s2
  · rintro ρ st ⟨t, x1, y1, b, a1, v1, rfl, rfl, q1, q2, q3, q4, q5⟩
    rw [upFrom_len] at q1 q3
    walk_at "wps"
    rw [sto_get]
    walk_at "wps"
    refine ⟨a1, v1, _, rfl, ?_, by omega, by omega, b, rfl, q1, q4, q5⟩
    rw [← sto_len (o := o) (cs := cs) (a := a) (v := v)]
    exact take_sto
omit H in
theorem nc_a : ("and" : Str) = "and" := rfl
/-- how many cuts a saying of and, or alone has -/
def Sy.lv : Sy → Nat
  | .under _ _ => 1
  | .nt s => s.lv
  | .con a b => a.lv + b.lv
  | .dis a b => a.lv + b.lv
structure Sy.Fl (p : Int → Int → Prop) (s : Sy) : Prop where
  all : s.all p
  deep : s.depth ≤ s.lv
  parts : s.parts + 1 = 2 * s.lv
def lvs (ss : List Sy) : Nat := (ss.map Sy.lv).sum
omit H in
theorem two_at : ∀ (j : Nat) (ss : List Sy), j + 1 < ss.length → ∃ pre x y post, ss = pre ++ x :: y :: post ∧ pre.length = j
  | 0, x :: y :: post, _ => ⟨[], x, y, post, rfl, rfl⟩
  | j + 1, s :: ss, h => by
    obtain ⟨pre, x, y, post, e, hl⟩ := two_at j ss (by simpa using h)
    exact ⟨s :: pre, x, y, post, by rw [e]; rfl, by simp [hl]⟩
  | 0, [], h => by simp at h
  | 0, [_], h => by simp at h
  | _ + 1, [], h => by simp at h
theorem full_draw (h : T.lookup ("_law_o_full" : Str) = some ir_o_full) (p : Int → Int → Prop) (ks : List (Int × Int)) (hp : ∀ c ∈ ks, p c.1 c.2) (hn : 0 < ks.length) (hz : ks.length < 1000) (k : Nat) (a v : Int) (r : Sto) (hk : 4 ≤ k) (h0 : 0 ≤ a) (h1 : a + 30 < 1000000000) :
    Wp (run T k "_law_o_full" [.ref 1, .d (.list (ks.map ctD))] (sto o cs a v r)) (Gn o cs a r 30 fun d => ∃ s : Sy, d = s.d ∧ s.all p ∧ s.depth ≤ 8 ∧ s.parts ≤ 15) E0' := by
  have z : ∀ n : Nat, n ≤ 13 → n ≤ sizeLine := fun n hn => by rw [sizeLine_eq]; omega
  obtain ⟨k, rfl⟩ : ∃ j, k = j + 1 := ⟨k - 1, by omega⟩
  rw [run_at h]
  unfold FnI.run ir_o_full Mode.of
  rw [w_scope]
  walk_at "wps"
  refine ⟨⟨by decide, by decide⟩, ?_⟩
  refine wc_inv (fun i ys st => ∃ (a2 v2 : Int) (ss : List Sy), st = sto o cs a2 v2 r ∧ a ≤ a2 ∧ a2 ≤ a + i ∧ ys = ss.map Sy.d ∧ ss.length = i ∧ (∀ s ∈ ss, s.Fl p) ∧ lvs ss = i) ⟨a, v, [], rfl, by omega, by omega, rfl, rfl, fun s h => (nomatch h), rfl⟩ ?_ ?_
  · rintro i x ys st hx ⟨a2, v2, ss, rfl, h2, h3, rfl, hl, hc, hv⟩
    have hi : i < 8 := by
      have := (List.getElem?_eq_some_iff.mp hx).1
      rw [upFrom_len] at this
      exact this
    walk_at "wps"
    refine ⟨z _ (by decide), ?_⟩
    refine Wp.mono (take' H o cs k a2 v2 r _ (by omega) (by omega) (by omega) (by rw [List.length_map]; omega) (by rw [List.length_map]; omega)) ?_ fun _ _ h => h.elim
    rintro x st ⟨a3, v3, d3, rfl, rfl, h4, h5, j, rfl, j0, j1⟩
    rw [List.length_map] at j1
    obtain ⟨c, hc2, ec⟩ := ix_cut j0 j1
    walk_at "wps"
    rw [ec]
    unfold ctD
    walk_at "wps"
    refine ⟨z _ (by decide), a3, v3, ss ++ [.under c.1 c.2], rfl, by omega, by omega, by simp [Sy.d], by simp [hl], fun e he => ?_, ?_⟩
    · rcases List.mem_append.mp he with m | m
      · exact hc e m
      · rw [List.mem_singleton.mp m]; exact ⟨hp c hc2, Nat.le_refl _, rfl⟩
    · unfold lvs at *
      rw [List.map_append, List.sum_append, hv]
      rfl
  · rintro ys st ⟨a2, v2, ss, rfl, h2, h3, rfl, hl, hc, hv⟩
    rw [upFrom_len] at h3 hl hv
    walk_at "wps"
    refine while_inv (fun ρ st => ∃ (x y t : Option Vv) (ss : List Sy) (a3 v3 : Int), ρ = [some (.ref 1), some (.d (.list (ks.map ctD))), some (.d (.list (ss.map Sy.d))), x, y, t] ∧ st = sto o cs a3 v3 r ∧ a ≤ a3 ∧ a3 + 2 * ss.length ≤ a + 24 ∧ 0 < ss.length ∧ ss.length ≤ 8 ∧ (∀ s ∈ ss, s.Fl p) ∧ lvs ss = 8)
      (fun ρ st => match nth ρ 2 with
        | some (.d (.list xs)) => xs.length
        | _ => 0) ⟨none, none, none, ss, a2, v2, rfl, rfl, by omega, by omega, by omega, by omega, hc, by omega⟩ ?_ ?_
    · show (ss.map Sy.d).length < 64
      rw [List.length_map]
      omega
    · rintro ρ st ⟨x, y, t, ss, a3, v3, rfl, rfl, q1, q2, q3, q4, q5, q6⟩
      walk_at "wps"
      rw [List.length_map]
      split
      · rename_i hlen
        refine Wp.mono (take' H o cs k a3 v3 r _ (by omega) (by omega) (by omega) (by unfold minI; split <;> omega) (by unfold minI; split <;> omega)) ?_ fun _ _ h => h.elim
        rintro x st ⟨a4, v4, d4, rfl, rfl, h4, h5, j, rfl, j0, j1⟩
        obtain ⟨j, rfl⟩ : ∃ n : Nat, j = n := ⟨j.toNat, by omega⟩
        have j2 : j + 1 < ss.length := by
          unfold minI at j1
          split at j1 <;> omega
        obtain ⟨pre, s1, s2, post, rfl, hpre⟩ := two_at j ss j2
        walk_at "wps"
        refine ⟨z _ (by decide), ?_⟩
        refine Wp.mono (take' H o cs k a4 v4 r 2 (by omega) (by omega) (by omega) (by decide) (by decide)) ?_ fun _ _ h => h.elim
        rintro x st ⟨a5, v5, d5, rfl, rfl, h6, h7, w, rfl, w0, w1⟩
        walk_at "wps"
        have e1 : atI ((pre ++ s1 :: s2 :: post).map Sy.d) (j : Int) = some s1.d := atI_get (by omega) (by rw [Int.toNat_natCast, List.map_append, ← hpre, List.getElem?_append_right (by rw [List.length_map]; omega), List.length_map, Nat.sub_self]; rfl)
        have e2 : atI ((pre ++ s1 :: s2 :: post).map Sy.d) ((j : Int) + 1) = some s2.d := atI_get (by omega) (by rw [show ((j : Int) + 1).toNat = j + 1 by omega, List.map_append, ← hpre, List.getElem?_append_right (by rw [List.length_map]; omega), List.length_map, show pre.length + 1 - pre.length = 1 by omega]; rfl)
        have e3 : cutD ((pre ++ s1 :: s2 :: post).map Sy.d) none (some (j : Int)) = pre.map Sy.d := by
          rw [cut_to, List.map_append, ← hpre, ← List.length_map (f := Sy.d), List.take_left]
        have e4 : cutD ((pre ++ s1 :: s2 :: post).map Sy.d) (some ((j : Int) + 2)) none = post.map Sy.d := by
          rw [show (j : Int) + 2 = ((j + 2 : Nat) : Int) by omega, cut_from, List.map_append, ← hpre, ← List.length_map (f := Sy.d), ← List.drop_drop, List.drop_left]
          rfl
        have f1 := q5 s1 (by simp)
        have f2 := q5 s2 (by simp)
        have g1 := f1.parts
        have g2 := f2.parts
        have g3 := f1.deep
        have g4 := f2.deep
        have ln : (pre ++ s1 :: s2 :: post).length = pre.length + post.length + 2 := by simp; omega
        have lsum : lvs (pre ++ s1 :: s2 :: post) = lvs pre + (s1.lv + (s2.lv + lvs post)) := by unfold lvs; simp
        have new : ∀ (n : Sy), n.d = n.d → n.Fl p → n.lv = s1.lv + s2.lv → (∀ s ∈ pre ++ [n] ++ post, s.Fl p) ∧ lvs (pre ++ [n] ++ post) = 8 := fun n _ fn ln => by
          refine ⟨fun s hs => ?_, ?_⟩
          · rcases List.mem_append.mp hs with m | m
            · rcases List.mem_append.mp m with m | m
              · exact q5 s (List.mem_append.mpr (.inl m))
              · rw [List.mem_singleton.mp m]; exact fn
            · exact q5 s (List.mem_append.mpr (.inr (List.mem_cons_of_mem _ (List.mem_cons_of_mem _ m))))
          · have : lvs (pre ++ [n] ++ post) = lvs pre + (n.lv + lvs post) := by unfold lvs; simp [Nat.add_assoc]
            omega
        have two : w = 0 ∨ w = 1 := by omega
        rw [e3]
        rcases two with rfl | rfl
        · rw [at0]
          walk_at "wps"
          rw [e1]
          walk_at "wps"
          rw [e2]
          walk_at "wps"
          rw [e4]
          have nn := new (.con s1 s2) rfl ⟨⟨f1.all, f2.all⟩, by show 1 + max s1.depth s2.depth ≤ s1.lv + s2.lv; omega, by show 1 + (s1.parts + s2.parts) + 1 = 2 * (s1.lv + s2.lv); omega⟩ rfl
          refine ⟨z _ (by decide), z _ (by decide), by rw [List.length_map, sizeLine_eq]; omega, by simp only [List.length_append, List.length_map, List.length_cons, List.length_nil]; rw [sizeLine_eq]; omega, ⟨some (.d (.int (j : Int))), some (.d (.tuple [.str "and", s1.d, s2.d])), t, pre ++ [.con s1 s2] ++ post, a5, v5, ?_, rfl, by omega, ?_, ?_, ?_, nn.1, nn.2⟩, ?_⟩
          · simp [Sy.d]
          · have : (pre ++ [Sy.con s1 s2] ++ post).length = pre.length + post.length + 1 := by simp; omega
            omega
          · simp; omega
          · have : (pre ++ [Sy.con s1 s2] ++ post).length = pre.length + post.length + 1 := by simp; omega
            omega
          · simp
        · rw [at1]
          walk_at "wps"
          rw [e1]
          walk_at "wps"
          rw [e2]
          walk_at "wps"
          rw [e4]
          have nn := new (.dis s1 s2) rfl ⟨⟨f1.all, f2.all⟩, by show 1 + max s1.depth s2.depth ≤ s1.lv + s2.lv; omega, by show 1 + (s1.parts + s2.parts) + 1 = 2 * (s1.lv + s2.lv); omega⟩ rfl
          refine ⟨z _ (by decide), z _ (by decide), by rw [List.length_map, sizeLine_eq]; omega, by simp only [List.length_append, List.length_map, List.length_cons, List.length_nil]; rw [sizeLine_eq]; omega, ⟨some (.d (.int (j : Int))), some (.d (.tuple [.str "or", s1.d, s2.d])), t, pre ++ [.dis s1 s2] ++ post, a5, v5, ?_, rfl, by omega, ?_, ?_, ?_, nn.1, nn.2⟩, ?_⟩
          · simp [Sy.d]
          · have : (pre ++ [Sy.dis s1 s2] ++ post).length = pre.length + post.length + 1 := by simp; omega
            omega
          · simp; omega
          · have : (pre ++ [Sy.dis s1 s2] ++ post).length = pre.length + post.length + 1 := by simp; omega
            omega
          · simp
      · rename_i hlen
        obtain ⟨s, rfl⟩ : ∃ s, ss = [s] := by
          cases ss with
          | nil => simp at q3
          | cons s ss =>
            cases ss with
            | nil => exact ⟨s, rfl⟩
            | cons s' ss => simp at hlen; omega
        have fs := q5 s (by simp)
        have f1 := fs.deep
        have f2 := fs.parts
        have f3 : s.lv = 8 := by
          have : lvs [s] = s.lv := by unfold lvs; simp
          omega
        rw [List.map_cons, at0]
        walk_at "wps"
        exact ⟨a3, v3, _, rfl, take_sto0, by omega, by simp at q2; omega, s, rfl, fs.all, by omega, by omega⟩
end
end L2.Q

set_option maxHeartbeats 2000000
namespace L2.Q
open PySem PySem.Spec PyProof.Rows
local macro_rules | `(tactic| walk_at "wps") => `(tactic| simp (config := { failIfUnchanged := false, maxSteps := 10000000 }) only [w_var, w_int, w_str, w_bl, w_non, w_gint, w_gstr, w_bin, w_cmp, w_idx, w_tabGet, w_tabIx, w_chain, w_nt, w_neg, w_ife, w_conj1, w_conj, w_disj1, w_disj, wl_nil, wl_cons, w_tup, w_lst, w_new, w_call, w_bf, w_isi,
  w_frz, w_newL, w_litGet, w_bm, w_isx, w_isxB, w_fld, s_tryAs, t_nil, t_cons, t_set, t_doE, t_ifs, bm_c, bm_i, bm_s, isx_e, isx_n, isx_t, dat_n, isN_d, add_s, w_compN, w_catN,  w_ext, ext2, w_pop, wi_zip, wi_rngD, w_dct0, w_rev,  wo_no, wo_at, w_sl, w_app, wi_items, wi_rng1, wi_rng2, wi_enum, w_comp, cut1, wc_nil, wc_cons, wt_no, wt_at, b_nil, b_cons, s_set, s_asg, s_par, s_setIx, s_ret, s_retN, s_ifs, s_for, s_raise, s_doE, s_bk, s_ct, s_pass, w_body, start1, startN, start_0, retF_ret, retF_nx, wp_ok, wp_exc, wp_bind, ws_ok,
  nth, put, clear, wipe_0, wipe_c, onO_some, onO_none, onO_if, onO_map, onO_bind, onB_t, onB_f, onB_not, onB_b, onD_d, onF_nx, onF_ret, onF_bk, onF_ct, onI_i, items_l, items_t, deref_d, deref_r, drf_l, drf_f, bin2, setIx3_r, app2_r, frz1_r, onL_l, List.take_succ_cons, List.take_length, List.take_left, get_0, get_s, set_0, set_s, ix31, ix32, at0, at1, at2, at3, frz1_d, listOf_l, listOf_t, derefs_n, derefs_c, allD_n, allD_c,
  Option.map_some, Option.map_none, Option.bind_some, Option.bind_none, List.length_cons, List.length_nil, Nat.zero_add, Nat.reduceAdd, Int.cast_ofNat_Int, Int.natCast_zero, Int.natCast_one,
  add_i, sub_i, mul_i, div_i, mod_i, pow_i, add_t, add_l, lt_i, le_i, gt_i, ge_i, eq_i, ne_i, eq_s, ne_s, eq_b, is_n, isnot_n, isN_n, isN_i, idx_t, idx_l, sl_t, sl_l, tab_s, tab_g, len_t, len_l, min2_i, max2_i, min3_i, int_b, int_i, tuple_l, tuple_t, list_l, list_t, all_l, any_l, sum_l, max1_l, min1_l,
  asg_n, asg_t0, asg_t, isi_iI, isi_bI, isi_sI, isi_tI, isi_sS, isi_tT, Bool.not_true, Bool.not_false, decide_eq_true_eq, beq_iff_eq, if_true, if_false, ite_true, ite_false, true_and, and_true, Bool.false_eq_true, reduceIte, eq_self_iff_true, beq_self_eq_true, str_inj, String.reduceEq, Int.reduceBEq, Int.reduceEq, Nat.reduceEqDiff, not_true_eq_false, not_false_eq_true, Bool.true_and, Bool.and_true, Bool.false_and, Bool.and_false, Bool.or_false, Bool.false_or, Bool.true_or, Bool.or_true, false_and, and_false, decide_true, decide_false, zi_int_none, zi_int_bool, zi_int_int, zi_int_str, zi_int_list, zi_int_tuple, zi_int_dict, zi_bool_none, zi_bool_bool, zi_bool_int, zi_bool_str, zi_bool_list, zi_bool_tuple, zi_bool_dict, zi_str_none, zi_str_bool, zi_str_int, zi_str_str, zi_str_list, zi_str_tuple, zi_str_dict, zi_tuple_none, zi_tuple_bool, zi_tuple_int, zi_tuple_str, zi_tuple_list, zi_tuple_tuple, zi_tuple_dict, zi_list_none, zi_list_bool, zi_list_int, zi_list_str, zi_list_list, zi_list_tuple, zi_list_dict, zi_dict_none, zi_dict_bool, zi_dict_int, zi_dict_str, zi_dict_list, zi_dict_tuple, zi_dict_dict, eq_tt, ne_tt, get_cc, set_cc, lit_s, rev_t, rev_l, only_l, cat2_e, sizeLine_eq, is_t, is_s, is_l, is_b, List.isEmpty_cons, List.isEmpty_nil, Nat.reduceLeDiff, Int.reduceLE, Int.reduceLT, Int.reduceAdd, Int.reduceSub, Int.reduceNeg, Int.reduceToNat, Int.reduceMul, Nat.reduceLT, Option.getD_some, Option.getD_none, onD_d, Nat.zero_le])
local macro_rules | `(tactic| walk_at "wpl") => `(tactic| simp (config := { failIfUnchanged := false, maxSteps := 10000000 }) only [w_var, w_int, w_str, w_bl, w_non, w_gint, w_gstr, w_bin, w_cmp, w_idx, w_tabGet, w_tabIx, w_chain, w_nt, w_neg, w_ife, w_conj1, w_conj, w_disj1, w_disj, wl_nil, wl_cons, w_tup, w_lst, w_new, w_call, w_bf, w_isi,
  w_frz, w_newL, w_litGet, w_bm, w_isx, w_isxB, w_fld, s_tryAs, t_nil, t_cons, t_set, t_doE, t_ifs, bm_c, bm_i, bm_s, isx_e, isx_n, isx_t, dat_n, isN_d, add_s, w_compN, w_catN,  w_ext, ext2, w_pop, wi_zip, wi_rngD, w_dct0, w_rev,  wo_no, wo_at, w_sl, w_app, wi_items, wi_rng1, wi_rng2, wi_enum, w_comp, cut1, wt_no, wt_at, b_nil, b_cons, s_set, s_asg, s_par, s_setIx, s_ret, s_retN, s_ifs, s_for, s_raise, s_doE, s_bk, s_ct, s_pass, w_body, start1, startN, start_0, retF_ret, retF_nx, wp_ok, wp_exc, wp_bind, ws_ok,
  nth, put, clear, wipe_0, wipe_c, onO_some, onO_none, onO_if, onO_map, onO_bind, onB_t, onB_f, onB_not, onB_b, onD_d, onF_nx, onF_ret, onF_bk, onF_ct, onI_i, items_l, items_t, deref_d, deref_r, drf_l, drf_f, bin2, setIx3_r, app2_r, frz1_r, onL_l, List.take_succ_cons, List.take_length, List.take_left, get_0, get_s, set_0, set_s, ix31, ix32, at0, at1, at2, at3, frz1_d, listOf_l, listOf_t, derefs_n, derefs_c, allD_n, allD_c,
  Option.map_some, Option.map_none, Option.bind_some, Option.bind_none, List.length_cons, List.length_nil, Nat.zero_add, Nat.reduceAdd, Int.cast_ofNat_Int, Int.natCast_zero, Int.natCast_one,
  add_i, sub_i, mul_i, div_i, mod_i, pow_i, add_t, add_l, lt_i, le_i, gt_i, ge_i, eq_i, ne_i, eq_s, ne_s, eq_b, is_n, isnot_n, isN_n, isN_i, idx_t, idx_l, sl_t, sl_l, tab_s, tab_g, len_t, len_l, min2_i, max2_i, min3_i, int_b, int_i, tuple_l, tuple_t, list_l, list_t, all_l, any_l, sum_l, max1_l, min1_l,
  asg_n, asg_t0, asg_t, isi_iI, isi_bI, isi_sI, isi_tI, isi_sS, isi_tT, Bool.not_true, Bool.not_false, decide_eq_true_eq, beq_iff_eq, if_true, if_false, ite_true, ite_false, true_and, and_true, Bool.false_eq_true, reduceIte, eq_self_iff_true, beq_self_eq_true, str_inj, String.reduceEq, Int.reduceBEq, Int.reduceEq, Nat.reduceEqDiff, not_true_eq_false, not_false_eq_true, Bool.true_and, Bool.and_true, Bool.false_and, Bool.and_false, Bool.or_false, Bool.false_or, Bool.true_or, Bool.or_true, false_and, and_false, decide_true, decide_false, zi_int_none, zi_int_bool, zi_int_int, zi_int_str, zi_int_list, zi_int_tuple, zi_int_dict, zi_bool_none, zi_bool_bool, zi_bool_int, zi_bool_str, zi_bool_list, zi_bool_tuple, zi_bool_dict, zi_str_none, zi_str_bool, zi_str_int, zi_str_str, zi_str_list, zi_str_tuple, zi_str_dict, zi_tuple_none, zi_tuple_bool, zi_tuple_int, zi_tuple_str, zi_tuple_list, zi_tuple_tuple, zi_tuple_dict, zi_list_none, zi_list_bool, zi_list_int, zi_list_str, zi_list_list, zi_list_tuple, zi_list_dict, zi_dict_none, zi_dict_bool, zi_dict_int, zi_dict_str, zi_dict_list, zi_dict_tuple, zi_dict_dict, eq_tt, ne_tt, get_cc, set_cc, lit_s, rev_t, rev_l, only_l, cat2_e, sizeLine_eq, is_t, is_s, is_l, is_b, List.isEmpty_cons, List.isEmpty_nil, Nat.reduceLeDiff, Int.reduceLE, Int.reduceLT, Int.reduceAdd, Int.reduceSub, Int.reduceNeg, Int.reduceToNat, Int.reduceMul, Nat.reduceLT, Option.getD_some, Option.getD_none, onD_d, Nat.zero_le])
-- BODY
/-! Draws, asked from what follows. -/
section
variable {T : FTab} (H : HasPen T) {o : Ob} {cs : List Int} {k : Nat} {a v : Int} {r : Sto} {P : Vv → Sto → Prop} {E : XE'}
include H
theorem take_w {m : Int} (hk : 2 ≤ k) (h0 : 0 ≤ a) (h1 : a < 1000000000) (m0 : 0 < m) (m1 : m < 1073741824) (f : ∀ a1 v1 i, a ≤ a1 → a1 ≤ a + 1 → 0 ≤ i → i < m → P (.d (.int i)) (sto o cs a1 v1 r)) : Wp (run T k "_law_take" [.ref 1, .d (.int m)] (sto o cs a v r)) P E := by
  refine Wp.mono (take' H o cs k a v r m hk h0 h1 m0 m1) ?_ fun _ _ h => h.elim
  rintro x st ⟨a1, v1, d1, rfl, rfl, ha1, hb1, i, rfl, i0, i1⟩
  exact f a1 v1 i ha1 hb1 i0 i1
theorem take_W {m : Int} (hk : 2 ≤ k) (h0 : 0 ≤ a) (h1 : a < 1000000000) (m0 : 0 < m) (m1 : m < 1606938044258990275541962092341162602522202993782792835301376) (f : ∀ a1 v1 i, a ≤ a1 → a1 ≤ a + 1 → 0 ≤ i → i < m → P (.d (.int i)) (sto o cs a1 v1 r)) : Wp (run T k "_law_take" [.ref 1, .d (.int m)] (sto o cs a v r)) P E := by
  obtain ⟨k, rfl⟩ : ∃ j, k = j + 2 := ⟨k - 2, by omega⟩
  refine Wp.mono (take_okW H.spread H.take o cs a v r m h0 h1 m0 m1) ?_ fun _ _ h => h.elim
  rintro x st ⟨a1, v1, d1, rfl, rfl, ha1, hb1, i, rfl, i0, i1⟩
  exact f a1 v1 i ha1 hb1 i0 i1
theorem bound_w (hk : 3 ≤ k) (h0 : 0 ≤ a) (h1 : a + 3 < 1000000000) (f : ∀ a1 v1 i, a ≤ a1 → a1 ≤ a + 3 → Bnd i → P (.d (.int i)) (sto o cs a1 v1 r)) : Wp (run T k "_law_o_bound" [.ref 1] (sto o cs a v r)) P E := by
  refine Wp.mono (bound_ok H o cs k a v r hk h0 h1) ?_ fun _ _ h => h.elim
  rintro x st ⟨a1, v1, d1, rfl, rfl, ha1, hb1, i, rfl, hi⟩
  exact f a1 v1 i ha1 hb1 hi
theorem cuts_w {w m : Int} (hk : 4 ≤ k) (h0 : 0 ≤ a) (h1 : a + 1 + 4 * m < 1000000000) (w0 : 0 < w) (w1 : w < 1073741824) (m0 : 0 < m) (m1 : m < 1000)
    (f : ∀ a1 v1 (ks : List (Int × Int)), a ≤ a1 → a1 ≤ a + (1 + 4 * m) → 0 < ks.length → (ks.length : Int) ≤ m → (∀ c ∈ ks, (0 ≤ c.1 ∧ c.1 < w) ∧ Bnd c.2) → P (.d (.list (ks.map ctD))) (sto o cs a1 v1 r)) : Wp (run T k "_law_o_cuts" [.ref 1, .d (.int w), .d (.int m)] (sto o cs a v r)) P E := by
  refine Wp.mono (cuts_ok H o cs k a v r w m hk h0 h1 w0 w1 m0 m1) ?_ fun _ _ h => h.elim
  rintro x st ⟨a1, v1, d1, rfl, rfl, ha1, hb1, ks, rfl, h1, h2, h3⟩
  exact f a1 v1 ks ha1 hb1 h1 h2 h3
end
section
variable {T : FTab} (H : HasDraw T) {o : Ob} {cs : List Int} {k : Nat} {a v : Int} {r : Sto} {P : Vv → Sto → Prop} {E : XE'}
include H
theorem saying_w (p : Int → Int → Prop) {ks : List (Int × Int)} (hp : ∀ c ∈ ks, p c.1 c.2) (hn : 0 < ks.length) (hz : ks.length < 1000) (hk : 10 ≤ k) (h0 : 0 ≤ a) (h1 : a + 40 < 1000000000)
    (f : ∀ a1 v1 (s : Sy), a ≤ a1 → a1 ≤ a + 40 → s.all p → s.depth ≤ 8 → s.parts ≤ 15 → P (.d s.d) (sto o cs a1 v1 r)) : Wp (run T k "_law_o_saying" [.ref 1, .d (.list (ks.map ctD))] (sto o cs a v r)) P E := by
  refine Wp.mono (saying_draw H o cs p ks hp hn hz k a v r hk h0 h1) ?_ fun _ _ h => h.elim
  rintro x st ⟨a1, v1, d1, rfl, rfl, ha1, hb1, s, rfl, h1, h2, h3⟩
  exact f a1 v1 s ha1 hb1 h1 h2 h3
end
theorem atD {xs : List PyData} {i : Int} (h0 : 0 ≤ i) (h1 : i < xs.length) : ∃ x, x ∈ xs ∧ atI xs i = some x := by
  obtain ⟨x, e1, e2⟩ := atI_nat h0 h1
  exact ⟨x, List.mem_of_getElem? e2, e1⟩
/-- .. with what all of them are -/
theorem at_all {xs : List PyData} {p : PyData → Prop} {i : Int} (h : ∀ x ∈ xs, p x) (h0 : 0 ≤ i) (h1 : i < xs.length) : ∃ x, p x ∧ atI xs i = some x := by
  obtain ⟨x, e1, e2⟩ := atD h0 h1
  exact ⟨x, h x e1, e2⟩
end L2.Q

set_option maxHeartbeats 2000000
namespace L2.Q
open PySem PySem.Spec PyProof.Rows
local macro_rules | `(tactic| walk_at "wps") => `(tactic| simp (config := { failIfUnchanged := false, maxSteps := 10000000 }) only [w_var, w_int, w_str, w_bl, w_non, w_gint, w_gstr, w_bin, w_cmp, w_idx, w_tabGet, w_tabIx, w_chain, w_nt, w_neg, w_ife, w_conj1, w_conj, w_disj1, w_disj, wl_nil, wl_cons, w_tup, w_lst, w_new, w_call, w_bf, w_isi,
  w_frz, w_newL, w_uniq, w_usort, okB_f, okB_t, list1_l, w_litGet, is_bb, isnot_bb, w_bm, w_isx, w_isxB, w_fld, s_tryAs, t_nil, t_cons, t_set, t_doE, t_ifs, bm_c, bm_i, bm_s, isx_e, isx_n, isx_t, dat_n, isN_d, add_s, w_compN, w_catN,  w_ext, ext2, w_pop, wi_zip, wi_rngD, w_dct0, w_rev,  wo_no, wo_at, w_sl, w_app, wi_items, wi_rng1, wi_rng2, wi_enum, w_comp, cut1, wc_nil, wc_cons, wt_no, wt_at, b_nil, b_cons, s_set, s_asg, s_par, s_setIx, s_ret, s_retN, s_ifs, s_for, s_raise, s_doE, s_bk, s_ct, s_pass, w_body, start1, startN, start_0, retF_ret, retF_nx, wp_ok, wp_exc, wp_bind, ws_ok,
  nth, put, clear, wipe_0, wipe_c, onO_some, onO_none, onO_if, onO_map, onO_bind, onB_t, onB_f, onB_not, onB_b, onD_d, onF_nx, onF_ret, onF_bk, onF_ct, onI_i, items_l, items_t, deref_d, deref_r, drf_l, drf_f, bin2, setIx3_r, app2_r, frz1_r, onL_l, List.take_succ_cons, List.take_length, List.take_left, get_0, get_s, set_0, set_s, ix31, ix32, at0, at1, at2, at3, frz1_d, listOf_l, listOf_t, derefs_n, derefs_c, allD_n, allD_c,
  Option.map_some, Option.map_none, Option.bind_some, Option.bind_none, List.length_cons, List.length_nil, Nat.zero_add, Nat.reduceAdd, Int.cast_ofNat_Int, Int.natCast_zero, Int.natCast_one,
  add_i, sub_i, mul_i, div_i, mod_i, pow_i, add_t, add_l, lt_i, le_i, gt_i, ge_i, eq_i, ne_i, eq_s, ne_s, eq_b, is_n, isnot_n, isN_n, isN_i, idx_t, idx_l, sl_t, sl_l, tab_s, tab_g, len_t, len_l, min2_i, max2_i, min3_i, int_b, int_i, tuple_l, tuple_t, list_l, list_t, all_l, any_l, sum_l, max1_l, min1_l,
  asg_n, asg_t0, asg_t, isi_iI, isi_bI, isi_sI, isi_tI, isi_sS, isi_tT, Bool.not_true, Bool.not_false, decide_eq_true_eq, beq_iff_eq, if_true, if_false, ite_true, ite_false, true_and, and_true, Bool.false_eq_true, reduceIte, eq_self_iff_true, beq_self_eq_true, str_inj, String.reduceEq, Int.reduceBEq, Int.reduceEq, Nat.reduceEqDiff, not_true_eq_false, not_false_eq_true, Bool.true_and, Bool.and_true, Bool.false_and, Bool.and_false, Bool.or_false, Bool.false_or, Bool.true_or, Bool.or_true, false_and, and_false, decide_true, decide_false, zi_int_none, zi_int_bool, zi_int_int, zi_int_str, zi_int_list, zi_int_tuple, zi_int_dict, zi_bool_none, zi_bool_bool, zi_bool_int, zi_bool_str, zi_bool_list, zi_bool_tuple, zi_bool_dict, zi_str_none, zi_str_bool, zi_str_int, zi_str_str, zi_str_list, zi_str_tuple, zi_str_dict, zi_tuple_none, zi_tuple_bool, zi_tuple_int, zi_tuple_str, zi_tuple_list, zi_tuple_tuple, zi_tuple_dict, zi_list_none, zi_list_bool, zi_list_int, zi_list_str, zi_list_list, zi_list_tuple, zi_list_dict, zi_dict_none, zi_dict_bool, zi_dict_int, zi_dict_str, zi_dict_list, zi_dict_tuple, zi_dict_dict, eq_tt, ne_tt, get_cc, set_cc, lit_s, rev_t, rev_l, only_l, cat2_e, sizeLine_eq, is_t, is_s, is_l, is_b, List.isEmpty_cons, List.isEmpty_nil, Nat.reduceLeDiff, Int.reduceLE, Int.reduceLT, Int.reduceAdd, Int.reduceSub, Int.reduceNeg, Int.reduceToNat, Int.reduceMul, Nat.reduceLT, Option.getD_some, Option.getD_none, onD_d, Nat.zero_le])
local macro_rules | `(tactic| walk_at "wpl") => `(tactic| simp (config := { failIfUnchanged := false, maxSteps := 10000000 }) only [w_var, w_int, w_str, w_bl, w_non, w_gint, w_gstr, w_bin, w_cmp, w_idx, w_tabGet, w_tabIx, w_chain, w_nt, w_neg, w_ife, w_conj1, w_conj, w_disj1, w_disj, wl_nil, wl_cons, w_tup, w_lst, w_new, w_call, w_bf, w_isi,
  w_frz, w_newL, w_uniq, w_usort, okB_f, okB_t, list1_l, w_litGet, is_bb, isnot_bb, w_bm, w_isx, w_isxB, w_fld, s_tryAs, t_nil, t_cons, t_set, t_doE, t_ifs, bm_c, bm_i, bm_s, isx_e, isx_n, isx_t, dat_n, isN_d, add_s, w_compN, w_catN,  w_ext, ext2, w_pop, wi_zip, wi_rngD, w_dct0, w_rev,  wo_no, wo_at, w_sl, w_app, wi_items, wi_rng1, wi_rng2, wi_enum, w_comp, cut1, wt_no, wt_at, b_nil, b_cons, s_set, s_asg, s_par, s_setIx, s_ret, s_retN, s_ifs, s_for, s_raise, s_doE, s_bk, s_ct, s_pass, w_body, start1, startN, start_0, retF_ret, retF_nx, wp_ok, wp_exc, wp_bind, ws_ok,
  nth, put, clear, wipe_0, wipe_c, onO_some, onO_none, onO_if, onO_map, onO_bind, onB_t, onB_f, onB_not, onB_b, onD_d, onF_nx, onF_ret, onF_bk, onF_ct, onI_i, items_l, items_t, deref_d, deref_r, drf_l, drf_f, bin2, setIx3_r, app2_r, frz1_r, onL_l, List.take_succ_cons, List.take_length, List.take_left, get_0, get_s, set_0, set_s, ix31, ix32, at0, at1, at2, at3, frz1_d, listOf_l, listOf_t, derefs_n, derefs_c, allD_n, allD_c,
  Option.map_some, Option.map_none, Option.bind_some, Option.bind_none, List.length_cons, List.length_nil, Nat.zero_add, Nat.reduceAdd, Int.cast_ofNat_Int, Int.natCast_zero, Int.natCast_one,
  add_i, sub_i, mul_i, div_i, mod_i, pow_i, add_t, add_l, lt_i, le_i, gt_i, ge_i, eq_i, ne_i, eq_s, ne_s, eq_b, is_n, isnot_n, isN_n, isN_i, idx_t, idx_l, sl_t, sl_l, tab_s, tab_g, len_t, len_l, min2_i, max2_i, min3_i, int_b, int_i, tuple_l, tuple_t, list_l, list_t, all_l, any_l, sum_l, max1_l, min1_l,
  asg_n, asg_t0, asg_t, isi_iI, isi_bI, isi_sI, isi_tI, isi_sS, isi_tT, Bool.not_true, Bool.not_false, decide_eq_true_eq, beq_iff_eq, if_true, if_false, ite_true, ite_false, true_and, and_true, Bool.false_eq_true, reduceIte, eq_self_iff_true, beq_self_eq_true, str_inj, String.reduceEq, Int.reduceBEq, Int.reduceEq, Nat.reduceEqDiff, not_true_eq_false, not_false_eq_true, Bool.true_and, Bool.and_true, Bool.false_and, Bool.and_false, Bool.or_false, Bool.false_or, Bool.true_or, Bool.or_true, false_and, and_false, decide_true, decide_false, zi_int_none, zi_int_bool, zi_int_int, zi_int_str, zi_int_list, zi_int_tuple, zi_int_dict, zi_bool_none, zi_bool_bool, zi_bool_int, zi_bool_str, zi_bool_list, zi_bool_tuple, zi_bool_dict, zi_str_none, zi_str_bool, zi_str_int, zi_str_str, zi_str_list, zi_str_tuple, zi_str_dict, zi_tuple_none, zi_tuple_bool, zi_tuple_int, zi_tuple_str, zi_tuple_list, zi_tuple_tuple, zi_tuple_dict, zi_list_none, zi_list_bool, zi_list_int, zi_list_str, zi_list_list, zi_list_tuple, zi_list_dict, zi_dict_none, zi_dict_bool, zi_dict_int, zi_dict_str, zi_dict_list, zi_dict_tuple, zi_dict_dict, eq_tt, ne_tt, get_cc, set_cc, lit_s, rev_t, rev_l, only_l, cat2_e, sizeLine_eq, is_t, is_s, is_l, is_b, List.isEmpty_cons, List.isEmpty_nil, Nat.reduceLeDiff, Int.reduceLE, Int.reduceLT, Int.reduceAdd, Int.reduceSub, Int.reduceNeg, Int.reduceToNat, Int.reduceMul, Nat.reduceLT, Option.getD_some, Option.getD_none, onD_d, Nat.zero_le])
-- BODY
/-! shared by several laws: rows, shapes, parts of a thing. -/
def ir_is_row : FnI := ⟨["width", "thing"], ["width", "thing", "part"], .pure, (.cons (.doE (.call 1 "need_width" (.cons (.var 0) .nil))) (.cons (.ret (.conj (.cons (.isi .tuple (.var 1)) (.cons (.cmp .Eq (.bf .len (.cons (.var 1) .nil)) (.var 0)) (.cons (.bf .all (.cons (.comp [2] (.name 2) (.items (.var 1)) .no (.call 1 "is_whole" (.cons (.var 2) .nil))) .nil)) .nil))))) .nil))⟩
def ir_o_row : FnI := ⟨["_law_pen", "_law_width", "_law_cuts"], ["_law_pen", "_law_width", "_law_cuts", "_law_row", "_law_turn", "_law_column", "_law_bound"], .scope, (.cons (.set 3 (.compN [5] (.name 5) (.rng1 (.var 1)) .no (.call 1 "_law_o_bound" (.cons (.var 0) .nil)))) (.cons (.for_ (.name 4) (.rng1 (.call 2 "_law_take" (.cons (.var 0) (.cons (.bin .Add (.var 1) (.int 2)) .nil)))) (.cons (.asg [5, 6] (.idx (.var 2) (.call 2 "_law_take" (.cons (.var 0) (.cons (.bf .len (.cons (.var 2) .nil)) .nil))))) (.cons (.setIx (.var 3) (.var 5) (.bin .Add (.var 6) (.idx (.lst (.cons (.neg (.int 1)) (.cons (.int 0) (.cons (.int 1) (.cons (.neg (.int 1)) (.cons (.int 0) .nil)))))) (.call 2 "_law_take" (.cons (.var 0) (.cons (.int 5) .nil)))))) .nil))) (.cons (.ret (.bf .tuple (.cons (.var 3) .nil))) .nil)))⟩
def ir_o_no_row : FnI := ⟨["_law_pen", "_law_row"], ["_law_pen", "_law_row", "_law_at", "_law_some", "_law_part"], .scope, (.cons (.set 2 (.call 2 "_law_take" (.cons (.var 0) (.cons (.bf .len (.cons (.var 1) .nil)) .nil)))) (.cons (.set 3 (.lst (.cons (.bin .Add (.var 1) (.tup (.cons (.int 0) .nil))) (.cons (.sl (.var 1) (.at_ (.int 1)) .no) (.cons (.bf .list (.cons (.var 1) .nil)) (.cons .non (.cons (.int 5) (.cons (.str "row") (.cons .dct0 (.cons (.tup (.cons (.var 1) .nil)) .nil)))))))))) (.cons (.set 3 (.bin .Add (.var 3) (.comp [4] (.name 4) (.items (.lst (.cons (.bl true) (.cons (.bl false) (.cons .non (.cons (.str "1") (.cons (.tup (.cons (.int 1) .nil)) (.cons (.lst (.cons (.int 1) .nil)) (.cons .dct0 .nil))))))))) .no (.bin .Add (.bin .Add (.sl (.var 1) .no (.at_ (.var 2))) (.tup (.cons (.var 4) .nil))) (.sl (.var 1) (.at_ (.bin .Add (.var 2) (.int 1))) .no))))) (.cons (.ret (.idx (.var 3) (.call 2 "_law_take" (.cons (.var 0) (.cons (.bf .len (.cons (.var 3) .nil)) .nil))))) .nil))))⟩
def ir_o_spots : FnI := ⟨["_law_saying"], ["_law_saying", "_law_found", "_law_k", "_law_part", "_law_way"], .pure, (.cons (.set 1 (.new (.cons (.tup .nil) .nil))) (.cons (.for_ (.tup [2, 3]) (.enum (.var 0)) (.cons (.ifs (.isi .tuple (.var 3)) (.cons (.set 1 (.catN (.var 1) (.comp [4] (.name 4) (.items (.call 1 "_law_o_spots" (.cons (.var 3) .nil))) .no (.bin .Add (.tup (.cons (.var 2) .nil)) (.var 4))))) .nil) (.cons (.doE (.app (.var 1) (.tup (.cons (.var 2) .nil)))) .nil)) .nil)) (.cons (.ret (.frz (.var 1))) .nil)))⟩
def ir_o_put : FnI := ⟨["_law_thing", "_law_way", "_law_part"], ["_law_thing", "_law_way", "_law_part", "_law_k"], .pure, (.cons (.ifs (.cmp .Eq (.var 1) (.tup .nil)) (.cons (.ret (.var 2)) .nil) .nil) (.cons (.set 3 (.idx (.var 1) (.int 0))) (.cons (.ret (.bin .Add (.bin .Add (.sl (.var 0) .no (.at_ (.var 3))) (.tup (.cons (.call 3 "_law_o_put" (.cons (.idx (.var 0) (.var 3)) (.cons (.sl (.var 1) (.at_ (.int 1)) .no) (.cons (.var 2) .nil)))) .nil))) (.sl (.var 0) (.at_ (.bin .Add (.var 3) (.int 1))) .no))) .nil)))⟩
def ir_o_part : FnI := ⟨["_law_thing", "_law_way"], ["_law_thing", "_law_way", "_law_k"], .pure, (.cons (.for_ (.name 2) (.items (.var 1)) (.cons (.set 0 (.idx (.var 0) (.var 2))) .nil)) (.cons (.ret (.var 0)) .nil))⟩
def ir_o_bent : FnI := ⟨["_law_pen", "_law_width", "_law_saying"], ["_law_pen", "_law_width", "_law_saying", "_law_ways", "_law_way", "_law_part", "_law_some"], .scope, (.cons (.set 3 (.call 1 "_law_o_spots" (.cons (.var 2) .nil))) (.cons (.set 4 (.idx (.var 3) (.call 2 "_law_take" (.cons (.var 0) (.cons (.bf .len (.cons (.var 3) .nil)) .nil))))) (.cons (.set 5 (.call 2 "_law_o_part" (.cons (.var 2) (.cons (.var 4) .nil)))) (.cons (.set 6 (.new (.cons .non (.cons (.bl true) (.cons (.bl false) (.cons (.str "under") (.cons (.str "and") (.cons (.str "xor") (.cons (.str "") (.cons (.neg (.int 1)) (.cons (.var 1) (.cons (.bin .Pow (.int 10) (.int 30)) (.cons (.int 0) (.cons (.tup .nil) (.cons (.lst .nil) (.cons .dct0 (.cons (.tup (.cons (.str "not") .nil)) (.cons (.tup (.cons (.str "not") (.cons (.int 0) .nil))) .nil)))))))))))))))))) (.cons (.set 6 (.catN (.var 6) (.lst (.cons (.tup (.cons (.str "under") (.cons (.int 0) .nil))) (.cons (.tup (.cons (.str "under") (.cons (.int 0) (.cons (.int 1) (.cons (.int 2) .nil))))) (.cons (.tup (.cons (.str "under") (.cons (.var 1) (.cons (.int 0) .nil)))) (.cons (.tup (.cons (.str "under") (.cons (.neg (.int 1)) (.cons (.int 0) .nil)))) (.cons (.tup (.cons (.str "under") (.cons (.bl true) (.cons (.int 0) .nil)))) .nil)))))))) (.cons (.set 6 (.catN (.var 6) (.lst (.cons (.tup (.cons (.str "under") (.cons (.int 0) (.cons (.bl false) .nil)))) (.cons (.tup (.cons (.str "under") (.cons (.int 0) (.cons .non .nil)))) (.cons (.tup (.cons (.str "under") (.cons (.int 0) (.cons (.lst (.cons (.int 1) .nil)) .nil)))) (.cons (.tup (.cons (.str "and") (.cons (.tup (.cons (.str "under") (.cons (.int 0) (.cons (.int 1) .nil)))) .nil))) .nil))))))) (.cons (.doE (.app (.var 6) (.tup (.cons (.str "under") (.cons (.int 0) (.cons (.int 7) .nil)))))) (.cons (.ifs (.isi .tuple (.var 5)) (.cons (.set 6 (.catN (.var 6) (.lst (.cons (.bf .list (.cons (.var 5) .nil)) (.cons (.bin .Add (.var 5) (.tup (.cons (.var 5) .nil))) (.cons (.sl (.var 5) .no (.at_ (.neg (.int 1)))) (.cons (.rev (.var 5)) (.cons (.tup (.cons (.str "not") (.cons (.var 5) .nil))) (.cons (.tup (.cons (.str "or") (.cons (.var 5) (.cons (.var 5) .nil)))) (.cons (.tup (.cons (.var 5) .nil)) .nil)))))))))) .nil) .nil) (.cons (.ret (.call 3 "_law_o_put" (.cons (.var 2) (.cons (.var 4) (.cons (.idx (.var 6) (.call 2 "_law_take" (.cons (.var 0) (.cons (.bf .len (.cons (.var 6) .nil)) .nil)))) .nil))))) .nil)))))))))⟩
def ir_o_shape : FnI := ⟨["_law_width", "_law_thing", "_law_deep"], ["_law_width", "_law_thing", "_law_deep", "_law_good", "_law_part"], .pure, (.cons (.ifs (.disj (.cons (.nt (.isi .tuple (.var 1))) (.cons (.cmp .Eq (.var 1) (.tup .nil)) (.cons (.nt (.isi .str (.idx (.var 1) (.int 0)))) (.cons (.cmp .Gt (.var 2) (.int 8)) .nil))))) (.cons (.ret (.int 99)) .nil) .nil) (.cons (.ifs (.cmp .Eq (.idx (.var 1) (.int 0)) (.str "under")) (.cons (.ifs (.disj (.cons (.cmp .NotEq (.bf .len (.cons (.var 1) .nil)) (.int 3)) (.cons (.isi .bool (.idx (.var 1) (.int 1))) (.cons (.isi .bool (.idx (.var 1) (.int 2))) .nil)))) (.cons (.ret (.int 99)) .nil) .nil) (.cons (.set 3 (.conj (.cons (.isi .int (.idx (.var 1) (.int 1))) (.cons (.isi .int (.idx (.var 1) (.int 2))) (.cons (.chain .LtE .Lt (.int 0) (.idx (.var 1) (.int 1)) (.var 0)) .nil))))) (.cons (.ret (.ife (.var 3) (.int 1) (.int 99))) .nil))) .nil) (.cons (.ifs (.cmp .NotEq (.bf .len (.cons (.var 1) .nil)) (.litGet [("not", .i 2), ("and", .i 3), ("or", .i 3)] (.idx (.var 1) (.int 0)) (.int 0))) (.cons (.ret (.int 99)) .nil) .nil) (.cons (.ret (.bin .Add (.int 1) (.bf .sum (.cons (.comp [4] (.name 4) (.items (.sl (.var 1) (.at_ (.int 1)) .no)) .no (.call 3 "_law_o_shape" (.cons (.var 0) (.cons (.var 4) (.cons (.bin .Add (.var 2) (.int 1)) .nil))))) .nil)))) .nil))))⟩
def ir_o_is_saying : FnI := ⟨["_law_width", "_law_thing"], ["_law_width", "_law_thing"], .pure, (.cons (.ret (.cmp .LtE (.call 3 "_law_o_shape" (.cons (.var 0) (.cons (.var 1) (.cons (.int 1) .nil)))) (.int 15))) .nil)⟩
structure HasShape (T : FTab) : Prop where
  o_shape : T.lookup ("_law_o_shape" : Str) = some ir_o_shape
  o_is_saying : T.lookup ("_law_o_is_saying" : Str) = some ir_o_is_saying
structure HasRow (T : FTab) : Prop where
  say : HasSay T
  is_row : T.lookup ("is_row" : Str) = some ir_is_row
structure HasORow (T : FTab) : Prop where
  draw : HasDraw T
  o_row : T.lookup ("_law_o_row" : Str) = some ir_o_row
structure HasNoRow (T : FTab) : Prop where
  draw : HasDraw T
  o_no_row : T.lookup ("_law_o_no_row" : Str) = some ir_o_no_row
structure HasBent (T : FTab) : Prop where
  draw : HasDraw T
  o_spots : T.lookup ("_law_o_spots" : Str) = some ir_o_spots
  o_put : T.lookup ("_law_o_put" : Str) = some ir_o_put
  o_part : T.lookup ("_law_o_part" : Str) = some ir_o_part
  o_bent : T.lookup ("_law_o_bent" : Str) = some ir_o_bent
theorem Sy.fit : ∀ s : Sy, s.all (fun c b => c.natAbs ≤ 10 ^ 39 + 4 ∧ b.natAbs ≤ 10 ^ 39 + 4) → Fit s.d (4000 * s.parts) s.depth
  | .under c b, h => ((Fit.tup (FitAll.cons fit_under (FitAll.cons (fit_int h.1) (FitAll.cons (fit_int h.2) (fit_nil (n := 0)))) : FitAll _ _ 0))).mono (by show _ ≤ 4000 * 1; decide) (Nat.le_refl _)
  | .nt s, h => ((Fit.tup (FitAll.cons fit_not (FitAll.cons (Sy.fit s h) (fit_nil (n := 0)))))).mono (by show _ ≤ 4000 * (1 + s.parts); omega) (by show _ ≤ 1 + s.depth; omega)
  | .con a b, h => ((Fit.tup (FitAll.cons (k := max a.depth b.depth) fit_and (FitAll.cons ((Sy.fit a h.1).mono (Nat.le_refl _) (by omega)) (FitAll.cons ((Sy.fit b h.2).mono (Nat.le_refl _) (by omega)) (fit_nil (n := 0))))))).mono (by show _ ≤ 4000 * (1 + (a.parts + b.parts)); omega) (by show _ ≤ 1 + max a.depth b.depth; omega)
  | .dis a b, h => ((Fit.tup (FitAll.cons (k := max a.depth b.depth) fit_or (FitAll.cons ((Sy.fit a h.1).mono (Nat.le_refl _) (by omega)) (FitAll.cons ((Sy.fit b h.2).mono (Nat.le_refl _) (by omega)) (fit_nil (n := 0))))))).mono (by show _ ≤ 4000 * (1 + (a.parts + b.parts)); omega) (by show _ ≤ 1 + max a.depth b.depth; omega)
def shapeI (w : Int) : Nat → PyData → Int
  | n + 1, .tuple (.str x :: xs) =>
    if x = "under" then (match xs with
      | [c, b] => if underB w c b = true then 1 else 99
      | _ => 99)
    else if x = "not" then (match xs with
      | [a] => 1 + shapeI w n a
      | _ => 99)
    else if x = "and" ∨ x = "or" then (match xs with
      | [a, b] => 1 + (shapeI w n a + shapeI w n b)
      | _ => 99)
    else 99
  | _, _ => 99
theorem shape_made (w : Int) : ∀ (n : Nat) (x : PyData), 1 ≤ shapeI w n x ∧ (madeB w n x = true → shapeI w n x = partsB n x) ∧ (madeB w n x = false → 99 ≤ shapeI w n x)
  | 0, x => ⟨by simp [shapeI], fun h => by simp [madeB] at h, fun _ => by simp [shapeI]⟩
  | n + 1, x => by
    unfold shapeI madeB
    split
    · rename_i n' x' ys e
      cases e
      by_cases h1 : x' = "under"
      · subst h1
        rcases ys with _ | ⟨c, _ | ⟨b, _ | ⟨e, r⟩⟩⟩ <;> simp [partsB]
        cases underB w c b <;> simp
      · by_cases h2 : x' = "not"
        · subst h2
          rcases ys with _ | ⟨c, _ | ⟨b, r⟩⟩ <;> simp [partsB, str_inj]
          have := shape_made w n c
          cases hm : madeB w n c <;> simp_all <;> omega
        · by_cases h3 : x' = "and" ∨ x' = "or"
          · rcases ys with _ | ⟨c, _ | ⟨b, _ | ⟨e, r⟩⟩⟩ <;> simp [partsB, h1, h2, h3]
            have q1 := shape_made w n c
            have q2 := shape_made w n b
            cases hm : madeB w n c <;> cases hm2 : madeB w n b <;> simp_all <;> omega
          · simp [h1, h2, h3]
    · simp
theorem shape_say (w : Int) (x : PyData) : decide (shapeI w 8 x ≤ 15) = sayB w x := by
  obtain ⟨h1, h2, h3⟩ := shape_made w 8 x
  unfold sayB
  cases hm : madeB w 8 x with
  | false =>
    have := h3 hm
    simp
    omega
  | true =>
    rw [h2 hm]
    simp
    omega
theorem lit_o {x : Str} : ((List.lookup x [("not", Cn.i 2), ("and", Cn.i 3), ("or", Cn.i 3)]).map Cn.dat).getD (PyData.int 0) = if x = "not" then .int 2 else if x = "and" ∨ x = "or" then .int 3 else .int 0 := by
  have g : ∀ (y : Str) (c : Cn) (l : List (Str × Cn)), ¬ x = y → List.lookup x ((y, c) :: l) = List.lookup x l := fun y c l h => by
    rw [List.lookup_cons, beq_eq_false_iff_ne.mpr h]
  by_cases h1 : x = "not"
  · subst h1; simp [List.lookup_cons]; rfl
  · rw [g _ _ _ h1, if_neg h1]
    by_cases h2 : x = "and"
    · subst h2; simp [List.lookup_cons]; rfl
    · rw [g _ _ _ h2]
      by_cases h3 : x = "or"
      · subst h3; simp [List.lookup_cons]; rfl
      · rw [g _ _ _ h3]; simp [h2, h3]
section
variable {T : FTab} (H : HasShape T)
include H
theorem shape_ok (w : Int) : ∀ (n : Nat) (x : PyData) (k : Nat) (deep : Int) (st : Sto), deep + n = 9 → n + 1 ≤ k → run T k "_law_o_shape" [.d (.int w), .d x, .d (.int deep)] st = .ok (.d (.int (shapeI w n x))) st := by
  intro n
  induction n with
  | zero =>
    intro x k deep st hd hk
    obtain ⟨k, rfl⟩ : ∃ j, k = j + 1 := ⟨k - 1, by omega⟩
    have hd : deep = 9 := by omega
    subst hd
    apply Wp.eq
    rw [run_at H.o_shape]
    unfold FnI.run ir_o_shape Mode.of
    rw [w_pure rfl]
    cases x with
    | tuple xs =>
      cases xs with
      | nil => walk_at "wps"; simp [shapeI]
      | cons y ys =>
        cases y <;> walk_at "wps" <;> simp [shapeI]
    | _ => walk_at "wps"; simp [shapeI]
  | succ n ih =>
    intro x k deep st hd hk
    obtain ⟨k, rfl⟩ : ∃ j, k = j + 2 := ⟨k - 2, by omega⟩
    have hd8 : ¬ (8 < deep) := by omega
    apply Wp.eq
    rw [run_at H.o_shape]
    unfold FnI.run ir_o_shape Mode.of
    rw [w_pure rfl]
    cases x with
    | tuple xs =>
      cases xs with
      | nil => walk_at "wps"; simp [shapeI]
      | cons y ys =>
        cases y with
        | str x =>
          walk_at "wps"
          rw [if_neg hd8]
          by_cases h1 : x = "under"
          · subst h1
            walk_at "wps"
            rcases ys with _ | ⟨c, _ | ⟨b, _ | ⟨e, r⟩⟩⟩
            · walk_at "wps"; simp [shapeI]
            · walk_at "wps"; simp [shapeI]
            · walk_at "wps"
              cases c <;> cases b <;> walk_at "wps" <;> simp [shapeI, underB]
              rename_i i j
              by_cases h1 : 0 ≤ i <;> by_cases h2 : i < w <;> simp [h1, h2] <;> omega
            · walk_at "wps"
              simp [shapeI]
              intro h
              omega
          · rw [if_neg h1, lit_o]
            by_cases h2 : x = "not"
            · subst h2
              rcases ys with _ | ⟨c, _ | ⟨b, r⟩⟩
              · walk_at "wps"; simp [shapeI, str_inj]
              · walk_at "wps"
                rw [ih c (k + 1) (deep + 1) [] (by omega) (by omega)]
                walk_at "wps"
                rw [intsOf_c, intsOf_n]
                walk_at "wps"
                simp [shapeI, str_inj]
              · walk_at "wps"
                simp [shapeI, str_inj]
                intro h
                omega
            · by_cases h3 : x = "and" ∨ x = "or"
              · rw [if_neg h2, if_pos h3]
                rcases ys with _ | ⟨c, _ | ⟨b, _ | ⟨e, r⟩⟩⟩
                · walk_at "wps"; simp [shapeI, h1, h2, h3]
                · walk_at "wps"; simp [shapeI, h1, h2, h3]
                · walk_at "wps"
                  rw [ih c (k + 1) (deep + 1) [] (by omega) (by omega)]
                  walk_at "wps"
                  rw [ih b (k + 1) (deep + 1) [] (by omega) (by omega)]
                  walk_at "wps"
                  rw [intsOf_c, intsOf_c, intsOf_n]
                  walk_at "wps"
                  simp [shapeI, h1, h2, h3]
                · walk_at "wps"
                  simp [shapeI, h1, h2, h3]
                  intro h
                  omega
              · rw [if_neg h2, if_neg h3]
                walk_at "wps"
                simp [shapeI, h1, h2, h3]
                intro h
                omega
        | _ => walk_at "wps"; simp [shapeI]
    | _ => walk_at "wps"; simp [shapeI]
theorem is_saying_ok (w : Int) (x : PyData) (k : Nat) (st : Sto) (hk : 10 ≤ k) : run T k "_law_o_is_saying" [.d (.int w), .d x] st = .ok (.d (.bool (sayB w x))) st := by
  obtain ⟨k, rfl⟩ : ∃ j, k = j + 1 := ⟨k - 1, by omega⟩
  apply Wp.eq
  rw [run_at H.o_is_saying]
  unfold FnI.run ir_o_is_saying Mode.of
  rw [w_pure rfl]
  walk_at "wps"
  rw [shape_ok H w 8 x k 1 [] (by decide) (by omega)]
  walk_at "wps"
  rw [shape_say]
end

theorem bools_map (f : PyData → Bool) : ∀ xs : List PyData, boolsOf (xs.map fun x => .bool (f x)) = some (xs.map f)
  | [] => rfl
  | x :: xs => by
    rw [List.map_cons, boolsOf_c, bools_map f xs]
    rfl
def rowB (w : Int) : PyData → Bool
  | .tuple xs => decide ((xs.length : Int) = w) && xs.all isW
  | _ => false
section
variable {T : FTab} (H : HasRow T)
include H
theorem row_any (w : Int) (x : PyData) (k : Nat) (st : Sto) (h1 : 1 ≤ w) (h2 : w ≤ 3) (hk : 3 ≤ k) : run T k "is_row" [.d (.int w), .d x] st = .ok (.d (.bool (rowB w x))) st := by
  obtain ⟨k, rfl⟩ : ∃ j, k = j + 3 := ⟨k - 3, by omega⟩
  apply Wp.eq
  rw [run_at H.is_row]
  unfold FnI.run ir_is_row Mode.of
  rw [w_pure rfl]
  walk_at "wps"
  rw [width_ok H.say.w k w [] h1 h2]
  cases x with
  | tuple xs =>
    walk_at "wps"
    by_cases hl : (xs.length : Int) = w
    · rw [if_pos hl]
      refine wc_map (f := fun x => .bool (isW x)) (fun x _ => ?_) ?_
      · walk_at "wps"
        rw [whole_ok H.say.w]
        walk_at "wps"
      · rw [bools_map]
        walk_at "wps"
        simp [rowB, hl]
    · rw [if_neg hl]
      simp [rowB, hl]
  | _ => walk_at "wps"; simp [rowB]
end

theorem ints_fit {is : List Int} (h : ∀ i ∈ is, i.natAbs ≤ 10 ^ 39 + 4) : FitAll (is.map .int) (1923 * is.length) 0 := by
  induction is with
  | nil => exact fit_nil
  | cons i is ih =>
    refine (FitAll.cons (fit_int (h i List.mem_cons_self)) (ih fun j hj => h j (List.mem_cons_of_mem _ hj))).mono ?_ (Nat.le_refl _)
    simp only [List.length_cons]; omega
def okWay : PyData → List Nat → Prop
  | _, [] => True
  | .tuple xs, k :: r => ∃ y, xs[k]? = some y ∧ okWay y r
  | _, _ :: _ => False
def wayD (w : List Nat) : PyData := .tuple (w.map fun k => .int (k : Nat))
def partAt : PyData → List Nat → PyData
  | d, [] => d
  | .tuple xs, k :: r => partAt (xs.getD k .none) r
  | d, _ :: _ => d
def putAt : PyData → List Nat → PyData → PyData
  | _, [], p => p
  | .tuple xs, k :: r, p => .tuple (xs.take k ++ [putAt (xs.getD k .none) r p] ++ xs.drop (k + 1))
  | _, _ :: _, p => p
theorem part_fit : ∀ (w : List Nat) (d : PyData) (n k : Nat), okWay d w → Fit d n k → Fit (partAt d w) n k
  | [], d, n, k, _, f => by unfold partAt; exact f
  | i :: w, d, n, k, h, f => by
    cases d with
    | tuple xs =>
      obtain ⟨y, e, h2⟩ := h
      have e2 : xs.getD i .none = y := by rw [List.getD_eq_getElem?_getD, e]; rfl
      show Fit (partAt (xs.getD i .none) w) n k
      rw [e2]
      exact part_fit w y n k h2 ((f.of_tup.get e).mono (Nat.sub_le _ _) (Nat.sub_le _ _))
    | _ => exact h.elim
theorem put_fit (p : PyData) {m j : Nat} (hp : Fit p m j) : ∀ (w : List Nat) (d : PyData) (n k : Nat), okWay d w → Fit d n k → Fit (putAt d w p) (n + m) (k + j)
  | [], d, n, k, _, f => by unfold putAt; exact hp.mono (by omega) (by omega)
  | i :: w, d, n, k, h, f => by
    cases d with
    | tuple xs =>
      obtain ⟨y, e, h2⟩ := h
      have e2 : xs.getD i .none = y := by rw [List.getD_eq_getElem?_getD, e]; rfl
      show Fit (.tuple (xs.take i ++ [putAt (xs.getD i .none) w p] ++ xs.drop (i + 1))) (n + m) (k + j)
      rw [e2]
      have hl : i < xs.length := (List.getElem?_eq_some_iff.mp e).1
      have e3 : xs.take i ++ y :: xs.drop (i + 1) = xs := by
        have := List.take_append_drop i xs
        rw [List.drop_eq_getElem_cons hl] at this
        have e4 : xs[i] = y := (List.getElem?_eq_some_iff.mp e).2
        rw [e4] at this
        exact this
      have fa := f.of_tup
      have hk : 1 ≤ k := by have : PyData.depthAll xs + 1 ≤ k := f.h; omega
      have hn : 3 ≤ n := by have : widAll xs + 3 ≤ n := f.w; omega
      have w1 : widAll (xs.take i) + (wid y + 2 + widAll (xs.drop (i + 1))) ≤ n - 3 := by
        have := fa.w
        rw [← e3, widAll_append] at this
        exact this
      have g1 := fa.take i
      have g2 := fa.drop (i + 1)
      have g3 := put_fit p hp w y (wid y) (k - 1) h2 ⟨(fa.get e).p, Nat.le_refl _, (fa.get e).h⟩
      have r1 : FitAll (xs.take i) (widAll (xs.take i)) (k - 1 + j) := ⟨g1.p, Nat.le_refl _, Nat.le_trans g1.h (by omega)⟩
      have r2 : FitAll (xs.drop (i + 1)) (widAll (xs.drop (i + 1))) (k - 1 + j) := ⟨g2.p, Nat.le_refl _, Nat.le_trans g2.h (by omega)⟩
      exact (Fit.tup (FitAll.app (FitAll.app r1 (FitAll.cons g3 (fit_nil (n := 0)))) r2)).mono (by omega) (by omega)
    | _ => exact h.elim
theorem way_cut {k : Nat} {w : List Nat} : cutD ((PyData.int (k : Nat)) :: w.map fun k => PyData.int (k : Nat)) (some 1) none = w.map fun k => .int (k : Nat) := cut1
theorem nums_get {xs : List PyData} {i : Nat} {x : PyData} (h : (numbered 0 xs)[i]? = some x) : ∃ y, xs[i]? = some y ∧ x = .tuple [.int (i : Nat), y] := by
  rw [numbered_get] at h
  obtain ⟨y, e, rfl⟩ := Option.map_eq_some_iff.mp h
  exact ⟨y, e, by rw [Nat.zero_add]⟩
section
variable {T : FTab} (H : HasBent T)
include H
theorem part_ok : ∀ (w : List Nat) (d : PyData) (k : Nat) (st : Sto), okWay d w → 1 ≤ k → run T k "_law_o_part" [.d d, .d (wayD w)] st = .ok (.d (partAt d w)) st := by
  intro w d k st h hk
  obtain ⟨k, rfl⟩ : ∃ j, k = j + 1 := ⟨k - 1, by omega⟩
  apply Wp.eq
  rw [run_at H.o_part]
  unfold FnI.run ir_o_part Mode.of wayD
  rw [w_pure rfl]
  walk_at "wps"
  refine for_inv (fun i ρ st => ∃ e y, ρ = [some (.d e), some (.d (.tuple (w.map fun k => .int (k : Nat)))), y] ∧ st = [] ∧ okWay e (w.drop i) ∧ partAt e (w.drop i) = partAt d w) ⟨d, none, rfl, rfl, h, rfl⟩ ?_ ?_
  · rintro i x ρ st hx ⟨e, y, rfl, rfl, q1, q2⟩
    rw [List.getElem?_map] at hx
    obtain ⟨j, hj, rfl⟩ := Option.map_eq_some_iff.mp hx
    have hl : i < w.length := (List.getElem?_eq_some_iff.mp hj).1
    have e3 : w.drop i = j :: w.drop (i + 1) := by
      rw [List.drop_eq_getElem_cons hl, (List.getElem?_eq_some_iff.mp hj).2]
    rw [e3] at q1 q2
    cases e with
    | tuple xs =>
      obtain ⟨z, ez, q3⟩ := q1
      have e4 : atI xs (j : Int) = some z := atI_get (by omega) (by simpa using ez)
      walk_at "wps"
      rw [e4]
      walk_at "wps"
      refine ⟨z, _, rfl, q3, ?_⟩
      rw [← q2]
      show _ = partAt (xs.getD j .none) (w.drop (i + 1))
      rw [List.getD_eq_getElem?_getD, ez]
      rfl
    | _ => exact q1.elim
  · rintro ρ st ⟨e, y, rfl, rfl, q1, q2⟩
    walk_at "wps"
    rw [List.length_map, List.drop_length] at q2
    rw [← q2]
    rfl
theorem put_ok (p : PyData) : ∀ (w : List Nat) (d : PyData) (n k : Nat) (st : Sto), okWay d w → Fit d n 60 → n ≤ 10000000 → w.length + 1 ≤ k → run T k "_law_o_put" [.d d, .d (wayD w), .d p] st = .ok (.d (putAt d w p)) st := by
  intro w
  induction w with
  | nil =>
    intro d n k st h hf hn hk
    obtain ⟨k, rfl⟩ : ∃ j, k = j + 1 := ⟨k - 1, by omega⟩
    apply Wp.eq
    rw [run_at H.o_put]
    unfold FnI.run ir_o_put Mode.of wayD
    rw [w_pure rfl]
    walk_at "wps"
    simp [putAt]
  | cons i w ih =>
    intro d n k st h hf hn hk
    obtain ⟨k, rfl⟩ : ∃ j, k = j + 1 := ⟨k - 1, by omega⟩
    cases d with
    | tuple xs =>
      obtain ⟨y, e, h2⟩ := h
      have e4 : atI xs (i : Int) = some y := atI_get (by omega) (by simpa using e)
      have hl : i < xs.length := (List.getElem?_eq_some_iff.mp e).1
      have fa := hf.of_tup
      have hz := fa.len
      apply Wp.eq
      rw [run_at H.o_put]
      unfold FnI.run ir_o_put Mode.of wayD
      rw [w_pure rfl]
      rw [List.map_cons]
      walk_at "wps"
      rw [e4]
      walk_at "wps"
      have ih' := ih y n k [] h2 ((fa.get e).mono (Nat.sub_le _ _) (Nat.sub_le _ _)) hn (by simpa using hk)
      unfold wayD at ih'
      rw [ih', cut_to, show (i : Int) + 1 = ((i + 1 : Nat) : Int) from by omega, cut_from]
      walk_at "wps"
      refine ⟨?_, ?_, ?_⟩
      · rw [List.length_take]; omega
      · rw [List.length_append, List.length_take, List.length_drop]
        simp only [List.length_cons, List.length_nil]
        omega
      · show _ = Vv.d (.tuple (xs.take i ++ [putAt (xs.getD i .none) w p] ++ xs.drop (i + 1)))
        rw [List.getD_eq_getElem?_getD, e]
        rfl
    | _ => exact h.elim
end

theorem wp_get {α : Type} {r : Res α} {P : α → Sto → Prop} (h : Wp r P E0') : ∃ a st, r = .ok a st ∧ P a st := by
  cases r with
  | ok a st => exact ⟨a, st, rfl, h⟩
  | exc e st => exact h.elim
  | fail => exact h.elim
section
variable {T : FTab} (H : HasBent T)
include H
theorem spots_ok : ∀ (k m : Nat) (xs : List PyData) (n : Nat) (st : Sto), FitAll xs n k → n ≤ 10000000 → k ≤ 60 → k ≤ m → ∃ ws : List (List Nat), run T (m + 1) "_law_o_spots" [.d (.tuple xs)] st = .ok (.d (.list (ws.map wayD))) st ∧ (∀ w ∈ ws, okWay (.tuple xs) w ∧ w.length ≤ k + 1) ∧ 0 < ws.length ∧ ws.length ≤ widAll xs + 1 := by
  intro k
  induction k using Nat.strongRecOn with
  | _ k ih =>
    intro m0 xs n st hf hn hk hm0
    have key : Wp (run T (m0 + 1) "_law_o_spots" [.d (.tuple xs)] st) (fun x st' => st' = st ∧ ∃ ws : List (List Nat), x = .d (.list (ws.map wayD)) ∧ (∀ w ∈ ws, okWay (.tuple xs) w ∧ w.length ≤ k + 1) ∧ 0 < ws.length ∧ ws.length ≤ widAll xs + 1) E0' := by
      rw [run_at H.o_spots]
      unfold FnI.run ir_o_spots Mode.of
      rw [w_pure rfl]
      walk_at "wps"
      refine for_inv (fun i ρ st' => ∃ a b c m ws, ρ = [some (.d (.tuple xs)), some (.ref m), a, b, c] ∧ st'[m]? = some (.lst (ws.map wayD)) ∧ (∀ w ∈ ws, okWay (.tuple xs) w ∧ w.length ≤ k + 1) ∧ 0 < ws.length ∧ ws.length ≤ widAll (xs.take i) + 1) ⟨none, none, none, 0, [[]], rfl, rfl, fun w hw => by rw [List.mem_singleton.mp hw]; exact ⟨trivial, Nat.zero_le _⟩, by decide, by simp⟩ ?_ ?_
      · rintro i x ρ st' hx ⟨a, b, c, m, ws, rfl, hm, q1, q2, q3⟩
        obtain ⟨y, hy, rfl⟩ := nums_get hx
        have hml : m < st'.length := (List.getElem?_eq_some_iff.mp hm).1
        have fy := hf.get hy
        have hl : i < xs.length := (List.getElem?_eq_some_iff.mp hy).1
        have tk : xs.take (i + 1) = xs.take i ++ [y] := by
          rw [List.take_succ, hy]
          rfl
        have wt : widAll (xs.take (i + 1)) = widAll (xs.take i) + (wid y + 2) := by
          rw [tk, widAll_append]
          rfl
        have w0 : widAll (xs.take i) ≤ n := by
          have := (hf.take i).w
          exact this
        have w1 : widAll (xs.take (i + 1)) ≤ n := (hf.take (i + 1)).w
        have one : okWay (.tuple xs) [i] := ⟨y, hy, trivial⟩
        walk_at "wps"
        have other : ∀ a b c, ∃ (a' b' c' : Option Vv) (m' : Nat) (ws' : List (List Nat)), ([some (.d (.tuple xs)), some (.ref m), a, b, c] : Env) = [some (.d (.tuple xs)), some (.ref m'), a', b', c'] ∧ (st'.set m (.lst (ws.map wayD ++ [.tuple [.int (i : Nat)]])))[m']? = some (.lst (ws'.map wayD)) ∧ (∀ w ∈ ws', okWay (.tuple xs) w ∧ w.length ≤ k + 1) ∧ 0 < ws'.length ∧ ws'.length ≤ widAll (xs.take (i + 1)) + 1 := fun a b c => by
          refine ⟨a, b, c, m, ws ++ [[i]], rfl, ?_, fun w hw => ?_, by simp, by simp; omega⟩
          · rw [List.getElem?_set_self hml]
            simp [wayD]
          · rcases List.mem_append.mp hw with z | z
            · exact q1 w z
            · rw [List.mem_singleton.mp z]
              exact ⟨one, by simp⟩
        cases y with
        | tuple ys =>
          walk_at "wps"
          have fys := fy.of_tup
          obtain ⟨k', rfl⟩ : ∃ j, k = j + 1 := ⟨k - 1, by have : PyData.depthAll ys + 1 ≤ k := fy.h; omega⟩
          obtain ⟨m0, rfl⟩ : ∃ j, m0 = j + 1 := ⟨m0 - 1, by omega⟩
          obtain ⟨ws2, e2, p1, p2, p3⟩ := ih k' (by omega) m0 ys (n - 3) st' fys (by omega) (by omega) (by omega)
          rw [e2]
          walk_at "wps"
          refine wc_map (f := fun d => match d with
            | .tuple ds => .tuple (.int (i : Nat) :: ds)
            | d => d) ?_ ?_
          · intro d hd
            obtain ⟨w, hw, rfl⟩ := List.mem_map.mp hd
            have := (p1 w hw).2
            unfold wayD
            walk_at "wps"
            refine ⟨by rw [List.length_map]; omega, rfl⟩
          · rw [hm]
            walk_at "wps"
            have hws2 : ws2.length ≤ wid (.tuple ys) := by
              show _ ≤ widAll ys + 3
              omega
            refine ⟨by simp only [List.length_map]; omega, _, _, _, st'.length, ws ++ ws2.map (i :: ·), rfl, ?_, fun w hw => ?_, by simp only [List.length_append]; omega, by simp only [List.length_append, List.length_map]; omega⟩
            · simp only [List.getElem?_concat_length, List.map_append, List.map_map]
              congr 3
            · rcases List.mem_append.mp hw with z | z
              · exact q1 w z
              · obtain ⟨w', hw', rfl⟩ := List.mem_map.mp z
                obtain ⟨o1, o2⟩ := p1 w' hw'
                exact ⟨⟨_, hy, o1⟩, by simp only [List.length_cons]; omega⟩
        | _ =>
          walk_at "wps"
          rw [hm]
          walk_at "wps"
          exact ⟨by rw [List.length_map]; omega, other _ _ _⟩
      · rintro ρ st' ⟨a, b, c, m, ws, rfl, hm, q1, q2, q3⟩
        walk_at "wps"
        rw [hm]
        walk_at "wps"
        rw [numbered_len, List.take_length] at q3
        exact ⟨ws, rfl, q1, q2, q3⟩
    obtain ⟨x, st', e, rfl, ws, rfl, h1, h2, h3⟩ := wp_get key
    exact ⟨ws, e, h1, h2, h3⟩
end

end L2.Q

set_option maxHeartbeats 2000000
namespace L2.Q
open PySem PySem.Spec PyProof.Rows
local macro_rules | `(tactic| walk_at "wps") => `(tactic| simp (config := { failIfUnchanged := false, maxSteps := 10000000 }) only [w_var, w_int, w_str, w_bl, w_non, w_gint, w_gstr, w_bin, w_cmp, w_idx, w_tabGet, w_tabIx, w_chain, w_nt, w_neg, w_ife, w_conj1, w_conj, w_disj1, w_disj, wl_nil, wl_cons, w_tup, w_lst, w_new, w_call, w_bf, w_isi,
  w_frz, w_newL, w_uniq, w_usort, okB_f, okB_t, list1_l, w_litGet, is_bb, isnot_bb, w_bm, w_isx, w_isxB, w_fld, s_tryAs, t_nil, t_cons, t_set, t_doE, t_ifs, bm_c, bm_i, bm_s, isx_e, isx_n, isx_t, dat_n, isN_d, add_s, w_compN, w_catN,  w_ext, ext2, w_pop, wi_zip, wi_rngD, w_dct0, w_rev,  wo_no, wo_at, w_sl, w_app, wi_items, wi_rng1, wi_rng2, wi_enum, w_comp, cut1, wc_nil, wc_cons, wt_no, wt_at, b_nil, b_cons, s_set, s_asg, s_par, s_setIx, s_ret, s_retN, s_ifs, s_for, s_raise, s_doE, s_bk, s_ct, s_pass, w_body, start1, startN, start_0, retF_ret, retF_nx, wp_ok, wp_exc, wp_bind, ws_ok,
  nth, put, clear, wipe_0, wipe_c, onO_some, onO_none, onO_if, onO_map, onO_bind, onB_t, onB_f, onB_not, onB_b, onD_d, onF_nx, onF_ret, onF_bk, onF_ct, onI_i, items_l, items_t, deref_d, deref_r, drf_l, drf_f, bin2, setIx3_r, app2_r, frz1_r, onL_l, List.take_succ_cons, List.take_length, List.take_left, get_0, get_s, set_0, set_s, ix31, ix32, at0, at1, at2, at3, frz1_d, listOf_l, listOf_t, derefs_n, derefs_c, allD_n, allD_c,
  Option.map_some, Option.map_none, Option.bind_some, Option.bind_none, List.length_cons, List.length_nil, Nat.zero_add, Nat.reduceAdd, Int.cast_ofNat_Int, Int.natCast_zero, Int.natCast_one,
  add_i, sub_i, mul_i, div_i, mod_i, pow_i, add_t, add_l, lt_i, le_i, gt_i, ge_i, eq_i, ne_i, eq_s, ne_s, eq_b, is_n, isnot_n, isN_n, isN_i, idx_t, idx_l, sl_t, sl_l, tab_s, tab_g, len_t, len_l, min2_i, max2_i, min3_i, int_b, int_i, tuple_l, tuple_t, list_l, list_t, all_l, any_l, sum_l, max1_l, min1_l,
  asg_n, asg_t0, asg_t, isi_iI, isi_bI, isi_sI, isi_tI, isi_sS, isi_tT, Bool.not_true, Bool.not_false, decide_eq_true_eq, beq_iff_eq, if_true, if_false, ite_true, ite_false, true_and, and_true, Bool.false_eq_true, reduceIte, eq_self_iff_true, beq_self_eq_true, str_inj, String.reduceEq, Int.reduceBEq, Int.reduceEq, Nat.reduceEqDiff, not_true_eq_false, not_false_eq_true, Bool.true_and, Bool.and_true, Bool.false_and, Bool.and_false, Bool.or_false, Bool.false_or, Bool.true_or, Bool.or_true, false_and, and_false, decide_true, decide_false, zi_int_none, zi_int_bool, zi_int_int, zi_int_str, zi_int_list, zi_int_tuple, zi_int_dict, zi_bool_none, zi_bool_bool, zi_bool_int, zi_bool_str, zi_bool_list, zi_bool_tuple, zi_bool_dict, zi_str_none, zi_str_bool, zi_str_int, zi_str_str, zi_str_list, zi_str_tuple, zi_str_dict, zi_tuple_none, zi_tuple_bool, zi_tuple_int, zi_tuple_str, zi_tuple_list, zi_tuple_tuple, zi_tuple_dict, zi_list_none, zi_list_bool, zi_list_int, zi_list_str, zi_list_list, zi_list_tuple, zi_list_dict, zi_dict_none, zi_dict_bool, zi_dict_int, zi_dict_str, zi_dict_list, zi_dict_tuple, zi_dict_dict, eq_tt, ne_tt, get_cc, set_cc, lit_s, rev_t, rev_l, only_l, cat2_e, sizeLine_eq, is_t, is_s, is_l, is_b, List.isEmpty_cons, List.isEmpty_nil, Nat.reduceLeDiff, Int.reduceLE, Int.reduceLT, Int.reduceAdd, Int.reduceSub, Int.reduceNeg, Int.reduceToNat, Int.reduceMul, Nat.reduceLT, Option.getD_some, Option.getD_none, onD_d, Nat.zero_le])
local macro_rules | `(tactic| walk_at "wpl") => `(tactic| simp (config := { failIfUnchanged := false, maxSteps := 10000000 }) only [w_var, w_int, w_str, w_bl, w_non, w_gint, w_gstr, w_bin, w_cmp, w_idx, w_tabGet, w_tabIx, w_chain, w_nt, w_neg, w_ife, w_conj1, w_conj, w_disj1, w_disj, wl_nil, wl_cons, w_tup, w_lst, w_new, w_call, w_bf, w_isi,
  w_frz, w_newL, w_uniq, w_usort, okB_f, okB_t, list1_l, w_litGet, is_bb, isnot_bb, w_bm, w_isx, w_isxB, w_fld, s_tryAs, t_nil, t_cons, t_set, t_doE, t_ifs, bm_c, bm_i, bm_s, isx_e, isx_n, isx_t, dat_n, isN_d, add_s, w_compN, w_catN,  w_ext, ext2, w_pop, wi_zip, wi_rngD, w_dct0, w_rev,  wo_no, wo_at, w_sl, w_app, wi_items, wi_rng1, wi_rng2, wi_enum, w_comp, cut1, wt_no, wt_at, b_nil, b_cons, s_set, s_asg, s_par, s_setIx, s_ret, s_retN, s_ifs, s_for, s_raise, s_doE, s_bk, s_ct, s_pass, w_body, start1, startN, start_0, retF_ret, retF_nx, wp_ok, wp_exc, wp_bind, ws_ok,
  nth, put, clear, wipe_0, wipe_c, onO_some, onO_none, onO_if, onO_map, onO_bind, onB_t, onB_f, onB_not, onB_b, onD_d, onF_nx, onF_ret, onF_bk, onF_ct, onI_i, items_l, items_t, deref_d, deref_r, drf_l, drf_f, bin2, setIx3_r, app2_r, frz1_r, onL_l, List.take_succ_cons, List.take_length, List.take_left, get_0, get_s, set_0, set_s, ix31, ix32, at0, at1, at2, at3, frz1_d, listOf_l, listOf_t, derefs_n, derefs_c, allD_n, allD_c,
  Option.map_some, Option.map_none, Option.bind_some, Option.bind_none, List.length_cons, List.length_nil, Nat.zero_add, Nat.reduceAdd, Int.cast_ofNat_Int, Int.natCast_zero, Int.natCast_one,
  add_i, sub_i, mul_i, div_i, mod_i, pow_i, add_t, add_l, lt_i, le_i, gt_i, ge_i, eq_i, ne_i, eq_s, ne_s, eq_b, is_n, isnot_n, isN_n, isN_i, idx_t, idx_l, sl_t, sl_l, tab_s, tab_g, len_t, len_l, min2_i, max2_i, min3_i, int_b, int_i, tuple_l, tuple_t, list_l, list_t, all_l, any_l, sum_l, max1_l, min1_l,
  asg_n, asg_t0, asg_t, isi_iI, isi_bI, isi_sI, isi_tI, isi_sS, isi_tT, Bool.not_true, Bool.not_false, decide_eq_true_eq, beq_iff_eq, if_true, if_false, ite_true, ite_false, true_and, and_true, Bool.false_eq_true, reduceIte, eq_self_iff_true, beq_self_eq_true, str_inj, String.reduceEq, Int.reduceBEq, Int.reduceEq, Nat.reduceEqDiff, not_true_eq_false, not_false_eq_true, Bool.true_and, Bool.and_true, Bool.false_and, Bool.and_false, Bool.or_false, Bool.false_or, Bool.true_or, Bool.or_true, false_and, and_false, decide_true, decide_false, zi_int_none, zi_int_bool, zi_int_int, zi_int_str, zi_int_list, zi_int_tuple, zi_int_dict, zi_bool_none, zi_bool_bool, zi_bool_int, zi_bool_str, zi_bool_list, zi_bool_tuple, zi_bool_dict, zi_str_none, zi_str_bool, zi_str_int, zi_str_str, zi_str_list, zi_str_tuple, zi_str_dict, zi_tuple_none, zi_tuple_bool, zi_tuple_int, zi_tuple_str, zi_tuple_list, zi_tuple_tuple, zi_tuple_dict, zi_list_none, zi_list_bool, zi_list_int, zi_list_str, zi_list_list, zi_list_tuple, zi_list_dict, zi_dict_none, zi_dict_bool, zi_dict_int, zi_dict_str, zi_dict_list, zi_dict_tuple, zi_dict_dict, eq_tt, ne_tt, get_cc, set_cc, lit_s, rev_t, rev_l, only_l, cat2_e, sizeLine_eq, is_t, is_s, is_l, is_b, List.isEmpty_cons, List.isEmpty_nil, Nat.reduceLeDiff, Int.reduceLE, Int.reduceLT, Int.reduceAdd, Int.reduceSub, Int.reduceNeg, Int.reduceToNat, Int.reduceMul, Nat.reduceLT, Option.getD_some, Option.getD_none, onD_d, Nat.zero_le])
-- BODY
/-! shared by several laws: what is drawn. -/
theorem ix_at {n : Nat} {c : Int} (h0 : 0 ≤ c) (h1 : c < n) : ixN n c = some c.toNat := by
  unfold ixN
  rw [if_pos h0, if_pos (by omega)]
def fitb (n k : Nat) (x : PyData) : Bool := plainD x && decide (wid x ≤ n) && decide (x.depth ≤ k)
theorem fit_of {n k : Nat} {xs : List PyData} (h : xs.all (fitb n k) = true) : ∀ x ∈ xs, Fit x n k := fun x hx => by
  have := List.all_eq_true.mp h x hx
  unfold fitb at this
  obtain ⟨h1, h2⟩ := and_split this
  obtain ⟨h1, h3⟩ := and_split h1
  exact ⟨h1, of_decide_eq_true h3, of_decide_eq_true h2⟩
section
variable {T : FTab} (H : HasORow T) {o : Ob} {cs : List Int} {k : Nat} {a v : Int} {r : Sto} {P : Vv → Sto → Prop} {E : XE'}
include H
theorem row_w {w : Nat} {ks : List (Int × Int)} (hw : 1 ≤ w) (hw3 : w ≤ 3) (hk : 4 ≤ k) (h0 : 0 ≤ a) (h1 : a + 30 < 1000000000) (hn : 0 < ks.length) (hz : ks.length < 1000) (hc : ∀ c ∈ ks, (0 ≤ c.1 ∧ c.1 < w) ∧ Bnd c.2)
    (f : ∀ a1 v1 (is : List Int), a ≤ a1 → a1 ≤ a + 30 → is.length = w → (∀ i ∈ is, i.natAbs ≤ 10 ^ 39 + 1) → P (.d (.tuple (is.map .int))) (sto o cs a1 v1 r)) : Wp (run T k "_law_o_row" [.ref 1, .d (.int w), .d (.list (ks.map ctD))] (sto o cs a v r)) P E := by
  obtain ⟨k, rfl⟩ : ∃ j, k = j + 1 := ⟨k - 1, by omega⟩
  have D := H.draw
  rw [run_at H.o_row]
  unfold FnI.run ir_o_row Mode.of
  rw [w_scope]
  walk_at "wps"
  refine ⟨⟨by omega, by omega⟩, ?_⟩
  rw [Int.toNat_natCast]
  refine wc_inv (fun i ys st => ∃ (a2 v2 : Int) (is : List Int), st = sto o cs a2 v2 r ∧ a ≤ a2 ∧ a2 ≤ a + 3 * i ∧ ys = is.map .int ∧ is.length = i ∧ ∀ i ∈ is, i.natAbs ≤ 10 ^ 39 + 1) ⟨a, v, [], rfl, by omega, by omega, rfl, rfl, fun i h => (nomatch h)⟩ ?_ ?_
  · rintro i x ys st hx ⟨a2, v2, is, rfl, g1, g2, rfl, g3, g4⟩
    have hi : i < w := by
      have := (List.getElem?_eq_some_iff.mp hx).1
      rw [upFrom_len] at this
      exact this
    walk_at "wps"
    refine bound_w D.pen (by omega) (by omega) (by omega) fun a3 v3 j e1 e2 e3 => ?_
    walk_at "wps"
    refine ⟨a3, v3, is ++ [j], rfl, by omega, by omega, by simp, by simp [g3], fun i hi => ?_⟩
    rcases List.mem_append.mp hi with z | z
    · exact g4 i z
    · rw [List.mem_singleton.mp z]
      exact Nat.le_trans e3 (by omega)
  · rintro ys st ⟨a2, v2, is, rfl, g1, g2, rfl, g3, g4⟩
    rw [upFrom_len] at g2 g3
    walk_at "wps"
    rw [sto_app, sto_len]
    refine take_w D.pen (by omega) (by omega) (by omega) (by omega) (by omega) fun a3 v3 n e1 e2 n0 n1 => ?_
    walk_at "wps"
    refine ⟨⟨by omega, by omega⟩, ?_⟩
    refine for_inv (fun i ρ st => ∃ (a4 v4 : Int) (is : List Int) (x y z u : Option Vv), ρ = [some (.ref 1), some (.d (.int w)), some (.d (.list (ks.map ctD))), some (.ref (r.length + 2)), x, y, z] ∧ st = sto o cs a4 v4 (r ++ [.lst (is.map .int)]) ∧ a ≤ a4 ∧ a4 ≤ a + 10 + 3 * i ∧ is.length = w ∧ ∀ i ∈ is, i.natAbs ≤ 10 ^ 39 + 1) ⟨a3, v3, is, _, _, _, none, rfl, rfl, by omega, by omega, g3, g4⟩ ?_ ?_
    · rintro i x ρ st hx ⟨a4, v4, is, x1, y1, z1, u1, rfl, rfl, j1, j2, j3, j4⟩
      have hi : i < 5 := by
        have := (List.getElem?_eq_some_iff.mp hx).1
        rw [upFrom_len] at this
        omega
      walk_at "wps"
      refine take_w D.pen (by omega) (by omega) (by omega) (by rw [List.length_map]; omega) (by rw [List.length_map]; omega) fun a5 v5 m e3 e4 m0 m1 => ?_
      rw [List.length_map] at m1
      obtain ⟨c, hc2, ec⟩ := ix_cut m0 m1
      obtain ⟨⟨c0, c1⟩, cb⟩ := hc c hc2
      walk_at "wps"
      rw [ec]
      unfold ctD
      walk_at "wps"
      refine take_w D.pen (by omega) (by omega) (by omega) (by decide) (by decide) fun a6 v6 t e5 e6 t0 t1 => ?_
      have g : ∃ n : Int, atI [PyData.int (-1), .int 0, .int 1, .int (-1), .int 0] t = some (.int n) ∧ n.natAbs ≤ 1 := by
        have : t = 0 ∨ t = 1 ∨ t = 2 ∨ t = 3 ∨ t = 4 := by omega
        rcases this with h | h | h | h | h <;> subst h <;> exact ⟨_, rfl, by decide⟩
      obtain ⟨n2, en, hn2⟩ := g
      walk_at "wps"
      rw [en]
      walk_at "wps"
      rw [sto_get]
      walk_at "wps"
      rw [List.length_map, ix_at c0 (by omega)]
      walk_at "wps"
      rw [sto_set]
      refine ⟨a6, v6, is.set c.1.toNat (c.2 + n2), _, _, _, none, rfl, by rw [List.map_set], by omega, by omega, by rw [List.length_set]; exact j3, fun i hi => ?_⟩
      rcases List.mem_or_eq_of_mem_set hi with z | z
      · exact j4 i z
      · rw [z]
        have : c.2.natAbs ≤ 10 ^ 39 := cb
        omega
    · rintro ρ st ⟨a4, v4, is, x1, y1, z1, u1, rfl, rfl, j1, j2, j3, j4⟩
      rw [upFrom_len] at j2
      walk_at "wps"
      rw [sto_get]
      walk_at "wps"
      rw [take_sto]
      exact f a4 v4 is (by omega) (by omega) j3 j4
end

theorem isW_list {is : List Int} : (is.map PyData.int).all isW = true := by
  induction is with
  | nil => rfl
  | cons i is ih => rw [List.map_cons, List.all_cons, ih]; rfl
theorem rowB_len {w : Int} {xs : List PyData} (h : ¬ (xs.length : Int) = w) : rowB w (.tuple xs) = false := by simp [rowB, h]
theorem rowB_bad {w : Int} {xs ys : List PyData} {x : PyData} (h : isW x = false) : rowB w (.tuple (xs ++ [x] ++ ys)) = false := by simp [rowB, h]
theorem cutTo {α : Type} {xs : List α} {n : Int} (h : 0 ≤ n) : cutD xs none (some n) = xs.take n.toNat := by
  obtain ⟨m, rfl⟩ := Int.eq_ofNat_of_zero_le h
  exact cut_to xs m
theorem cutFrom {α : Type} {xs : List α} {n : Int} (h : 0 ≤ n) : cutD xs (some n) none = xs.drop n.toNat := by
  obtain ⟨m, rfl⟩ := Int.eq_ofNat_of_zero_le h
  exact cut_from xs m
theorem all_app {xs ys : List PyData} {p : PyData → Prop} (h1 : ∀ x ∈ xs, p x) (h2 : ∀ x ∈ ys, p x) : ∀ x ∈ xs ++ ys, p x := fun x hx => (List.mem_append.mp hx).elim (h1 x) (h2 x)
theorem all_map {α : Type} {xs : List α} {g : α → PyData} {p : PyData → Prop} (h1 : ∀ x ∈ xs, p (g x)) : ∀ x ∈ xs.map g, p x := fun x hx => by
  obtain ⟨y, hy, rfl⟩ := List.mem_map.mp hx
  exact h1 y hy
def bentC (w : Nat) : List PyData := [PyData.none, PyData.bool true, PyData.bool false, PyData.str "under", PyData.str "and", PyData.str "xor", PyData.str "", PyData.int (-1), PyData.int w, PyData.int (10 ^ 30), PyData.int 0, PyData.tuple [], PyData.list [], PyData.dict [], PyData.tuple [PyData.str "not"], PyData.tuple [PyData.str "not", PyData.int 0],
  PyData.tuple [PyData.str "under", PyData.int 0], PyData.tuple [PyData.str "under", PyData.int 0, PyData.int 1, PyData.int 2], PyData.tuple [PyData.str "under", PyData.int w, PyData.int 0], PyData.tuple [PyData.str "under", PyData.int (-1), PyData.int 0], PyData.tuple [PyData.str "under", PyData.bool true, PyData.int 0],
  PyData.tuple [PyData.str "under", PyData.int 0, PyData.bool false], PyData.tuple [PyData.str "under", PyData.int 0, PyData.none], PyData.tuple [PyData.str "under", PyData.int 0, PyData.list [PyData.int 1]], PyData.tuple [PyData.str "and", PyData.tuple [PyData.str "under", PyData.int 0, PyData.int 1]], PyData.tuple [PyData.str "under", PyData.int 0, PyData.int 7]]
theorem bentC_fit {w : Nat} (hw : 1 ≤ w) (hw3 : w ≤ 3) : ∀ x ∈ bentC w, Fit x 8000 3 := by
  have : w = 1 ∨ w = 2 ∨ w = 3 := by omega
  rcases this with rfl | rfl | rfl <;> exact fit_of (by decide +kernel)
theorem sto_at {o p : Ob} {cs : List Int} {a v a' v' : Int} {r : Sto} : (sto o cs a' v' (r ++ [p]))[(sto o cs a v r).length]? = some p := by simp [sto]
section
variable {T : FTab} (H : HasNoRow T) {o : Ob} {cs : List Int} {k : Nat} {a v : Int} {r : Sto} {P : Vv → Sto → Prop} {E : XE'}
include H
theorem no_row_w {w : Nat} {is : List Int} (hl : is.length = w) (hi : ∀ i ∈ is, i.natAbs ≤ 10 ^ 39 + 1) (hw : 1 ≤ w) (hw3 : w ≤ 3) (hk : 3 ≤ k) (h0 : 0 ≤ a) (h1 : a + 2 < 1000000000)
    (f : ∀ a1 v1 (d : PyData), a ≤ a1 → a1 ≤ a + 2 → rowB w d = false → Fit d 20000 10 → P (.d d) (sto o cs a1 v1 r)) : Wp (run T k "_law_o_no_row" [.ref 1, .d (.tuple (is.map .int))] (sto o cs a v r)) P E := by
  obtain ⟨k, rfl⟩ : ∃ j, k = j + 1 := ⟨k - 1, by omega⟩
  have D := H.draw
  rw [run_at H.o_no_row]
  unfold FnI.run ir_o_no_row Mode.of
  rw [w_scope]
  walk_at "wpl"
  have len : (is.map PyData.int).length = w := by rw [List.length_map, hl]
  rw [len]
  refine take_w D.pen (by omega) (by omega) (by omega) (by omega) (by omega) fun a1 v1 m e1 e2 m0 m1 => ?_
  walk_at "wpl"
  refine ⟨by omega, ?_⟩
  have fis : FitAll (is.map PyData.int) 6000 3 := (ints_fit fun i h => Nat.le_trans (hi i h) (by omega)).mono (by omega) (by omega)
  have f1 := fis.take m.toNat
  have f2 := fis.drop (m + 1).toNat
  have l1 : ((is.map PyData.int).take m.toNat).length ≤ 3 := by rw [List.length_take]; omega
  have l2 : ((is.map PyData.int).drop (m + 1).toNat).length ≤ 3 := by rw [List.length_drop]; omega
  refine wc_map (f := fun d => .tuple ((is.map PyData.int).take m.toNat ++ [d] ++ (is.map PyData.int).drop (m + 1).toNat)) (fun d _ => ?_) ?_
  · walk_at "wps"
    rw [cutTo m0, cutFrom (by omega)]
    exact ⟨by omega, by simp only [List.length_append, List.length_cons, List.length_nil]; omega, rfl⟩
  · walk_at "wpl"
    simp only [List.length_append, List.length_map, List.length_cons, List.length_nil]
    refine ⟨by decide, ?_⟩
    refine take_w D.pen (by omega) (by omega) (by omega) (by decide) (by decide) fun a2 v2 n e3 e4 n0 n1 => ?_
    walk_at "wpl"
    have hA : ∀ x ∈ [PyData.tuple (List.map PyData.int is ++ [PyData.int 0]), PyData.tuple (cutD (List.map PyData.int is) (some 1) none), PyData.list (List.map PyData.int is), PyData.none, PyData.int 5, PyData.str (Str.ofString "row"), PyData.dict [], PyData.tuple [PyData.tuple (List.map PyData.int is)]], rowB w x = false ∧ Fit x 20000 10 := by
      have c1 : cutD (is.map PyData.int) (some 1) none = (is.map PyData.int).drop 1 := cut_from _ 1
      rw [c1]
      simp only [List.forall_mem_cons]
      refine ⟨⟨rowB_len (by simp [hl]; omega), ?_⟩, ⟨rowB_len (by simp [hl]; omega), ?_⟩, ⟨rfl, ?_⟩, ⟨rfl, fit_none.mono (k := 0) (by decide) (by decide)⟩, ⟨rfl, (fit_int (k := 0) (by decide)).mono (by decide) (by decide)⟩, ⟨rfl, ?_⟩, ⟨rfl, fit_dct0.mono (k := 1) (by decide) (by decide)⟩, ⟨?_, ?_⟩, fun x hx => (nomatch hx)⟩
      · exact (Fit.tup (FitAll.app fis (FitAll.cons (fit_int (by decide)) (fit_nil (n := 0))))).mono (by decide) (by decide)
      · exact (Fit.tup (fis.drop 1)).mono (by decide) (by decide)
      · exact (Fit.lst fis).mono (by decide) (by decide)
      · exact ⟨by decide +kernel, by decide +kernel, by decide⟩
      · simp [rowB, isW, isiD]
      · exact (Fit.tup (FitAll.cons (Fit.tup fis) (fit_nil (n := 0)))).mono (by decide) (by decide)
    have hB : ∀ x ∈ (List.map (fun d => PyData.tuple ((is.map PyData.int).take m.toNat ++ [d] ++ (is.map PyData.int).drop (m + 1).toNat)) [PyData.bool true, PyData.bool false, PyData.none, PyData.str (Str.ofString "1"), PyData.tuple [PyData.int 1], PyData.list [PyData.int 1], PyData.dict []]), rowB w x = false ∧ Fit x 20000 10 := by
      refine all_map fun d hd => ?_
      have hb : isW d = false ∧ Fit d 3000 3 := by
        have : ∀ d ∈ [PyData.bool true, PyData.bool false, PyData.none, PyData.str (Str.ofString "1"), PyData.tuple [PyData.int 1], PyData.list [PyData.int 1], PyData.dict []], isW d = false ∧ Fit d 3000 3 := by
          intro d hd
          refine ⟨?_, fit_of (xs := [PyData.bool true, PyData.bool false, PyData.none, PyData.str (Str.ofString "1"), PyData.tuple [PyData.int 1], PyData.list [PyData.int 1], PyData.dict []]) (by decide +kernel) d hd⟩
          simp only [List.mem_cons, List.not_mem_nil, or_false] at hd
          rcases hd with rfl | rfl | rfl | rfl | rfl | rfl | rfl <;> rfl
        exact this d hd
      exact ⟨rowB_bad hb.1, (Fit.tup (FitAll.app (FitAll.app f1 (FitAll.cons hb.2 (fit_nil (n := 0)))) f2)).mono (by decide) (by decide)⟩
    obtain ⟨x, ⟨x1, x2⟩, ex⟩ := at_all (all_app hA hB) n0 (by simpa using n1)
    rw [ex]
    walk_at "wpl"
    rw [take_sto0]
    exact f a2 v2 x (by omega) (by omega) x1 x2
end

section
variable {T : FTab} (H : HasBent T) {o : Ob} {cs : List Int} {k : Nat} {a v : Int} {r : Sto} {P : Vv → Sto → Prop} {E : XE'}
include H
theorem bent_w {w : Nat} {xs : List PyData} {n j : Nat} (hf : Fit (.tuple xs) n j) (hn : n ≤ 1000000) (hj : j ≤ 40) (hw : 1 ≤ w) (hw3 : w ≤ 3) (hk : 45 ≤ k) (h0 : 0 ≤ a) (h1 : a + 2 < 1000000000)
    (f : ∀ a1 v1 (d : PyData), a ≤ a1 → a1 ≤ a + 2 → Fit d (3 * n + 10000) (2 * j + 5) → P (.d d) (sto o cs a1 v1 r)) : Wp (run T k "_law_o_bent" [.ref 1, .d (.int w), .d (.tuple xs)] (sto o cs a v r)) P E := by
  obtain ⟨k, rfl⟩ : ∃ i, k = i + 1 := ⟨k - 1, by omega⟩
  have D := H.draw
  rw [run_at H.o_bent]
  unfold FnI.run ir_o_bent Mode.of
  rw [w_scope]
  walk_at "wpl"
  have fx := hf.of_tup
  obtain ⟨k, rfl⟩ : ∃ i, k = i + 1 := ⟨k - 1, by omega⟩
  obtain ⟨ws, e, s1, s2, s3⟩ := spots_ok H j k xs n (sto o cs a v r) (fx.mono (by omega) (by omega)) (by omega) (by omega) (by omega)
  rw [e]
  walk_at "wpl"
  have hz : ws.length ≤ 1000000 := by have := fx.w; omega
  refine take_w D.pen (by omega) (by omega) (by omega) (by rw [List.length_map]; omega) (by rw [List.length_map]; omega) fun a1 v1 m e1 e2 m0 m1 => ?_
  rw [List.length_map] at m1
  obtain ⟨wd, ⟨way, hway, rfl⟩, ew⟩ := at_all (p := fun d => ∃ w ∈ ws, d = wayD w) (all_map fun w hw => ⟨w, hw, rfl⟩) m0 (by rw [List.length_map]; exact m1)
  obtain ⟨ok, ol⟩ := s1 way hway
  walk_at "wpl"
  rw [ew]
  walk_at "wpl"
  rw [part_ok H way _ _ _ ok (by omega)]
  walk_at "wpl"
  simp only [List.cons_append, List.nil_append, List.length_cons, List.length_nil, Nat.reduceAdd, Nat.reduceLeDiff, true_and]
  refine ⟨by decide, ?_⟩
  refine ⟨by decide, ?_⟩
  have fp := part_fit way (.tuple xs) n j ok hf
  generalize partAt (.tuple xs) way = q at fp
  have cfit := bentC_fit hw hw3
  have fin : ∀ (L : List PyData) (R : Sto) (Q : Vv → Sto → Prop) (a2 v2 : Int), (∀ x ∈ L, Fit x (2 * n + 8000) (j + 3)) → a ≤ a2 → a2 ≤ a + 2 → ∀ m : Int, 0 ≤ m → m < L.length → ∃ x, atI L m = some x ∧
      run T (k + 1) "_law_o_put" [.d (.tuple xs), .d (wayD way), .d x] (sto o cs a2 v2 (r ++ R)) = .ok (.d (putAt (.tuple xs) way x)) (sto o cs a2 v2 (r ++ R)) ∧ P (.d (putAt (.tuple xs) way x)) (sto o cs a2 v2 r) := by
    intro L R Q a2 v2 hL ha hb m m0 m1
    obtain ⟨x, fx', ex⟩ := at_all hL m0 m1
    refine ⟨x, ex, put_ok H x way (.tuple xs) n (k + 1) _ ok (hf.mono (Nat.le_refl _) (by omega)) (by omega) (by omega), ?_⟩
    exact f a2 v2 _ ha hb ((put_fit x fx' way (.tuple xs) n j ok hf).mono (by omega) (by omega))
  cases q with
  | tuple qs =>
    walk_at "wpl"
    have fq := fp.of_tup
    have lq := fq.len
    refine ⟨by omega, ?_⟩
    simp only [sto_app]
    refine take_w D.pen (by omega) (by omega) (by omega) (by decide) (by decide) fun a2 v2 m e3 e4 m0 m1 => ?_
    walk_at "wpl"
    rw [sto_at]
    walk_at "wpl"
    have hL : ∀ x ∈ bentC w ++ [.list qs, .tuple (qs ++ [.tuple qs]), .tuple (cutD qs none (some (-1))), .tuple qs.reverse, .tuple [.str "not", .tuple qs], .tuple [.str "or", .tuple qs, .tuple qs], .tuple [.tuple qs]], Fit x (2 * n + 8000) (j + 3) := by
      refine all_app (fun x hx => (cfit x hx).mono (by omega) (by omega)) ?_
      simp only [List.forall_mem_cons]
      have e0 : cutD qs none (some (-1)) = qs.take (HT.sIx qs.length qs.length (some (-1)) - 0) := rfl
      rw [e0]
      refine ⟨?_, ?_, ?_, ?_, ?_, ?_, ?_, fun x hx => (nomatch hx)⟩
      · exact (Fit.lst fq).mono (by omega) (by omega)
      · exact (Fit.tup (FitAll.app (fq.mono (Nat.le_refl _) (Nat.sub_le _ _)) (FitAll.cons fp (fit_nil (n := 0))))).mono (by omega) (by omega)
      · exact (Fit.tup (fq.take _)).mono (by omega) (by omega)
      · exact (Fit.tup fq.rev).mono (by omega) (by omega)
      · exact (Fit.tup (FitAll.cons fit_not (FitAll.cons fp (fit_nil (n := 0))))).mono (by omega) (by omega)
      · exact (Fit.tup (FitAll.cons fit_or (FitAll.cons fp (FitAll.cons fp (fit_nil (n := 0)))))).mono (by omega) (by omega)
      · exact (Fit.tup (FitAll.cons fp (fit_nil (n := 0)))).mono (by omega) (by omega)
    simp only [List.append_assoc]
    obtain ⟨x, ex, er, hx⟩ := fin _ _ P a2 v2 hL (by omega) (by omega) m m0 m1
    have ex' := ex
    unfold bentC at ex'
    simp only [List.cons_append, List.nil_append] at ex'
    rw [ex']
    walk_at "wpl"
    rw [er]
    walk_at "wpl"
    rw [take_sto]
    exact hx
  | _ =>
    walk_at "wpl"
    simp only [sto_app]
    refine take_w D.pen (by omega) (by omega) (by omega) (by decide) (by decide) fun a2 v2 m e3 e4 m0 m1 => ?_
    walk_at "wpl"
    rw [sto_at]
    walk_at "wpl"
    simp only [List.append_assoc]
    obtain ⟨x, ex, er, hx⟩ := fin (bentC w) _ P a2 v2 (fun x hx => (cfit x hx).mono (by omega) (by omega)) (by omega) (by omega) m m0 m1
    have ex' := ex
    unfold bentC at ex'
    rw [ex']
    walk_at "wpl"
    rw [er]
    walk_at "wpl"
    rw [take_sto]
    exact hx
end

end L2.Q

set_option maxHeartbeats 2000000
namespace L2.Q
open PySem PySem.Spec PyProof.Rows
local macro_rules | `(tactic| walk_at "wps") => `(tactic| simp (config := { failIfUnchanged := false, maxSteps := 10000000 }) only [w_var, w_int, w_str, w_bl, w_non, w_gint, w_gstr, w_bin, w_cmp, w_idx, w_tabGet, w_tabIx, w_chain, w_nt, w_neg, w_ife, w_conj1, w_conj, w_disj1, w_disj, wl_nil, wl_cons, w_tup, w_lst, w_new, w_call, w_bf, w_isi,
  w_frz, w_newL, w_uniq, w_usort, okB_f, okB_t, list1_l, w_litGet, is_bb, isnot_bb, w_bm, w_isx, w_isxB, w_fld, s_tryAs, t_nil, t_cons, t_set, t_doE, t_ifs, bm_c, bm_i, bm_s, isx_e, isx_n, isx_t, dat_n, isN_d, add_s, w_compN, w_catN,  w_ext, ext2, w_pop, wi_zip, wi_rngD, w_dct0, w_rev,  wo_no, wo_at, w_sl, w_app, wi_items, wi_rng1, wi_rng2, wi_enum, w_comp, cut1, wc_nil, wc_cons, wt_no, wt_at, b_nil, b_cons, s_set, s_asg, s_par, s_setIx, s_ret, s_retN, s_ifs, s_for, s_raise, s_doE, s_bk, s_ct, s_pass, w_body, start1, startN, start_0, retF_ret, retF_nx, wp_ok, wp_exc, wp_bind, ws_ok,
  nth, put, clear, wipe_0, wipe_c, onO_some, onO_none, onO_if, onO_map, onO_bind, onB_t, onB_f, onB_not, onB_b, onD_d, onF_nx, onF_ret, onF_bk, onF_ct, onI_i, items_l, items_t, deref_d, deref_r, drf_l, drf_f, bin2, setIx3_r, app2_r, frz1_r, onL_l, List.take_succ_cons, List.take_length, List.take_left, get_0, get_s, set_0, set_s, ix31, ix32, at0, at1, at2, at3, frz1_d, listOf_l, listOf_t, derefs_n, derefs_c, allD_n, allD_c,
  Option.map_some, Option.map_none, Option.bind_some, Option.bind_none, List.length_cons, List.length_nil, Nat.zero_add, Nat.reduceAdd, Int.cast_ofNat_Int, Int.natCast_zero, Int.natCast_one,
  add_i, sub_i, mul_i, div_i, mod_i, pow_i, add_t, add_l, lt_i, le_i, gt_i, ge_i, eq_i, ne_i, eq_s, ne_s, eq_b, is_n, isnot_n, isN_n, isN_i, idx_t, idx_l, sl_t, sl_l, tab_s, tab_g, len_t, len_l, min2_i, max2_i, min3_i, int_b, int_i, tuple_l, tuple_t, list_l, list_t, all_l, any_l, sum_l, max1_l, min1_l,
  asg_n, asg_t0, asg_t, isi_iI, isi_bI, isi_sI, isi_tI, isi_sS, isi_tT, Bool.not_true, Bool.not_false, decide_eq_true_eq, beq_iff_eq, if_true, if_false, ite_true, ite_false, true_and, and_true, Bool.false_eq_true, reduceIte, eq_self_iff_true, beq_self_eq_true, str_inj, String.reduceEq, Int.reduceBEq, Int.reduceEq, Nat.reduceEqDiff, not_true_eq_false, not_false_eq_true, Bool.true_and, Bool.and_true, Bool.false_and, Bool.and_false, Bool.or_false, Bool.false_or, Bool.true_or, Bool.or_true, false_and, and_false, decide_true, decide_false, zi_int_none, zi_int_bool, zi_int_int, zi_int_str, zi_int_list, zi_int_tuple, zi_int_dict, zi_bool_none, zi_bool_bool, zi_bool_int, zi_bool_str, zi_bool_list, zi_bool_tuple, zi_bool_dict, zi_str_none, zi_str_bool, zi_str_int, zi_str_str, zi_str_list, zi_str_tuple, zi_str_dict, zi_tuple_none, zi_tuple_bool, zi_tuple_int, zi_tuple_str, zi_tuple_list, zi_tuple_tuple, zi_tuple_dict, zi_list_none, zi_list_bool, zi_list_int, zi_list_str, zi_list_list, zi_list_tuple, zi_list_dict, zi_dict_none, zi_dict_bool, zi_dict_int, zi_dict_str, zi_dict_list, zi_dict_tuple, zi_dict_dict, eq_tt, ne_tt, get_cc, set_cc, lit_s, rev_t, rev_l, only_l, cat2_e, sizeLine_eq, is_t, is_s, is_l, is_b, List.isEmpty_cons, List.isEmpty_nil, Nat.reduceLeDiff, Int.reduceLE, Int.reduceLT, Int.reduceAdd, Int.reduceSub, Int.reduceNeg, Int.reduceToNat, Int.reduceMul, Nat.reduceLT, Option.getD_some, Option.getD_none, onD_d, Nat.zero_le])
local macro_rules | `(tactic| walk_at "wpl") => `(tactic| simp (config := { failIfUnchanged := false, maxSteps := 10000000 }) only [w_var, w_int, w_str, w_bl, w_non, w_gint, w_gstr, w_bin, w_cmp, w_idx, w_tabGet, w_tabIx, w_chain, w_nt, w_neg, w_ife, w_conj1, w_conj, w_disj1, w_disj, wl_nil, wl_cons, w_tup, w_lst, w_new, w_call, w_bf, w_isi,
  w_frz, w_newL, w_uniq, w_usort, okB_f, okB_t, list1_l, w_litGet, is_bb, isnot_bb, w_bm, w_isx, w_isxB, w_fld, s_tryAs, t_nil, t_cons, t_set, t_doE, t_ifs, bm_c, bm_i, bm_s, isx_e, isx_n, isx_t, dat_n, isN_d, add_s, w_compN, w_catN,  w_ext, ext2, w_pop, wi_zip, wi_rngD, w_dct0, w_rev,  wo_no, wo_at, w_sl, w_app, wi_items, wi_rng1, wi_rng2, wi_enum, w_comp, cut1, wt_no, wt_at, b_nil, b_cons, s_set, s_asg, s_par, s_setIx, s_ret, s_retN, s_ifs, s_for, s_raise, s_doE, s_bk, s_ct, s_pass, w_body, start1, startN, start_0, retF_ret, retF_nx, wp_ok, wp_exc, wp_bind, ws_ok,
  nth, put, clear, wipe_0, wipe_c, onO_some, onO_none, onO_if, onO_map, onO_bind, onB_t, onB_f, onB_not, onB_b, onD_d, onF_nx, onF_ret, onF_bk, onF_ct, onI_i, items_l, items_t, deref_d, deref_r, drf_l, drf_f, bin2, setIx3_r, app2_r, frz1_r, onL_l, List.take_succ_cons, List.take_length, List.take_left, get_0, get_s, set_0, set_s, ix31, ix32, at0, at1, at2, at3, frz1_d, listOf_l, listOf_t, derefs_n, derefs_c, allD_n, allD_c,
  Option.map_some, Option.map_none, Option.bind_some, Option.bind_none, List.length_cons, List.length_nil, Nat.zero_add, Nat.reduceAdd, Int.cast_ofNat_Int, Int.natCast_zero, Int.natCast_one,
  add_i, sub_i, mul_i, div_i, mod_i, pow_i, add_t, add_l, lt_i, le_i, gt_i, ge_i, eq_i, ne_i, eq_s, ne_s, eq_b, is_n, isnot_n, isN_n, isN_i, idx_t, idx_l, sl_t, sl_l, tab_s, tab_g, len_t, len_l, min2_i, max2_i, min3_i, int_b, int_i, tuple_l, tuple_t, list_l, list_t, all_l, any_l, sum_l, max1_l, min1_l,
  asg_n, asg_t0, asg_t, isi_iI, isi_bI, isi_sI, isi_tI, isi_sS, isi_tT, Bool.not_true, Bool.not_false, decide_eq_true_eq, beq_iff_eq, if_true, if_false, ite_true, ite_false, true_and, and_true, Bool.false_eq_true, reduceIte, eq_self_iff_true, beq_self_eq_true, str_inj, String.reduceEq, Int.reduceBEq, Int.reduceEq, Nat.reduceEqDiff, not_true_eq_false, not_false_eq_true, Bool.true_and, Bool.and_true, Bool.false_and, Bool.and_false, Bool.or_false, Bool.false_or, Bool.true_or, Bool.or_true, false_and, and_false, decide_true, decide_false, zi_int_none, zi_int_bool, zi_int_int, zi_int_str, zi_int_list, zi_int_tuple, zi_int_dict, zi_bool_none, zi_bool_bool, zi_bool_int, zi_bool_str, zi_bool_list, zi_bool_tuple, zi_bool_dict, zi_str_none, zi_str_bool, zi_str_int, zi_str_str, zi_str_list, zi_str_tuple, zi_str_dict, zi_tuple_none, zi_tuple_bool, zi_tuple_int, zi_tuple_str, zi_tuple_list, zi_tuple_tuple, zi_tuple_dict, zi_list_none, zi_list_bool, zi_list_int, zi_list_str, zi_list_list, zi_list_tuple, zi_list_dict, zi_dict_none, zi_dict_bool, zi_dict_int, zi_dict_str, zi_dict_list, zi_dict_tuple, zi_dict_dict, eq_tt, ne_tt, get_cc, set_cc, lit_s, rev_t, rev_l, only_l, cat2_e, sizeLine_eq, is_t, is_s, is_l, is_b, List.isEmpty_cons, List.isEmpty_nil, Nat.reduceLeDiff, Int.reduceLE, Int.reduceLT, Int.reduceAdd, Int.reduceSub, Int.reduceNeg, Int.reduceToNat, Int.reduceMul, Nat.reduceLT, Option.getD_some, Option.getD_none, onD_d, Nat.zero_le])
-- BODY
/-! shared by several laws: boxes, of anything. -/
def ir_is_cut : FnI := ⟨["width", "thing"], ["width", "thing"], .pure, (.cons (.ifs (.disj (.cons (.nt (.isi .tuple (.var 1))) (.cons (.cmp .NotEq (.bf .len (.cons (.var 1) .nil)) (.int 2)) .nil))) (.cons (.ret (.bl false)) .nil) .nil) (.cons (.ret (.conj (.cons (.call 1 "is_whole" (.cons (.idx (.var 1) (.int 0)) .nil)) (.cons (.chain .LtE .Lt (.int 0) (.idx (.var 1) (.int 0)) (.var 0)) (.cons (.call 1 "is_whole" (.cons (.idx (.var 1) (.int 1)) .nil)) .nil))))) .nil))⟩
def ir_o_odd_box : FnI := ⟨["_law_pen", "_law_box"], ["_law_pen", "_law_box", "_law_at", "_law_sides", "_law_some", "_law_side"], .scope, (.cons (.set 2 (.call 2 "_law_take" (.cons (.var 0) (.cons (.bf .len (.cons (.var 1) .nil)) .nil)))) (.cons (.set 3 (.lst (.cons (.tup (.cons (.int 5) (.cons (.int 5) .nil))) (.cons (.tup (.cons (.int 6) (.cons (.int 5) .nil))) (.cons (.tup (.cons .non .nil)) (.cons (.tup (.cons .non (.cons .non (.cons .non .nil)))) (.cons (.lst (.cons .non (.cons .non .nil))) (.cons (.tup (.cons (.bl true) (.cons .non .nil))) (.cons (.tup (.cons .non (.cons (.bl false) .nil))) (.cons (.tup (.cons (.str "1") (.cons .non .nil))) (.cons .non .nil))))))))))) (.cons (.set 3 (.bin .Add (.var 3) (.lst (.cons (.tup (.cons (.int 0) (.cons (.lst (.cons (.int 1) .nil)) .nil))) (.cons (.tup (.cons (.int 0) (.cons (.int 1) (.cons (.int 2) .nil)))) (.cons (.tup .nil) (.cons (.int 3) (.cons (.str "no") (.cons (.tup (.cons (.bin .Pow (.int 10) (.int 20)) (.cons (.int 0) .nil))) (.cons (.tup (.cons (.tup (.cons (.int 0) (.cons (.int 1) .nil))) .nil)) (.cons .dct0 (.cons (.tup (.cons (.int 0) (.cons (.tup (.cons (.int 1) .nil)) .nil))) (.cons (.tup (.cons (.int 0) (.cons (.int 0) .nil))) .nil))))))))))))) (.cons (.set 4 (.comp [5] (.name 5) (.items (.var 3)) .no (.bin .Add (.bin .Add (.sl (.var 1) .no (.at_ (.var 2))) (.tup (.cons (.var 5) .nil))) (.sl (.var 1) (.at_ (.bin .Add (.var 2) (.int 1))) .no)))) (.cons (.set 4 (.bin .Add (.var 4) (.lst (.cons (.bf .list (.cons (.var 1) .nil)) (.cons (.bin .Add (.var 1) (.tup (.cons (.tup (.cons .non (.cons .non .nil))) .nil))) (.cons (.sl (.var 1) (.at_ (.int 1)) .no) (.cons .non (.cons (.int 0) (.cons (.tup (.cons (.var 1) .nil)) (.cons (.str "box") (.cons .dct0 (.cons (.bl true) .nil)))))))))))) (.cons (.ret (.idx (.var 4) (.call 2 "_law_take" (.cons (.var 0) (.cons (.bf .len (.cons (.var 4) .nil)) .nil))))) .nil))))))⟩
def ir_halves : FnI := ⟨["box", "cut"], ["box", "cut", "column", "bound", "low", "high", "ahead", "behind"], .pure, (.cons (.asg [2, 3] (.var 1)) (.cons (.asg [4, 5] (.idx (.var 0) (.var 2))) (.cons (.par 6 7 (.sl (.var 0) .no (.at_ (.var 2))) (.sl (.var 0) (.at_ (.bin .Add (.var 2) (.int 1))) .no)) (.cons (.ret (.tup (.cons (.bin .Add (.bin .Add (.var 6) (.tup (.cons (.tup (.cons (.var 4) (.cons (.var 3) .nil))) .nil))) (.var 7)) (.cons (.bin .Add (.bin .Add (.var 6) (.tup (.cons (.tup (.cons (.var 3) (.cons (.var 5) .nil))) .nil))) (.var 7)) .nil)))) .nil))))⟩
def ir_halves_at : FnI := ⟨["width", "box", "cut"], ["width", "box", "cut"], .pure, (.cons (.doE (.call 2 "need_box" (.cons (.var 0) (.cons (.var 1) .nil)))) (.cons (.ifs (.disj (.cons (.nt (.call 2 "is_cut" (.cons (.var 0) (.cons (.var 2) .nil)))) (.cons (.nt (.call 2 "is_inside" (.cons (.var 2) (.cons (.var 1) .nil)))) .nil))) (.cons (.raise "NoCut") .nil) .nil) (.cons (.ret (.call 2 "halves" (.cons (.var 1) (.cons (.var 2) .nil)))) .nil)))⟩
def ir_is_inside : FnI := ⟨["cut", "box"], ["cut", "box", "low", "high"], .pure, (.cons (.asg [2, 3] (.idx (.var 1) (.idx (.var 0) (.int 0)))) (.cons (.ret (.conj (.cons (.disj (.cons (.cmp .Is (.var 2) .non) (.cons (.cmp .Lt (.var 2) (.idx (.var 0) (.int 1))) .nil))) (.cons (.disj (.cons (.cmp .Is (.var 3) .non) (.cons (.cmp .Lt (.idx (.var 0) (.int 1)) (.var 3)) .nil))) .nil)))) .nil))⟩
structure HasBoxAny (T : FTab) : Prop where
  say : HasW T
  is_side : T.lookup ("is_side" : Str) = some ir_is_side
  is_box : T.lookup ("is_box" : Str) = some ir_is_box
structure HasCut (T : FTab) : Prop where
  say : HasW T
  is_cut : T.lookup ("is_cut" : Str) = some ir_is_cut
structure HasOddBox (T : FTab) : Prop where
  draw : HasPen T
  o_odd_box : T.lookup ("_law_o_odd_box" : Str) = some ir_o_odd_box
def ltB : PyData → PyData → Bool
  | .int i, .int j => decide (i < j)
  | _, _ => false
def sideB : PyData → Bool
  | .tuple [x, y] => (isN x || isW x) && (isN y || isW y) && (isN x || isN y || ltB x y)
  | _ => false
def boxB (w : Int) : PyData → Bool
  | .tuple xs => decide ((xs.length : Int) = w) && xs.all sideB
  | _ => false
def cutB (w : Int) : PyData → Bool
  | .tuple [c, b] => underB w c b
  | _ => false
inductive Knd (x : PyData) : Prop
  | n (e : x = .none)
  | i (k : Int) (e : x = .int k)
  | o (h1 : isN x = false) (h2 : isW x = false)
theorem knd (x : PyData) : Knd x := by
  cases x with
  | none => exact .n rfl
  | int k => exact .i k rfl
  | _ => exact .o rfl rfl
theorem boolsOf_map {α : Type} (f : α → Bool) : ∀ xs : List α, boolsOf (xs.map fun x => .bool (f x)) = some (xs.map f)
  | [] => rfl
  | x :: xs => by
    rw [List.map_cons, boolsOf_c, boolsOf_map f xs]
    rfl
theorem in_none {x y : PyData} (hx : flatD x = true) (hy : flatD y = true) : opCmp .In .none (.tuple [x, y]) = some (.bool (isN x || isN y)) := by
  have e : ∀ z, flatD z = true → PyData.eqv z .none = isN z := fun z hz => by cases z <;> first | rfl | cases hz
  show bO (if _ then _ else _) = _
  rw [if_pos ⟨rfl, by simp [hx, hy]⟩]
  simp [bO, e x hx, e y hy]
section
variable {T : FTab} (H : HasBoxAny T)
include H
theorem side_any (x : PyData) (k : Nat) (st : Sto) (hk : 2 ≤ k) : run T k "is_side" [.d x] st = .ok (.d (.bool (sideB x))) st := by
  obtain ⟨k, rfl⟩ : ∃ j, k = j + 2 := ⟨k - 2, by omega⟩
  apply Wp.eq
  rw [run_at H.is_side]
  unfold FnI.run ir_is_side Mode.of
  rw [w_pure rfl]
  cases x with
  | tuple xs =>
    rcases xs with _ | ⟨x, _ | ⟨y, _ | ⟨z, r⟩⟩⟩
    · walk_at "wps"; simp [sideB]
    · walk_at "wps"; simp [sideB]
    · rcases knd x with rfl | ⟨i, rfl⟩ | ⟨n1, n2⟩ <;> rcases knd y with rfl | ⟨j, rfl⟩ | ⟨n3, n4⟩
      · walk_at "wps"
        rw [boolsOf_c, boolsOf_c, boolsOf_n, in_none rfl rfl]
        walk_at "wps"
        simp [sideB, isN, isW, isiD]
      · walk_at "wps"
        rw [whole_ok H.say k]
        walk_at "wps"
        rw [boolsOf_c, boolsOf_c, boolsOf_n, in_none rfl rfl]
        walk_at "wps"
        simp [sideB, isN, isW, isiD]
      · walk_at "wps"
        rw [n3, if_neg Bool.false_ne_true, whole_ok H.say k y, n4]
        walk_at "wps"
        rw [boolsOf_c, boolsOf_c, boolsOf_n]
        walk_at "wps"
        simp [sideB, n3, n4]
      · walk_at "wps"
        rw [whole_ok H.say k]
        walk_at "wps"
        rw [boolsOf_c, boolsOf_c, boolsOf_n, in_none rfl rfl]
        walk_at "wps"
        simp [sideB, isN, isW, isiD]
      · walk_at "wps"
        rw [whole_ok H.say k]
        walk_at "wps"
        rw [whole_ok H.say k]
        walk_at "wps"
        rw [boolsOf_c, boolsOf_c, boolsOf_n, in_none rfl rfl]
        walk_at "wps"
        simp [sideB, isN, isW, isiD, ltB]
      · walk_at "wps"
        rw [whole_ok H.say k]
        walk_at "wps"
        rw [n3, if_neg Bool.false_ne_true, whole_ok H.say k y, n4]
        walk_at "wps"
        rw [boolsOf_c, boolsOf_c, boolsOf_n]
        walk_at "wps"
        simp [sideB, n3, n4]
      · walk_at "wps"
        rw [n1, if_neg Bool.false_ne_true, whole_ok H.say k x, n2]
        walk_at "wps"
        rw [boolsOf_c, boolsOf_c, boolsOf_n]
        walk_at "wps"
        simp [sideB, n1, n2]
      · walk_at "wps"
        rw [n1, if_neg Bool.false_ne_true, whole_ok H.say k x, n2]
        walk_at "wps"
        rw [whole_ok H.say k]
        walk_at "wps"
        rw [boolsOf_c, boolsOf_c, boolsOf_n]
        walk_at "wps"
        simp [sideB, n1, n2]
      · walk_at "wps"
        rw [n1, if_neg Bool.false_ne_true, whole_ok H.say k x, n2]
        walk_at "wps"
        rw [n3, if_neg Bool.false_ne_true, whole_ok H.say k y, n4]
        walk_at "wps"
        rw [boolsOf_c, boolsOf_c, boolsOf_n]
        walk_at "wps"
        simp [sideB, n1, n2]
    · walk_at "wps"
      simp [sideB]
      intro h
      omega
  | _ => walk_at "wps"; simp [sideB]
theorem box_any (w : Int) (x : PyData) (k : Nat) (st : Sto) (h1 : 1 ≤ w) (h2 : w ≤ 3) (hk : 3 ≤ k) : run T k "is_box" [.d (.int w), .d x] st = .ok (.d (.bool (boxB w x))) st := by
  obtain ⟨k, rfl⟩ : ∃ j, k = j + 3 := ⟨k - 3, by omega⟩
  apply Wp.eq
  rw [run_at H.is_box]
  unfold FnI.run ir_is_box Mode.of
  rw [w_pure rfl]
  walk_at "wpl"
  rw [width_ok H.say k w [] h1 h2]
  cases x with
  | tuple xs =>
    walk_at "wpl"
    by_cases hl : (xs.length : Int) = w
    · rw [if_pos hl]
      refine wc_map (f := fun x => .bool (sideB x)) (fun x _ => ?_) ?_
      · walk_at "wpl"
        rw [side_any H x (k + 2) [] (by omega)]
        walk_at "wpl"
      · rw [boolsOf_map]
        walk_at "wpl"
        simp [boxB, hl]
    · rw [if_neg hl]
      simp [boxB, hl]
  | _ => walk_at "wpl"; simp [boxB]
end

section
variable {T : FTab} (H : HasCut T)
include H
theorem cut_any (w : Int) (x : PyData) (k : Nat) (st : Sto) (hk : 2 ≤ k) : run T k "is_cut" [.d (.int w), .d x] st = .ok (.d (.bool (cutB w x))) st := by
  obtain ⟨k, rfl⟩ : ∃ j, k = j + 2 := ⟨k - 2, by omega⟩
  apply Wp.eq
  rw [run_at H.is_cut]
  unfold FnI.run ir_is_cut Mode.of
  rw [w_pure rfl]
  cases x with
  | tuple xs =>
    rcases xs with _ | ⟨c, _ | ⟨b, _ | ⟨z, r⟩⟩⟩
    · walk_at "wps"; simp [cutB]
    · walk_at "wps"; simp [cutB]
    · walk_at "wps"
      rw [whole_ok H.say k]
      walk_at "wps"
      split
      · rename_i h
        obtain ⟨i, rfl⟩ := isW_t.mp h
        walk_at "wps"
        by_cases h1 : 0 ≤ i
        · rw [if_pos h1]
          by_cases h2 : i < w
          · rw [if_pos h2, whole_ok H.say k]
            walk_at "wps"
            cases b <;> simp [cutB, underB, isW, isiD, h1, h2]
          · rw [if_neg h2]
            cases b <;> simp [cutB, underB, h2]
        · rw [if_neg h1]
          cases b <;> simp [cutB, underB, h1]
      · rename_i h
        cases c <;> simp_all [cutB, underB, isW, isiD]
    · walk_at "wps"
      simp [cutB]
      intro h
      omega
  | _ => walk_at "wps"; simp [cutB]
end

theorem fit_int2 {i : Int} {k : Nat} (h : i.natAbs ≤ 10 ^ 40) : Fit (.int i) 1921 k := ⟨log_ok (by
  have : (10 : Nat) ^ 40 < 2 ^ 200 := by decide +kernel
  exact Nat.lt_of_le_of_lt h this), Nat.le_refl _, Nat.zero_le _⟩
theorem cutTo' {α : Type} {xs : List α} {n : Int} (h : 0 ≤ n) : cutD xs none (some n) = xs.take n.toNat := by
  obtain ⟨m, rfl⟩ := Int.eq_ofNat_of_zero_le h
  exact cut_to xs m
theorem cutFrom' {α : Type} {xs : List α} {n : Int} (h : 0 ≤ n) : cutD xs (some n) none = xs.drop n.toNat := by
  obtain ⟨m, rfl⟩ := Int.eq_ofNat_of_zero_le h
  exact cut_from xs m
theorem all_app' {xs ys : List PyData} {p : PyData → Prop} (h1 : ∀ x ∈ xs, p x) (h2 : ∀ x ∈ ys, p x) : ∀ x ∈ xs ++ ys, p x := fun x hx => (List.mem_append.mp hx).elim (h1 x) (h2 x)
theorem all_map' {α : Type} {xs : List α} {g : α → PyData} {p : PyData → Prop} (h1 : ∀ x ∈ xs, p (g x)) : ∀ x ∈ xs.map g, p x := fun x hx => by
  obtain ⟨y, hy, rfl⟩ := List.mem_map.mp hx
  exact h1 y hy
def fitc (n k : Nat) (x : PyData) : Bool := plainD x && decide (wid x ≤ n) && decide (x.depth ≤ k)
theorem fitc_of {n k : Nat} {xs : List PyData} (h : xs.all (fitc n k) = true) : ∀ x ∈ xs, Fit x n k := fun x hx => by
  have := List.all_eq_true.mp h x hx
  unfold fitc at this
  obtain ⟨h1, h2⟩ := and_split this
  obtain ⟨h1, h3⟩ := and_split h1
  exact ⟨h1, of_decide_eq_true h3, of_decide_eq_true h2⟩
theorem opt_fit {o : Option Int} {k : Nat} (h : ∀ l, o = some l → l.natAbs ≤ 10 ^ 40) : Fit (optD o) 1921 k := by
  cases o with
  | none => exact fit_none.mono (by decide) (Nat.le_refl _)
  | some l => exact fit_int2 (h l rfl)
def SdB (s : Sd) : Prop := (∀ l, s.1 = some l → l.natAbs ≤ 10 ^ 40) ∧ ∀ h, s.2 = some h → h.natAbs ≤ 10 ^ 40
theorem sd_fit {s : Sd} {k : Nat} (h : SdB s) : Fit (sdD s) 4000 (k + 1) := (Fit.tup (FitAll.cons (opt_fit h.1) (FitAll.cons (opt_fit h.2) (fit_nil (n := 0))))).mono (by decide) (Nat.le_refl _)
theorem bx_fit {bx : List Sd} (h : ∀ s ∈ bx, SdB s) : FitAll (bx.map sdD) (4002 * bx.length) 1 := by
  induction bx with
  | nil => exact fit_nil
  | cons s bx ih =>
    refine (FitAll.cons (sd_fit (k := 0) (h s List.mem_cons_self)) (ih fun e he => h e (List.mem_cons_of_mem _ he))).mono ?_ (Nat.le_refl _)
    simp only [List.length_cons]; omega
theorem box_no {w : Int} {xs ys : List PyData} {x : PyData} (h : sideB x = false) : boxB w (.tuple (xs ++ [x] ++ ys)) = false := by simp [boxB, h]
theorem box_len {w : Int} {xs : List PyData} (h : ¬ (xs.length : Int) = w) : boxB w (.tuple xs) = false := by simp [boxB, h]
def oddS : List PyData := [.tuple [.int 5, .int 5], .tuple [.int 6, .int 5], .tuple [.none], .tuple [.none, .none, .none], .list [.none, .none], .tuple [.bool true, .none], .tuple [.none, .bool false], .tuple [.str "1", .none], .none,
  .tuple [.int 0, .list [.int 1]], .tuple [.int 0, .int 1, .int 2], .tuple [], .int 3, .str "no", .tuple [.int (10 ^ 20), .int 0], .tuple [.tuple [.int 0, .int 1]], .dict [], .tuple [.int 0, .tuple [.int 1]], .tuple [.int 0, .int 0]]
theorem oddS_no : ∀ x ∈ oddS, sideB x = false ∧ Fit x 8000 3 := by
  have h1 : oddS.all (fun x => !sideB x) = true := by decide +kernel
  have h2 : ∀ x ∈ oddS, Fit x 8000 3 := fitc_of (by decide +kernel)
  intro x hx
  have := List.all_eq_true.mp h1 x hx
  exact ⟨by simpa using this, h2 x hx⟩
section
variable {T : FTab} (H : HasOddBox T) {o : Ob} {cs : List Int} {k : Nat} {a v : Int} {r : Sto} {P : Vv → Sto → Prop} {E : XE'}
include H
theorem odd_box_w {w : Nat} {bx : List Sd} (hl : bx.length = w) (hb : ∀ s ∈ bx, SdB s) (hw : 1 ≤ w) (hw3 : w ≤ 3) (hk : 3 ≤ k) (h0 : 0 ≤ a) (h1 : a + 2 < 1000000000)
    (f : ∀ a1 v1 (d : PyData), a ≤ a1 → a1 ≤ a + 2 → boxB w d = false → Fit d 40000 10 → P (.d d) (sto o cs a1 v1 r)) : Wp (run T k "_law_o_odd_box" [.ref 1, .d (bxD bx)] (sto o cs a v r)) P E := by
  obtain ⟨k, rfl⟩ : ∃ j, k = j + 1 := ⟨k - 1, by omega⟩
  have D := H.draw
  rw [run_at H.o_odd_box]
  unfold FnI.run ir_o_odd_box Mode.of bxD
  rw [w_scope]
  walk_at "wpl"
  have len : (bx.map sdD).length = w := by rw [List.length_map, hl]
  rw [len]
  refine take_w D (by omega) (by omega) (by omega) (by omega) (by omega) fun a1 v1 m e1 e2 m0 m1 => ?_
  walk_at "wpl"
  refine ⟨by decide, ?_⟩
  have fb : FitAll (bx.map sdD) 12006 3 := (bx_fit hb).mono (by omega) (by omega)
  have f1 := fb.take m.toNat
  have f2 := fb.drop (m + 1).toNat
  have l1 : ((bx.map sdD).take m.toNat).length ≤ 3 := by rw [List.length_take]; omega
  have l2 : ((bx.map sdD).drop (m + 1).toNat).length ≤ 3 := by rw [List.length_drop]; omega
  refine wc_map (f := fun d => .tuple ((bx.map sdD).take m.toNat ++ [d] ++ (bx.map sdD).drop (m + 1).toNat)) (fun d _ => ?_) ?_
  · walk_at "wps"
    rw [cutTo' m0, cutFrom' (by omega)]
    exact ⟨by omega, by simp only [List.length_append, List.length_cons, List.length_nil]; omega, rfl⟩
  · walk_at "wpl"
    simp only [List.length_append, List.length_map, List.length_cons, List.length_nil]
    refine ⟨by omega, by decide, ?_⟩
    refine take_w D (by omega) (by omega) (by omega) (by decide) (by decide) fun a2 v2 n e3 e4 n0 n1 => ?_
    walk_at "wpl"
    have hA : ∀ x ∈ oddS.map (fun d => PyData.tuple ((bx.map sdD).take m.toNat ++ [d] ++ (bx.map sdD).drop (m + 1).toNat)), boxB w x = false ∧ Fit x 40000 10 := all_map' fun d hd => by
      obtain ⟨q1, q2⟩ := oddS_no d hd
      exact ⟨box_no q1, (Fit.tup (FitAll.app (FitAll.app f1 (FitAll.cons q2 (fit_nil (n := 0)))) f2)).mono (by decide) (by decide)⟩
    have hB : ∀ x ∈ [PyData.list (bx.map sdD), .tuple (bx.map sdD ++ [.tuple [.none, .none]]), .tuple (cutD (bx.map sdD) (some 1) none), .none, .int 0, .tuple [.tuple (bx.map sdD)], .str "box", .dict [], .bool true], boxB w x = false ∧ Fit x 40000 10 := by
      have c1 : cutD (bx.map sdD) (some 1) none = (bx.map sdD).drop 1 := cut_from _ 1
      rw [c1]
      simp only [List.forall_mem_cons]
      have nn : Fit (.tuple [.none, .none]) 20 1 := ⟨by decide +kernel, by decide +kernel, by decide⟩
      refine ⟨⟨rfl, (Fit.lst fb).mono (by decide) (by decide)⟩, ⟨box_len (by simp [hl]; omega), (Fit.tup (FitAll.app fb (FitAll.cons (nn.mono (Nat.le_refl _) (by decide)) (fit_nil (n := 0))))).mono (by decide) (by decide)⟩, ⟨box_len (by simp [hl]; omega), (Fit.tup (fb.drop 1)).mono (by decide) (by decide)⟩, ⟨rfl, fit_none.mono (k := 0) (by decide) (by decide)⟩,
        ⟨rfl, (fit_int (k := 0) (by decide)).mono (by decide) (by decide)⟩, ⟨by simp [boxB]; intro _; cases bx with
          | nil => simp at hl; omega
          | cons s b => cases b with
            | nil => simp [sideB]
            | cons t b => cases b with
              | nil => simp [sideB, sdD, isN, isW, isiD]
              | cons u b => simp [sideB], (Fit.tup (FitAll.cons (Fit.tup fb) (fit_nil (n := 0)))).mono (by decide) (by decide)⟩, ⟨rfl, ⟨by decide +kernel, by decide +kernel, by decide⟩⟩, ⟨rfl, fit_dct0.mono (k := 1) (by decide) (by decide)⟩, ⟨rfl, fit_bool.mono (k := 0) (by decide) (by decide)⟩, fun x hx => (nomatch hx)⟩
    obtain ⟨x, ⟨x1, x2⟩, ex⟩ := at_all (all_app' hA hB) n0 (by simpa [oddS] using n1)
    unfold oddS at ex
    rw [show ([PyData.tuple [.int 5, .int 5], .tuple [.int 6, .int 5], .tuple [.none], .tuple [.none, .none, .none], .list [.none, .none], .tuple [.bool true, .none], .tuple [.none, .bool false], .tuple [.str "1", .none], .none] ++ [.tuple [.int 0, .list [.int 1]], .tuple [.int 0, .int 1, .int 2], .tuple [], .int 3, .str "no", .tuple [.int (10 ^ 20), .int 0], .tuple [.tuple [.int 0, .int 1]], .dict [], .tuple [.int 0, .tuple [.int 1]], .tuple [.int 0, .int 0]] : List PyData) = oddS from rfl]
    unfold oddS
    rw [ex]
    walk_at "wpl"
    rw [take_sto0]
    exact f a2 v2 x (by omega) (by omega) x1 x2
end

end L2.Q

set_option maxHeartbeats 2000000
namespace L2.Q
open PySem PySem.Spec PyProof.Rows
local macro_rules | `(tactic| walk_at "wps") => `(tactic| simp (config := { failIfUnchanged := false, maxSteps := 10000000 }) only [w_var, w_int, w_str, w_bl, w_non, w_gint, w_gstr, w_bin, w_cmp, w_idx, w_tabGet, w_tabIx, w_chain, w_nt, w_neg, w_ife, w_conj1, w_conj, w_disj1, w_disj, wl_nil, wl_cons, w_tup, w_lst, w_new, w_call, w_bf, w_isi,
  w_frz, w_newL, w_uniq, w_usort, okB_f, okB_t, list1_l, w_litGet, is_bb, isnot_bb, w_bm, w_isx, w_isxB, w_fld, s_tryAs, t_nil, t_cons, t_set, t_doE, t_ifs, bm_c, bm_i, bm_s, isx_e, isx_n, isx_t, dat_n, isN_d, add_s, w_compN, w_catN,  w_ext, ext2, w_pop, wi_zip, wi_rngD, w_dct0, w_rev,  wo_no, wo_at, w_sl, w_app, wi_items, wi_rng1, wi_rng2, wi_enum, w_comp, cut1, wc_nil, wc_cons, wt_no, wt_at, b_nil, b_cons, s_set, s_asg, s_par, s_setIx, s_ret, s_retN, s_ifs, s_for, s_raise, s_doE, s_bk, s_ct, s_pass, w_body, start1, startN, start_0, retF_ret, retF_nx, wp_ok, wp_exc, wp_bind, ws_ok,
  nth, put, clear, wipe_0, wipe_c, onO_some, onO_none, onO_if, onO_map, onO_bind, onB_t, onB_f, onB_not, onB_b, onD_d, onF_nx, onF_ret, onF_bk, onF_ct, onI_i, items_l, items_t, deref_d, deref_r, drf_l, drf_f, bin2, setIx3_r, app2_r, frz1_r, onL_l, List.take_succ_cons, List.take_length, List.take_left, get_0, get_s, set_0, set_s, ix31, ix32, at0, at1, at2, at3, frz1_d, listOf_l, listOf_t, derefs_n, derefs_c, allD_n, allD_c,
  Option.map_some, Option.map_none, Option.bind_some, Option.bind_none, List.length_cons, List.length_nil, Nat.zero_add, Nat.reduceAdd, Int.cast_ofNat_Int, Int.natCast_zero, Int.natCast_one,
  add_i, sub_i, mul_i, div_i, mod_i, pow_i, add_t, add_l, lt_i, le_i, gt_i, ge_i, eq_i, ne_i, eq_s, ne_s, eq_b, is_n, isnot_n, isN_n, isN_i, idx_t, idx_l, sl_t, sl_l, tab_s, tab_g, len_t, len_l, min2_i, max2_i, min3_i, int_b, int_i, tuple_l, tuple_t, list_l, list_t, all_l, any_l, sum_l, max1_l, min1_l,
  asg_n, asg_t0, asg_t, isi_iI, isi_bI, isi_sI, isi_tI, isi_sS, isi_tT, Bool.not_true, Bool.not_false, decide_eq_true_eq, beq_iff_eq, if_true, if_false, ite_true, ite_false, true_and, and_true, Bool.false_eq_true, reduceIte, eq_self_iff_true, beq_self_eq_true, str_inj, String.reduceEq, Int.reduceBEq, Int.reduceEq, Nat.reduceEqDiff, not_true_eq_false, not_false_eq_true, Bool.true_and, Bool.and_true, Bool.false_and, Bool.and_false, Bool.or_false, Bool.false_or, Bool.true_or, Bool.or_true, false_and, and_false, decide_true, decide_false, zi_int_none, zi_int_bool, zi_int_int, zi_int_str, zi_int_list, zi_int_tuple, zi_int_dict, zi_bool_none, zi_bool_bool, zi_bool_int, zi_bool_str, zi_bool_list, zi_bool_tuple, zi_bool_dict, zi_str_none, zi_str_bool, zi_str_int, zi_str_str, zi_str_list, zi_str_tuple, zi_str_dict, zi_tuple_none, zi_tuple_bool, zi_tuple_int, zi_tuple_str, zi_tuple_list, zi_tuple_tuple, zi_tuple_dict, zi_list_none, zi_list_bool, zi_list_int, zi_list_str, zi_list_list, zi_list_tuple, zi_list_dict, zi_dict_none, zi_dict_bool, zi_dict_int, zi_dict_str, zi_dict_list, zi_dict_tuple, zi_dict_dict, eq_tt, ne_tt, get_cc, set_cc, lit_s, rev_t, rev_l, only_l, cat2_e, sizeLine_eq, is_t, is_s, is_l, is_b, List.isEmpty_cons, List.isEmpty_nil, Nat.reduceLeDiff, Int.reduceLE, Int.reduceLT, Int.reduceAdd, Int.reduceSub, Int.reduceNeg, Int.reduceToNat, Int.reduceMul, Nat.reduceLT, Option.getD_some, Option.getD_none, onD_d, Nat.zero_le])
local macro_rules | `(tactic| walk_at "wpl") => `(tactic| simp (config := { failIfUnchanged := false, maxSteps := 10000000 }) only [w_var, w_int, w_str, w_bl, w_non, w_gint, w_gstr, w_bin, w_cmp, w_idx, w_tabGet, w_tabIx, w_chain, w_nt, w_neg, w_ife, w_conj1, w_conj, w_disj1, w_disj, wl_nil, wl_cons, w_tup, w_lst, w_new, w_call, w_bf, w_isi,
  w_frz, w_newL, w_uniq, w_usort, okB_f, okB_t, list1_l, w_litGet, is_bb, isnot_bb, w_bm, w_isx, w_isxB, w_fld, s_tryAs, t_nil, t_cons, t_set, t_doE, t_ifs, bm_c, bm_i, bm_s, isx_e, isx_n, isx_t, dat_n, isN_d, add_s, w_compN, w_catN,  w_ext, ext2, w_pop, wi_zip, wi_rngD, w_dct0, w_rev,  wo_no, wo_at, w_sl, w_app, wi_items, wi_rng1, wi_rng2, wi_enum, w_comp, cut1, wt_no, wt_at, b_nil, b_cons, s_set, s_asg, s_par, s_setIx, s_ret, s_retN, s_ifs, s_for, s_raise, s_doE, s_bk, s_ct, s_pass, w_body, start1, startN, start_0, retF_ret, retF_nx, wp_ok, wp_exc, wp_bind, ws_ok,
  nth, put, clear, wipe_0, wipe_c, onO_some, onO_none, onO_if, onO_map, onO_bind, onB_t, onB_f, onB_not, onB_b, onD_d, onF_nx, onF_ret, onF_bk, onF_ct, onI_i, items_l, items_t, deref_d, deref_r, drf_l, drf_f, bin2, setIx3_r, app2_r, frz1_r, onL_l, List.take_succ_cons, List.take_length, List.take_left, get_0, get_s, set_0, set_s, ix31, ix32, at0, at1, at2, at3, frz1_d, listOf_l, listOf_t, derefs_n, derefs_c, allD_n, allD_c,
  Option.map_some, Option.map_none, Option.bind_some, Option.bind_none, List.length_cons, List.length_nil, Nat.zero_add, Nat.reduceAdd, Int.cast_ofNat_Int, Int.natCast_zero, Int.natCast_one,
  add_i, sub_i, mul_i, div_i, mod_i, pow_i, add_t, add_l, lt_i, le_i, gt_i, ge_i, eq_i, ne_i, eq_s, ne_s, eq_b, is_n, isnot_n, isN_n, isN_i, idx_t, idx_l, sl_t, sl_l, tab_s, tab_g, len_t, len_l, min2_i, max2_i, min3_i, int_b, int_i, tuple_l, tuple_t, list_l, list_t, all_l, any_l, sum_l, max1_l, min1_l,
  asg_n, asg_t0, asg_t, isi_iI, isi_bI, isi_sI, isi_tI, isi_sS, isi_tT, Bool.not_true, Bool.not_false, decide_eq_true_eq, beq_iff_eq, if_true, if_false, ite_true, ite_false, true_and, and_true, Bool.false_eq_true, reduceIte, eq_self_iff_true, beq_self_eq_true, str_inj, String.reduceEq, Int.reduceBEq, Int.reduceEq, Nat.reduceEqDiff, not_true_eq_false, not_false_eq_true, Bool.true_and, Bool.and_true, Bool.false_and, Bool.and_false, Bool.or_false, Bool.false_or, Bool.true_or, Bool.or_true, false_and, and_false, decide_true, decide_false, zi_int_none, zi_int_bool, zi_int_int, zi_int_str, zi_int_list, zi_int_tuple, zi_int_dict, zi_bool_none, zi_bool_bool, zi_bool_int, zi_bool_str, zi_bool_list, zi_bool_tuple, zi_bool_dict, zi_str_none, zi_str_bool, zi_str_int, zi_str_str, zi_str_list, zi_str_tuple, zi_str_dict, zi_tuple_none, zi_tuple_bool, zi_tuple_int, zi_tuple_str, zi_tuple_list, zi_tuple_tuple, zi_tuple_dict, zi_list_none, zi_list_bool, zi_list_int, zi_list_str, zi_list_list, zi_list_tuple, zi_list_dict, zi_dict_none, zi_dict_bool, zi_dict_int, zi_dict_str, zi_dict_list, zi_dict_tuple, zi_dict_dict, eq_tt, ne_tt, get_cc, set_cc, lit_s, rev_t, rev_l, only_l, cat2_e, sizeLine_eq, is_t, is_s, is_l, is_b, List.isEmpty_cons, List.isEmpty_nil, Nat.reduceLeDiff, Int.reduceLE, Int.reduceLT, Int.reduceAdd, Int.reduceSub, Int.reduceNeg, Int.reduceToNat, Int.reduceMul, Nat.reduceLT, Option.getD_some, Option.getD_none, onD_d, Nat.zero_le])
-- BODY
/-! shared by several laws: truths and cuts. -/
def ir_need_row : FnI := ⟨["width", "row"], ["width", "row"], .pure, (.cons (.ifs (.nt (.call 2 "is_row" (.cons (.var 0) (.cons (.var 1) .nil)))) (.cons (.raise "NoRow") .nil) .nil) .nil)⟩
def ir_holds : FnI := ⟨["saying", "row"], ["saying", "row"], .pure, (.cons (.ifs (.cmp .Eq (.idx (.var 0) (.int 0)) (.str "under")) (.cons (.ret (.cmp .Lt (.idx (.var 1) (.idx (.var 0) (.int 1))) (.idx (.var 0) (.int 2)))) .nil) .nil) (.cons (.ifs (.cmp .Eq (.idx (.var 0) (.int 0)) (.str "not")) (.cons (.ret (.nt (.call 2 "holds" (.cons (.idx (.var 0) (.int 1)) (.cons (.var 1) .nil))))) .nil) .nil) (.cons (.ifs (.cmp .Eq (.idx (.var 0) (.int 0)) (.str "and")) (.cons (.ret (.conj (.cons (.call 2 "holds" (.cons (.idx (.var 0) (.int 1)) (.cons (.var 1) .nil))) (.cons (.call 2 "holds" (.cons (.idx (.var 0) (.int 2)) (.cons (.var 1) .nil))) .nil)))) .nil) .nil) (.cons (.ret (.disj (.cons (.call 2 "holds" (.cons (.idx (.var 0) (.int 1)) (.cons (.var 1) .nil))) (.cons (.call 2 "holds" (.cons (.idx (.var 0) (.int 2)) (.cons (.var 1) .nil))) .nil)))) .nil))))⟩
def ir_truth_at : FnI := ⟨["width", "saying", "row"], ["width", "saying", "row"], .pure, (.cons (.doE (.call 2 "need_saying" (.cons (.var 0) (.cons (.var 1) .nil)))) (.cons (.doE (.call 2 "need_row" (.cons (.var 0) (.cons (.var 2) .nil)))) (.cons (.ret (.call 2 "holds" (.cons (.var 1) (.cons (.var 2) .nil)))) .nil)))⟩
def ir_unders : FnI := ⟨["saying"], ["saying", "found", "part"], .pure, (.cons (.ifs (.cmp .Eq (.idx (.var 0) (.int 0)) (.str "under")) (.cons (.ret (.lst (.cons (.sl (.var 0) (.at_ (.int 1)) .no) .nil))) .nil) .nil) (.cons (.set 1 (.new .nil)) (.cons (.for_ (.name 2) (.items (.sl (.var 0) (.at_ (.int 1)) .no)) (.cons (.doE (.ext (.var 1) (.call 1 "unders" (.cons (.var 2) .nil)))) .nil)) (.cons (.ret (.frz (.var 1))) .nil))))⟩
def ir_unlike_cuts : FnI := ⟨["sayings"], ["sayings", "saying", "cut"], .pure, (.cons (.ret (.uniq false [1, 2] [2] (.name 1) (.items (.var 0)) (.name 2) (.items (.call 1 "unders" (.cons (.var 1) .nil))) (.var 2))) .nil)⟩
def ir_cuts_of : FnI := ⟨["width", "saying"], ["width", "saying"], .pure, (.cons (.doE (.call 2 "need_saying" (.cons (.var 0) (.cons (.var 1) .nil)))) (.cons (.ret (.call 1 "unlike_cuts" (.cons (.lst (.cons (.var 1) .nil)) .nil))) .nil))⟩
structure HasUnd (T : FTab) : Prop where
  unders : T.lookup ("unders" : Str) = some ir_unders
structure HasHold (T : FTab) : Prop where
  holds : T.lookup ("holds" : Str) = some ir_holds
structure HasUnl (T : FTab) : Prop where
  und : HasUnd T
  unlike_cuts : T.lookup ("unlike_cuts" : Str) = some ir_unlike_cuts
structure HasCuts (T : FTab) : Prop where
  say : HasSay T
  unl : HasUnl T
  need_saying : T.lookup ("need_saying" : Str) = some ir_need_saying
  cuts_of : T.lookup ("cuts_of" : Str) = some ir_cuts_of
structure HasTruth (T : FTab) : Prop where
  say : HasSay T
  row : HasRow T
  hold : HasHold T
  need_saying : T.lookup ("need_saying" : Str) = some ir_need_saying
  need_row : T.lookup ("need_row" : Str) = some ir_need_row
  truth_at : T.lookup ("truth_at" : Str) = some ir_truth_at
def Sy.us : Sy → List (Int × Int)
  | .under c b => [(c, b)]
  | .nt s => s.us
  | .con a b => a.us ++ b.us
  | .dis a b => a.us ++ b.us
def Sy.tr (is : List Int) : Sy → Bool
  | .under c b => decide (is.getD c.toNat 0 < b)
  | .nt s => !s.tr is
  | .con a b => a.tr is && b.tr is
  | .dis a b => a.tr is || b.tr is
theorem Sy.us_len : ∀ s : Sy, s.us.length ≤ s.parts
  | .under _ _ => Nat.le_refl _
  | .nt s => by show s.us.length ≤ 1 + s.parts; have := us_len s; omega
  | .con a b => by show (a.us ++ b.us).length ≤ 1 + (a.parts + b.parts); have := us_len a; have := us_len b; rw [List.length_append]; omega
  | .dis a b => by show (a.us ++ b.us).length ≤ 1 + (a.parts + b.parts); have := us_len a; have := us_len b; rw [List.length_append]; omega
theorem Sy.us_all {p : Int → Int → Prop} : ∀ s : Sy, s.all p → ∀ c ∈ s.us, p c.1 c.2
  | .under _ _, h, c, hc => by rw [List.mem_singleton.mp hc]; exact h
  | .nt s, h, c, hc => us_all s h c hc
  | .con a b, h, c, hc => (List.mem_append.mp hc).elim (us_all a h.1 c) (us_all b h.2 c)
  | .dis a b, h, c, hc => (List.mem_append.mp hc).elim (us_all a h.1 c) (us_all b h.2 c)
theorem is_at {is : List Int} {c : Int} (h0 : 0 ≤ c) (h1 : c < is.length) : atI (is.map PyData.int) c = some (.int (is.getD c.toNat 0)) := by
  obtain ⟨n, rfl⟩ := Int.eq_ofNat_of_zero_le h0
  unfold atI ixN
  rw [if_pos h0, if_pos (by rw [List.length_map]; exact h1)]
  have hn : n < is.length := by omega
  simp [hn]
section
variable {T : FTab} (H : HasUnd T)
include H
theorem unders_loop {k : Nat} {P : Fl → Env → Sto → Prop} {E : XE'} {d x : Option Vv} (ss : List Sy) (h : ∀ s ∈ ss, ∀ st, run T k "unders" [.d s.d] st = .ok (.d (.list (s.us.map ctD))) st) (few : (ss.map Sy.us).flatten.length ≤ 1000)
    (f : ∀ x, P .nx [d, some (.ref 0), x] [.lst ((ss.map Sy.us).flatten.map ctD)]) : Ws (forL (.name 2) (denB (run T k) (.cons (.doE (.ext (.var 1) (.call 1 "unders" (.cons (.var 2) .nil)))) .nil)) (ss.map Sy.d) [d, some (.ref 0), x] [.lst []]) P E := by
  refine for_inv (fun i ρ st => ∃ x, ρ = [d, some (.ref 0), x] ∧ st = [.lst (((ss.take i).map Sy.us).flatten.map ctD)]) ⟨x, rfl, rfl⟩ ?_ ?_
  · rintro i y ρ st hy ⟨x, rfl, rfl⟩
    rw [List.getElem?_map] at hy
    obtain ⟨s, hs, rfl⟩ := Option.map_eq_some_iff.mp hy
    have hm := List.mem_of_getElem? hs
    have ht : ss.take (i + 1) = ss.take i ++ [s] := by rw [List.take_succ, hs]; rfl
    have le : (((ss.take i).map Sy.us).flatten ++ s.us).length ≤ 1000 := by
      have q : ss = ss.take (i + 1) ++ ss.drop (i + 1) := (List.take_append_drop _ _).symm
      rw [q, List.map_append, List.flatten_append, List.length_append, ht, List.map_append, List.flatten_append] at few
      simpa using (by omega : (List.flatten (List.map Sy.us (ss.take i)) ++ List.flatten (List.map Sy.us [s])).length ≤ 1000)
    rw [List.length_append] at le
    walk_at "wps"
    rw [h s hm]
    walk_at "wps"
    refine ⟨by simp only [List.length_map]; omega, ?_⟩
    refine ⟨_, rfl, ?_⟩
    rw [ht, List.map_append, List.flatten_append, List.map_append]
    simp
  · rintro ρ st ⟨x, rfl, rfl⟩
    rw [List.length_map, List.take_length]
    exact f x
theorem unders_ok : ∀ (s : Sy) (k : Nat) (st : Sto), s.depth ≤ k → s.parts ≤ 1000 → run T k "unders" [.d s.d] st = .ok (.d (.list (s.us.map ctD))) st := by
  intro s
  induction s with
  | under c b =>
    intro k st hk hp
    obtain ⟨k, rfl⟩ : ∃ j, k = j + 1 := ⟨k - 1, by have : (Sy.under c b).depth = 1 := rfl; omega⟩
    apply Wp.eq
    rw [run_at H.unders]
    unfold FnI.run ir_unders Mode.of Sy.d
    rw [w_pure rfl]
    walk_at "wps"
    simp [Sy.us, ctD]
  | nt s ih =>
    intro k st hk hp
    have e : (Sy.nt s).depth = 1 + s.depth := rfl
    have ep : (Sy.nt s).parts = 1 + s.parts := rfl
    have := s.us_len
    obtain ⟨k, rfl⟩ : ∃ j, k = j + 1 := ⟨k - 1, by omega⟩
    apply Wp.eq
    rw [run_at H.unders]
    unfold FnI.run ir_unders Mode.of Sy.d
    rw [w_pure rfl]
    walk_at "wps"
    refine unders_loop H [s] (fun s' hs st => by rw [List.mem_singleton.mp hs]; exact ih k st (by omega) (by omega)) (by simp; omega) fun x => ?_
    walk_at "wps"
    simp [Sy.us]
  | con a b iha ihb =>
    intro k st hk hp
    have e : (Sy.con a b).depth = 1 + max a.depth b.depth := rfl
    have ep : (Sy.con a b).parts = 1 + (a.parts + b.parts) := rfl
    have := a.us_len
    have := b.us_len
    obtain ⟨k, rfl⟩ : ∃ j, k = j + 1 := ⟨k - 1, by omega⟩
    apply Wp.eq
    rw [run_at H.unders]
    unfold FnI.run ir_unders Mode.of Sy.d
    rw [w_pure rfl]
    walk_at "wps"
    refine unders_loop H [a, b] (fun s' hs st => by
      rcases List.mem_cons.mp hs with e | hs
      · rw [e]; exact iha k st (by omega) (by omega)
      · rw [List.mem_singleton.mp hs]; exact ihb k st (by omega) (by omega)) (by simp; omega) fun x => ?_
    walk_at "wps"
    simp [Sy.us]
  | dis a b iha ihb =>
    intro k st hk hp
    have e : (Sy.dis a b).depth = 1 + max a.depth b.depth := rfl
    have ep : (Sy.dis a b).parts = 1 + (a.parts + b.parts) := rfl
    have := a.us_len
    have := b.us_len
    obtain ⟨k, rfl⟩ : ∃ j, k = j + 1 := ⟨k - 1, by omega⟩
    apply Wp.eq
    rw [run_at H.unders]
    unfold FnI.run ir_unders Mode.of Sy.d
    rw [w_pure rfl]
    walk_at "wps"
    refine unders_loop H [a, b] (fun s' hs st => by
      rcases List.mem_cons.mp hs with e | hs
      · rw [e]; exact iha k st (by omega) (by omega)
      · rw [List.mem_singleton.mp hs]; exact ihb k st (by omega) (by omega)) (by simp; omega) fun x => ?_
    walk_at "wps"
    simp [Sy.us]
end

section
variable {T : FTab} (H : HasHold T)
include H
theorem holds_ok (is : List Int) : ∀ (s : Sy) (k : Nat) (st : Sto), s.all (fun c _ => 0 ≤ c ∧ c < is.length) → s.depth ≤ k → run T k "holds" [.d s.d, .d (.tuple (is.map .int))] st = .ok (.d (.bool (s.tr is))) st := by
  intro s
  induction s with
  | under c b =>
    intro k st hs hk
    obtain ⟨k, rfl⟩ : ∃ j, k = j + 1 := ⟨k - 1, by have : (Sy.under c b).depth = 1 := rfl; omega⟩
    apply Wp.eq
    rw [run_at H.holds]
    unfold FnI.run ir_holds Mode.of Sy.d
    rw [w_pure rfl]
    walk_at "wps"
    rw [is_at hs.1 hs.2]
    walk_at "wps"
    rfl
  | nt s ih =>
    intro k st hs hk
    have e : (Sy.nt s).depth = 1 + s.depth := rfl
    obtain ⟨k, rfl⟩ : ∃ j, k = j + 1 := ⟨k - 1, by omega⟩
    apply Wp.eq
    rw [run_at H.holds]
    unfold FnI.run ir_holds Mode.of Sy.d
    rw [w_pure rfl]
    walk_at "wps"
    rw [ih k [] hs (by omega)]
    walk_at "wps"
    cases q : s.tr is <;> simp [Sy.tr, q]
  | con a b iha ihb =>
    intro k st hs hk
    have e : (Sy.con a b).depth = 1 + max a.depth b.depth := rfl
    obtain ⟨k, rfl⟩ : ∃ j, k = j + 1 := ⟨k - 1, by omega⟩
    apply Wp.eq
    rw [run_at H.holds]
    unfold FnI.run ir_holds Mode.of Sy.d
    rw [w_pure rfl]
    walk_at "wps"
    rw [iha k [] hs.1 (by omega)]
    walk_at "wps"
    rw [ihb k [] hs.2 (by omega)]
    walk_at "wps"
    cases q : a.tr is <;> simp [Sy.tr, q]
  | dis a b iha ihb =>
    intro k st hs hk
    have e : (Sy.dis a b).depth = 1 + max a.depth b.depth := rfl
    obtain ⟨k, rfl⟩ : ∃ j, k = j + 1 := ⟨k - 1, by omega⟩
    apply Wp.eq
    rw [run_at H.holds]
    unfold FnI.run ir_holds Mode.of Sy.d
    rw [w_pure rfl]
    walk_at "wps"
    rw [iha k [] hs.1 (by omega)]
    walk_at "wps"
    rw [ihb k [] hs.2 (by omega)]
    walk_at "wps"
    cases q : a.tr is <;> simp [Sy.tr, q]
end

def rowOf (c : Int × Int) : List Int := [c.1, c.2]
theorem tup_row (c : Int × Int) : tupD (rowOf c) = ctD c := rfl
theorem rows_ct : ∀ cs : List (Int × Int), rowsAll (cs.map ctD) = some (cs.map rowOf)
  | [] => rfl
  | c :: cs => by
    rw [List.map_cons, rowsAll, rows_ct cs]
    rfl
def dueD (s : Sy) : List PyData := rowsD (dedup (s.us.map rowOf))
theorem due_mem {s : Sy} {x : PyData} (h : x ∈ dueD s) : ∃ c ∈ s.us, x = ctD c := by
  unfold dueD rowsD sortRows at h
  obtain ⟨k, hk, rfl⟩ := List.mem_map.mp h
  have hk := mem_dedup.mp ((List.mergeSort_perm _ _).mem_iff.mp hk)
  obtain ⟨c, hc, rfl⟩ := List.mem_map.mp hk
  exact ⟨c, hc, rfl⟩
theorem due_len (s : Sy) : (dueD s).length ≤ s.parts := by
  unfold dueD rowsD sortRows dedup
  rw [List.length_map, List.length_mergeSort]
  have := len_fold (s.us.map rowOf) []
  have := s.us_len
  simp only [List.length_nil, List.length_map] at *
  omega
theorem fits_of {xs : List PyData} {n k : Nat} (h : ∀ x ∈ xs, Fit x n k) : FitAll xs ((n + 2) * xs.length) k := by
  induction xs with
  | nil => exact fit_nil
  | cons x xs ih =>
    refine (FitAll.cons (h x List.mem_cons_self) (ih fun y hy => h y (List.mem_cons_of_mem _ hy))).mono ?_ (Nat.le_refl _)
    rw [List.length_cons, Nat.mul_succ]
    omega
theorem fit_due {s : Sy} (h : s.all fun c b => c.natAbs ≤ 10 ^ 39 + 4 ∧ b.natAbs ≤ 10 ^ 39 + 4) (hp : s.parts ≤ 15) : Fit (.list (dueD s)) 100000 5 := by
  have f : ∀ x ∈ dueD s, Fit x 4000 2 := fun x hx => by
    obtain ⟨c, hc, rfl⟩ := due_mem hx
    obtain ⟨h1, h2⟩ := Sy.us_all s h c hc
    exact (Fit.tup (FitAll.cons (fit_int h1) (FitAll.cons (fit_int h2) (fit_nil (n := 0) (k := 1))))).mono (by decide) (by decide)
  have l := due_len s
  refine (Fit.lst (fits_of f)).mono ?_ (by decide)
  have : (4000 + 2) * (dueD s).length ≤ (4000 + 2) * 15 := Nat.mul_le_mul_left _ (by omega)
  omega
section
variable {T : FTab} (H : HasUnl T)
include H
theorem unlike_ok (s : Sy) (k : Nat) (st : Sto) (hd : s.depth ≤ 8) (hp : s.parts ≤ 15) (hk : 9 ≤ k) : run T k "unlike_cuts" [.d (.list [s.d])] st = .ok (.d (.list (dueD s))) st := by
  obtain ⟨k, rfl⟩ : ∃ j, k = j + 1 := ⟨k - 1, by omega⟩
  apply Wp.eq
  rw [run_at H.unlike_cuts]
  unfold FnI.run ir_unlike_cuts Mode.of
  rw [w_pure rfl]
  walk_at "wps"
  have ul := s.us_len
  refine uOut_rule (kss := [s.us.map rowOf]) ?_ rfl (by simp; omega) ?_
  · intro i x hx
    cases i with
    | succ i => simp at hx
    | zero =>
      simp only [List.getElem?_cons_zero, Option.some.injEq] at hx
      subst hx
      walk_at "wps"
      rw [unders_ok H.und s k [] (by omega) (by omega)]
      walk_at "wps"
      refine ⟨_, rfl, by simp, fun j y hy => ?_⟩
      rw [List.getElem?_map] at hy
      obtain ⟨c, hc, rfl⟩ := Option.map_eq_some_iff.mp hy
      walk_at "wps"
      rw [List.getElem?_map, hc]
      exact ⟨rfl, by simp⟩
  · walk_at "wps"
    simp [dueD, dedup]
end

section
variable {T : FTab} (H : HasCuts T)
include H
theorem cuts_of_ok (w : Int) (s : Sy) (k : Nat) (st : Sto) (h1 : 1 ≤ w) (h2 : w ≤ 3) (hs : s.Ok w) (hk : 14 ≤ k) : run T k "cuts_of" [.d (.int w), .d s.d] st = .ok (.d (.list (dueD s))) st := by
  obtain ⟨k, rfl⟩ : ∃ j, k = j + 1 := ⟨k - 1, by omega⟩
  apply Wp.eq
  rw [run_at H.cuts_of]
  unfold FnI.run ir_cuts_of Mode.of
  rw [w_pure rfl]
  walk_at "wps"
  rw [need_saying_ok H.say H.need_saying w s k [] h1 h2 hs (by omega)]
  walk_at "wps"
  rw [unlike_ok H.unl s k [] hs.deep hs.few (by omega)]
  walk_at "wps"
end

end L2.Q

set_option maxHeartbeats 2000000
namespace L2.Q
open PySem PySem.Spec PyProof.Rows
local macro_rules | `(tactic| walk_at "wps") => `(tactic| simp (config := { failIfUnchanged := false, maxSteps := 10000000 }) only [w_var, w_int, w_str, w_bl, w_non, w_gint, w_gstr, w_bin, w_cmp, w_idx, w_tabGet, w_tabIx, w_chain, w_nt, w_neg, w_ife, w_conj1, w_conj, w_disj1, w_disj, wl_nil, wl_cons, w_tup, w_lst, w_new, w_call, w_bf, w_isi,
  w_frz, w_newL, w_uniq, w_usort, okB_f, okB_t, list1_l, w_litGet, is_bb, isnot_bb, w_bm, w_isx, w_isxB, w_fld, s_tryAs, t_nil, t_cons, t_set, t_doE, t_ifs, bm_c, bm_i, bm_s, isx_e, isx_n, isx_t, dat_n, isN_d, add_s, w_compN, w_catN,  w_ext, ext2, w_pop, wi_zip, wi_rngD, w_dct0, w_rev,  wo_no, wo_at, w_sl, w_app, wi_items, wi_rng1, wi_rng2, wi_enum, w_comp, cut1, wc_nil, wc_cons, wt_no, wt_at, b_nil, b_cons, s_set, s_asg, s_par, s_setIx, s_ret, s_retN, s_ifs, s_for, s_raise, s_doE, s_bk, s_ct, s_pass, w_body, start1, startN, start_0, retF_ret, retF_nx, wp_ok, wp_exc, wp_bind, ws_ok,
  nth, put, clear, wipe_0, wipe_c, onO_some, onO_none, onO_if, onO_map, onO_bind, onB_t, onB_f, onB_not, onB_b, onD_d, onF_nx, onF_ret, onF_bk, onF_ct, onI_i, items_l, items_t, deref_d, deref_r, drf_l, drf_f, bin2, setIx3_r, app2_r, frz1_r, onL_l, List.take_succ_cons, List.take_length, List.take_left, get_0, get_s, set_0, set_s, ix31, ix32, at0, at1, at2, at3, frz1_d, listOf_l, listOf_t, derefs_n, derefs_c, allD_n, allD_c,
  Option.map_some, Option.map_none, Option.bind_some, Option.bind_none, List.length_cons, List.length_nil, Nat.zero_add, Nat.reduceAdd, Int.cast_ofNat_Int, Int.natCast_zero, Int.natCast_one,
  add_i, sub_i, mul_i, div_i, mod_i, pow_i, add_t, add_l, lt_i, le_i, gt_i, ge_i, eq_i, ne_i, eq_s, ne_s, eq_b, is_n, isnot_n, isN_n, isN_i, idx_t, idx_l, sl_t, sl_l, tab_s, tab_g, len_t, len_l, min2_i, max2_i, min3_i, int_b, int_i, tuple_l, tuple_t, list_l, list_t, all_l, any_l, sum_l, max1_l, min1_l,
  asg_n, asg_t0, asg_t, isi_iI, isi_bI, isi_sI, isi_tI, isi_sS, isi_tT, Bool.not_true, Bool.not_false, decide_eq_true_eq, beq_iff_eq, if_true, if_false, ite_true, ite_false, true_and, and_true, Bool.false_eq_true, reduceIte, eq_self_iff_true, beq_self_eq_true, str_inj, String.reduceEq, Int.reduceBEq, Int.reduceEq, Nat.reduceEqDiff, not_true_eq_false, not_false_eq_true, Bool.true_and, Bool.and_true, Bool.false_and, Bool.and_false, Bool.or_false, Bool.false_or, Bool.true_or, Bool.or_true, false_and, and_false, decide_true, decide_false, zi_int_none, zi_int_bool, zi_int_int, zi_int_str, zi_int_list, zi_int_tuple, zi_int_dict, zi_bool_none, zi_bool_bool, zi_bool_int, zi_bool_str, zi_bool_list, zi_bool_tuple, zi_bool_dict, zi_str_none, zi_str_bool, zi_str_int, zi_str_str, zi_str_list, zi_str_tuple, zi_str_dict, zi_tuple_none, zi_tuple_bool, zi_tuple_int, zi_tuple_str, zi_tuple_list, zi_tuple_tuple, zi_tuple_dict, zi_list_none, zi_list_bool, zi_list_int, zi_list_str, zi_list_list, zi_list_tuple, zi_list_dict, zi_dict_none, zi_dict_bool, zi_dict_int, zi_dict_str, zi_dict_list, zi_dict_tuple, zi_dict_dict, eq_tt, ne_tt, get_cc, set_cc, lit_s, rev_t, rev_l, only_l, cat2_e, sizeLine_eq, is_t, is_s, is_l, is_b, List.isEmpty_cons, List.isEmpty_nil, Nat.reduceLeDiff, Int.reduceLE, Int.reduceLT, Int.reduceAdd, Int.reduceSub, Int.reduceNeg, Int.reduceToNat, Int.reduceMul, Nat.reduceLT, Option.getD_some, Option.getD_none, onD_d, Nat.zero_le])
local macro_rules | `(tactic| walk_at "wpl") => `(tactic| simp (config := { failIfUnchanged := false, maxSteps := 10000000 }) only [w_var, w_int, w_str, w_bl, w_non, w_gint, w_gstr, w_bin, w_cmp, w_idx, w_tabGet, w_tabIx, w_chain, w_nt, w_neg, w_ife, w_conj1, w_conj, w_disj1, w_disj, wl_nil, wl_cons, w_tup, w_lst, w_new, w_call, w_bf, w_isi,
  w_frz, w_newL, w_uniq, w_usort, okB_f, okB_t, list1_l, w_litGet, is_bb, isnot_bb, w_bm, w_isx, w_isxB, w_fld, s_tryAs, t_nil, t_cons, t_set, t_doE, t_ifs, bm_c, bm_i, bm_s, isx_e, isx_n, isx_t, dat_n, isN_d, add_s, w_compN, w_catN,  w_ext, ext2, w_pop, wi_zip, wi_rngD, w_dct0, w_rev,  wo_no, wo_at, w_sl, w_app, wi_items, wi_rng1, wi_rng2, wi_enum, w_comp, cut1, wt_no, wt_at, b_nil, b_cons, s_set, s_asg, s_par, s_setIx, s_ret, s_retN, s_ifs, s_for, s_raise, s_doE, s_bk, s_ct, s_pass, w_body, start1, startN, start_0, retF_ret, retF_nx, wp_ok, wp_exc, wp_bind, ws_ok,
  nth, put, clear, wipe_0, wipe_c, onO_some, onO_none, onO_if, onO_map, onO_bind, onB_t, onB_f, onB_not, onB_b, onD_d, onF_nx, onF_ret, onF_bk, onF_ct, onI_i, items_l, items_t, deref_d, deref_r, drf_l, drf_f, bin2, setIx3_r, app2_r, frz1_r, onL_l, List.take_succ_cons, List.take_length, List.take_left, get_0, get_s, set_0, set_s, ix31, ix32, at0, at1, at2, at3, frz1_d, listOf_l, listOf_t, derefs_n, derefs_c, allD_n, allD_c,
  Option.map_some, Option.map_none, Option.bind_some, Option.bind_none, List.length_cons, List.length_nil, Nat.zero_add, Nat.reduceAdd, Int.cast_ofNat_Int, Int.natCast_zero, Int.natCast_one,
  add_i, sub_i, mul_i, div_i, mod_i, pow_i, add_t, add_l, lt_i, le_i, gt_i, ge_i, eq_i, ne_i, eq_s, ne_s, eq_b, is_n, isnot_n, isN_n, isN_i, idx_t, idx_l, sl_t, sl_l, tab_s, tab_g, len_t, len_l, min2_i, max2_i, min3_i, int_b, int_i, tuple_l, tuple_t, list_l, list_t, all_l, any_l, sum_l, max1_l, min1_l,
  asg_n, asg_t0, asg_t, isi_iI, isi_bI, isi_sI, isi_tI, isi_sS, isi_tT, Bool.not_true, Bool.not_false, decide_eq_true_eq, beq_iff_eq, if_true, if_false, ite_true, ite_false, true_and, and_true, Bool.false_eq_true, reduceIte, eq_self_iff_true, beq_self_eq_true, str_inj, String.reduceEq, Int.reduceBEq, Int.reduceEq, Nat.reduceEqDiff, not_true_eq_false, not_false_eq_true, Bool.true_and, Bool.and_true, Bool.false_and, Bool.and_false, Bool.or_false, Bool.false_or, Bool.true_or, Bool.or_true, false_and, and_false, decide_true, decide_false, zi_int_none, zi_int_bool, zi_int_int, zi_int_str, zi_int_list, zi_int_tuple, zi_int_dict, zi_bool_none, zi_bool_bool, zi_bool_int, zi_bool_str, zi_bool_list, zi_bool_tuple, zi_bool_dict, zi_str_none, zi_str_bool, zi_str_int, zi_str_str, zi_str_list, zi_str_tuple, zi_str_dict, zi_tuple_none, zi_tuple_bool, zi_tuple_int, zi_tuple_str, zi_tuple_list, zi_tuple_tuple, zi_tuple_dict, zi_list_none, zi_list_bool, zi_list_int, zi_list_str, zi_list_list, zi_list_tuple, zi_list_dict, zi_dict_none, zi_dict_bool, zi_dict_int, zi_dict_str, zi_dict_list, zi_dict_tuple, zi_dict_dict, eq_tt, ne_tt, get_cc, set_cc, lit_s, rev_t, rev_l, only_l, cat2_e, sizeLine_eq, is_t, is_s, is_l, is_b, List.isEmpty_cons, List.isEmpty_nil, Nat.reduceLeDiff, Int.reduceLE, Int.reduceLT, Int.reduceAdd, Int.reduceSub, Int.reduceNeg, Int.reduceToNat, Int.reduceMul, Nat.reduceLT, Option.getD_some, Option.getD_none, onD_d, Nat.zero_le])
-- BODY
/-! shared by several laws: halves. -/
structure HasHalv (T : FTab) : Prop where
  box : HasBoxAny T
  cut : HasCut T
  need_box : T.lookup ("need_box" : Str) = some ir_need_box
  is_inside : T.lookup ("is_inside" : Str) = some ir_is_inside
  halves : T.lookup ("halves" : Str) = some ir_halves
  halves_at : T.lookup ("halves_at" : Str) = some ir_halves_at
def inS (s : Sd) (b : Int) : Bool := (match s.1 with
  | none => true
  | some l => decide (l < b)) && (match s.2 with
  | none => true
  | some h => decide (b < h))
def hvD (bx : List Sd) (c b : Int) : PyData := .tuple [.tuple ((bx.map sdD).take c.toNat ++ [.tuple [optD (bx.getD c.toNat (none, none)).1, .int b]] ++ (bx.map sdD).drop (c + 1).toNat), .tuple ((bx.map sdD).take c.toNat ++ [.tuple [.int b, optD (bx.getD c.toNat (none, none)).2]] ++ (bx.map sdD).drop (c + 1).toNat)]
section
variable {T : FTab} (H : HasHalv T)
include H
theorem inside_ok (bx : List Sd) (c b : Int) (k : Nat) (st : Sto) (h0 : 0 ≤ c) (h1 : c < bx.length) (hk : 1 ≤ k) : run T k "is_inside" [.d (ctD (c, b)), .d (bxD bx)] st = .ok (.d (.bool (inS (bx.getD c.toNat (none, none)) b))) st := by
  obtain ⟨k, rfl⟩ : ∃ j, k = j + 1 := ⟨k - 1, by omega⟩
  apply Wp.eq
  rw [run_at H.is_inside]
  unfold FnI.run ir_is_inside Mode.of bxD ctD
  rw [w_pure rfl]
  walk_at "wps"
  rw [bx_at h0 h1]
  generalize bx.getD c.toNat (none, none) = s
  obtain ⟨lo, hi⟩ := s
  cases lo <;> cases hi <;> unfold sdD optD <;> walk_at "wps" <;> simp [inS] <;> (split <;> intro _ <;> omega)
theorem halves_ok (bx : List Sd) (c b : Int) (k : Nat) (st : Sto) (h0 : 0 ≤ c) (h1 : c < bx.length) (hl : bx.length ≤ 3) (hk : 1 ≤ k) : run T k "halves" [.d (bxD bx), .d (ctD (c, b))] st = .ok (.d (hvD bx c b)) st := by
  obtain ⟨k, rfl⟩ : ∃ j, k = j + 1 := ⟨k - 1, by omega⟩
  apply Wp.eq
  rw [run_at H.halves]
  unfold FnI.run ir_halves Mode.of bxD ctD
  rw [w_pure rfl]
  walk_at "wps"
  rw [bx_at h0 h1]
  unfold sdD
  walk_at "wps"
  rw [cutTo' h0, cutFrom' (by omega)]
  have l1 : ((bx.map sdD).take c.toNat).length ≤ 3 := by rw [List.length_take, List.length_map]; omega
  have l2 : ((bx.map sdD).drop (c + 1).toNat).length ≤ 3 := by rw [List.length_drop, List.length_map]; omega
  unfold sdD at l1 l2
  refine ⟨by omega, by simp only [List.length_append, List.length_cons, List.length_nil]; omega, by omega, by simp only [List.length_append, List.length_cons, List.length_nil]; omega, rfl⟩
theorem box_yes {w : Int} {bx : List Sd} (hb : ∀ s ∈ bx, SdOk s) (hl : (bx.length : Int) = w) : boxB w (bxD bx) = true := by
  have hs : ∀ s, SdOk s → sideB (sdD s) = true := by
    intro ⟨lo, hi⟩ h
    cases lo <;> cases hi <;> simp [sdD, optD, sideB, isN, isW, isiD, ltB]
    exact h _ _ rfl rfl
  unfold boxB bxD
  simp only [List.length_map, hl, decide_true, Bool.true_and, List.all_eq_true]
  intro x hx
  obtain ⟨s, h, rfl⟩ := List.mem_map.mp hx
  exact hs s (hb s h)
theorem need_box_yes {w : Int} {bx : List Sd} (h1 : 1 ≤ w) (h2 : w ≤ 3) (hb : ∀ s ∈ bx, SdOk s) (hl : (bx.length : Int) = w) (k : Nat) (st : Sto) (hk : 4 ≤ k) : run T k "need_box" [.d (.int w), .d (bxD bx)] st = .ok (.d .none) st := by
  obtain ⟨k, rfl⟩ : ∃ j, k = j + 1 := ⟨k - 1, by omega⟩
  apply Wp.eq
  rw [run_at H.need_box]
  unfold FnI.run ir_need_box Mode.of
  rw [w_pure rfl]
  walk_at "wpl"
  rw [box_any H.box w (bxD bx) k [] h1 h2 (by omega), box_yes H hb hl]
  walk_at "wpl"
theorem halves_at_no (w : Int) (bx : List Sd) (x : PyData) (k : Nat) (st : Sto) (h1 : 1 ≤ w) (h2 : w ≤ 3) (hb : ∀ s ∈ bx, SdOk s) (hl : (bx.length : Int) = w) (hc : cutB w x = false) (hk : 6 ≤ k) : run T k "halves_at" [.d (.int w), .d (bxD bx), .d x] st = .exc ⟨"NoCut", none⟩ st := by
  obtain ⟨k, rfl⟩ : ∃ j, k = j + 1 := ⟨k - 1, by omega⟩
  apply Wp.exc
  rw [run_at H.halves_at]
  unfold FnI.run ir_halves_at Mode.of
  rw [w_pure rfl]
  walk_at "wpl"
  rw [need_box_yes H h1 h2 hb hl k [] (by omega)]
  walk_at "wpl"
  rw [cut_any H.cut w x k [] (by omega), hc]
  walk_at "wpl"
theorem cut_yes {w c b : Int} (h0 : 0 ≤ c) (h1 : c < w) : cutB w (ctD (c, b)) = true := by simp [cutB, ctD, underB, h0, h1]
theorem halves_at_ok (w : Int) (bx : List Sd) (c b : Int) (k : Nat) (st : Sto) (h1 : 1 ≤ w) (h2 : w ≤ 3) (hb : ∀ s ∈ bx, SdOk s) (hl : (bx.length : Int) = w) (c0 : 0 ≤ c) (c1 : c < w) (hk : 6 ≤ k) : run T k "halves_at" [.d (.int w), .d (bxD bx), .d (ctD (c, b))] st = if inS (bx.getD c.toNat (none, none)) b = true then .ok (.d (hvD bx c b)) st else .exc ⟨"NoCut", none⟩ st := by
  obtain ⟨k, rfl⟩ : ∃ j, k = j + 1 := ⟨k - 1, by omega⟩
  have key : ∀ P E, (inS (bx.getD c.toNat (none, none)) b = true → P (Vv.d (hvD bx c b)) st) → (inS (bx.getD c.toNat (none, none)) b = false → E ⟨"NoCut", none⟩ st) → Wp (run T (k + 1) "halves_at" [.d (.int w), .d (bxD bx), .d (ctD (c, b))] st) P E := by
    intro P E hP hE
    rw [run_at H.halves_at]
    unfold FnI.run ir_halves_at Mode.of
    rw [w_pure rfl]
    walk_at "wpl"
    rw [need_box_yes H h1 h2 hb hl k [] (by omega)]
    walk_at "wpl"
    rw [cut_any H.cut w _ k [] (by omega), cut_yes H c0 c1]
    walk_at "wpl"
    rw [inside_ok H bx c b k [] c0 (by omega) (by omega)]
    walk_at "wpl"
    cases hi : inS (bx.getD c.toNat (none, none)) b with
    | true =>
      walk_at "wpl"
      rw [halves_ok H bx c b k [] c0 (by omega) (by omega) (by omega)]
      walk_at "wpl"
      exact hP hi
    | false =>
      walk_at "wpl"
      exact hE hi
  split
  · rename_i hi
    exact Wp.eq (key _ _ (fun _ => ⟨rfl, rfl⟩) fun h => by rw [hi] at h; cases h)
  · rename_i hi
    exact Wp.exc (key _ _ (fun h => absurd h hi) fun _ => ⟨rfl, rfl⟩)
end

end L2.Q

set_option maxHeartbeats 2000000
namespace L2.Q
open PySem PySem.Spec PyProof.Rows
local macro_rules | `(tactic| walk_at "wps") => `(tactic| simp (config := { failIfUnchanged := false, maxSteps := 10000000 }) only [w_var, w_int, w_str, w_bl, w_non, w_gint, w_gstr, w_bin, w_cmp, w_idx, w_tabGet, w_tabIx, w_chain, w_nt, w_neg, w_ife, w_conj1, w_conj, w_disj1, w_disj, wl_nil, wl_cons, w_tup, w_lst, w_new, w_call, w_bf, w_isi,
  w_frz, w_newL, w_uniq, w_usort, okB_f, okB_t, list1_l, w_litGet, is_bb, isnot_bb, w_bm, w_isx, w_isxB, w_fld, s_tryAs, t_nil, t_cons, t_set, t_doE, t_ifs, bm_c, bm_i, bm_s, isx_e, isx_n, isx_t, dat_n, isN_d, add_s, w_compN, w_catN,  w_ext, ext2, w_pop, wi_zip, wi_rngD, w_dct0, w_rev,  wo_no, wo_at, w_sl, w_app, wi_items, wi_rng1, wi_rng2, wi_enum, w_comp, cut1, wc_nil, wc_cons, wt_no, wt_at, b_nil, b_cons, s_set, s_asg, s_par, s_setIx, s_ret, s_retN, s_ifs, s_for, s_raise, s_doE, s_bk, s_ct, s_pass, w_body, start1, startN, start_0, retF_ret, retF_nx, wp_ok, wp_exc, wp_bind, ws_ok,
  nth, put, clear, wipe_0, wipe_c, onO_some, onO_none, onO_if, onO_map, onO_bind, onB_t, onB_f, onB_not, onB_b, onD_d, onF_nx, onF_ret, onF_bk, onF_ct, onI_i, items_l, items_t, deref_d, deref_r, drf_l, drf_f, bin2, setIx3_r, app2_r, frz1_r, onL_l, List.take_succ_cons, List.take_length, List.take_left, get_0, get_s, set_0, set_s, ix31, ix32, at0, at1, at2, at3, frz1_d, listOf_l, listOf_t, derefs_n, derefs_c, allD_n, allD_c,
  Option.map_some, Option.map_none, Option.bind_some, Option.bind_none, List.length_cons, List.length_nil, Nat.zero_add, Nat.reduceAdd, Int.cast_ofNat_Int, Int.natCast_zero, Int.natCast_one,
  add_i, sub_i, mul_i, div_i, mod_i, pow_i, add_t, add_l, lt_i, le_i, gt_i, ge_i, eq_i, ne_i, eq_s, ne_s, eq_b, is_n, isnot_n, isN_n, isN_i, idx_t, idx_l, sl_t, sl_l, tab_s, tab_g, len_t, len_l, min2_i, max2_i, min3_i, int_b, int_i, tuple_l, tuple_t, list_l, list_t, all_l, any_l, sum_l, max1_l, min1_l,
  asg_n, asg_t0, asg_t, asg_p0, asg_pn, asg_pt, isi_iI, isi_bI, isi_sI, isi_tI, isi_sS, isi_tT, Bool.not_true, Bool.not_false, decide_eq_true_eq, beq_iff_eq, if_true, if_false, ite_true, ite_false, true_and, and_true, Bool.false_eq_true, reduceIte, eq_self_iff_true, beq_self_eq_true, str_inj, String.reduceEq, Int.reduceBEq, Int.reduceEq, Nat.reduceEqDiff, not_true_eq_false, not_false_eq_true, Bool.true_and, Bool.and_true, Bool.false_and, Bool.and_false, Bool.or_false, Bool.false_or, Bool.true_or, Bool.or_true, false_and, and_false, decide_true, decide_false, zi_int_none, zi_int_bool, zi_int_int, zi_int_str, zi_int_list, zi_int_tuple, zi_int_dict, zi_bool_none, zi_bool_bool, zi_bool_int, zi_bool_str, zi_bool_list, zi_bool_tuple, zi_bool_dict, zi_str_none, zi_str_bool, zi_str_int, zi_str_str, zi_str_list, zi_str_tuple, zi_str_dict, zi_tuple_none, zi_tuple_bool, zi_tuple_int, zi_tuple_str, zi_tuple_list, zi_tuple_tuple, zi_tuple_dict, zi_list_none, zi_list_bool, zi_list_int, zi_list_str, zi_list_list, zi_list_tuple, zi_list_dict, zi_dict_none, zi_dict_bool, zi_dict_int, zi_dict_str, zi_dict_list, zi_dict_tuple, zi_dict_dict, eq_tt, ne_tt, get_cc, set_cc, lit_s, rev_t, rev_l, only_l, cat2_e, sizeLine_eq, is_t, is_s, is_l, is_b, List.isEmpty_cons, List.isEmpty_nil, Nat.reduceLeDiff, Int.reduceLE, Int.reduceLT, Int.reduceAdd, Int.reduceSub, Int.reduceNeg, Int.reduceToNat, Int.reduceMul, Nat.reduceLT, Option.getD_some, Option.getD_none, onD_d, Nat.zero_le])
local macro_rules | `(tactic| walk_at "wpl") => `(tactic| simp (config := { failIfUnchanged := false, maxSteps := 10000000 }) only [w_var, w_int, w_str, w_bl, w_non, w_gint, w_gstr, w_bin, w_cmp, w_idx, w_tabGet, w_tabIx, w_chain, w_nt, w_neg, w_ife, w_conj1, w_conj, w_disj1, w_disj, wl_nil, wl_cons, w_tup, w_lst, w_new, w_call, w_bf, w_isi,
  w_frz, w_newL, w_uniq, w_usort, okB_f, okB_t, list1_l, w_litGet, is_bb, isnot_bb, w_bm, w_isx, w_isxB, w_fld, s_tryAs, t_nil, t_cons, t_set, t_doE, t_ifs, bm_c, bm_i, bm_s, isx_e, isx_n, isx_t, dat_n, isN_d, add_s, w_compN, w_catN,  w_ext, ext2, w_pop, wi_zip, wi_rngD, w_dct0, w_rev,  wo_no, wo_at, w_sl, w_app, wi_items, wi_rng1, wi_rng2, wi_enum, w_comp, cut1, wt_no, wt_at, b_nil, b_cons, s_set, s_asg, s_par, s_setIx, s_ret, s_retN, s_ifs, s_for, s_raise, s_doE, s_bk, s_ct, s_pass, w_body, start1, startN, start_0, retF_ret, retF_nx, wp_ok, wp_exc, wp_bind, ws_ok,
  nth, put, clear, wipe_0, wipe_c, onO_some, onO_none, onO_if, onO_map, onO_bind, onB_t, onB_f, onB_not, onB_b, onD_d, onF_nx, onF_ret, onF_bk, onF_ct, onI_i, items_l, items_t, deref_d, deref_r, drf_l, drf_f, bin2, setIx3_r, app2_r, frz1_r, onL_l, List.take_succ_cons, List.take_length, List.take_left, get_0, get_s, set_0, set_s, ix31, ix32, at0, at1, at2, at3, frz1_d, listOf_l, listOf_t, derefs_n, derefs_c, allD_n, allD_c,
  Option.map_some, Option.map_none, Option.bind_some, Option.bind_none, List.length_cons, List.length_nil, Nat.zero_add, Nat.reduceAdd, Int.cast_ofNat_Int, Int.natCast_zero, Int.natCast_one,
  add_i, sub_i, mul_i, div_i, mod_i, pow_i, add_t, add_l, lt_i, le_i, gt_i, ge_i, eq_i, ne_i, eq_s, ne_s, eq_b, is_n, isnot_n, isN_n, isN_i, idx_t, idx_l, sl_t, sl_l, tab_s, tab_g, len_t, len_l, min2_i, max2_i, min3_i, int_b, int_i, tuple_l, tuple_t, list_l, list_t, all_l, any_l, sum_l, max1_l, min1_l,
  asg_n, asg_t0, asg_t, asg_p0, asg_pn, asg_pt, isi_iI, isi_bI, isi_sI, isi_tI, isi_sS, isi_tT, Bool.not_true, Bool.not_false, decide_eq_true_eq, beq_iff_eq, if_true, if_false, ite_true, ite_false, true_and, and_true, Bool.false_eq_true, reduceIte, eq_self_iff_true, beq_self_eq_true, str_inj, String.reduceEq, Int.reduceBEq, Int.reduceEq, Nat.reduceEqDiff, not_true_eq_false, not_false_eq_true, Bool.true_and, Bool.and_true, Bool.false_and, Bool.and_false, Bool.or_false, Bool.false_or, Bool.true_or, Bool.or_true, false_and, and_false, decide_true, decide_false, zi_int_none, zi_int_bool, zi_int_int, zi_int_str, zi_int_list, zi_int_tuple, zi_int_dict, zi_bool_none, zi_bool_bool, zi_bool_int, zi_bool_str, zi_bool_list, zi_bool_tuple, zi_bool_dict, zi_str_none, zi_str_bool, zi_str_int, zi_str_str, zi_str_list, zi_str_tuple, zi_str_dict, zi_tuple_none, zi_tuple_bool, zi_tuple_int, zi_tuple_str, zi_tuple_list, zi_tuple_tuple, zi_tuple_dict, zi_list_none, zi_list_bool, zi_list_int, zi_list_str, zi_list_list, zi_list_tuple, zi_list_dict, zi_dict_none, zi_dict_bool, zi_dict_int, zi_dict_str, zi_dict_list, zi_dict_tuple, zi_dict_dict, eq_tt, ne_tt, get_cc, set_cc, lit_s, rev_t, rev_l, only_l, cat2_e, sizeLine_eq, is_t, is_s, is_l, is_b, List.isEmpty_cons, List.isEmpty_nil, Nat.reduceLeDiff, Int.reduceLE, Int.reduceLT, Int.reduceAdd, Int.reduceSub, Int.reduceNeg, Int.reduceToNat, Int.reduceMul, Nat.reduceLT, Option.getD_some, Option.getD_none, onD_d, Nat.zero_le])
-- BODY
/-! shared by several laws: rows in boxes, words that are right, narrower boxes. -/
def SdIn (x : Int) (s : Sd) : Prop := (∀ l, s.1 = some l → l ≤ x) ∧ ∀ h, s.2 = some h → x < h
def sdInB (x : Int) (s : Sd) : Bool := (match s.1 with
  | none => true
  | some l => decide (l ≤ x)) && (match s.2 with
  | none => true
  | some h => decide (x < h))
theorem sdIn_iff {x : Int} {s : Sd} : sdInB x s = true ↔ SdIn x s := by
  obtain ⟨l, h⟩ := s
  cases l <;> cases h <;> simp [sdInB, SdIn]
abbrev noSd : Sd := (none, none)
structure RowIn (is : List Int) (bx : List Sd) : Prop where
  len : is.length = bx.length
  at_ : ∀ i, i < bx.length → SdIn (is.getD i 0) (bx.getD i noSd)
theorem wgU_range (b : Int) (s : Sd) : wgU b s = 0 ∨ wgU b s = 1 ∨ wgU b s = 2 := wg_range [s] (.under 0 b)
theorem wgU_2 {b : Int} {s : Sd} : wgU b s = 2 ↔ ∃ h, s.2 = some h ∧ h ≤ b := by
  obtain ⟨l, h⟩ := s
  unfold wgU
  cases h with
  | none => cases l <;> simp <;> split <;> omega
  | some h =>
    cases l with
    | none => simp
    | some l =>
      by_cases c : h ≤ b
      · simp [c]
      · by_cases e : b ≤ l <;> simp [c, e]
theorem wgU_0 {b : Int} {s : Sd} : wgU b s = 0 → ∃ l, s.1 = some l ∧ b ≤ l := by
  obtain ⟨l, h⟩ := s
  unfold wgU
  cases l with
  | none => cases h <;> simp <;> split <;> omega
  | some l =>
    by_cases e : b ≤ l
    · simp [e]
    · cases h with
      | none => simp [e]
      | some h => by_cases c : h ≤ b <;> simp [c, e]
theorem wgU_0' {b : Int} {s : Sd} (ok : SdOk s) : (∃ l, s.1 = some l ∧ b ≤ l) → wgU b s = 0 := by
  obtain ⟨l, h⟩ := s
  rintro ⟨l', rfl, e⟩
  unfold wgU
  cases h with
  | none => simp [e]
  | some h =>
    have := ok l' h rfl rfl
    have c : ¬ h ≤ b := by omega
    simp [c, e]
theorem wgU_1 {b : Int} {s : Sd} (h : inS s b = false) : wgU b s ≠ 1 := by
  obtain ⟨l, u⟩ := s
  unfold wgU
  unfold inS at h
  cases l <;> cases u <;> simp at h ⊢
  · omega
  · omega
  · rename_i l u
    by_cases c : u ≤ b
    · simp [c]
    · have : b ≤ l := by
        rcases Int.lt_or_le l b with q | q
        · have := h q; omega
        · exact q
      simp [c, this]
theorem tr_wg {is : List Int} {bx : List Sd} (hi : RowIn is bx) : ∀ s : Sy, s.all (fun c _ => 0 ≤ c ∧ c < bx.length) → (s.wg bx = 2 → s.tr is = true) ∧ (s.wg bx = 0 → s.tr is = false)
  | .under c b, h => by
    have hc : c.toNat < bx.length := by have := h.1; have := h.2; omega
    have hs := hi.at_ c.toNat hc
    refine ⟨fun e => ?_, fun e => ?_⟩
    · obtain ⟨u, e1, e2⟩ := wgU_2.mp e
      have := hs.2 u e1
      show decide (_ < _) = true
      exact decide_eq_true (by omega)
    · obtain ⟨u, e1, e2⟩ := wgU_0 e
      have := hs.1 u e1
      show decide (_ < _) = false
      exact decide_eq_false (by omega)
  | .nt s, h => by
    obtain ⟨a1, a2⟩ := tr_wg hi s h
    refine ⟨fun e => ?_, fun e => ?_⟩
    · have e : 2 - s.wg bx = 2 := e
      show (!s.tr is) = true
      rw [a2 (by omega)]; rfl
    · have e : 2 - s.wg bx = 0 := e
      show (!s.tr is) = false
      rw [a1 (by omega)]; rfl
  | .con x y, h => by
    obtain ⟨a1, a2⟩ := tr_wg hi x h.1
    obtain ⟨b1, b2⟩ := tr_wg hi y h.2
    have r1 := wg_range bx x
    have r2 := wg_range bx y
    refine ⟨fun e => ?_, fun e => ?_⟩
    · have e : minI (x.wg bx) (y.wg bx) = 2 := e
      unfold minI at e
      show (x.tr is && y.tr is) = true
      split at e <;> rw [a1 (by omega), b1 (by omega)] <;> rfl
    · have e : minI (x.wg bx) (y.wg bx) = 0 := e
      unfold minI at e
      show (x.tr is && y.tr is) = false
      split at e
      · rw [b2 e]; simp
      · rw [a2 e]; rfl
  | .dis x y, h => by
    obtain ⟨a1, a2⟩ := tr_wg hi x h.1
    obtain ⟨b1, b2⟩ := tr_wg hi y h.2
    have r1 := wg_range bx x
    have r2 := wg_range bx y
    refine ⟨fun e => ?_, fun e => ?_⟩
    · have e : maxI (x.wg bx) (y.wg bx) = 2 := e
      unfold maxI at e
      show (x.tr is || y.tr is) = true
      split at e
      · rw [b1 e]; simp
      · rw [a1 e]; rfl
    · have e : maxI (x.wg bx) (y.wg bx) = 0 := e
      unfold maxI at e
      show (x.tr is || y.tr is) = false
      split at e <;> rw [a2 (by omega), b2 (by omega)] <;> rfl
/-- narrower -/
structure Nar (s t : Sd) : Prop where
  lo : ∀ l, t.1 = some l → ∃ l', s.1 = some l' ∧ l ≤ l'
  hi : ∀ h, t.2 = some h → ∃ h', s.2 = some h' ∧ h' ≤ h
theorem Nar.refl (s : Sd) : Nar s s := ⟨fun l e => ⟨l, e, Int.le_refl _⟩, fun h e => ⟨h, e, Int.le_refl _⟩⟩
theorem Nar.trans {s t u : Sd} (a : Nar s t) (b : Nar t u) : Nar s u := ⟨fun l e => by
  obtain ⟨l1, e1, h1⟩ := b.lo l e
  obtain ⟨l2, e2, h2⟩ := a.lo l1 e1
  exact ⟨l2, e2, by omega⟩, fun l e => by
  obtain ⟨l1, e1, h1⟩ := b.hi l e
  obtain ⟨l2, e2, h2⟩ := a.hi l1 e1
  exact ⟨l2, e2, by omega⟩⟩
theorem nar_in {s t : Sd} {b : Int} (n : Nar s t) (h : inS t b = false) : inS s b = false := by
  obtain ⟨l, u⟩ := s
  obtain ⟨l', u'⟩ := t
  unfold inS at *
  cases l' with
  | none =>
    cases u' with
    | none => simp at h
    | some u' =>
      obtain ⟨u2, e2, h2⟩ := n.hi u' rfl
      cases e2
      simp at h ⊢
      intro _
      omega
  | some l' =>
    obtain ⟨l2, e2, h2⟩ := n.lo l' rfl
    cases e2
    cases u' with
    | none =>
      simp at h ⊢
      intro q
      omega
    | some u' =>
      obtain ⟨u2, e2, h3⟩ := n.hi u' rfl
      cases e2
      simp at h ⊢
      intro q
      have := h (by omega)
      omega
theorem nar_2 {s t : Sd} {b : Int} (n : Nar s t) (h : wgU b t = 2) : wgU b s = 2 := by
  obtain ⟨u, e, q⟩ := wgU_2.mp h
  obtain ⟨u2, e2, q2⟩ := n.hi u e
  exact wgU_2.mpr ⟨u2, e2, by omega⟩
theorem nar_0 {s t : Sd} {b : Int} (ok : SdOk s) (n : Nar s t) (h : wgU b t = 0) : wgU b s = 0 := by
  obtain ⟨u, e, q⟩ := wgU_0 h
  obtain ⟨u2, e2, q2⟩ := n.lo u e
  exact wgU_0' ok ⟨u2, e2, by omega⟩
structure NarB (a b : List Sd) : Prop where
  at_ : ∀ i, Nar (a.getD i noSd) (b.getD i noSd)
  ok : ∀ s ∈ a, SdOk s
theorem getD_ok {a : List Sd} (h : ∀ s ∈ a, SdOk s) (i : Nat) : SdOk (a.getD i noSd) := by
  rw [List.getD_eq_getElem?_getD]
  cases e : a[i]? with
  | none => exact fun l h e => nomatch e
  | some s => exact h s (List.mem_of_getElem? e)
theorem wg_nar {a b : List Sd} (n : NarB a b) : ∀ s : Sy, (s.wg b = 2 → s.wg a = 2) ∧ (s.wg b = 0 → s.wg a = 0)
  | .under c x => ⟨fun h => nar_2 (n.at_ c.toNat) h, fun h => nar_0 (getD_ok n.ok _) (n.at_ c.toNat) h⟩
  | .nt s => by
    obtain ⟨a1, a2⟩ := wg_nar n s
    refine ⟨fun e => ?_, fun e => ?_⟩
    · have e : 2 - s.wg b = 2 := e
      show 2 - s.wg a = 2
      have := a2 (by omega)
      omega
    · have e : 2 - s.wg b = 0 := e
      show 2 - s.wg a = 0
      have := a1 (by omega)
      omega
  | .con x y => by
    obtain ⟨a1, a2⟩ := wg_nar n x
    obtain ⟨b1, b2⟩ := wg_nar n y
    have r1 := wg_range b x
    have r2 := wg_range b y
    have r3 := wg_range a x
    have r4 := wg_range a y
    refine ⟨fun e => ?_, fun e => ?_⟩
    · have e : minI (x.wg b) (y.wg b) = 2 := e
      show minI (x.wg a) (y.wg a) = 2
      unfold minI at *
      split at e <;> (have := a1 (by omega); have := b1 (by omega); split <;> omega)
    · have e : minI (x.wg b) (y.wg b) = 0 := e
      show minI (x.wg a) (y.wg a) = 0
      unfold minI at *
      split at e
      · have := b2 e; split <;> omega
      · have := a2 e; split <;> omega
  | .dis x y => by
    obtain ⟨a1, a2⟩ := wg_nar n x
    obtain ⟨b1, b2⟩ := wg_nar n y
    have r1 := wg_range b x
    have r2 := wg_range b y
    have r3 := wg_range a x
    have r4 := wg_range a y
    refine ⟨fun e => ?_, fun e => ?_⟩
    · have e : maxI (x.wg b) (y.wg b) = 2 := e
      show maxI (x.wg a) (y.wg a) = 2
      unfold maxI at *
      split at e
      · have := b1 e; split <;> omega
      · have := a1 e; split <;> omega
    · have e : maxI (x.wg b) (y.wg b) = 0 := e
      show maxI (x.wg a) (y.wg a) = 0
      unfold maxI at *
      split at e <;> (have := a2 (by omega); have := b2 (by omega); split <;> omega)
/-- where no cut lies inside, no word is open -/
theorem wg_shut {bx : List Sd} : ∀ s : Sy, (∀ c ∈ s.us, inS (bx.getD c.1.toNat noSd) c.2 = false) → s.wg bx ≠ 1
  | .under c b, h => wgU_1 (h (c, b) (List.mem_singleton.mpr rfl))
  | .nt s, h => by
    have := wg_shut s h
    show 2 - s.wg bx ≠ 1
    omega
  | .con x y, h => by
    have := wg_shut x fun c hc => h c (List.mem_append_left _ hc)
    have := wg_shut y fun c hc => h c (List.mem_append_right _ hc)
    show minI (x.wg bx) (y.wg bx) ≠ 1
    unfold minI
    split <;> omega
  | .dis x y, h => by
    have := wg_shut x fun c hc => h c (List.mem_append_left _ hc)
    have := wg_shut y fun c hc => h c (List.mem_append_right _ hc)
    show maxI (x.wg bx) (y.wg bx) ≠ 1
    unfold maxI
    split <;> omega
/-- the halves -/
def loB (bx : List Sd) (c : Nat) (b : Int) : List Sd := bx.set c ((bx.getD c noSd).1, some b)
def upB (bx : List Sd) (c : Nat) (b : Int) : List Sd := bx.set c (some b, (bx.getD c noSd).2)
theorem set_cut {α : Type} : ∀ (xs : List α) (n : Nat) (x : α), n < xs.length → xs.take n ++ [x] ++ xs.drop (n + 1) = xs.set n x
  | y :: ys, 0, x, _ => rfl
  | y :: ys, n + 1, x, h => by
    simp only [List.take_succ_cons, List.cons_append, List.drop_succ_cons, List.set_cons_succ]
    rw [← set_cut ys n x (by simpa using h)]
theorem hvD_eq {bx : List Sd} {c b : Int} (h0 : 0 ≤ c) (h1 : c < bx.length) : hvD bx c b = .tuple [bxD (loB bx c.toNat b), bxD (upB bx c.toNat b)] := by
  have h : c.toNat < (bx.map sdD).length := by rw [List.length_map]; omega
  unfold hvD bxD loB upB
  rw [show (c + 1).toNat = c.toNat + 1 by omega, set_cut _ _ _ h, set_cut _ _ _ h, List.map_set, List.map_set]
  rfl
theorem lo_len {bx : List Sd} {c : Nat} {b : Int} : (loB bx c b).length = bx.length := List.length_set
theorem up_len {bx : List Sd} {c : Nat} {b : Int} : (upB bx c b).length = bx.length := List.length_set
theorem getD_set {α : Type} {xs : List α} {n i : Nat} {x d : α} (h : n < xs.length) : (xs.set n x).getD i d = if i = n then x else xs.getD i d := by
  simp only [List.getD_eq_getElem?_getD, List.getElem?_set]
  by_cases e : n = i
  · subst e
    simp [h]
  · simp [e, Ne.symm e]
theorem inS_t {s : Sd} {b : Int} (h : inS s b = true) : (∀ l, s.1 = some l → l < b) ∧ ∀ u, s.2 = some u → b < u := by
  obtain ⟨l, u⟩ := s
  unfold inS at h
  cases l <;> cases u <;> simp at h ⊢ <;> exact h
theorem inS_l {l : Option Int} {b : Int} : inS (l, some b) b = false := by unfold inS; simp
theorem inS_u {l : Option Int} {b : Int} : inS (some b, l) b = false := by unfold inS; simp
section
variable {bx : List Sd} {c : Nat} {b : Int} (hc : c < bx.length) (ok : ∀ s ∈ bx, SdOk s) (h : inS (bx.getD c noSd) b = true)
include hc ok h
theorem lo_nar : NarB (loB bx c b) bx := ⟨fun i => by
  unfold loB
  rw [getD_set hc]
  split
  · rename_i e
    subst e
    exact ⟨fun l e => ⟨l, e, Int.le_refl _⟩, fun u e => ⟨b, rfl, by have := (inS_t h).2 u e; omega⟩⟩
  · exact Nar.refl _, fun s hs => by
  rcases List.mem_or_eq_of_mem_set hs with q | rfl
  · exact ok s q
  · intro l u e1 e2
    cases e2
    exact (inS_t h).1 l e1⟩
theorem up_nar : NarB (upB bx c b) bx := ⟨fun i => by
  unfold upB
  rw [getD_set hc]
  split
  · rename_i e
    subst e
    exact ⟨fun l e => ⟨b, rfl, by have := (inS_t h).1 l e; omega⟩, fun u e => ⟨u, e, Int.le_refl _⟩⟩
  · exact Nar.refl _, fun s hs => by
  rcases List.mem_or_eq_of_mem_set hs with q | rfl
  · exact ok s q
  · intro l u e1 e2
    cases e1
    exact (inS_t h).2 u e2⟩
end
theorem row_lo {is : List Int} {bx : List Sd} {c : Nat} {b : Int} (hc : c < bx.length) (hi : RowIn is bx) : RowIn is (loB bx c b) ↔ is.getD c 0 < b := by
  refine ⟨fun q => ?_, fun q => ⟨by rw [lo_len]; exact hi.len, fun i h => ?_⟩⟩
  · have := (q.at_ c (by rw [lo_len]; exact hc)).2 b
    unfold loB at this
    rw [getD_set hc, if_pos rfl] at this
    exact this rfl
  · rw [lo_len] at h
    unfold loB
    rw [getD_set hc]
    split
    · rename_i e
      subst e
      exact ⟨(hi.at_ _ h).1, fun u e => by cases e; exact q⟩
    · exact hi.at_ _ h
theorem row_up {is : List Int} {bx : List Sd} {c : Nat} {b : Int} (hc : c < bx.length) (hi : RowIn is bx) : RowIn is (upB bx c b) ↔ b ≤ is.getD c 0 := by
  refine ⟨fun q => ?_, fun q => ⟨by rw [up_len]; exact hi.len, fun i h => ?_⟩⟩
  · have := (q.at_ c (by rw [up_len]; exact hc)).1 b
    unfold upB at this
    rw [getD_set hc, if_pos rfl] at this
    exact this rfl
  · rw [up_len] at h
    unfold upB
    rw [getD_set hc]
    split
    · rename_i e
      subst e
      exact ⟨fun u e => by cases e; exact q, (hi.at_ _ h).2⟩
    · exact hi.at_ _ h
end L2.Q

set_option maxHeartbeats 2000000
namespace L2.Q
open PySem PySem.Spec PyProof.Rows
local macro_rules | `(tactic| walk_at "wps") => `(tactic| simp (config := { failIfUnchanged := false, maxSteps := 10000000 }) only [w_var, w_int, w_str, w_bl, w_non, w_gint, w_gstr, w_bin, w_cmp, w_idx, w_tabGet, w_tabIx, w_chain, w_nt, w_neg, w_ife, w_conj1, w_conj, w_disj1, w_disj, wl_nil, wl_cons, w_tup, w_lst, w_new, w_call, w_bf, w_isi,
  w_frz, w_newL, w_uniq, w_usort, okB_f, okB_t, list1_l, w_litGet, is_bb, isnot_bb, w_bm, w_isx, w_isxB, w_fld, s_tryAs, t_nil, t_cons, t_set, t_doE, t_ifs, bm_c, bm_i, bm_s, isx_e, isx_n, isx_t, dat_n, isN_d, add_s, w_compN, w_catN,  w_ext, ext2, w_pop, wi_zip, wi_rngD, w_dct0, w_rev,  wo_no, wo_at, w_sl, w_app, wi_items, wi_rng1, wi_rng2, wi_enum, w_comp, cut1, wc_nil, wc_cons, wt_no, wt_at, b_nil, b_cons, s_set, s_asg, s_par, s_setIx, s_ret, s_retN, s_ifs, s_for, s_raise, s_doE, s_bk, s_ct, s_pass, w_body, start1, startN, start_0, retF_ret, retF_nx, wp_ok, wp_exc, wp_bind, ws_ok,
  nth, put, clear, wipe_0, wipe_c, onO_some, onO_none, onO_if, onO_map, onO_bind, onB_t, onB_f, onB_not, onB_b, onD_d, onF_nx, onF_ret, onF_bk, onF_ct, onI_i, items_l, items_t, deref_d, deref_r, drf_l, drf_f, bin2, setIx3_r, app2_r, frz1_r, onL_l, List.take_succ_cons, List.take_length, List.take_left, get_0, get_s, set_0, set_s, ix31, ix32, at0, at1, at2, at3, frz1_d, listOf_l, listOf_t, derefs_n, derefs_c, allD_n, allD_c,
  Option.map_some, Option.map_none, Option.bind_some, Option.bind_none, List.length_cons, List.length_nil, Nat.zero_add, Nat.reduceAdd, Int.cast_ofNat_Int, Int.natCast_zero, Int.natCast_one,
  add_i, sub_i, mul_i, div_i, mod_i, pow_i, add_t, add_l, lt_i, le_i, gt_i, ge_i, eq_i, ne_i, eq_s, ne_s, eq_b, is_n, isnot_n, isN_n, isN_i, idx_t, idx_l, sl_t, sl_l, tab_s, tab_g, len_t, len_l, min2_i, max2_i, min3_i, int_b, int_i, tuple_l, tuple_t, list_l, list_t, all_l, any_l, sum_l, max1_l, min1_l,
  asg_n, asg_t0, asg_t, asg_p0, asg_pn, asg_pt, isi_iI, isi_bI, isi_sI, isi_tI, isi_sS, isi_tT, Bool.not_true, Bool.not_false, decide_eq_true_eq, beq_iff_eq, if_true, if_false, ite_true, ite_false, true_and, and_true, Bool.false_eq_true, reduceIte, eq_self_iff_true, beq_self_eq_true, str_inj, String.reduceEq, Int.reduceBEq, Int.reduceEq, Nat.reduceEqDiff, not_true_eq_false, not_false_eq_true, Bool.true_and, Bool.and_true, Bool.false_and, Bool.and_false, Bool.or_false, Bool.false_or, Bool.true_or, Bool.or_true, false_and, and_false, decide_true, decide_false, zi_int_none, zi_int_bool, zi_int_int, zi_int_str, zi_int_list, zi_int_tuple, zi_int_dict, zi_bool_none, zi_bool_bool, zi_bool_int, zi_bool_str, zi_bool_list, zi_bool_tuple, zi_bool_dict, zi_str_none, zi_str_bool, zi_str_int, zi_str_str, zi_str_list, zi_str_tuple, zi_str_dict, zi_tuple_none, zi_tuple_bool, zi_tuple_int, zi_tuple_str, zi_tuple_list, zi_tuple_tuple, zi_tuple_dict, zi_list_none, zi_list_bool, zi_list_int, zi_list_str, zi_list_list, zi_list_tuple, zi_list_dict, zi_dict_none, zi_dict_bool, zi_dict_int, zi_dict_str, zi_dict_list, zi_dict_tuple, zi_dict_dict, eq_tt, ne_tt, get_cc, set_cc, lit_s, rev_t, rev_l, only_l, cat2_e, sizeLine_eq, is_t, is_s, is_l, is_b, List.isEmpty_cons, List.isEmpty_nil, Nat.reduceLeDiff, Int.reduceLE, Int.reduceLT, Int.reduceAdd, Int.reduceSub, Int.reduceNeg, Int.reduceToNat, Int.reduceMul, Nat.reduceLT, Option.getD_some, Option.getD_none, onD_d, Nat.zero_le])
local macro_rules | `(tactic| walk_at "wpl") => `(tactic| simp (config := { failIfUnchanged := false, maxSteps := 10000000 }) only [w_var, w_int, w_str, w_bl, w_non, w_gint, w_gstr, w_bin, w_cmp, w_idx, w_tabGet, w_tabIx, w_chain, w_nt, w_neg, w_ife, w_conj1, w_conj, w_disj1, w_disj, wl_nil, wl_cons, w_tup, w_lst, w_new, w_call, w_bf, w_isi,
  w_frz, w_newL, w_uniq, w_usort, okB_f, okB_t, list1_l, w_litGet, is_bb, isnot_bb, w_bm, w_isx, w_isxB, w_fld, s_tryAs, t_nil, t_cons, t_set, t_doE, t_ifs, bm_c, bm_i, bm_s, isx_e, isx_n, isx_t, dat_n, isN_d, add_s, w_compN, w_catN,  w_ext, ext2, w_pop, wi_zip, wi_rngD, w_dct0, w_rev,  wo_no, wo_at, w_sl, w_app, wi_items, wi_rng1, wi_rng2, wi_enum, w_comp, cut1, wt_no, wt_at, b_nil, b_cons, s_set, s_asg, s_par, s_setIx, s_ret, s_retN, s_ifs, s_for, s_raise, s_doE, s_bk, s_ct, s_pass, w_body, start1, startN, start_0, retF_ret, retF_nx, wp_ok, wp_exc, wp_bind, ws_ok,
  nth, put, clear, wipe_0, wipe_c, onO_some, onO_none, onO_if, onO_map, onO_bind, onB_t, onB_f, onB_not, onB_b, onD_d, onF_nx, onF_ret, onF_bk, onF_ct, onI_i, items_l, items_t, deref_d, deref_r, drf_l, drf_f, bin2, setIx3_r, app2_r, frz1_r, onL_l, List.take_succ_cons, List.take_length, List.take_left, get_0, get_s, set_0, set_s, ix31, ix32, at0, at1, at2, at3, frz1_d, listOf_l, listOf_t, derefs_n, derefs_c, allD_n, allD_c,
  Option.map_some, Option.map_none, Option.bind_some, Option.bind_none, List.length_cons, List.length_nil, Nat.zero_add, Nat.reduceAdd, Int.cast_ofNat_Int, Int.natCast_zero, Int.natCast_one,
  add_i, sub_i, mul_i, div_i, mod_i, pow_i, add_t, add_l, lt_i, le_i, gt_i, ge_i, eq_i, ne_i, eq_s, ne_s, eq_b, is_n, isnot_n, isN_n, isN_i, idx_t, idx_l, sl_t, sl_l, tab_s, tab_g, len_t, len_l, min2_i, max2_i, min3_i, int_b, int_i, tuple_l, tuple_t, list_l, list_t, all_l, any_l, sum_l, max1_l, min1_l,
  asg_n, asg_t0, asg_t, asg_p0, asg_pn, asg_pt, isi_iI, isi_bI, isi_sI, isi_tI, isi_sS, isi_tT, Bool.not_true, Bool.not_false, decide_eq_true_eq, beq_iff_eq, if_true, if_false, ite_true, ite_false, true_and, and_true, Bool.false_eq_true, reduceIte, eq_self_iff_true, beq_self_eq_true, str_inj, String.reduceEq, Int.reduceBEq, Int.reduceEq, Nat.reduceEqDiff, not_true_eq_false, not_false_eq_true, Bool.true_and, Bool.and_true, Bool.false_and, Bool.and_false, Bool.or_false, Bool.false_or, Bool.true_or, Bool.or_true, false_and, and_false, decide_true, decide_false, zi_int_none, zi_int_bool, zi_int_int, zi_int_str, zi_int_list, zi_int_tuple, zi_int_dict, zi_bool_none, zi_bool_bool, zi_bool_int, zi_bool_str, zi_bool_list, zi_bool_tuple, zi_bool_dict, zi_str_none, zi_str_bool, zi_str_int, zi_str_str, zi_str_list, zi_str_tuple, zi_str_dict, zi_tuple_none, zi_tuple_bool, zi_tuple_int, zi_tuple_str, zi_tuple_list, zi_tuple_tuple, zi_tuple_dict, zi_list_none, zi_list_bool, zi_list_int, zi_list_str, zi_list_list, zi_list_tuple, zi_list_dict, zi_dict_none, zi_dict_bool, zi_dict_int, zi_dict_str, zi_dict_list, zi_dict_tuple, zi_dict_dict, eq_tt, ne_tt, get_cc, set_cc, lit_s, rev_t, rev_l, only_l, cat2_e, sizeLine_eq, is_t, is_s, is_l, is_b, List.isEmpty_cons, List.isEmpty_nil, Nat.reduceLeDiff, Int.reduceLE, Int.reduceLT, Int.reduceAdd, Int.reduceSub, Int.reduceNeg, Int.reduceToNat, Int.reduceMul, Nat.reduceLT, Option.getD_some, Option.getD_none, onD_d, Nat.zero_le])
-- BODY
/-! shared by several laws: facts. -/
structure HasNeedRow (T : FTab) : Prop where
  row : HasRow T
  need_row : T.lookup ("need_row" : Str) = some ir_need_row
theorem HasTruth.nrow {T : FTab} (H : HasTruth T) : HasNeedRow T := ⟨H.row, H.need_row⟩
section
variable {T : FTab} (H : HasNeedRow T)
include H
theorem need_row_ok (w : Nat) (is : List Int) (k : Nat) (st : Sto) (h1 : 1 ≤ w) (h2 : w ≤ 3) (hl : is.length = w) (hk : 4 ≤ k) : run T k "need_row" [.d (.int w), .d (.tuple (is.map .int))] st = .ok (.d .none) st := by
  obtain ⟨k, rfl⟩ : ∃ j, k = j + 1 := ⟨k - 1, by omega⟩
  apply Wp.eq
  rw [run_at H.need_row]
  unfold FnI.run ir_need_row Mode.of
  rw [w_pure rfl]
  walk_at "wps"
  have rr : rowB w (.tuple (is.map .int)) = true := by
    show (decide (((is.map PyData.int).length : Int) = w) && (is.map PyData.int).all isW) = true
    rw [List.length_map, hl, isW_list]
    simp
  rw [row_any H.row w _ k [] (by omega) (by omega) (by omega), rr]
  walk_at "wps"
end
section
variable {T : FTab} (H : HasTruth T)
include H
theorem truth_ok (w : Nat) (s : Sy) (is : List Int) (k : Nat) (st : Sto) (h1 : 1 ≤ w) (h2 : w ≤ 3) (hs : s.Ok w) (hl : is.length = w) (hk : 14 ≤ k) : run T k "truth_at" [.d (.int w), .d s.d, .d (.tuple (is.map .int))] st = .ok (.d (.bool (s.tr is))) st := by
  obtain ⟨k, rfl⟩ : ∃ j, k = j + 1 := ⟨k - 1, by omega⟩
  apply Wp.eq
  rw [run_at H.truth_at]
  unfold FnI.run ir_truth_at Mode.of
  rw [w_pure rfl]
  walk_at "wps"
  rw [need_saying_ok H.say H.need_saying w s k [] (by omega) (by omega) hs (by omega)]
  walk_at "wps"
  rw [need_row_ok H.nrow w is k [] h1 h2 hl (by omega)]
  walk_at "wps"
  have := hs.deep
  rw [holds_ok H.hold is s k [] (Sy.all_imp (fun c _ h => by rw [hl]; exact h) s hs.cols) (by omega)]
  walk_at "wps"
end

def ir_is_fact : FnI := ⟨["width", "thing"], ["width", "thing"], .pure, (.cons (.ret (.conj (.cons (.isi .tuple (.var 1)) (.cons (.cmp .Eq (.bf .len (.cons (.var 1) .nil)) (.int 2)) (.cons (.call 2 "is_saying" (.cons (.var 0) (.cons (.idx (.var 1) (.int 0)) .nil))) (.cons (.isi .bool (.idx (.var 1) (.int 1))) .nil)))))) .nil)⟩
def ir_is_facts : FnI := ⟨["width", "thing"], ["width", "thing", "fact"], .pure, (.cons (.doE (.call 1 "need_width" (.cons (.var 0) .nil))) (.cons (.ret (.conj (.cons (.isi .tuple (.var 1)) (.cons (.cmp .LtE (.bf .len (.cons (.var 1) .nil)) (.gint "MOST_FACTS" 12)) (.cons (.bf .all (.cons (.comp [2] (.name 2) (.items (.var 1)) .no (.call 2 "is_fact" (.cons (.var 0) (.cons (.var 2) .nil)))) .nil)) .nil))))) .nil))⟩
def ir_need_facts : FnI := ⟨["width", "facts"], ["width", "facts"], .pure, (.cons (.ifs (.nt (.call 2 "is_facts" (.cons (.var 0) (.cons (.var 1) .nil)))) (.cons (.raise "NoFacts") .nil) .nil) .nil)⟩
def ir_sayings_of : FnI := ⟨["facts"], ["facts", "saying", "answer"], .pure, (.cons (.ret (.comp [1, 2] (.tup [1, 2]) (.items (.var 0)) .no (.var 1))) .nil)⟩
def ir_need_few (X : Ss) : FnI := ⟨["sayings", "most"], ["sayings", "most", "many"], .pure, (.cons (.set 2 (.bf .len (.cons (.call 1 "unlike_cuts" (.cons (.var 0) .nil)) .nil))) (.cons (.ifs (.cmp .Gt (.var 2) (.var 1)) X .nil) .nil))⟩
def ir_agreed : FnI := ⟨["facts", "row"], ["facts", "row", "saying", "answer"], .pure, (.cons (.ret (.bf .all (.cons (.comp [2, 3] (.tup [2, 3]) (.items (.var 0)) .no (.cmp .Eq (.call 2 "holds" (.cons (.var 2) (.cons (.var 1) .nil))) (.var 3))) .nil))) .nil)⟩
def ir_agrees : FnI := ⟨["width", "facts", "row"], ["width", "facts", "row"], .pure, (.cons (.doE (.call 2 "need_facts" (.cons (.var 0) (.cons (.var 1) .nil)))) (.cons (.doE (.call 2 "need_row" (.cons (.var 0) (.cons (.var 2) .nil)))) (.cons (.doE (.call 2 "need_few" (.cons (.call 1 "sayings_of" (.cons (.var 1) .nil)) (.cons (.gint "MOST_CUTS" 12) .nil)))) (.cons (.ret (.call 2 "agreed" (.cons (.var 1) (.cons (.var 2) .nil)))) .nil))))⟩
def ir_o_truth : FnI := ⟨["_law_saying", "_law_row"], ["_law_saying", "_law_row", "_law_some", "_law_part"], .pure, (.cons (.ifs (.cmp .Eq (.idx (.var 0) (.int 0)) (.str "under")) (.cons (.ret (.cmp .Lt (.idx (.var 1) (.idx (.var 0) (.int 1))) (.idx (.var 0) (.int 2)))) .nil) .nil) (.cons (.set 2 (.comp [3] (.name 3) (.items (.sl (.var 0) (.at_ (.int 1)) .no)) .no (.call 2 "_law_o_truth" (.cons (.var 3) (.cons (.var 1) .nil))))) (.cons (.ifs (.cmp .Eq (.idx (.var 0) (.int 0)) (.str "not")) (.cons (.ret (.nt (.idx (.var 2) (.int 0)))) .nil) .nil) (.cons (.ret (.ife (.cmp .Eq (.idx (.var 0) (.int 0)) (.str "and")) (.cmp .NotIn (.bl false) (.var 2)) (.cmp .In (.bl true) (.var 2)))) .nil))))⟩
def ir_o_facts : FnI := ⟨["_law_pen", "_law_width", "_law_cuts", "_law_most"], ["_law_pen", "_law_width", "_law_cuts", "_law_most", "_law_row", "_law_found", "_law_turn", "_law_saying", "_law_at"], .scope, (.cons (.set 4 (.call 3 "_law_o_row" (.cons (.var 0) (.cons (.var 1) (.cons (.var 2) .nil))))) (.cons (.set 5 (.new .nil)) (.cons (.for_ (.name 6) (.rng1 (.call 2 "_law_take" (.cons (.var 0) (.cons (.bin .Add (.var 3) (.int 1)) .nil)))) (.cons (.set 7 (.call 2 "_law_o_saying" (.cons (.var 0) (.cons (.var 2) .nil)))) (.cons (.doE (.app (.var 5) (.tup (.cons (.var 7) (.cons (.call 2 "_law_o_truth" (.cons (.var 7) (.cons (.var 4) .nil))) .nil))))) .nil))) (.cons (.ifs (.conj (.cons (.cmp .NotEq (.var 5) (.lst .nil)) (.cons (.cmp .Eq (.call 2 "_law_take" (.cons (.var 0) (.cons (.int 3) .nil))) (.int 0)) .nil))) (.cons (.set 8 (.call 2 "_law_take" (.cons (.var 0) (.cons (.bf .len (.cons (.var 5) .nil)) .nil)))) (.cons (.setIx (.var 5) (.var 8) (.tup (.cons (.idx (.idx (.var 5) (.var 8)) (.int 0)) (.cons (.nt (.idx (.idx (.var 5) (.var 8)) (.int 1))) .nil)))) .nil)) .nil) (.cons (.ret (.bf .tuple (.cons (.var 5) .nil))) .nil)))))⟩
def ir_o_agrees : FnI := ⟨["_law_facts", "_law_row"], ["_law_facts", "_law_row", "_law_saying", "_law_answer"], .pure, (.cons (.ret (.cmp .NotIn (.bl false) (.comp [2, 3] (.tup [2, 3]) (.items (.var 0)) .no (.cmp .Eq (.call 2 "_law_o_truth" (.cons (.var 2) (.cons (.var 1) .nil))) (.var 3))))) .nil)⟩
/-! lists without repetition -/
theorem nd_sub {α : Type} [DecidableEq α] : ∀ {l m : List α}, l.Nodup → (∀ x ∈ l, x ∈ m) → l.length ≤ m.length
  | [], _, _, _ => Nat.zero_le _
  | x :: l, m, n, s => by
    have hx := s x List.mem_cons_self
    obtain ⟨n1, n2⟩ := List.nodup_cons.mp n
    have := nd_sub (l := l) (m := m.erase x) n2 fun y hy => (List.mem_erase_of_ne (fun e => n1 (by rw [← e]; exact hy))).mpr (s y (List.mem_cons_of_mem _ hy))
    rw [List.length_erase_of_mem hx] at this
    have := List.length_pos_of_mem hx
    rw [List.length_cons]
    omega
def uss (ss : List Sy) : List (Int × Int) := ss.flatMap Sy.us
def ucs (ss : List Sy) : List (List Int) := dedup ((uss ss).map rowOf)
theorem ucs_few {ss : List Sy} {ks : List (Int × Int)} (h : ∀ s ∈ ss, ∀ c ∈ s.us, c ∈ ks) : (ucs ss).length ≤ ks.length := by
  have := nd_sub (l := ucs ss) (m := ks.map rowOf) (nd_dedup _) fun x hx => by
    obtain ⟨c, hc, rfl⟩ := List.mem_map.mp (mem_dedup.mp hx)
    obtain ⟨s, hs, hc⟩ := List.mem_flatMap.mp hc
    exact List.mem_map.mpr ⟨c, h s hs c hc, rfl⟩
  rwa [List.length_map] at this
theorem put_mono (acc : List (List Int)) (k : List Int) : acc.length ≤ (putRow acc k).length := by
  unfold putRow
  split
  · exact Nat.le_refl _
  · rw [List.length_append]; omega
theorem fold_mono : ∀ (ks acc : List (List Int)), acc.length ≤ (ks.foldl putRow acc).length
  | [], acc => Nat.le_refl _
  | k :: ks, acc => Nat.le_trans (put_mono acc k) (fold_mono ks _)
section
variable {ρ : Env} {st : Sto}
theorem uIn_few {tg' : Tg} {me : EM} {Q : List (List Int) → Sto → Prop} {E : XE'} : ∀ {ys : List PyData} {ks : List (List Int)} {acc : List (List Int)}, (∀ (i : Nat) (y : PyData), ys[i]? = some y → onO (tg'.asg (.d y) ρ) fun ρ1 => Wp (me ρ1 st) (fun v st1 => st1 = st ∧ onD v fun z => rowD z = ks[i]? ∧ ks[i]? ≠ none) E0') → ys.length = ks.length → (ks.foldl putRow acc).length < 63 →
    Q (ks.foldl putRow acc) st → Wp (uIn tg' me ρ ys acc st) Q E
  | [], [], acc, _, _, _, q => q
  | y :: ys, k :: ks, acc, h, hl, hz, q => by
    have h0 := h 0 y rfl
    unfold uIn
    cases ea : tg'.asg (.d y) ρ with
    | none => rw [ea] at h0; exact h0.elim
    | some ρ1 =>
      rw [ea] at h0
      have h0 : Wp (me ρ1 st) _ E0' := h0
      show Wp (Res.bind (noX (me ρ1 st)) _) _ _
      cases em : me ρ1 st with
      | fail => rw [em] at h0; exact h0.elim
      | exc e s => rw [em] at h0; exact h0.elim
      | ok v st1 =>
        rw [em] at h0
        obtain ⟨e1, h0⟩ := h0
        have e1' := e1.symm
        subst e1'
        cases v with
        | ref n => exact h0.elim
        | d z =>
          obtain ⟨h0, _⟩ := h0
          have h0 : rowD z = some k := h0
          show Wp (match rowD z with
            | none => (.fail : Res (List (List Int)))
            | some k => if acc.length < 63 then uIn tg' me ρ ys (putRow acc k) st else .fail) _ _
          rw [h0]
          show Wp (if acc.length < 63 then uIn tg' me ρ ys (putRow acc k) st else .fail) _ _
          have := fold_mono (k :: ks) acc
          rw [if_pos (by omega)]
          exact uIn_few (fun i y hy => h (i + 1) y hy) (by simpa using hl) hz q
  | [], _ :: _, _, _, hl, _, _ => by cases hl
  | _ :: _, [], _, _, hl, _, _ => by cases hl
theorem uOut_few {tg tg' : Tg} {mb : IM} {own' : List Nat} {me : EM} {Q : List (List Int) → Sto → Prop} {E : XE'} : ∀ {xs : List PyData} {kss : List (List (List Int))} {acc : List (List Int)}, (∀ (i : Nat) (x : PyData), xs[i]? = some x → onO (tg.asg (.d x) ρ) fun ρ1 => Wp (mb ρ1 st) (fun ys st1 => st1 = st ∧
      ∃ ks, kss[i]? = some ks ∧ ys.length = ks.length ∧ ∀ (j : Nat) (y : PyData), ys[j]? = some y → onO (tg'.asg (.d y) (wipeE ρ1 own')) fun ρ2 => Wp (me ρ2 st) (fun v st2 => st2 = st ∧ onD v fun z => rowD z = ks[j]? ∧ ks[j]? ≠ none) E0') E0') → xs.length = kss.length → (kss.flatten.foldl putRow acc).length < 63 →
    Q (kss.flatten.foldl putRow acc) st → Wp (uOut tg mb own' tg' me ρ xs acc st) Q E
  | [], [], acc, _, _, _, q => q
  | x :: xs, ks :: kss, acc, h, hl, hz, q => by
    have h0 := h 0 x rfl
    unfold uOut
    cases ea : tg.asg (.d x) ρ with
    | none => rw [ea] at h0; exact h0.elim
    | some ρ1 =>
      rw [ea] at h0
      have h0 : Wp (mb ρ1 st) _ E0' := h0
      show Wp (Res.bind (noX (mb ρ1 st)) _) _ _
      cases em : mb ρ1 st with
      | fail => rw [em] at h0; exact h0.elim
      | exc e s => rw [em] at h0; exact h0.elim
      | ok ys st1 =>
        rw [em] at h0
        obtain ⟨e1, ks', e2, hy, hr⟩ := h0
        have e1' := e1.symm
        subst e1'
        obtain rfl : ks = ks' := Option.some.inj e2
        show Wp (Res.bind (uIn tg' me (wipeE ρ1 own') ys acc st) _) _ _
        rw [wp_bind]
        rw [List.flatten_cons, List.foldl_append] at hz q
        have := fold_mono kss.flatten (ks.foldl putRow acc)
        exact uIn_few hr hy (by omega) (uOut_few (fun i x hx => h (i + 1) x hx) (by simpa using hl) hz q)
  | [], _ :: _, _, _, hl, _, _ => by cases hl
  | _ :: _, [], _, _, hl, _, _ => by cases hl
end
/-! facts -/
abbrev Fa := Sy × Bool
def faD (f : Fa) : PyData := .tuple [f.1.d, .bool f.2]
def fsD (fs : List Fa) : PyData := .tuple (fs.map faD)
def factB (w : Int) : PyData → Bool
  | .tuple [s, .bool _] => sayB w s
  | _ => false
def factsB (w : Int) : PyData → Bool
  | .tuple xs => decide (xs.length ≤ 12) && xs.all (factB w)
  | _ => false
theorem s_an : ¬ ("and" : Str) = "not" := by decide +kernel
theorem s_on : ¬ ("or" : Str) = "not" := by decide +kernel
theorem madeB_sy (w : Int) : ∀ (s : Sy) (n : Nat), s.all (fun c _ => 0 ≤ c ∧ c < w) → s.depth ≤ n → madeB w n s.d = true ∧ partsB n s.d = s.parts
  | .under c b, n + 1, h, _ => by
    have h : 0 ≤ c ∧ c < w := h
    refine ⟨?_, ?_⟩
    · simp [Sy.d, madeB, underB, h.1, h.2]
    · simp [Sy.d, partsB, Sy.parts]
  | .nt s, n + 1, h, hd => by
    have hd : 1 + s.depth ≤ n + 1 := hd
    obtain ⟨h1, h2⟩ := madeB_sy w s n h (by omega)
    refine ⟨?_, ?_⟩
    · simp [Sy.d, madeB, s_nu, h1]
    · simp [Sy.d, partsB, Sy.parts, h2]
  | .con a b, n + 1, h, hd => by
    have hd : 1 + max a.depth b.depth ≤ n + 1 := hd
    obtain ⟨h1, h2⟩ := madeB_sy w a n h.1 (by omega)
    obtain ⟨h3, h4⟩ := madeB_sy w b n h.2 (by omega)
    refine ⟨?_, ?_⟩
    · simp [Sy.d, madeB, s_au, s_an, h1, h3]
    · simp [Sy.d, partsB, Sy.parts, s_au, h2, h4]
  | .dis a b, n + 1, h, hd => by
    have hd : 1 + max a.depth b.depth ≤ n + 1 := hd
    obtain ⟨h1, h2⟩ := madeB_sy w a n h.1 (by omega)
    obtain ⟨h3, h4⟩ := madeB_sy w b n h.2 (by omega)
    refine ⟨?_, ?_⟩
    · simp [Sy.d, madeB, s_ou, s_on, h1, h3]
    · simp [Sy.d, partsB, Sy.parts, s_ou, h2, h4]
  | s, 0, _, hd => by have := Sy.depth_pos s; omega
theorem sayB_sy {w : Int} {s : Sy} (h : s.Ok w) : sayB w s.d = true := by
  obtain ⟨h1, h2⟩ := madeB_sy w s 8 h.cols h.deep
  unfold sayB
  rw [h1, h2, decide_eq_true h.few]
  rfl
structure FaOk (w : Int) (fs : List Fa) : Prop where
  few : fs.length ≤ 12
  ok : ∀ f ∈ fs, f.1.Ok w
theorem factsB_ok {w : Int} {fs : List Fa} (h : FaOk w fs) : factsB w (fsD fs) = true := by
  show (decide ((fs.map faD).length ≤ 12) && (fs.map faD).all (factB w)) = true
  rw [List.length_map, decide_eq_true h.few, Bool.true_and, List.all_eq_true]
  intro x hx
  obtain ⟨f, hf, rfl⟩ := List.mem_map.mp hx
  exact sayB_sy (h.ok f hf)
structure HasFacts (T : FTab) : Prop where
  say : HasSay T
  is_fact : T.lookup ("is_fact" : Str) = some ir_is_fact
  is_facts : T.lookup ("is_facts" : Str) = some ir_is_facts
  need_facts : T.lookup ("need_facts" : Str) = some ir_need_facts
structure HasFew (T : FTab) (X : Ss) : Prop where
  unl : HasUnl T
  sayings_of : T.lookup ("sayings_of" : Str) = some ir_sayings_of
  need_few : T.lookup ("need_few" : Str) = some (ir_need_few X)
structure HasAgreed (T : FTab) : Prop where
  hold : HasHold T
  agreed : T.lookup ("agreed" : Str) = some ir_agreed
structure HasAgrees (T : FTab) (X : Ss) : Prop where
  facts : HasFacts T
  few : HasFew T X
  nrow : HasNeedRow T
  agd : HasAgreed T
  agrees : T.lookup ("agrees" : Str) = some ir_agrees
structure HasOTruth (T : FTab) : Prop where
  o_truth : T.lookup ("_law_o_truth" : Str) = some ir_o_truth
structure HasOAgrees (T : FTab) : Prop where
  tr : HasOTruth T
  o_agrees : T.lookup ("_law_o_agrees" : Str) = some ir_o_agrees
structure HasOFacts (T : FTab) : Prop where
  tr : HasOTruth T
  row : HasORow T
  o_facts : T.lookup ("_law_o_facts" : Str) = some ir_o_facts
section
variable {T : FTab} (H : HasFacts T)
include H
theorem fact_any (w : Int) (x : PyData) (k : Nat) (st : Sto) (h1 : 1 ≤ w) (h2 : w ≤ 3) (hk : 13 ≤ k) : run T k "is_fact" [.d (.int w), .d x] st = .ok (.d (.bool (factB w x))) st := by
  obtain ⟨k, rfl⟩ : ∃ j, k = j + 1 := ⟨k - 1, by omega⟩
  apply Wp.eq
  rw [run_at H.is_fact]
  unfold FnI.run ir_is_fact Mode.of
  rw [w_pure rfl]
  cases x with
  | tuple xs =>
    walk_at "wps"
    match xs with
    | [s, a] =>
      rw [if_pos (show (([s, a].length : Nat) : Int) = 2 from rfl)]
      walk_at "wps"
      rw [saying_any H.say w s k [] h1 h2 (by omega)]
      walk_at "wps"
      have e : factB w (.tuple [s, a]) = (sayB w s && isiD .bool a) := by
        cases a <;> simp [factB, isiD]
      rw [e]
      cases sayB w s <;> simp
    | [] => simp [factB]
    | [_] => simp [factB]
    | _ :: _ :: _ :: r =>
      rw [if_neg (by simp only [List.length_cons]; omega)]
      simp [factB]
  | _ => walk_at "wps"; simp [factB]
theorem facts_any (w : Int) (x : PyData) (k : Nat) (st : Sto) (h1 : 1 ≤ w) (h2 : w ≤ 3) (hk : 14 ≤ k) : run T k "is_facts" [.d (.int w), .d x] st = .ok (.d (.bool (factsB w x))) st := by
  obtain ⟨k, rfl⟩ : ∃ j, k = j + 3 := ⟨k - 3, by omega⟩
  apply Wp.eq
  rw [run_at H.is_facts]
  unfold FnI.run ir_is_facts Mode.of
  rw [w_pure rfl]
  walk_at "wpl"
  rw [width_ok H.say.w k w [] h1 h2]
  cases x with
  | tuple xs =>
    walk_at "wpl"
    by_cases hl : (xs.length : Int) ≤ 12
    · rw [if_pos hl]
      refine wc_map (f := fun x => .bool (factB w x)) (fun x _ => ?_) ?_
      · walk_at "wpl"
        rw [fact_any H w x (k + 2) [] h1 h2 (by omega)]
        walk_at "wpl"
      · rw [boolsOf_map]
        walk_at "wpl"
        have : xs.length ≤ 12 := by omega
        simp [factsB, this]
    · rw [if_neg hl]
      have : ¬ xs.length ≤ 12 := by omega
      simp [factsB, this]
  | _ => walk_at "wpl"; simp [factsB]
theorem need_facts_ok (w : Int) (fs : List Fa) (k : Nat) (st : Sto) (h1 : 1 ≤ w) (h2 : w ≤ 3) (hf : FaOk w fs) (hk : 15 ≤ k) : run T k "need_facts" [.d (.int w), .d (fsD fs)] st = .ok (.d .none) st := by
  obtain ⟨k, rfl⟩ : ∃ j, k = j + 1 := ⟨k - 1, by omega⟩
  apply Wp.eq
  rw [run_at H.need_facts]
  unfold FnI.run ir_need_facts Mode.of
  rw [w_pure rfl]
  walk_at "wpl"
  rw [facts_any H w _ k [] h1 h2 (by omega), factsB_ok hf]
  walk_at "wpl"
end
section
variable {T : FTab} {X : Ss} (H : HasFew T X)
include H
theorem unlike_list (ss : List Sy) (k : Nat) (st : Sto) (hd : ∀ s ∈ ss, s.depth ≤ 8) (hp : ∀ s ∈ ss, s.parts ≤ 15) (hf : (ucs ss).length < 63) (hk : 9 ≤ k) : run T k "unlike_cuts" [.d (.list (ss.map Sy.d))] st = .ok (.d (.list (rowsD (ucs ss)))) st := by
  obtain ⟨k, rfl⟩ : ∃ j, k = j + 1 := ⟨k - 1, by omega⟩
  have ef : ((ss.map fun s => s.us.map rowOf).flatten.foldl putRow []) = ucs ss := by
    unfold ucs uss dedup
    rw [← List.flatMap_def, List.map_flatMap]
  apply Wp.eq
  rw [run_at H.unl.unlike_cuts]
  unfold FnI.run ir_unlike_cuts Mode.of
  rw [w_pure rfl]
  walk_at "wpl"
  refine uOut_few (kss := ss.map fun s => s.us.map rowOf) ?_ (by simp) (by rw [ef]; exact hf) ?_
  · intro i x hx
    rw [List.getElem?_map] at hx
    obtain ⟨s, hs, rfl⟩ := Option.map_eq_some_iff.mp hx
    have hm := List.mem_of_getElem? hs
    have := hd s hm
    have := hp s hm
    walk_at "wps"
    rw [unders_ok H.unl.und s k [] (by omega) (by omega)]
    walk_at "wps"
    refine ⟨s.us.map rowOf, by rw [List.getElem?_map, hs]; rfl, by simp, fun j y hy => ?_⟩
    rw [List.getElem?_map] at hy
    obtain ⟨c, hc, rfl⟩ := Option.map_eq_some_iff.mp hy
    walk_at "wps"
    rw [List.getElem?_map, hc]
    exact ⟨rfl, by simp⟩
  · walk_at "wps"
    rw [ef]
theorem sayings_ok (fs : List Fa) (k : Nat) (st : Sto) (hk : 1 ≤ k) : run T k "sayings_of" [.d (fsD fs)] st = .ok (.d (.list (fs.map fun f => f.1.d))) st := by
  obtain ⟨k, rfl⟩ : ∃ j, k = j + 1 := ⟨k - 1, by omega⟩
  apply Wp.eq
  rw [run_at H.sayings_of]
  unfold FnI.run ir_sayings_of Mode.of fsD
  rw [w_pure rfl]
  walk_at "wpl"
  refine wc_inv (fun i ys st => ys = (fs.map fun f => f.1.d).take i ∧ st = []) ⟨rfl, rfl⟩ ?_ ?_
  · rintro i x ys st hx ⟨rfl, rfl⟩
    rw [List.getElem?_map] at hx
    obtain ⟨f, hf, rfl⟩ := Option.map_eq_some_iff.mp hx
    unfold faD
    walk_at "wpl"
    have h : (fs.map fun f => f.1.d)[i]? = some f.1.d := by rw [List.getElem?_map, hf]; rfl
    rw [List.take_add_one, h]
    rfl
  · rintro ys st ⟨rfl, rfl⟩
    walk_at "wpl"
    rw [List.length_map, show fs.length = (fs.map fun f => f.1.d).length by simp, List.take_length]
theorem need_few_ok (ss : List Sy) (m : Int) (k : Nat) (st : Sto) (hd : ∀ s ∈ ss, s.depth ≤ 8) (hp : ∀ s ∈ ss, s.parts ≤ 15) (hf : ((ucs ss).length : Int) ≤ m) (hm : m < 63) (hk : 10 ≤ k) : run T k "need_few" [.d (.list (ss.map Sy.d)), .d (.int m)] st = .ok (.d .none) st := by
  obtain ⟨k, rfl⟩ : ∃ j, k = j + 1 := ⟨k - 1, by omega⟩
  apply Wp.eq
  rw [run_at H.need_few]
  unfold FnI.run ir_need_few Mode.of
  rw [w_pure rfl]
  walk_at "wpl"
  rw [unlike_list H ss k [] hd hp (by omega) (by omega)]
  walk_at "wpl"
  have : (rowsD (ucs ss)).length = (ucs ss).length := by unfold rowsD sortRows; rw [List.length_map, List.length_mergeSort]
  rw [this, if_neg (by omega)]
  trivial
end
def agB (fs : List Fa) (is : List Int) : Bool := fs.all fun f => f.1.tr is == f.2
def FaCols (n : Nat) (fs : List Fa) : Prop := ∀ f ∈ fs, f.1.all (fun c _ => 0 ≤ c ∧ c < n) ∧ f.1.depth ≤ 8
theorem ag_map {fs : List Fa} {is : List Int} : (fs.map fun f => f.1.tr is == f.2).all id = agB fs is := by
  unfold agB
  rw [List.all_map]
  rfl
section
variable {T : FTab} (H : HasAgreed T)
include H
theorem agreed_ok (fs : List Fa) (is : List Int) (k : Nat) (st : Sto) (hc : FaCols is.length fs) (hk : 9 ≤ k) : run T k "agreed" [.d (fsD fs), .d (.tuple (is.map .int))] st = .ok (.d (.bool (agB fs is))) st := by
  obtain ⟨k, rfl⟩ : ∃ j, k = j + 1 := ⟨k - 1, by omega⟩
  apply Wp.eq
  rw [run_at H.agreed]
  unfold FnI.run ir_agreed Mode.of fsD
  rw [w_pure rfl]
  walk_at "wpl"
  refine wc_inv (fun i ys st => ys = ((fs.map fun f => f.1.tr is == f.2).take i).map .bool ∧ st = []) ⟨rfl, rfl⟩ ?_ ?_
  · rintro i x ys st hx ⟨rfl, rfl⟩
    rw [List.getElem?_map] at hx
    obtain ⟨f, hf, rfl⟩ := Option.map_eq_some_iff.mp hx
    obtain ⟨h1, h2⟩ := hc f (List.mem_of_getElem? hf)
    unfold faD
    walk_at "wpl"
    rw [holds_ok H.hold is f.1 k [] h1 (by omega)]
    walk_at "wpl"
    have h : (fs.map fun f => f.1.tr is == f.2)[i]? = some (f.1.tr is == f.2) := by rw [List.getElem?_map, hf]; rfl
    rw [List.take_add_one, h]
    simp
  · rintro ys st ⟨rfl, rfl⟩
    walk_at "wpl"
    rw [List.length_map, show fs.length = (fs.map fun f => f.1.tr is == f.2).length by simp, List.take_length]
    rw [show (fs.map fun f => f.1.tr is == f.2).map PyData.bool = (fs.map fun f => f.1.tr is == f.2).map (fun b => PyData.bool (id b)) from rfl, boolsOf_map]
    walk_at "wpl"
    rw [List.map_id, ag_map]
end
theorem FaOk.cols {w : Nat} {fs : List Fa} (h : FaOk w fs) : FaCols w fs := fun f hf => ⟨(h.ok f hf).cols, (h.ok f hf).deep⟩
section
variable {T : FTab} {X : Ss} (H : HasAgrees T X)
include H
theorem agrees_ok (w : Nat) (fs : List Fa) (is : List Int) (k : Nat) (st : Sto) (h1 : 1 ≤ w) (h2 : w ≤ 3) (hf : FaOk w fs) (hl : is.length = w) (hc : (ucs (fs.map (·.1))).length ≤ 12) (hk : 16 ≤ k) : run T k "agrees" [.d (.int w), .d (fsD fs), .d (.tuple (is.map .int))] st = .ok (.d (.bool (agB fs is))) st := by
  obtain ⟨k, rfl⟩ : ∃ j, k = j + 1 := ⟨k - 1, by omega⟩
  apply Wp.eq
  rw [run_at H.agrees]
  unfold FnI.run ir_agrees Mode.of
  rw [w_pure rfl]
  walk_at "wpl"
  rw [need_facts_ok H.facts w fs k [] (by omega) (by omega) hf (by omega)]
  walk_at "wpl"
  rw [need_row_ok H.nrow w is k [] h1 h2 hl (by omega)]
  walk_at "wpl"
  rw [sayings_ok H.few fs k [] (by omega)]
  walk_at "wpl"
  have e : (fs.map fun f => f.1.d) = (fs.map (·.1)).map Sy.d := by rw [List.map_map]; rfl
  rw [e, need_few_ok H.few (fs.map (·.1)) 12 k [] (fun s hs => ?_) (fun s hs => ?_) (by omega) (by decide) (by omega)]
  · walk_at "wpl"
    rw [agreed_ok H.agd fs is k [] (by rw [hl]; exact hf.cols) (by omega)]
    walk_at "wpl"
  · obtain ⟨f, h, rfl⟩ := List.mem_map.mp hs
    exact (hf.ok f h).deep
  · obtain ⟨f, h, rfl⟩ := List.mem_map.mp hs
    exact (hf.ok f h).few
end
/-! the law's own -/
theorem bools_can : ∀ bs : List Bool, PyData.canLayAll0 (bs.map .bool) = true ∧ PyData.depthAll (bs.map .bool) = 0
  | [] => ⟨rfl, rfl⟩
  | b :: bs => by
    obtain ⟨h1, h2⟩ := bools_can bs
    exact ⟨by simp [PyData.canLayAll0, PyData.canLay0, h1], by simp [PyData.depthAll, PyData.depth, h2]⟩
theorem bools_shaped (bs : List Bool) : SeqAt.shaped (.list (bs.map .bool)) = true := by
  obtain ⟨h1, h2⟩ := bools_can bs
  simp [SeqAt.shaped, PyData.canLay0, PyData.depth, h1, h2]
theorem not_in_bools (bs : List Bool) : opCmp .NotIn (.bool false) (.list (bs.map .bool)) = some (.bool (bs.all id)) := by
  show nO (inQ (.bool false) (.list (bs.map .bool))) = _
  have s0 : SeqAt.shaped (.bool false) = true := by decide +kernel
  have e : inQ (.bool false) (.list (bs.map .bool)) = some ((bs.map PyData.bool).any fun z => PyData.eqv z (.bool false)) := by
    show (if _ then _ else _) = _
    rw [if_pos ⟨s0, bools_shaped bs⟩]
  rw [e]
  show some (PyData.bool (!_)) = _
  congr 2
  clear e
  induction bs with
  | nil => rfl
  | cons b bs ih => cases b <;> simp [PyData.eqv] at ih ⊢ <;> exact ih
theorem truth_any2 : ∀ (b c : Bool), (opCmp .NotIn (.bool false) (.list [.bool b, .bool c]) = some (.bool (b && c))) ∧ opCmp .In (.bool true) (.list [.bool b, .bool c]) = some (.bool (b || c))
  | true, true => ⟨by kernel_rfl, by kernel_rfl⟩
  | true, false => ⟨by kernel_rfl, by kernel_rfl⟩
  | false, true => ⟨by kernel_rfl, by kernel_rfl⟩
  | false, false => ⟨by kernel_rfl, by kernel_rfl⟩
section
variable {T : FTab} (H : HasOTruth T)
include H
theorem o_truth_ok (is : List Int) : ∀ (s : Sy) (k : Nat) (st : Sto), s.all (fun c _ => 0 ≤ c ∧ c < is.length) → s.depth ≤ k → run T k "_law_o_truth" [.d s.d, .d (.tuple (is.map .int))] st = .ok (.d (.bool (s.tr is))) st := by
  intro s
  induction s with
  | under c b =>
    intro k st hs hk
    obtain ⟨k, rfl⟩ : ∃ j, k = j + 1 := ⟨k - 1, by have : (Sy.under c b).depth = 1 := rfl; omega⟩
    apply Wp.eq
    rw [run_at H.o_truth]
    unfold FnI.run ir_o_truth Mode.of Sy.d
    rw [w_pure rfl]
    walk_at "wps"
    rw [is_at hs.1 hs.2]
    walk_at "wps"
    rfl
  | nt s ih =>
    intro k st hs hk
    have e : (Sy.nt s).depth = 1 + s.depth := rfl
    obtain ⟨k, rfl⟩ : ∃ j, k = j + 1 := ⟨k - 1, by omega⟩
    apply Wp.eq
    rw [run_at H.o_truth]
    unfold FnI.run ir_o_truth Mode.of Sy.d
    rw [w_pure rfl]
    walk_at "wps"
    rw [ih k [] hs (by omega)]
    walk_at "wps"
    cases q : s.tr is <;> simp [Sy.tr, q]
  | con a b iha ihb =>
    intro k st hs hk
    have e : (Sy.con a b).depth = 1 + max a.depth b.depth := rfl
    obtain ⟨k, rfl⟩ : ∃ j, k = j + 1 := ⟨k - 1, by omega⟩
    apply Wp.eq
    rw [run_at H.o_truth]
    unfold FnI.run ir_o_truth Mode.of Sy.d
    rw [w_pure rfl]
    walk_at "wps"
    rw [iha k [] hs.1 (by omega)]
    walk_at "wps"
    rw [ihb k [] hs.2 (by omega)]
    walk_at "wps"
    rw [(truth_any2 _ _).1]
    walk_at "wps"
    rfl
  | dis a b iha ihb =>
    intro k st hs hk
    have e : (Sy.dis a b).depth = 1 + max a.depth b.depth := rfl
    obtain ⟨k, rfl⟩ : ∃ j, k = j + 1 := ⟨k - 1, by omega⟩
    apply Wp.eq
    rw [run_at H.o_truth]
    unfold FnI.run ir_o_truth Mode.of Sy.d
    rw [w_pure rfl]
    walk_at "wps"
    rw [iha k [] hs.1 (by omega)]
    walk_at "wps"
    rw [ihb k [] hs.2 (by omega)]
    walk_at "wps"
    rw [(truth_any2 _ _).2]
    walk_at "wps"
    rfl
end
section
variable {T : FTab} (H : HasOAgrees T)
include H
theorem o_agrees_ok (fs : List Fa) (is : List Int) (k : Nat) (st : Sto) (hc : FaCols is.length fs) (hk : 9 ≤ k) : run T k "_law_o_agrees" [.d (fsD fs), .d (.tuple (is.map .int))] st = .ok (.d (.bool (agB fs is))) st := by
  obtain ⟨k, rfl⟩ : ∃ j, k = j + 1 := ⟨k - 1, by omega⟩
  apply Wp.eq
  rw [run_at H.o_agrees]
  unfold FnI.run ir_o_agrees Mode.of fsD
  rw [w_pure rfl]
  walk_at "wpl"
  refine wc_inv (fun i ys st => ys = ((fs.map fun f => f.1.tr is == f.2).take i).map .bool ∧ st = []) ⟨rfl, rfl⟩ ?_ ?_
  · rintro i x ys st hx ⟨rfl, rfl⟩
    rw [List.getElem?_map] at hx
    obtain ⟨f, hf, rfl⟩ := Option.map_eq_some_iff.mp hx
    obtain ⟨h1, h2⟩ := hc f (List.mem_of_getElem? hf)
    unfold faD
    walk_at "wpl"
    rw [o_truth_ok H.tr is f.1 k [] h1 (by omega)]
    walk_at "wpl"
    have h : (fs.map fun f => f.1.tr is == f.2)[i]? = some (f.1.tr is == f.2) := by rw [List.getElem?_map, hf]; rfl
    rw [List.take_add_one, h]
    simp
  · rintro ys st ⟨rfl, rfl⟩
    walk_at "wpl"
    rw [List.length_map, show fs.length = (fs.map fun f => f.1.tr is == f.2).length by simp, List.take_length, not_in_bools]
    walk_at "wpl"
    rw [ag_map]
end
theorem fa_can {f : Fa} (h : f.1.depth ≤ 8) : PyData.canLay0 (faD f) = true ∧ (faD f).depth ≤ 9 := by
  obtain ⟨h1, h2⟩ := Sy.can f.1
  refine ⟨?_, ?_⟩
  · simp [faD, PyData.canLay0, PyData.canLayAll0, h1]
  · simp [faD, PyData.depth, PyData.depthAll, h2]; omega
theorem fas_can : ∀ {fs : List Fa}, (∀ f ∈ fs, f.1.depth ≤ 8) → PyData.canLayAll0 (fs.map faD) = true ∧ PyData.depthAll (fs.map faD) ≤ 9
  | [], _ => ⟨rfl, by simp [PyData.depthAll]⟩
  | f :: fs, h => by
    obtain ⟨a1, a2⟩ := fa_can (h f List.mem_cons_self)
    obtain ⟨b1, b2⟩ := fas_can (fs := fs) fun g hg => h g (List.mem_cons_of_mem _ hg)
    refine ⟨by simp [PyData.canLayAll0, a1, b1], ?_⟩
    show max (faD f).depth (PyData.depthAll (fs.map faD)) ≤ 9
    omega
theorem fas_shaped {fs : List Fa} (h : ∀ f ∈ fs, f.1.depth ≤ 8) : SeqAt.shaped (.list (fs.map faD)) = true := by
  obtain ⟨h1, h2⟩ := fas_can h
  unfold SeqAt.shaped
  have e : (PyData.list (fs.map faD)).depth ≤ 64 := by
    show PyData.depthAll (fs.map faD) + 1 ≤ 64
    omega
  rw [decide_eq_true e]
  show (PyData.canLayAll0 (fs.map faD) && true) = true
  rw [h1]
  rfl
theorem ne_nil {xs : List PyData} (h : SeqAt.shaped (.list xs) = true) : opCmp .NotEq (.list xs) (.list []) = some (.bool (!xs.isEmpty)) := by cases xs <;> rfl
theorem faD_p {s : Sy} {b : Bool} : PyData.tuple [s.d, .bool b] = faD (s, b) := rfl
section
variable {T : FTab} (H : HasOFacts T) {o : Ob} {cs : List Int} {k : Nat} {a v : Int} {r : Sto} {P : Vv → Sto → Prop} {E : XE'}
include H
theorem facts_w {w m : Nat} {ks : List (Int × Int)} (hw : 1 ≤ w) (hw3 : w ≤ 3) (hk : 11 ≤ k) (h0 : 0 ≤ a) (h1 : a + 600 < 1000000000) (hm : m ≤ 12) (hn : 0 < ks.length) (hz : ks.length < 1000) (hc : ∀ c ∈ ks, (0 ≤ c.1 ∧ c.1 < w) ∧ Bnd c.2)
    (f : ∀ a1 v1 (fs : List Fa), a ≤ a1 → a1 ≤ a + 600 → fs.length ≤ m → (∀ f ∈ fs, f.1.all (fun c b => (c, b) ∈ ks) ∧ f.1.depth ≤ 8 ∧ f.1.parts ≤ 15) → P (.d (fsD fs)) (sto o cs a1 v1 r)) : Wp (run T k "_law_o_facts" [.ref 1, .d (.int w), .d (.list (ks.map ctD)), .d (.int m)] (sto o cs a v r)) P E := by
  obtain ⟨k, rfl⟩ : ∃ j, k = j + 1 := ⟨k - 1, by omega⟩
  have D := H.row.draw
  rw [run_at H.o_facts]
  unfold FnI.run ir_o_facts Mode.of
  rw [w_scope]
  walk_at "wpl"
  refine row_w H.row hw hw3 (by omega) (by omega) (by omega) hn hz hc fun a1 v1 is e1 e2 e3 e4 => ?_
  walk_at "wpl"
  rw [sto_app, sto_len]
  refine take_w D.pen (by omega) (by omega) (by omega) (by omega) (by omega) fun a2 v2 n e5 e6 n0 n1 => ?_
  walk_at "wpl"
  refine ⟨⟨by omega, by omega⟩, ?_⟩
  refine for_inv (fun i ρ st => ∃ (a4 v4 : Int) (fs : List Fa) (x y z : Option Vv), ρ = [some (.ref 1), some (.d (.int w)), some (.d (.list (ks.map ctD))), some (.d (.int m)), some (.d (.tuple (is.map .int))), some (.ref (r.length + 2)), x, y, z] ∧ st = sto o cs a4 v4 (r ++ [.lst (fs.map faD)]) ∧ a ≤ a4 ∧ a4 ≤ a + 31 + 40 * i ∧ fs.length = i ∧ ∀ f ∈ fs, f.1.all (fun c b => (c, b) ∈ ks) ∧ f.1.depth ≤ 8 ∧ f.1.parts ≤ 15) ⟨a2, v2, [], none, none, none, rfl, rfl, by omega, by omega, rfl, fun f h => (nomatch h)⟩ ?_ ?_
  · rintro i x ρ st hx ⟨a4, v4, fs, x1, y1, z1, rfl, rfl, j1, j2, j3, j4⟩
    have hi : i < 13 := by
      have := (List.getElem?_eq_some_iff.mp hx).1
      rw [upFrom_len] at this
      omega
    walk_at "wpl"
    refine saying_w D (fun c b => (c, b) ∈ ks) (fun c hc => hc) hn hz (by omega) (by omega) (by omega) fun a5 v5 s h6 h7 s1 s2 s3 => ?_
    walk_at "wpl"
    rw [sto_get]
    walk_at "wpl"
    have sc : s.all fun c _ => 0 ≤ c ∧ c < is.length := Sy.all_imp (fun c b h => by rw [e3]; exact (hc _ h).1) s s1
    rw [o_truth_ok H.tr is s k _ sc (by omega)]
    walk_at "wpl"
    rw [sto_get]
    walk_at "wpl"
    rw [sto_set]
    refine ⟨by rw [List.length_map]; omega, a5, v5, fs ++ [(s, s.tr is)], _, _, _, rfl, by simp [faD], by omega, by omega, by simp [j3], fun f hf => ?_⟩
    rcases List.mem_append.mp hf with z | z
    · exact j4 f z
    · rw [List.mem_singleton.mp z]
      exact ⟨s1, s2, s3⟩
  · rintro ρ st ⟨a4, v4, fs, x1, y1, z1, rfl, rfl, j1, j2, j3, j4⟩
    rw [upFrom_len] at j2 j3
    walk_at "wpl"
    rw [sto_get]
    walk_at "wpl"
    rw [ne_nil (fas_shaped fun f hf => (j4 f hf).2.1)]
    have fin : ∀ (a5 v5 : Int) (gs : List Fa), a ≤ a5 → a5 ≤ a + 600 → gs.length ≤ m → (∀ f ∈ gs, f.1.all (fun c b => (c, b) ∈ ks) ∧ f.1.depth ≤ 8 ∧ f.1.parts ≤ 15) → P (.d (.tuple (gs.map faD))) ((sto o cs a5 v5 (r ++ [.lst (gs.map faD)])).take (sto o cs a v r).length) := fun a5 v5 gs g1 g2 g3 g4 => by
      rw [take_sto]
      exact f a5 v5 gs g1 g2 g3 g4
    cases fs with
    | nil =>
      rw [List.map_nil]
      walk_at "wpl"
      exact fin a4 v4 [] (by omega) (by omega) (Nat.zero_le _) j4
    | cons g gs =>
      walk_at "wpl"
      refine take_w D.pen (by omega) (by omega) (by omega) (by decide) (by decide) fun a5 v5 t e7 e8 t0 t1 => ?_
      walk_at "wpl"
      split
      · rw [sto_get]
        walk_at "wpl"
        have ll : ((g :: gs).map faD).length = (g :: gs).length := List.length_map ..
        have lp : 0 < (g :: gs).length := Nat.succ_pos _
        refine take_w D.pen (by omega) (by omega) (by omega) (by rw [ll]; omega) (by rw [ll]; omega) fun a6 v6 q e9 e10 q0 q1 => ?_
        rw [ll] at q1
        walk_at "wpl"
        rw [sto_get]
        walk_at "wpl"
        obtain ⟨f0, hf0⟩ : ∃ f0, (g :: gs)[q.toNat]? = some f0 := ⟨_, List.getElem?_eq_getElem (by omega)⟩
        have ea : atI ((g :: gs).map faD) q = some (faD f0) := atI_get q0 (by rw [List.getElem?_map, hf0]; rfl)
        obtain ⟨s1, s2, s3⟩ := j4 f0 (List.mem_of_getElem? hf0)
        rw [ea]
        rw [show faD f0 = .tuple [f0.1.d, .bool f0.2] from rfl]
        walk_at "wpl"
        have go : ∀ b : Bool, onO (ixN ((g :: gs).map faD).length q) fun j => onO (drf ((sto o cs a6 v6 (r ++ [.lst ((g :: gs).map faD)])).set (r.length + 2) (.lst (((g :: gs).map faD).set j (.tuple [f0.1.d, .bool b]))))[r.length + 2]?) fun a_1 => onO (fBF BF.tuple [a_1]) fun x =>
            P (.d x) (((sto o cs a6 v6 (r ++ [.lst ((g :: gs).map faD)])).set (r.length + 2) (.lst (((g :: gs).map faD).set j (.tuple [f0.1.d, .bool b])))).take (sto o cs a v r).length) := fun b => by
          rw [ix_at q0 (by rw [ll]; exact q1)]
          walk_at "wpl"
          have es : ((g :: gs).map faD).set q.toNat (.tuple [f0.1.d, .bool b]) = ((g :: gs).set q.toNat (f0.1, b)).map faD := by rw [List.map_set]; rfl
          rw [es, sto_set, sto_get]
          walk_at "wpl"
          refine fin a6 v6 _ (by omega) (by omega) (by rw [List.length_set]; omega) fun f hf => ?_
          rcases List.mem_or_eq_of_mem_set hf with z | rfl
          · exact j4 f z
          · exact ⟨s1, s2, s3⟩
        split
        · exact go false
        · exact go true
      · rw [sto_get]
        walk_at "wpl"
        exact fin a5 v5 (g :: gs) (by omega) (by omega) (by omega) j4
end
end L2.Q

set_option maxHeartbeats 2000000
namespace L2.Q
open PySem PySem.Spec PyProof.Rows
local macro_rules | `(tactic| walk_at "wps") => `(tactic| simp (config := { failIfUnchanged := false, maxSteps := 10000000 }) only [w_var, w_int, w_str, w_bl, w_non, w_gint, w_gstr, w_bin, w_cmp, w_idx, w_tabGet, w_tabIx, w_chain, w_nt, w_neg, w_ife, w_conj1, w_conj, w_disj1, w_disj, wl_nil, wl_cons, w_tup, w_lst, w_new, w_call, w_bf, w_isi,
  w_frz, w_newL, w_uniq, w_usort, okB_f, okB_t, list1_l, w_litGet, is_bb, isnot_bb, w_bm, w_isx, w_isxB, w_fld, s_tryAs, t_nil, t_cons, t_set, t_doE, t_ifs, bm_c, bm_i, bm_s, isx_e, isx_n, isx_t, dat_n, isN_d, add_s, w_compN, w_catN,  w_ext, ext2, w_pop, wi_zip, wi_rngD, w_dct0, w_rev,  wo_no, wo_at, w_sl, w_app, wi_items, wi_rng1, wi_rng2, wi_enum, w_comp, cut1, wc_nil, wc_cons, wt_no, wt_at, b_nil, b_cons, s_set, s_asg, s_par, s_setIx, s_ret, s_retN, s_ifs, s_for, s_raise, s_doE, s_bk, s_ct, s_pass, w_body, start1, startN, start_0, retF_ret, retF_nx, wp_ok, wp_exc, wp_bind, ws_ok,
  nth, put, clear, wipe_0, wipe_c, onO_some, onO_none, onO_if, onO_map, onO_bind, onB_t, onB_f, onB_not, onB_b, onD_d, onF_nx, onF_ret, onF_bk, onF_ct, onI_i, items_l, items_t, deref_d, deref_r, drf_l, drf_f, bin2, setIx3_r, app2_r, frz1_r, onL_l, List.take_succ_cons, List.take_length, List.take_left, get_0, get_s, set_0, set_s, ix31, ix32, at0, at1, at2, at3, frz1_d, listOf_l, listOf_t, derefs_n, derefs_c, allD_n, allD_c,
  Option.map_some, Option.map_none, Option.bind_some, Option.bind_none, List.length_cons, List.length_nil, Nat.zero_add, Nat.reduceAdd, Int.cast_ofNat_Int, Int.natCast_zero, Int.natCast_one,
  add_i, sub_i, mul_i, div_i, mod_i, pow_i, add_t, add_l, lt_i, le_i, gt_i, ge_i, eq_i, ne_i, eq_s, ne_s, eq_b, is_n, isnot_n, isN_n, isN_i, idx_t, idx_l, sl_t, sl_l, tab_s, tab_g, len_t, len_l, min2_i, max2_i, min3_i, int_b, int_i, tuple_l, tuple_t, list_l, list_t, all_l, any_l, sum_l, max1_l, min1_l,
  asg_n, asg_t0, asg_t, asg_p0, asg_pn, asg_pt, isi_iI, isi_bI, isi_sI, isi_tI, isi_sS, isi_tT, Bool.not_true, Bool.not_false, decide_eq_true_eq, beq_iff_eq, if_true, if_false, ite_true, ite_false, true_and, and_true, Bool.false_eq_true, reduceIte, eq_self_iff_true, beq_self_eq_true, str_inj, String.reduceEq, Int.reduceBEq, Int.reduceEq, Nat.reduceEqDiff, not_true_eq_false, not_false_eq_true, Bool.true_and, Bool.and_true, Bool.false_and, Bool.and_false, Bool.or_false, Bool.false_or, Bool.true_or, Bool.or_true, false_and, and_false, decide_true, decide_false, zi_int_none, zi_int_bool, zi_int_int, zi_int_str, zi_int_list, zi_int_tuple, zi_int_dict, zi_bool_none, zi_bool_bool, zi_bool_int, zi_bool_str, zi_bool_list, zi_bool_tuple, zi_bool_dict, zi_str_none, zi_str_bool, zi_str_int, zi_str_str, zi_str_list, zi_str_tuple, zi_str_dict, zi_tuple_none, zi_tuple_bool, zi_tuple_int, zi_tuple_str, zi_tuple_list, zi_tuple_tuple, zi_tuple_dict, zi_list_none, zi_list_bool, zi_list_int, zi_list_str, zi_list_list, zi_list_tuple, zi_list_dict, zi_dict_none, zi_dict_bool, zi_dict_int, zi_dict_str, zi_dict_list, zi_dict_tuple, zi_dict_dict, eq_tt, ne_tt, get_cc, set_cc, lit_s, rev_t, rev_l, only_l, cat2_e, sizeLine_eq, is_t, is_s, is_l, is_b, List.isEmpty_cons, List.isEmpty_nil, Nat.reduceLeDiff, Int.reduceLE, Int.reduceLT, Int.reduceAdd, Int.reduceSub, Int.reduceNeg, Int.reduceToNat, Int.reduceMul, Nat.reduceLT, Option.getD_some, Option.getD_none, onD_d, Nat.zero_le])
local macro_rules | `(tactic| walk_at "wpl") => `(tactic| simp (config := { failIfUnchanged := false, maxSteps := 10000000 }) only [w_var, w_int, w_str, w_bl, w_non, w_gint, w_gstr, w_bin, w_cmp, w_idx, w_tabGet, w_tabIx, w_chain, w_nt, w_neg, w_ife, w_conj1, w_conj, w_disj1, w_disj, wl_nil, wl_cons, w_tup, w_lst, w_new, w_call, w_bf, w_isi,
  w_frz, w_newL, w_uniq, w_usort, okB_f, okB_t, list1_l, w_litGet, is_bb, isnot_bb, w_bm, w_isx, w_isxB, w_fld, s_tryAs, t_nil, t_cons, t_set, t_doE, t_ifs, bm_c, bm_i, bm_s, isx_e, isx_n, isx_t, dat_n, isN_d, add_s, w_compN, w_catN,  w_ext, ext2, w_pop, wi_zip, wi_rngD, w_dct0, w_rev,  wo_no, wo_at, w_sl, w_app, wi_items, wi_rng1, wi_rng2, wi_enum, w_comp, cut1, wt_no, wt_at, b_nil, b_cons, s_set, s_asg, s_par, s_setIx, s_ret, s_retN, s_ifs, s_for, s_raise, s_doE, s_bk, s_ct, s_pass, w_body, start1, startN, start_0, retF_ret, retF_nx, wp_ok, wp_exc, wp_bind, ws_ok,
  nth, put, clear, wipe_0, wipe_c, onO_some, onO_none, onO_if, onO_map, onO_bind, onB_t, onB_f, onB_not, onB_b, onD_d, onF_nx, onF_ret, onF_bk, onF_ct, onI_i, items_l, items_t, deref_d, deref_r, drf_l, drf_f, bin2, setIx3_r, app2_r, frz1_r, onL_l, List.take_succ_cons, List.take_length, List.take_left, get_0, get_s, set_0, set_s, ix31, ix32, at0, at1, at2, at3, frz1_d, listOf_l, listOf_t, derefs_n, derefs_c, allD_n, allD_c,
  Option.map_some, Option.map_none, Option.bind_some, Option.bind_none, List.length_cons, List.length_nil, Nat.zero_add, Nat.reduceAdd, Int.cast_ofNat_Int, Int.natCast_zero, Int.natCast_one,
  add_i, sub_i, mul_i, div_i, mod_i, pow_i, add_t, add_l, lt_i, le_i, gt_i, ge_i, eq_i, ne_i, eq_s, ne_s, eq_b, is_n, isnot_n, isN_n, isN_i, idx_t, idx_l, sl_t, sl_l, tab_s, tab_g, len_t, len_l, min2_i, max2_i, min3_i, int_b, int_i, tuple_l, tuple_t, list_l, list_t, all_l, any_l, sum_l, max1_l, min1_l,
  asg_n, asg_t0, asg_t, asg_p0, asg_pn, asg_pt, isi_iI, isi_bI, isi_sI, isi_tI, isi_sS, isi_tT, Bool.not_true, Bool.not_false, decide_eq_true_eq, beq_iff_eq, if_true, if_false, ite_true, ite_false, true_and, and_true, Bool.false_eq_true, reduceIte, eq_self_iff_true, beq_self_eq_true, str_inj, String.reduceEq, Int.reduceBEq, Int.reduceEq, Nat.reduceEqDiff, not_true_eq_false, not_false_eq_true, Bool.true_and, Bool.and_true, Bool.false_and, Bool.and_false, Bool.or_false, Bool.false_or, Bool.true_or, Bool.or_true, false_and, and_false, decide_true, decide_false, zi_int_none, zi_int_bool, zi_int_int, zi_int_str, zi_int_list, zi_int_tuple, zi_int_dict, zi_bool_none, zi_bool_bool, zi_bool_int, zi_bool_str, zi_bool_list, zi_bool_tuple, zi_bool_dict, zi_str_none, zi_str_bool, zi_str_int, zi_str_str, zi_str_list, zi_str_tuple, zi_str_dict, zi_tuple_none, zi_tuple_bool, zi_tuple_int, zi_tuple_str, zi_tuple_list, zi_tuple_tuple, zi_tuple_dict, zi_list_none, zi_list_bool, zi_list_int, zi_list_str, zi_list_list, zi_list_tuple, zi_list_dict, zi_dict_none, zi_dict_bool, zi_dict_int, zi_dict_str, zi_dict_list, zi_dict_tuple, zi_dict_dict, eq_tt, ne_tt, get_cc, set_cc, lit_s, rev_t, rev_l, only_l, cat2_e, sizeLine_eq, is_t, is_s, is_l, is_b, List.isEmpty_cons, List.isEmpty_nil, Nat.reduceLeDiff, Int.reduceLE, Int.reduceLT, Int.reduceAdd, Int.reduceSub, Int.reduceNeg, Int.reduceToNat, Int.reduceMul, Nat.reduceLT, Option.getD_some, Option.getD_none, onD_d, Nat.zero_le])
-- BODY
/-! more ways to ask: loops that look at each member. -/
theorem for_all {tg : Tg} {body : SM} {ρ : Env} {st : Sto} {P : Fl → Env → Sto → Prop} {E : XE'} (good : PyData → Bool) (R : Env → Prop) {xs : List PyData} (h0 : R ρ)
    (step : ∀ x ∈ xs, ∀ ρ, R ρ → onO (tg.asg (.d x) ρ) fun ρ1 => Ws (body ρ1 st) (fun f ρ2 st2 => st2 = st ∧ (if good x = true then f = .nx ∧ R ρ2 else f = .ret (.d (.bool false)))) E)
    (yes : xs.all good = true → ∀ ρ, R ρ → P .nx ρ st) (no : xs.all good = false → ∀ ρ, P (.ret (.d (.bool false))) ρ st) : Ws (forL tg body xs ρ st) P E := by
  refine for_inv (fun i ρ st' => st' = st ∧ R ρ ∧ (xs.take i).all good = true) ⟨rfl, h0, rfl⟩ ?_ ?_
  · rintro i x ρ st' hx ⟨rfl, hr, ha⟩
    have hm := List.mem_of_getElem? hx
    have q := step x hm ρ hr
    cases ea : tg.asg (.d x) ρ with
    | none => rw [ea] at q; exact q.elim
    | some ρ1 =>
      rw [ea] at q
      have q : Ws (body ρ1 st') _ E := q
      refine q.imp fun f ρ2 st2 ⟨e, h⟩ => ?_
      subst e
      by_cases g : good x = true
      · rw [if_pos g] at h
        obtain ⟨rfl, h⟩ := h
        refine ⟨rfl, h, ?_⟩
        rw [List.take_add_one, hx, List.all_append, ha]
        simp [g]
      · rw [if_neg g] at h
        subst h
        refine no ?_ ρ2
        cases e : xs.all good with
        | false => rfl
        | true => exact absurd (List.all_eq_true.mp e x hm) g
  · rintro ρ st' ⟨rfl, hr, ha⟩
    rw [List.take_length] at ha
    exact yes ha ρ hr
theorem ne_bs {a : Bool} : opCmp .NotEq (.bool a) (.bool a) = some (.bool false) := by cases a <;> rfl
theorem fit_s {x : Str} {n k : Nat} (h : (plainD (.str x) && decide (wid (.str x) ≤ n)) = true) : Fit (.str x) n k := by
  have h1 := (Bool.and_eq_true_iff.mp h).1
  have h2 := of_decide_eq_true (Bool.and_eq_true_iff.mp h).2
  exact ⟨h1, h2, Nat.zero_le _⟩
theorem fit1 {x : PyData} {n k : Nat} (h : Fit x n k) : FitAll [x] (n + 2) k := FitAll.cons h (fit_nil (n := 0))
theorem fa_fit {f : Fa} (h : f.1.all fun c b => c.natAbs ≤ 10 ^ 39 + 4 ∧ b.natAbs ≤ 10 ^ 39 + 4) (hd : f.1.depth ≤ 8) (hp : f.1.parts ≤ 15) : Fit (faD f) 60020 9 :=
  (Fit.tup (FitAll.cons ((Sy.fit f.1 h).mono (n' := 60000) (k' := 8) (by omega) hd) (FitAll.cons fit_bool (fit_nil (n := 0))))).mono (by decide) (Nat.le_refl _)
end L2.Q

set_option maxHeartbeats 2000000
namespace L2.Q
open PySem PySem.Spec PyProof.Rows
local macro_rules | `(tactic| walk_at "wps") => `(tactic| simp (config := { failIfUnchanged := false, maxSteps := 10000000 }) only [w_var, w_int, w_str, w_bl, w_non, w_gint, w_gstr, w_bin, w_cmp, w_idx, w_tabGet, w_tabIx, w_chain, w_nt, w_neg, w_ife, w_conj1, w_conj, w_disj1, w_disj, wl_nil, wl_cons, w_tup, w_lst, w_new, w_call, w_bf, w_isi,
  w_frz, w_newL, w_uniq, w_usort, w_usortI, okB_f, okB_t, list1_l, w_litGet, is_bb, isnot_bb, w_bm, w_isx, w_isxB, w_fld, s_tryAs, t_nil, t_cons, t_set, t_doE, t_ifs, bm_c, bm_i, bm_s, isx_e, isx_n, isx_t, dat_n, isN_d, add_s, w_compN, w_catN,  w_ext, ext2, w_pop, wi_zip, wi_rngD, w_dct0, w_rev,  wo_no, wo_at, w_sl, w_app, wi_items, wi_rng1, wi_rng2, wi_enum, w_comp, cut1, wc_nil, wc_cons, wt_no, wt_at, b_nil, b_cons, s_set, s_asg, s_par, s_setIx, s_ret, s_retN, s_ifs, s_for, s_raise, s_doE, s_bk, s_ct, s_pass, w_body, start1, startN, start_0, retF_ret, retF_nx, wp_ok, wp_exc, wp_bind, ws_ok,
  nth, put, clear, wipe_0, wipe_c, onO_some, onO_none, onO_if, onO_map, onO_bind, onB_t, onB_f, onB_not, onB_b, onD_d, onF_nx, onF_ret, onF_bk, onF_ct, onI_i, items_l, items_t, deref_d, deref_r, drf_l, drf_f, bin2, setIx3_r, app2_r, frz1_r, onL_l, List.take_succ_cons, List.take_length, List.take_left, get_0, get_s, set_0, set_s, ix31, ix32, at0, at1, at2, at3, frz1_d, listOf_l, listOf_t, derefs_n, derefs_c, allD_n, allD_c,
  Option.map_some, Option.map_none, Option.bind_some, Option.bind_none, List.length_cons, List.length_nil, Nat.zero_add, Nat.reduceAdd, Int.cast_ofNat_Int, Int.natCast_zero, Int.natCast_one,
  add_i, sub_i, mul_i, div_i, mod_i, pow_i, add_t, add_l, lt_i, le_i, gt_i, ge_i, eq_i, ne_i, eq_s, ne_s, eq_b, is_n, isnot_n, isN_n, isN_i, idx_t, idx_l, sl_t, sl_l, tab_s, tab_g, len_t, len_l, min2_i, max2_i, min3_i, int_b, int_i, tuple_l, tuple_t, list_l, list_t, all_l, any_l, sum_l, max1_l, min1_l,
  asg_n, asg_t0, asg_t, asg_p0, asg_pn, asg_pt, isi_iI, isi_bI, isi_sI, isi_tI, isi_sS, isi_tT, Bool.not_true, Bool.not_false, decide_eq_true_eq, beq_iff_eq, if_true, if_false, ite_true, ite_false, true_and, and_true, Bool.false_eq_true, reduceIte, eq_self_iff_true, beq_self_eq_true, str_inj, String.reduceEq, Int.reduceBEq, Int.reduceEq, Nat.reduceEqDiff, not_true_eq_false, not_false_eq_true, Bool.true_and, Bool.and_true, Bool.false_and, Bool.and_false, Bool.or_false, Bool.false_or, Bool.true_or, Bool.or_true, false_and, and_false, decide_true, decide_false, zi_int_none, zi_int_bool, zi_int_int, zi_int_str, zi_int_list, zi_int_tuple, zi_int_dict, zi_bool_none, zi_bool_bool, zi_bool_int, zi_bool_str, zi_bool_list, zi_bool_tuple, zi_bool_dict, zi_str_none, zi_str_bool, zi_str_int, zi_str_str, zi_str_list, zi_str_tuple, zi_str_dict, zi_tuple_none, zi_tuple_bool, zi_tuple_int, zi_tuple_str, zi_tuple_list, zi_tuple_tuple, zi_tuple_dict, zi_list_none, zi_list_bool, zi_list_int, zi_list_str, zi_list_list, zi_list_tuple, zi_list_dict, zi_dict_none, zi_dict_bool, zi_dict_int, zi_dict_str, zi_dict_list, zi_dict_tuple, zi_dict_dict, eq_tt, ne_tt, eq_ll, ne_ll, get_cc, set_cc, lit_s, rev_t, rev_l, only_l, cat2_e, sizeLine_eq, is_t, is_s, is_l, is_b, List.isEmpty_cons, List.isEmpty_nil, Nat.reduceLeDiff, Int.reduceLE, Int.reduceLT, Int.reduceAdd, Int.reduceSub, Int.reduceNeg, Int.reduceToNat, Int.reduceMul, Nat.reduceLT, Option.getD_some, Option.getD_none, onD_d, Nat.zero_le])
local macro_rules | `(tactic| walk_at "wpl") => `(tactic| simp (config := { failIfUnchanged := false, maxSteps := 10000000 }) only [w_var, w_int, w_str, w_bl, w_non, w_gint, w_gstr, w_bin, w_cmp, w_idx, w_tabGet, w_tabIx, w_chain, w_nt, w_neg, w_ife, w_conj1, w_conj, w_disj1, w_disj, wl_nil, wl_cons, w_tup, w_lst, w_new, w_call, w_bf, w_isi,
  w_frz, w_newL, w_uniq, w_usort, w_usortI, okB_f, okB_t, list1_l, w_litGet, is_bb, isnot_bb, w_bm, w_isx, w_isxB, w_fld, s_tryAs, t_nil, t_cons, t_set, t_doE, t_ifs, bm_c, bm_i, bm_s, isx_e, isx_n, isx_t, dat_n, isN_d, add_s, w_compN, w_catN,  w_ext, ext2, w_pop, wi_zip, wi_rngD, w_dct0, w_rev,  wo_no, wo_at, w_sl, w_app, wi_items, wi_rng1, wi_rng2, wi_enum, w_comp, cut1, wt_no, wt_at, b_nil, b_cons, s_set, s_asg, s_par, s_setIx, s_ret, s_retN, s_ifs, s_for, s_raise, s_doE, s_bk, s_ct, s_pass, w_body, start1, startN, start_0, retF_ret, retF_nx, wp_ok, wp_exc, wp_bind, ws_ok,
  nth, put, clear, wipe_0, wipe_c, onO_some, onO_none, onO_if, onO_map, onO_bind, onB_t, onB_f, onB_not, onB_b, onD_d, onF_nx, onF_ret, onF_bk, onF_ct, onI_i, items_l, items_t, deref_d, deref_r, drf_l, drf_f, bin2, setIx3_r, app2_r, frz1_r, onL_l, List.take_succ_cons, List.take_length, List.take_left, get_0, get_s, set_0, set_s, ix31, ix32, at0, at1, at2, at3, frz1_d, listOf_l, listOf_t, derefs_n, derefs_c, allD_n, allD_c,
  Option.map_some, Option.map_none, Option.bind_some, Option.bind_none, List.length_cons, List.length_nil, Nat.zero_add, Nat.reduceAdd, Int.cast_ofNat_Int, Int.natCast_zero, Int.natCast_one,
  add_i, sub_i, mul_i, div_i, mod_i, pow_i, add_t, add_l, lt_i, le_i, gt_i, ge_i, eq_i, ne_i, eq_s, ne_s, eq_b, is_n, isnot_n, isN_n, isN_i, idx_t, idx_l, sl_t, sl_l, tab_s, tab_g, len_t, len_l, min2_i, max2_i, min3_i, int_b, int_i, tuple_l, tuple_t, list_l, list_t, all_l, any_l, sum_l, max1_l, min1_l,
  asg_n, asg_t0, asg_t, asg_p0, asg_pn, asg_pt, isi_iI, isi_bI, isi_sI, isi_tI, isi_sS, isi_tT, Bool.not_true, Bool.not_false, decide_eq_true_eq, beq_iff_eq, if_true, if_false, ite_true, ite_false, true_and, and_true, Bool.false_eq_true, reduceIte, eq_self_iff_true, beq_self_eq_true, str_inj, String.reduceEq, Int.reduceBEq, Int.reduceEq, Nat.reduceEqDiff, not_true_eq_false, not_false_eq_true, Bool.true_and, Bool.and_true, Bool.false_and, Bool.and_false, Bool.or_false, Bool.false_or, Bool.true_or, Bool.or_true, false_and, and_false, decide_true, decide_false, zi_int_none, zi_int_bool, zi_int_int, zi_int_str, zi_int_list, zi_int_tuple, zi_int_dict, zi_bool_none, zi_bool_bool, zi_bool_int, zi_bool_str, zi_bool_list, zi_bool_tuple, zi_bool_dict, zi_str_none, zi_str_bool, zi_str_int, zi_str_str, zi_str_list, zi_str_tuple, zi_str_dict, zi_tuple_none, zi_tuple_bool, zi_tuple_int, zi_tuple_str, zi_tuple_list, zi_tuple_tuple, zi_tuple_dict, zi_list_none, zi_list_bool, zi_list_int, zi_list_str, zi_list_list, zi_list_tuple, zi_list_dict, zi_dict_none, zi_dict_bool, zi_dict_int, zi_dict_str, zi_dict_list, zi_dict_tuple, zi_dict_dict, eq_tt, ne_tt, eq_ll, ne_ll, get_cc, set_cc, lit_s, rev_t, rev_l, only_l, cat2_e, sizeLine_eq, is_t, is_s, is_l, is_b, List.isEmpty_cons, List.isEmpty_nil, Nat.reduceLeDiff, Int.reduceLE, Int.reduceLT, Int.reduceAdd, Int.reduceSub, Int.reduceNeg, Int.reduceToNat, Int.reduceMul, Nat.reduceLT, Option.getD_some, Option.getD_none, onD_d, Nat.zero_le])
-- BODY
/-! k14: pairs. -/
def ir_is_pair : FnI := ⟨["width", "facts", "saying", "thing"], ["width", "facts", "saying", "thing", "row"], .pure, (.cons (.doE (.call 2 "need_facts" (.cons (.var 0) (.cons (.var 1) .nil)))) (.cons (.doE (.call 2 "need_saying" (.cons (.var 0) (.cons (.var 2) .nil)))) (.cons (.doE (.call 2 "need_few" (.cons (.bin .Add (.call 1 "sayings_of" (.cons (.var 1) .nil)) (.lst (.cons (.var 2) .nil))) (.cons (.gint "MOST_CUTS" 12) .nil)))) (.cons (.ifs (.disj (.cons (.nt (.isi .tuple (.var 3))) (.cons (.cmp .NotEq (.bf .len (.cons (.var 3) .nil)) (.int 2)) (.cons (.nt (.bf .all (.cons (.comp [4] (.name 4) (.items (.var 3)) .no (.call 2 "is_row" (.cons (.var 0) (.cons (.var 4) .nil)))) .nil))) .nil)))) (.cons (.ret (.bl false)) .nil) .nil) (.cons (.ifs (.nt (.bf .all (.cons (.comp [4] (.name 4) (.items (.var 3)) .no (.call 2 "agreed" (.cons (.var 1) (.cons (.var 4) .nil)))) .nil))) (.cons (.ret (.bl false)) .nil) .nil) (.cons (.ret (.conj (.cons (.call 2 "holds" (.cons (.var 2) (.cons (.idx (.var 3) (.int 0)) .nil))) (.cons (.nt (.call 2 "holds" (.cons (.var 2) (.cons (.idx (.var 3) (.int 1)) .nil)))) .nil)))) .nil))))))⟩
def in14 : Ss := (.cons (.set 6 (.bin .Add (.var 6) (.comp [8] (.name 8) (.items (.var 5)) .no (.bin .Add (.var 7) (.tup (.cons (.var 8) .nil)))))) .nil)
def ir_o_spread : FnI := ⟨["_law_width", "_law_cuts"], ["_law_width", "_law_cuts", "_law_found", "_law_column", "_law_bounds", "_law_ends", "_law_more", "_law_row", "_law_end", "_law_one", "_law_bound"], .pure, (.cons (.set 2 (.lst (.cons (.tup .nil) .nil))) (.cons (.for_ (.name 3) (.rng1 (.var 0)) (.cons (.set 4 (.usortI false (.comp [9, 10] (.tup [9, 10]) (.items (.var 1)) (.at_ (.cmp .Eq (.var 9) (.var 3))) (.var 10)))) (.cons (.set 5 (.ife (.cmp .NotEq (.var 4) (.lst .nil)) (.bin .Add (.lst (.cons (.bin .Sub (.idx (.var 4) (.int 0)) (.int 1)) .nil)) (.var 4)) (.lst (.cons (.int 0) .nil)))) (.cons (.set 6 (.lst .nil)) (.cons (.for_ (.name 7) (.items (.var 2)) in14) (.cons (.set 2 (.var 6)) .nil)))))) (.cons (.ret (.var 2)) .nil)))⟩
def ir_o_is_pair : FnI := ⟨["_law_width", "_law_facts", "_law_saying", "_law_thing"], ["_law_width", "_law_facts", "_law_saying", "_law_thing", "_law_row", "_law_part"], .pure, (.cons (.ifs (.disj (.cons (.nt (.isi .tuple (.var 3))) (.cons (.cmp .NotEq (.bf .len (.cons (.var 3) .nil)) (.int 2)) .nil))) (.cons (.ret (.bl false)) .nil) .nil) (.cons (.for_ (.name 4) (.items (.var 3)) (.cons (.ifs (.disj (.cons (.nt (.isi .tuple (.var 4))) (.cons (.cmp .NotEq (.bf .len (.cons (.var 4) .nil)) (.var 0)) .nil))) (.cons (.ret (.bl false)) .nil) .nil) (.cons (.ifs (.cmp .NotEq (.comp [5] (.name 5) (.items (.var 4)) (.at_ (.disj (.cons (.isi .bool (.var 5)) (.cons (.nt (.isi .int (.var 5))) .nil)))) (.var 5)) (.lst .nil)) (.cons (.ret (.bl false)) .nil) .nil) (.cons (.ifs (.nt (.call 2 "_law_o_agrees" (.cons (.var 1) (.cons (.var 4) .nil)))) (.cons (.ret (.bl false)) .nil) .nil) .nil)))) (.cons (.ret (.conj (.cons (.call 2 "_law_o_truth" (.cons (.var 2) (.cons (.idx (.var 3) (.int 0)) .nil))) (.cons (.nt (.call 2 "_law_o_truth" (.cons (.var 2) (.cons (.idx (.var 3) (.int 1)) .nil)))) .nil)))) .nil)))⟩
def ir_o_pairs : FnI := ⟨["_law_pen", "_law_width", "_law_facts", "_law_saying", "_law_cuts"], ["_law_pen", "_law_width", "_law_facts", "_law_saying", "_law_cuts", "_law_rows", "_law_good", "_law_some", "_law_ones", "_law_others", "_law_found", "_law_turn", "_law_odd", "_law_row", "_law_one", "_law_other"], .scope, (.cons (.set 5 (.call 2 "_law_o_spread" (.cons (.var 1) (.cons (.var 4) .nil)))) (.cons (.set 6 (.comp [13] (.name 13) (.items (.var 5)) (.at_ (.call 2 "_law_o_agrees" (.cons (.var 2) (.cons (.var 13) .nil)))) (.var 13))) (.cons (.set 7 (.sl (.bin .Add (.var 6) (.var 5)) .no (.at_ (.int 60)))) (.cons (.set 8 (.bin .Add (.comp [13] (.name 13) (.items (.var 7)) (.at_ (.call 2 "_law_o_truth" (.cons (.var 3) (.cons (.var 13) .nil)))) (.var 13)) (.lst (.cons (.idx (.var 5) (.int 0)) .nil)))) (.cons (.set 9 (.bin .Add (.comp [13] (.name 13) (.items (.var 7)) (.at_ (.nt (.call 2 "_law_o_truth" (.cons (.var 3) (.cons (.var 13) .nil))))) (.var 13)) (.lst (.cons (.idx (.var 5) (.neg (.int 1))) .nil)))) (.cons (.set 10 (.lst .nil)) (.cons (.for_ (.name 11) (.rng1 (.int 3)) (.cons (.par 14 15 (.idx (.var 8) (.call 2 "_law_take" (.cons (.var 0) (.cons (.bf .len (.cons (.var 8) .nil)) .nil)))) (.idx (.var 9) (.call 2 "_law_take" (.cons (.var 0) (.cons (.bf .len (.cons (.var 9) .nil)) .nil))))) (.cons (.set 12 (.call 2 "_law_o_no_row" (.cons (.var 0) (.cons (.var 14) .nil)))) (.cons (.set 10 (.bin .Add (.var 10) (.lst (.cons (.tup (.cons (.var 14) (.cons (.var 15) .nil))) (.cons (.tup (.cons (.var 15) (.cons (.var 14) .nil))) (.cons (.tup (.cons (.var 14) (.cons (.var 14) .nil))) (.cons (.lst (.cons (.var 14) (.cons (.var 15) .nil))) (.cons (.tup (.cons (.var 14) (.cons (.var 15) (.cons (.var 14) .nil)))) (.cons (.tup (.cons (.var 14) .nil)) (.cons (.tup (.cons (.var 12) (.cons (.var 15) .nil))) .nil)))))))))) (.cons (.set 10 (.bin .Add (.var 10) (.lst (.cons (.tup (.cons (.var 14) (.cons (.var 12) .nil))) (.cons (.tup (.cons (.var 14) (.cons (.call 3 "_law_o_row" (.cons (.var 0) (.cons (.var 1) (.cons (.var 4) .nil)))) .nil))) (.cons (.tup (.cons (.call 3 "_law_o_row" (.cons (.var 0) (.cons (.var 1) (.cons (.var 4) .nil)))) (.cons (.var 15) .nil))) (.cons (.var 12) .nil))))))) .nil))))) (.cons (.ret (.bin .Add (.var 10) (.lst (.cons (.tup (.cons (.idx (.var 8) (.int 0)) (.cons (.idx (.var 9) (.int 0)) .nil))) (.cons .non (.cons (.tup .nil) (.cons (.int 5) (.cons .dct0 (.cons (.bl true) (.cons (.str "pair") .nil)))))))))) .nil))))))))⟩
def ir_law14 : FnI := ⟨["_law_script"], ["_law_script", "_law_pen", "_law_turn", "_law_width", "_law_cuts", "_law_facts", "_law_more", "_law_lots", "_law_thing", "_law_saying", "_law_last", "_law_seen", "_law_some", "_law_found"], .pure, (.cons (.set 1 (.call 1 "_law_open" (.cons (.var 0) .nil))) (.cons (.for_ (.name 2) (.rng1 (.int 2)) (.cons (.set 3 (.bin .Add (.int 1) (.call 2 "_law_take" (.cons (.var 1) (.cons (.int 3) .nil))))) (.cons (.set 4 (.call 3 "_law_o_cuts" (.cons (.var 1) (.cons (.var 3) (.cons (.int 5) .nil))))) (.cons (.set 5 (.call 4 "_law_o_facts" (.cons (.var 1) (.cons (.var 3) (.cons (.var 4) (.cons (.int 4) .nil)))))) (.cons (.par 9 10 (.call 2 "_law_o_saying" (.cons (.var 1) (.cons (.var 4) .nil))) (.call 2 "_law_o_saying" (.cons (.var 1) (.cons (.var 4) .nil)))) (.cons (.set 6 (.sl (.bin .Mult (.var 5) (.int 11)) .no (.at_ (.call 2 "_law_take" (.cons (.var 1) (.cons (.int 12) .nil)))))) (.cons (.set 7 (.lst (.cons (.var 5) (.cons (.bin .Add (.var 6) (.tup (.cons (.tup (.cons (.var 10) (.cons (.bl true) .nil))) .nil))) (.cons (.bin .Add (.var 6) (.tup (.cons (.tup (.cons (.var 10) (.cons (.bl false) .nil))) .nil))) .nil))))) (.cons (.for_ (.name 8) (.items (.call 5 "_law_o_pairs" (.cons (.var 1) (.cons (.var 3) (.cons (.var 5) (.cons (.var 9) (.cons (.var 4) .nil))))))) (.cons (.set 11 (.bf .repr (.cons (.var 8) .nil))) (.cons (.for_ (.name 12) (.items (.var 7)) (.cons (.set 13 (.call 4 "is_pair" (.cons (.var 3) (.cons (.var 12) (.cons (.var 9) (.cons (.var 8) .nil)))))) (.cons (.ifs (.disj (.cons (.nt (.isi .bool (.var 13))) (.cons (.cmp .NotEq (.var 13) (.call 4 "_law_o_is_pair" (.cons (.var 3) (.cons (.var 12) (.cons (.var 9) (.cons (.var 8) .nil)))))) .nil))) (.cons (.ret (.bl false)) .nil) .nil) .nil))) (.cons (.ifs (.cmp .NotEq (.bf .repr (.cons (.var 8) .nil)) (.var 11)) (.cons (.ret (.bl false)) .nil) .nil) .nil)))) .nil)))))))) (.cons (.ret (.bl true)) .nil)))⟩
def isOf : PyData → List Int
  | .tuple xs => xs.map fun | .int i => i | _ => 0
  | _ => []
theorem isOf_row (is : List Int) : isOf (.tuple (is.map .int)) = is := by
  show (is.map PyData.int).map _ = is
  rw [List.map_map]
  exact List.map_id _
theorem row_is {w : Int} {x : PyData} (h : rowB w x = true) : x = .tuple ((isOf x).map .int) ∧ ((isOf x).length : Int) = w := by
  cases x with
  | tuple xs =>
    simp only [rowB, Bool.and_eq_true, decide_eq_true_eq, List.all_eq_true] at h
    obtain ⟨h1, h2⟩ := h
    refine ⟨?_, by simp [isOf, h1]⟩
    congr 1
    show xs = (xs.map _).map PyData.int
    rw [List.map_map]
    refine (List.map_id xs).symm.trans (List.map_congr_left fun x hx => ?_)
    obtain ⟨i, rfl⟩ := isW_t.mp (h2 x hx)
    rfl
  | _ => cases h
def pairB (w : Int) (fs : List Fa) (s : Sy) : PyData → Bool
  | .tuple [x, y] => (rowB w x && rowB w y) && ((agB fs (isOf x) && agB fs (isOf y)) && (s.tr (isOf x) && !s.tr (isOf y)))
  | _ => false
theorem all2 (a b : Bool) : (([a, b].all id)) = (a && b) := by cases a <;> cases b <;> rfl
structure HasPair (T : FTab) (X : Ss) : Prop where
  facts : HasFacts T
  need_saying : T.lookup ("need_saying" : Str) = some ir_need_saying
  few : HasFew T X
  row : HasRow T
  agd : HasAgreed T
  is_pair : T.lookup ("is_pair" : Str) = some ir_is_pair
structure HasOPair (T : FTab) : Prop where
  oag : HasOAgrees T
  o_is_pair : T.lookup ("_law_o_is_pair" : Str) = some ir_o_is_pair
section
variable {T : FTab} {X : Ss} (H : HasPair T X)
include H
theorem is_pair_ok (w : Nat) (fs : List Fa) (s : Sy) (x : PyData) (k : Nat) (st : Sto) (h1 : 1 ≤ w) (h2 : w ≤ 3) (hf : FaOk w fs) (hs : s.Ok w) (hc : (ucs (fs.map (·.1) ++ [s])).length ≤ 12) (hk : 16 ≤ k) :
    run T k "is_pair" [.d (.int w), .d (fsD fs), .d s.d, .d x] st = .ok (.d (.bool (pairB w fs s x))) st := by
  obtain ⟨k, rfl⟩ : ∃ j, k = j + 1 := ⟨k - 1, by omega⟩
  apply Wp.eq
  rw [run_at H.is_pair]
  unfold FnI.run ir_is_pair Mode.of
  rw [w_pure rfl]
  walk_at "wpl"
  rw [need_facts_ok H.facts w fs k [] (by omega) (by omega) hf (by omega)]
  walk_at "wpl"
  rw [need_saying_ok H.facts.say H.need_saying w s k [] (by omega) (by omega) hs (by omega)]
  walk_at "wpl"
  rw [sayings_ok H.few fs k [] (by omega)]
  walk_at "wpl"
  have e : (fs.map fun f => f.1.d) ++ [s.d] = (fs.map (·.1) ++ [s]).map Sy.d := by rw [List.map_append, List.map_map]; rfl
  have hl : (fs.map fun f => f.1.d).length ≤ 12 := by rw [List.length_map]; exact hf.few
  refine ⟨by omega, ?_⟩
  rw [e, need_few_ok H.few (fs.map (·.1) ++ [s]) 12 k [] (fun t ht => ?_) (fun t ht => ?_) (by omega) (by decide) (by omega)]
  rotate_left
  · rcases List.mem_append.mp ht with z | z
    · obtain ⟨f, h, rfl⟩ := List.mem_map.mp z
      exact (hf.ok f h).deep
    · rw [List.mem_singleton.mp z]; exact hs.deep
  · rcases List.mem_append.mp ht with z | z
    · obtain ⟨f, h, rfl⟩ := List.mem_map.mp z
      exact (hf.ok f h).few
    · rw [List.mem_singleton.mp z]; exact hs.few
  cases x with
  | tuple xs =>
    match xs with
    | [x, y] =>
      walk_at "wps"
      rw [row_any H.row w x k [] (by omega) (by omega) (by omega)]
      walk_at "wps"
      rw [row_any H.row w y k [] (by omega) (by omega) (by omega)]
      walk_at "wps"
      rw [show boolsOf [.bool (rowB w x), .bool (rowB w y)] = some [rowB w x, rowB w y] from rfl]
      walk_at "wps"
      rw [all2]
      cases hr : (rowB w x && rowB w y) with
      | false => simp [pairB, hr]
      | true =>
        obtain ⟨hx, hy⟩ := Bool.and_eq_true_iff.mp hr
        obtain ⟨ex, lx⟩ := row_is hx
        obtain ⟨ey, ly⟩ := row_is hy
        have ax : run T k "agreed" [.d (fsD fs), .d x] [] = .ok (.d (.bool (agB fs (isOf x)))) [] := by
          have := agreed_ok H.agd fs (isOf x) k [] (by rw [show (isOf x).length = w by omega]; exact hf.cols) (by omega)
          rwa [← ex] at this
        have ay : run T k "agreed" [.d (fsD fs), .d y] [] = .ok (.d (.bool (agB fs (isOf y)))) [] := by
          have := agreed_ok H.agd fs (isOf y) k [] (by rw [show (isOf y).length = w by omega]; exact hf.cols) (by omega)
          rwa [← ey] at this
        have tx : run T k "holds" [.d s.d, .d x] [] = .ok (.d (.bool (s.tr (isOf x)))) [] := by
          have := holds_ok H.agd.hold (isOf x) s k [] (by rw [show (isOf x).length = w by omega]; exact hs.cols) (by have := hs.deep; omega)
          rwa [← ex] at this
        have ty : run T k "holds" [.d s.d, .d y] [] = .ok (.d (.bool (s.tr (isOf y)))) [] := by
          have := holds_ok H.agd.hold (isOf y) s k [] (by rw [show (isOf y).length = w by omega]; exact hs.cols) (by have := hs.deep; omega)
          rwa [← ey] at this
        walk_at "wps"
        rw [ax]
        walk_at "wps"
        rw [ay]
        walk_at "wps"
        rw [show boolsOf [.bool (agB fs (isOf x)), .bool (agB fs (isOf y))] = some [agB fs (isOf x), agB fs (isOf y)] from rfl]
        walk_at "wps"
        rw [all2]
        cases ha : (agB fs (isOf x) && agB fs (isOf y)) with
        | false => simp [pairB, hr, ha]
        | true =>
          walk_at "wps"
          rw [tx]
          walk_at "wps"
          rw [ty]
          walk_at "wps"
          simp only [pairB, hr, ha, Bool.true_and]
          cases s.tr (isOf x) <;> cases s.tr (isOf y) <;> simp
    | [] => walk_at "wps"; simp [pairB]
    | [_] => walk_at "wps"; simp [pairB]
    | x1 :: x2 :: x3 :: r =>
      walk_at "wpl"
      rw [beq_eq_false_iff_ne.mpr (show ((r.length + 1 + 1 + 1 : Nat) : Int) ≠ 2 by omega)]
      walk_at "wpl"
      simp [pairB]
  | _ => walk_at "wpl"; simp [pairB]
end
end L2.Q

set_option maxHeartbeats 2000000
namespace L2.Q
open PySem PySem.Spec PyProof.Rows
local macro_rules | `(tactic| walk_at "wps") => `(tactic| simp (config := { failIfUnchanged := false, maxSteps := 10000000 }) only [w_var, w_int, w_str, w_bl, w_non, w_gint, w_gstr, w_bin, w_cmp, w_idx, w_tabGet, w_tabIx, w_chain, w_nt, w_neg, w_ife, w_conj1, w_conj, w_disj1, w_disj, wl_nil, wl_cons, w_tup, w_lst, w_new, w_call, w_bf, w_isi,
  w_frz, w_newL, w_uniq, w_usort, w_usortI, okB_f, okB_t, list1_l, w_litGet, is_bb, isnot_bb, w_bm, w_isx, w_isxB, w_fld, s_tryAs, t_nil, t_cons, t_set, t_doE, t_ifs, bm_c, bm_i, bm_s, isx_e, isx_n, isx_t, dat_n, isN_d, add_s, w_compN, w_catN,  w_ext, ext2, w_pop, wi_zip, wi_rngD, w_dct0, w_rev,  wo_no, wo_at, w_sl, w_app, wi_items, wi_rng1, wi_rng2, wi_enum, w_comp, cut1, wc_nil, wc_cons, wt_no, wt_at, b_nil, b_cons, s_set, s_asg, s_par, s_setIx, s_ret, s_retN, s_ifs, s_for, s_raise, s_doE, s_bk, s_ct, s_pass, w_body, start1, startN, start_0, retF_ret, retF_nx, wp_ok, wp_exc, wp_bind, ws_ok,
  nth, put, clear, wipe_0, wipe_c, onO_some, onO_none, onO_if, onO_map, onO_bind, onB_t, onB_f, onB_not, onB_b, onD_d, onF_nx, onF_ret, onF_bk, onF_ct, onI_i, items_l, items_t, deref_d, deref_r, drf_l, drf_f, bin2, setIx3_r, app2_r, frz1_r, onL_l, List.take_succ_cons, List.take_length, List.take_left, get_0, get_s, set_0, set_s, ix31, ix32, at0, at1, at2, at3, frz1_d, listOf_l, listOf_t, derefs_n, derefs_c, allD_n, allD_c,
  Option.map_some, Option.map_none, Option.bind_some, Option.bind_none, List.length_cons, List.length_nil, Nat.zero_add, Nat.reduceAdd, Int.cast_ofNat_Int, Int.natCast_zero, Int.natCast_one,
  add_i, sub_i, mul_i, div_i, mod_i, pow_i, add_t, add_l, lt_i, le_i, gt_i, ge_i, eq_i, ne_i, eq_s, ne_s, eq_b, is_n, isnot_n, isN_n, isN_i, idx_t, idx_l, sl_t, sl_l, tab_s, tab_g, len_t, len_l, min2_i, max2_i, min3_i, int_b, int_i, tuple_l, tuple_t, list_l, list_t, all_l, any_l, sum_l, max1_l, min1_l,
  asg_n, asg_t0, asg_t, asg_p0, asg_pn, asg_pt, isi_iI, isi_bI, isi_sI, isi_tI, isi_sS, isi_tT, Bool.not_true, Bool.not_false, decide_eq_true_eq, beq_iff_eq, if_true, if_false, ite_true, ite_false, true_and, and_true, Bool.false_eq_true, reduceIte, eq_self_iff_true, beq_self_eq_true, str_inj, String.reduceEq, Int.reduceBEq, Int.reduceEq, Nat.reduceEqDiff, not_true_eq_false, not_false_eq_true, Bool.true_and, Bool.and_true, Bool.false_and, Bool.and_false, Bool.or_false, Bool.false_or, Bool.true_or, Bool.or_true, false_and, and_false, decide_true, decide_false, zi_int_none, zi_int_bool, zi_int_int, zi_int_str, zi_int_list, zi_int_tuple, zi_int_dict, zi_bool_none, zi_bool_bool, zi_bool_int, zi_bool_str, zi_bool_list, zi_bool_tuple, zi_bool_dict, zi_str_none, zi_str_bool, zi_str_int, zi_str_str, zi_str_list, zi_str_tuple, zi_str_dict, zi_tuple_none, zi_tuple_bool, zi_tuple_int, zi_tuple_str, zi_tuple_list, zi_tuple_tuple, zi_tuple_dict, zi_list_none, zi_list_bool, zi_list_int, zi_list_str, zi_list_list, zi_list_tuple, zi_list_dict, zi_dict_none, zi_dict_bool, zi_dict_int, zi_dict_str, zi_dict_list, zi_dict_tuple, zi_dict_dict, eq_tt, ne_tt, eq_ll, ne_ll, get_cc, set_cc, lit_s, rev_t, rev_l, only_l, cat2_e, sizeLine_eq, is_t, is_s, is_l, is_b, List.isEmpty_cons, List.isEmpty_nil, Nat.reduceLeDiff, Int.reduceLE, Int.reduceLT, Int.reduceAdd, Int.reduceSub, Int.reduceNeg, Int.reduceToNat, Int.reduceMul, Nat.reduceLT, Option.getD_some, Option.getD_none, onD_d, Nat.zero_le])
local macro_rules | `(tactic| walk_at "wpl") => `(tactic| simp (config := { failIfUnchanged := false, maxSteps := 10000000 }) only [w_var, w_int, w_str, w_bl, w_non, w_gint, w_gstr, w_bin, w_cmp, w_idx, w_tabGet, w_tabIx, w_chain, w_nt, w_neg, w_ife, w_conj1, w_conj, w_disj1, w_disj, wl_nil, wl_cons, w_tup, w_lst, w_new, w_call, w_bf, w_isi,
  w_frz, w_newL, w_uniq, w_usort, w_usortI, okB_f, okB_t, list1_l, w_litGet, is_bb, isnot_bb, w_bm, w_isx, w_isxB, w_fld, s_tryAs, t_nil, t_cons, t_set, t_doE, t_ifs, bm_c, bm_i, bm_s, isx_e, isx_n, isx_t, dat_n, isN_d, add_s, w_compN, w_catN,  w_ext, ext2, w_pop, wi_zip, wi_rngD, w_dct0, w_rev,  wo_no, wo_at, w_sl, w_app, wi_items, wi_rng1, wi_rng2, wi_enum, w_comp, cut1, wt_no, wt_at, b_nil, b_cons, s_set, s_asg, s_par, s_setIx, s_ret, s_retN, s_ifs, s_for, s_raise, s_doE, s_bk, s_ct, s_pass, w_body, start1, startN, start_0, retF_ret, retF_nx, wp_ok, wp_exc, wp_bind, ws_ok,
  nth, put, clear, wipe_0, wipe_c, onO_some, onO_none, onO_if, onO_map, onO_bind, onB_t, onB_f, onB_not, onB_b, onD_d, onF_nx, onF_ret, onF_bk, onF_ct, onI_i, items_l, items_t, deref_d, deref_r, drf_l, drf_f, bin2, setIx3_r, app2_r, frz1_r, onL_l, List.take_succ_cons, List.take_length, List.take_left, get_0, get_s, set_0, set_s, ix31, ix32, at0, at1, at2, at3, frz1_d, listOf_l, listOf_t, derefs_n, derefs_c, allD_n, allD_c,
  Option.map_some, Option.map_none, Option.bind_some, Option.bind_none, List.length_cons, List.length_nil, Nat.zero_add, Nat.reduceAdd, Int.cast_ofNat_Int, Int.natCast_zero, Int.natCast_one,
  add_i, sub_i, mul_i, div_i, mod_i, pow_i, add_t, add_l, lt_i, le_i, gt_i, ge_i, eq_i, ne_i, eq_s, ne_s, eq_b, is_n, isnot_n, isN_n, isN_i, idx_t, idx_l, sl_t, sl_l, tab_s, tab_g, len_t, len_l, min2_i, max2_i, min3_i, int_b, int_i, tuple_l, tuple_t, list_l, list_t, all_l, any_l, sum_l, max1_l, min1_l,
  asg_n, asg_t0, asg_t, asg_p0, asg_pn, asg_pt, isi_iI, isi_bI, isi_sI, isi_tI, isi_sS, isi_tT, Bool.not_true, Bool.not_false, decide_eq_true_eq, beq_iff_eq, if_true, if_false, ite_true, ite_false, true_and, and_true, Bool.false_eq_true, reduceIte, eq_self_iff_true, beq_self_eq_true, str_inj, String.reduceEq, Int.reduceBEq, Int.reduceEq, Nat.reduceEqDiff, not_true_eq_false, not_false_eq_true, Bool.true_and, Bool.and_true, Bool.false_and, Bool.and_false, Bool.or_false, Bool.false_or, Bool.true_or, Bool.or_true, false_and, and_false, decide_true, decide_false, zi_int_none, zi_int_bool, zi_int_int, zi_int_str, zi_int_list, zi_int_tuple, zi_int_dict, zi_bool_none, zi_bool_bool, zi_bool_int, zi_bool_str, zi_bool_list, zi_bool_tuple, zi_bool_dict, zi_str_none, zi_str_bool, zi_str_int, zi_str_str, zi_str_list, zi_str_tuple, zi_str_dict, zi_tuple_none, zi_tuple_bool, zi_tuple_int, zi_tuple_str, zi_tuple_list, zi_tuple_tuple, zi_tuple_dict, zi_list_none, zi_list_bool, zi_list_int, zi_list_str, zi_list_list, zi_list_tuple, zi_list_dict, zi_dict_none, zi_dict_bool, zi_dict_int, zi_dict_str, zi_dict_list, zi_dict_tuple, zi_dict_dict, eq_tt, ne_tt, eq_ll, ne_ll, get_cc, set_cc, lit_s, rev_t, rev_l, only_l, cat2_e, sizeLine_eq, is_t, is_s, is_l, is_b, List.isEmpty_cons, List.isEmpty_nil, Nat.reduceLeDiff, Int.reduceLE, Int.reduceLT, Int.reduceAdd, Int.reduceSub, Int.reduceNeg, Int.reduceToNat, Int.reduceMul, Nat.reduceLT, Option.getD_some, Option.getD_none, onD_d, Nat.zero_le])
-- BODY
/-! k14: the law's own look at pairs; rows of all parts. -/
section
variable {T : FTab} (H : HasOPair T)
include H
theorem o_is_pair_ok (w : Nat) (fs : List Fa) (s : Sy) (x : PyData) (k : Nat) (st : Sto) (h1 : 1 ≤ w) (h2 : w ≤ 3) (hf : FaOk w fs) (hs : s.Ok w) (hk : 16 ≤ k) :
    run T k "_law_o_is_pair" [.d (.int w), .d (fsD fs), .d s.d, .d x] st = .ok (.d (.bool (pairB w fs s x))) st := by
  obtain ⟨k, rfl⟩ : ∃ j, k = j + 1 := ⟨k - 1, by omega⟩
  apply Wp.eq
  rw [run_at H.o_is_pair]
  unfold FnI.run ir_o_is_pair Mode.of
  rw [w_pure rfl]
  cases x with
  | tuple xs =>
    match xs with
    | [x, y] =>
      walk_at "wpl"
      refine for_all (fun z => rowB w z && agB fs (isOf z)) (fun ρ => ∃ u v, ρ = [some (.d (.int w)), some (.d (fsD fs)), some (.d s.d), some (.d (.tuple [x, y])), u, v]) ⟨_, _, rfl⟩ ?_ ?_ ?_
      · rintro z hz ρ ⟨u, v, rfl⟩
        cases z with
        | tuple zs =>
          walk_at "wpl"
          by_cases hl : (zs.length : Int) = w
          · rw [show (((zs.length : Nat) : Int) == w) = true from beq_iff_eq.mpr hl]
            walk_at "wpl"
            refine wc_inv (fun i ys st => ys = (zs.take i).filter (fun z => !isW z) ∧ st = []) ⟨rfl, rfl⟩ ?_ ?_
            · rintro i z ys st hz ⟨rfl, rfl⟩
              walk_at "wpl"
              have eb : (zs.take (i + 1)).filter (fun z => !isW z) = (zs.take i).filter (fun z => !isW z) ++ (if isW z = true then [] else [z]) := by
                rw [List.take_add_one, hz, List.filter_append]
                cases q : isW z <;> simp [q]
              have ei : isW z = (isiD .int z && !isiD .bool z) := rfl
              rw [ei] at eb
              cases q1 : isiD .bool z <;> cases q2 : isiD .int z <;> rw [q1, q2] at eb <;> simp at eb <;> simp [onB] <;> exact eb.symm
            · rintro ys st ⟨rfl, rfl⟩
              rw [List.take_length]
              walk_at "wpl"
              cases hb : (zs.filter fun z => !isW z).isEmpty with
              | false =>
                have nr : rowB w (.tuple zs) = false := by
                  cases e : rowB w (.tuple zs) with
                  | false => rfl
                  | true =>
                    simp only [rowB, Bool.and_eq_true, List.all_eq_true] at e
                    have : (zs.filter fun z => !isW z) = [] := List.filter_eq_nil_iff.mpr fun z hz => by rw [e.2 z hz]; simp
                    rw [this] at hb
                    cases hb
                walk_at "wpl"
                rw [nr]
                simp
              | true =>
                have yr : rowB w (.tuple zs) = true := by
                  have := List.filter_eq_nil_iff.mp (List.isEmpty_iff.mp hb)
                  simp only [rowB, Bool.and_eq_true, decide_eq_true_eq, List.all_eq_true]
                  exact ⟨hl, fun z hz => by have := this z hz; simpa using this⟩
                obtain ⟨ex, lx⟩ := row_is yr
                have ax : run T k "_law_o_agrees" [.d (fsD fs), .d (.tuple zs)] [] = .ok (.d (.bool (agB fs (isOf (.tuple zs))))) [] := by
                  have := o_agrees_ok H.oag fs (isOf (.tuple zs)) k [] (by rw [show (isOf (.tuple zs)).length = w by omega]; exact hf.cols) (by omega)
                  rwa [← ex] at this
                walk_at "wpl"
                rw [ax]
                walk_at "wpl"
                rw [yr]
                cases agB fs (isOf (.tuple zs)) with
                | true => walk_at "wpl"; exact ⟨_, _, rfl⟩
                | false => walk_at "wpl"
          · rw [show (((zs.length : Nat) : Int) == w) = false from beq_eq_false_iff_ne.mpr hl]
            walk_at "wpl"
            rw [rowB_len hl]
            simp
        | _ => walk_at "wpl"; simp [rowB]
      · rintro e ρ ⟨u, v, rfl⟩
        simp only [List.all_cons, List.all_nil, Bool.and_true, Bool.and_eq_true] at e
        obtain ⟨⟨hx, ax⟩, hy, ay⟩ := e
        obtain ⟨ex, lx⟩ := row_is hx
        obtain ⟨ey, ly⟩ := row_is hy
        have tx : run T k "_law_o_truth" [.d s.d, .d x] [] = .ok (.d (.bool (s.tr (isOf x)))) [] := by
          have := o_truth_ok H.oag.tr (isOf x) s k [] (by rw [show (isOf x).length = w by omega]; exact hs.cols) (by have := hs.deep; omega)
          rwa [← ex] at this
        have ty : run T k "_law_o_truth" [.d s.d, .d y] [] = .ok (.d (.bool (s.tr (isOf y)))) [] := by
          have := o_truth_ok H.oag.tr (isOf y) s k [] (by rw [show (isOf y).length = w by omega]; exact hs.cols) (by have := hs.deep; omega)
          rwa [← ey] at this
        walk_at "wpl"
        rw [tx]
        walk_at "wpl"
        rw [ty]
        walk_at "wpl"
        simp only [pairB, hx, hy, ax, ay, Bool.true_and]
        cases s.tr (isOf x) <;> cases s.tr (isOf y) <;> simp
      · rintro e ρ
        walk_at "wpl"
        simp only [List.all_cons, List.all_nil, Bool.and_true] at e
        simp only [pairB]
        cases q1 : rowB w x <;> cases q2 : rowB w y <;> cases q3 : agB fs (isOf x) <;> cases q4 : agB fs (isOf y) <;> rw [q1, q2, q3, q4] at e <;> first | rfl | cases e
    | [] => walk_at "wpl"; simp [pairB]
    | [_] => walk_at "wpl"; simp [pairB]
    | x1 :: x2 :: x3 :: r =>
      walk_at "wpl"
      rw [beq_eq_false_iff_ne.mpr (show ((r.length + 1 + 1 + 1 : Nat) : Int) ≠ 2 by omega)]
      walk_at "wpl"
      simp [pairB]
  | _ => walk_at "wpl"; simp [pairB]
end
/-! a row of each part between the cuts -/
def rwD (r : List Int) : PyData := .tuple (r.map .int)
def colB (ks : List (Int × Int)) (c : Nat) : List Int := sortI ((ks.filter fun k => k.1 == (c : Int)).map (·.2))
def ends (ks : List (Int × Int)) (c : Nat) : List Int := match colB ks c with
  | [] => [0]
  | b :: bs => (b - 1) :: b :: bs
def crossE (rows : List (List Int)) (es : List Int) : List (List Int) := rows.flatMap fun r => es.map fun e => r ++ [e]
def spreadR (ks : List (Int × Int)) : Nat → List (List Int)
  | 0 => [[]]
  | c + 1 => crossE (spreadR ks c) (ends ks c)
theorem colB_len (ks : List (Int × Int)) (c : Nat) : (colB ks c).length ≤ ks.length := by
  unfold colB
  refine Nat.le_trans (sortI_len _) ?_
  rw [List.length_map]
  exact List.length_filter_le _ _
theorem ends_len (ks : List (Int × Int)) (c : Nat) : 1 ≤ (ends ks c).length ∧ (ends ks c).length ≤ ks.length + 1 := by
  have := colB_len ks c
  unfold ends
  cases e : colB ks c with
  | nil => exact ⟨Nat.le_refl _, by show 1 ≤ _; omega⟩
  | cons b bs =>
    rw [e] at this
    simp only [List.length_cons] at *
    omega
theorem cross_len : ∀ (rows : List (List Int)) (es : List Int), (crossE rows es).length = rows.length * es.length
  | [], es => by simp [crossE]
  | r :: rs, es => by
    have e : crossE (r :: rs) es = (es.map fun e => r ++ [e]) ++ crossE rs es := rfl
    rw [e, List.length_append, List.length_map, cross_len rs es, List.length_cons, Nat.add_mul, Nat.one_mul, Nat.add_comm]
theorem spread_len (ks : List (Int × Int)) : ∀ c, 1 ≤ (spreadR ks c).length ∧ (spreadR ks c).length ≤ (ks.length + 1) ^ c
  | 0 => ⟨Nat.le_refl _, Nat.le_refl _⟩
  | c + 1 => by
    obtain ⟨h1, h2⟩ := spread_len ks c
    obtain ⟨h3, h4⟩ := ends_len ks c
    show 1 ≤ (crossE _ _).length ∧ (crossE _ _).length ≤ _
    rw [cross_len]
    refine ⟨Nat.mul_pos h1 h3, ?_⟩
    rw [Nat.pow_succ]
    exact Nat.mul_le_mul h2 h4
theorem spread_mem (ks : List (Int × Int)) : ∀ c, ∀ r ∈ spreadR ks c, r.length = c ∧ ∀ i (h : i < r.length), r[i] ∈ ends ks i
  | 0, r, hr => by
    rw [List.mem_singleton.mp hr]
    exact ⟨rfl, fun i h => by simp at h⟩
  | c + 1, r, hr => by
    obtain ⟨r0, h0, hr⟩ := List.mem_flatMap.mp hr
    obtain ⟨e, he, rfl⟩ := List.mem_map.mp hr
    obtain ⟨h1, h2⟩ := spread_mem ks c r0 h0
    refine ⟨by simp [h1], fun i h => ?_⟩
    by_cases q : i < r0.length
    · rw [List.getElem_append_left q]; exact h2 i q
    · have : i = c := by simp at h; omega
      subst this
      rw [List.getElem_append_right (by omega)]
      simpa [h1] using he
theorem ends_bnd {ks : List (Int × Int)} {c : Nat} (h : ∀ k ∈ ks, Bnd k.2) : ∀ e ∈ ends ks c, e.natAbs ≤ 10 ^ 39 + 1 := by
  have hb : ∀ b ∈ colB ks c, b.natAbs ≤ 10 ^ 39 := fun b hb => by
    obtain ⟨k, hk, rfl⟩ := List.mem_map.mp (mem_sortI.mp hb)
    exact h k (List.mem_filter.mp hk).1
  intro e he
  unfold ends at he
  cases q : colB ks c with
  | nil =>
    rw [q] at he
    rw [List.mem_singleton.mp he]
    decide
  | cons b bs =>
    rw [q] at he hb
    rcases List.mem_cons.mp he with rfl | he
    · have := hb b List.mem_cons_self
      omega
    · have := hb e he
      omega
theorem more_ok {C : Cs} {es : List Int} {rs : List (List Int)} {x0 x1 x2 x3 x4 x7 x8 x9 x10 : Option Vv} {P : Fl → Env → Sto → Prop} {E : XE'} (hz : rs.length * es.length ≤ 1000000) (hr : ∀ r ∈ rs, r.length ≤ 3)
    (f : ∀ x7 x8, P .nx [x0, x1, x2, x3, x4, some (.d (.list (es.map .int))), some (.d (.list ((crossE rs es).map rwD))), x7, x8, x9, x10] []) :
    Ws (forL (.name 7) (denB C in14) (rs.map rwD) [x0, x1, x2, x3, x4, some (.d (.list (es.map .int))), some (.d (.list [])), x7, x8, x9, x10] []) P E := by
  refine for_inv (fun i ρ st => ∃ x7 x8, ρ = [x0, x1, x2, x3, x4, some (.d (.list (es.map .int))), some (.d (.list ((crossE (rs.take i) es).map rwD))), x7, x8, x9, x10] ∧ st = []) ⟨_, _, rfl, rfl⟩ ?_ ?_
  · rintro i x ρ st hx ⟨x7, x8, rfl, rfl⟩
    rw [List.getElem?_map] at hx
    obtain ⟨r, hp, rfl⟩ := Option.map_eq_some_iff.mp hx
    have hl := hr r (List.mem_of_getElem? hp)
    have hi : i < rs.length := (List.getElem?_eq_some_iff.mp hp).1
    unfold in14 rwD
    walk_at "wpl"
    refine wc_map (f := fun x => match x with | .int e => rwD (r ++ [e]) | _ => .none) (fun x hx => ?_) ?_
    · obtain ⟨e, he, rfl⟩ := List.mem_map.mp hx
      walk_at "wpl"
      refine ⟨by rw [List.length_map]; omega, ?_⟩
      simp [rwD]
    · walk_at "wpl"
      have h1 : (crossE (rs.take i) es).length + es.length ≤ 1000000 := by
        rw [cross_len, List.length_take]
        have : (min i rs.length + 1) * es.length ≤ rs.length * es.length := Nat.mul_le_mul_right _ (by omega)
        rw [Nat.add_mul] at this
        omega
      refine ⟨by simp only [List.length_map]; omega, some (.d (.tuple (r.map .int))), x8, ?_⟩
      have e : crossE (rs.take (i + 1)) es = crossE (rs.take i) es ++ es.map fun e => r ++ [e] := by
        unfold crossE
        rw [List.take_add_one, hp, List.flatMap_append]
        simp
      rw [e, List.map_append, List.map_map, List.map_map]
      rfl
  · rintro ρ st ⟨x7, x8, rfl, rfl⟩
    rw [List.length_map, List.take_length]
    exact f _ _
structure HasSpread (T : FTab) : Prop where
  o_spread : T.lookup ("_law_o_spread" : Str) = some ir_o_spread
section
variable {T : FTab} (H : HasSpread T)
include H
theorem o_spread_ok (w : Nat) (ks : List (Int × Int)) (k : Nat) (st : Sto) (hw : w ≤ 3) (hz : ks.length ≤ 62) (hk : 1 ≤ k) : run T k "_law_o_spread" [.d (.int w), .d (.list (ks.map ctD))] st = .ok (.d (.list ((spreadR ks w).map rwD))) st := by
  obtain ⟨k, rfl⟩ : ∃ j, k = j + 1 := ⟨k - 1, by omega⟩
  apply Wp.eq
  rw [run_at H.o_spread]
  unfold FnI.run ir_o_spread Mode.of
  rw [w_pure rfl]
  walk_at "wpl"
  refine ⟨⟨by omega, by omega⟩, ?_⟩
  rw [Int.toNat_natCast]
  refine for_inv (fun j ρ st => ∃ x3 x4 x5 x6 x7 x8 x9 x10 : Option Vv, ρ = [some (.d (.int w)), some (.d (.list (ks.map ctD))), some (.d (.list ((spreadR ks j).map rwD))), x3, x4, x5, x6, x7, x8, x9, x10] ∧ st = []) ⟨none, none, none, none, none, none, none, none, rfl, rfl⟩ ?_ ?_
  · rintro j x ρ st hx ⟨x3, x4, x5, x6, x7, x8, x9, x10, rfl, rfl⟩
    have hj : j < w := by
      have := (List.getElem?_eq_some_iff.mp hx).1
      rw [upFrom_len] at this
      exact this
    rw [upFrom_get _ _ _ hj, Int.zero_add] at hx
    cases hx
    walk_at "wpl"
    refine wc_inv (fun i ys st => ys = (((ks.take i).filter fun k => k.1 == (j : Int)).map (·.2)).map .int ∧ st = []) ⟨rfl, rfl⟩ ?_ ?_
    · rintro i x ys st hx ⟨rfl, rfl⟩
      rw [List.getElem?_map] at hx
      obtain ⟨⟨c, b⟩, hc, rfl⟩ := Option.map_eq_some_iff.mp hx
      unfold ctD
      walk_at "wpl"
      rw [List.take_add_one, hc]
      by_cases q : c = j
      · rw [if_pos q]
        simp [q]
      · rw [if_neg q]
        have : (c == (j : Int)) = false := beq_eq_false_iff_ne.mpr q
        simp [this]
    · rintro ys st ⟨rfl, rfl⟩
      rw [List.length_map, List.take_length]
      walk_at "wpl"
      rw [intsOf_map]
      walk_at "wpl"
      have fl := List.length_filter_le (fun k : Int × Int => k.1 == (j : Int)) ks
      refine ⟨by rw [List.length_map]; omega, ?_⟩
      have ec : sortI ((ks.filter fun k => k.1 == (j : Int)).map (·.2)) = colB ks j := rfl
      rw [ec]
      have cl := colB_len ks j
      have el := ends_len ks j
      have sl := spread_len ks j
      have s2 : (ks.length + 1) ^ j ≤ 63 ^ 3 := Nat.le_trans (Nat.pow_le_pow_left (by omega) j) (Nat.pow_le_pow_right (by decide) (by omega))
      have s3 : (63 : Nat) ^ 3 = 250047 := by decide
      have hr : ∀ r ∈ spreadR ks j, r.length ≤ 3 := fun r h => by have := (spread_mem ks j r h).1; omega
      have hz : (spreadR ks j).length * (ends ks j).length ≤ 1000000 := by
        have h0 : j = 0 ∨ j = 1 ∨ j = 2 := by omega
        have h1 : (spreadR ks j).length ≤ 63 ^ 2 := Nat.le_trans sl.2 (Nat.le_trans (Nat.pow_le_pow_left (by omega) j) (Nat.pow_le_pow_right (by decide) (by omega)))
        exact Nat.le_trans (Nat.mul_le_mul h1 (show (ends ks j).length ≤ 63 by omega)) (by decide)
      have ee : ends ks j = (match colB ks j with | [] => [0] | b :: bs => (b - 1) :: b :: bs) := rfl
      cases hb : colB ks j with
      | nil =>
        rw [hb] at ee
        have ee : ends ks j = [0] := ee
        rw [List.map_nil]
        walk_at "wpl"
        refine more_ok (es := [0]) (by rw [← ee]; exact hz) hr fun x7 x8 => ?_
        walk_at "wpl"
        rw [← ee]
        exact ⟨_, _, _, _, _, _, _, _, rfl⟩
      | cons b bs =>
        rw [hb] at ee cl
        have ee : ends ks j = (b - 1) :: b :: bs := ee
        rw [List.map_cons]
        walk_at "wpl"
        refine ⟨by simp only [List.length_cons, List.length_map] at cl ⊢; omega, ?_⟩
        refine more_ok (es := (b - 1) :: b :: bs) (by rw [← ee]; exact hz) hr fun x7 x8 => ?_
        walk_at "wpl"
        rw [← ee]
        exact ⟨_, _, _, _, _, _, _, _, rfl⟩
  · rintro ρ st ⟨x3, x4, x5, x6, x7, x8, x9, x10, rfl, rfl⟩
    rw [upFrom_len]
    walk_at "wpl"
end
end L2.Q

set_option maxHeartbeats 2000000
namespace L2.Q
open PySem PySem.Spec PyProof.Rows
local macro_rules | `(tactic| walk_at "wps") => `(tactic| simp (config := { failIfUnchanged := false, maxSteps := 10000000 }) only [w_var, w_int, w_str, w_bl, w_non, w_gint, w_gstr, w_bin, w_cmp, w_idx, w_tabGet, w_tabIx, w_chain, w_nt, w_neg, w_ife, w_conj1, w_conj, w_disj1, w_disj, wl_nil, wl_cons, w_tup, w_lst, w_new, w_call, w_bf, w_isi,
  w_frz, w_newL, w_uniq, w_usort, w_usortI, okB_f, okB_t, list1_l, w_litGet, is_bb, isnot_bb, w_bm, w_isx, w_isxB, w_fld, s_tryAs, t_nil, t_cons, t_set, t_doE, t_ifs, bm_c, bm_i, bm_s, isx_e, isx_n, isx_t, dat_n, isN_d, add_s, w_compN, w_catN,  w_ext, ext2, w_pop, wi_zip, wi_rngD, w_dct0, w_rev,  wo_no, wo_at, w_sl, w_app, wi_items, wi_rng1, wi_rng2, wi_enum, w_comp, cut1, wc_nil, wc_cons, wt_no, wt_at, b_nil, b_cons, s_set, s_asg, s_par, s_setIx, s_ret, s_retN, s_ifs, s_for, s_raise, s_doE, s_bk, s_ct, s_pass, w_body, start1, startN, start_0, retF_ret, retF_nx, wp_ok, wp_exc, wp_bind, ws_ok,
  nth, put, clear, wipe_0, wipe_c, onO_some, onO_none, onO_if, onO_map, onO_bind, onB_t, onB_f, onB_not, onB_b, onD_d, onF_nx, onF_ret, onF_bk, onF_ct, onI_i, items_l, items_t, deref_d, deref_r, drf_l, drf_f, bin2, setIx3_r, app2_r, frz1_r, onL_l, List.take_succ_cons, List.take_length, List.take_left, get_0, get_s, set_0, set_s, ix31, ix32, at0, at1, at2, at3, frz1_d, listOf_l, listOf_t, derefs_n, derefs_c, allD_n, allD_c,
  Option.map_some, Option.map_none, Option.bind_some, Option.bind_none, List.length_cons, List.length_nil, Nat.zero_add, Nat.reduceAdd, Int.cast_ofNat_Int, Int.natCast_zero, Int.natCast_one,
  add_i, sub_i, mul_i, div_i, mod_i, pow_i, add_t, add_l, lt_i, le_i, gt_i, ge_i, eq_i, ne_i, eq_s, ne_s, eq_b, is_n, isnot_n, isN_n, isN_i, idx_t, idx_l, sl_t, sl_l, tab_s, tab_g, len_t, len_l, min2_i, max2_i, min3_i, int_b, int_i, tuple_l, tuple_t, list_l, list_t, all_l, any_l, sum_l, max1_l, min1_l,
  asg_n, asg_t0, asg_t, asg_p0, asg_pn, asg_pt, isi_iI, isi_bI, isi_sI, isi_tI, isi_sS, isi_tT, Bool.not_true, Bool.not_false, decide_eq_true_eq, beq_iff_eq, if_true, if_false, ite_true, ite_false, true_and, and_true, Bool.false_eq_true, reduceIte, eq_self_iff_true, beq_self_eq_true, str_inj, String.reduceEq, Int.reduceBEq, Int.reduceEq, Nat.reduceEqDiff, not_true_eq_false, not_false_eq_true, Bool.true_and, Bool.and_true, Bool.false_and, Bool.and_false, Bool.or_false, Bool.false_or, Bool.true_or, Bool.or_true, false_and, and_false, decide_true, decide_false, zi_int_none, zi_int_bool, zi_int_int, zi_int_str, zi_int_list, zi_int_tuple, zi_int_dict, zi_bool_none, zi_bool_bool, zi_bool_int, zi_bool_str, zi_bool_list, zi_bool_tuple, zi_bool_dict, zi_str_none, zi_str_bool, zi_str_int, zi_str_str, zi_str_list, zi_str_tuple, zi_str_dict, zi_tuple_none, zi_tuple_bool, zi_tuple_int, zi_tuple_str, zi_tuple_list, zi_tuple_tuple, zi_tuple_dict, zi_list_none, zi_list_bool, zi_list_int, zi_list_str, zi_list_list, zi_list_tuple, zi_list_dict, zi_dict_none, zi_dict_bool, zi_dict_int, zi_dict_str, zi_dict_list, zi_dict_tuple, zi_dict_dict, eq_tt, ne_tt, eq_ll, ne_ll, get_cc, set_cc, lit_s, rev_t, rev_l, only_l, cat2_e, sizeLine_eq, is_t, is_s, is_l, is_b, List.isEmpty_cons, List.isEmpty_nil, Nat.reduceLeDiff, Int.reduceLE, Int.reduceLT, Int.reduceAdd, Int.reduceSub, Int.reduceNeg, Int.reduceToNat, Int.reduceMul, Nat.reduceLT, Option.getD_some, Option.getD_none, onD_d, Nat.zero_le])
local macro_rules | `(tactic| walk_at "wpl") => `(tactic| simp (config := { failIfUnchanged := false, maxSteps := 10000000 }) only [w_var, w_int, w_str, w_bl, w_non, w_gint, w_gstr, w_bin, w_cmp, w_idx, w_tabGet, w_tabIx, w_chain, w_nt, w_neg, w_ife, w_conj1, w_conj, w_disj1, w_disj, wl_nil, wl_cons, w_tup, w_lst, w_new, w_call, w_bf, w_isi,
  w_frz, w_newL, w_uniq, w_usort, w_usortI, okB_f, okB_t, list1_l, w_litGet, is_bb, isnot_bb, w_bm, w_isx, w_isxB, w_fld, s_tryAs, t_nil, t_cons, t_set, t_doE, t_ifs, bm_c, bm_i, bm_s, isx_e, isx_n, isx_t, dat_n, isN_d, add_s, w_compN, w_catN,  w_ext, ext2, w_pop, wi_zip, wi_rngD, w_dct0, w_rev,  wo_no, wo_at, w_sl, w_app, wi_items, wi_rng1, wi_rng2, wi_enum, w_comp, cut1, wt_no, wt_at, b_nil, b_cons, s_set, s_asg, s_par, s_setIx, s_ret, s_retN, s_ifs, s_for, s_raise, s_doE, s_bk, s_ct, s_pass, w_body, start1, startN, start_0, retF_ret, retF_nx, wp_ok, wp_exc, wp_bind, ws_ok,
  nth, put, clear, wipe_0, wipe_c, onO_some, onO_none, onO_if, onO_map, onO_bind, onB_t, onB_f, onB_not, onB_b, onD_d, onF_nx, onF_ret, onF_bk, onF_ct, onI_i, items_l, items_t, deref_d, deref_r, drf_l, drf_f, bin2, setIx3_r, app2_r, frz1_r, onL_l, List.take_succ_cons, List.take_length, List.take_left, get_0, get_s, set_0, set_s, ix31, ix32, at0, at1, at2, at3, frz1_d, listOf_l, listOf_t, derefs_n, derefs_c, allD_n, allD_c,
  Option.map_some, Option.map_none, Option.bind_some, Option.bind_none, List.length_cons, List.length_nil, Nat.zero_add, Nat.reduceAdd, Int.cast_ofNat_Int, Int.natCast_zero, Int.natCast_one,
  add_i, sub_i, mul_i, div_i, mod_i, pow_i, add_t, add_l, lt_i, le_i, gt_i, ge_i, eq_i, ne_i, eq_s, ne_s, eq_b, is_n, isnot_n, isN_n, isN_i, idx_t, idx_l, sl_t, sl_l, tab_s, tab_g, len_t, len_l, min2_i, max2_i, min3_i, int_b, int_i, tuple_l, tuple_t, list_l, list_t, all_l, any_l, sum_l, max1_l, min1_l,
  asg_n, asg_t0, asg_t, asg_p0, asg_pn, asg_pt, isi_iI, isi_bI, isi_sI, isi_tI, isi_sS, isi_tT, Bool.not_true, Bool.not_false, decide_eq_true_eq, beq_iff_eq, if_true, if_false, ite_true, ite_false, true_and, and_true, Bool.false_eq_true, reduceIte, eq_self_iff_true, beq_self_eq_true, str_inj, String.reduceEq, Int.reduceBEq, Int.reduceEq, Nat.reduceEqDiff, not_true_eq_false, not_false_eq_true, Bool.true_and, Bool.and_true, Bool.false_and, Bool.and_false, Bool.or_false, Bool.false_or, Bool.true_or, Bool.or_true, false_and, and_false, decide_true, decide_false, zi_int_none, zi_int_bool, zi_int_int, zi_int_str, zi_int_list, zi_int_tuple, zi_int_dict, zi_bool_none, zi_bool_bool, zi_bool_int, zi_bool_str, zi_bool_list, zi_bool_tuple, zi_bool_dict, zi_str_none, zi_str_bool, zi_str_int, zi_str_str, zi_str_list, zi_str_tuple, zi_str_dict, zi_tuple_none, zi_tuple_bool, zi_tuple_int, zi_tuple_str, zi_tuple_list, zi_tuple_tuple, zi_tuple_dict, zi_list_none, zi_list_bool, zi_list_int, zi_list_str, zi_list_list, zi_list_tuple, zi_list_dict, zi_dict_none, zi_dict_bool, zi_dict_int, zi_dict_str, zi_dict_list, zi_dict_tuple, zi_dict_dict, eq_tt, ne_tt, eq_ll, ne_ll, get_cc, set_cc, lit_s, rev_t, rev_l, only_l, cat2_e, sizeLine_eq, is_t, is_s, is_l, is_b, List.isEmpty_cons, List.isEmpty_nil, Nat.reduceLeDiff, Int.reduceLE, Int.reduceLT, Int.reduceAdd, Int.reduceSub, Int.reduceNeg, Int.reduceToNat, Int.reduceMul, Nat.reduceLT, Option.getD_some, Option.getD_none, onD_d, Nat.zero_le])
-- BODY
/-! k14: pairs drawn, the law. -/
structure HasPairs (T : FTab) : Prop where
  sp : HasSpread T
  oag : HasOAgrees T
  row : HasORow T
  norow : HasNoRow T
  o_pairs : T.lookup ("_law_o_pairs" : Str) = some ir_o_pairs
theorem atI_last {α : Type} {xs : List α} (h : 0 < xs.length) : ∃ x ∈ xs, atI xs (-1) = some x := by
  refine ⟨xs[xs.length - 1], List.getElem_mem _, ?_⟩
  unfold atI ixN
  rw [if_neg (by decide), if_pos (by omega)]
  show xs[((-1 : Int) + xs.length).toNat]? = _
  rw [show ((-1 : Int) + xs.length).toNat = xs.length - 1 by omega]
  exact List.getElem?_eq_getElem _
/-- a row that is drawn -/
def RwOk (w : Nat) (r : List Int) : Prop := r.length = w ∧ ∀ i ∈ r, i.natAbs ≤ 10 ^ 39 + 1
theorem rw_fit {w : Nat} {r : List Int} (hw : w ≤ 3) (h : RwOk w r) : Fit (rwD r) 6000 1 := by
  have := h.1
  exact (Fit.tup (ints_fit fun i hi => Nat.le_trans (h.2 i hi) (by omega))).mono (by omega) (Nat.le_refl _)
theorem spread_rw {ks : List (Int × Int)} {w : Nat} (h : ∀ k ∈ ks, Bnd k.2) : ∀ r ∈ spreadR ks w, RwOk w r := fun r hr => by
  obtain ⟨h1, h2⟩ := spread_mem ks w r hr
  refine ⟨h1, fun i hi => ?_⟩
  obtain ⟨j, hj, rfl⟩ := List.mem_iff_getElem.mp hi
  exact ends_bnd h _ (h2 j hj)
theorem take_same {o : Ob} {cs : List Int} {a v a' v' : Int} {r : Sto} : (sto o cs a' v' r).take (sto o cs a v r).length = sto o cs a' v' r := take_sto0
theorem cutTo60 {α : Type} {xs : List α} : cutD xs none (some 60) = xs.take 60 := cutTo (by decide)
section
variable {T : FTab} (H : HasPairs T) {o : Ob} {cs : List Int} {k : Nat} {a v : Int} {r : Sto} {P : Vv → Sto → Prop} {E : XE'}
include H
theorem pairs_w {w : Nat} {fs : List Fa} {s : Sy} {ks : List (Int × Int)} (hw : 1 ≤ w) (hw3 : w ≤ 3) (hk : 20 ≤ k) (h0 : 0 ≤ a) (h1 : a + 250 < 1000000000) (hn : 0 < ks.length) (hz : ks.length ≤ 5) (hc : ∀ c ∈ ks, (0 ≤ c.1 ∧ c.1 < w) ∧ Bnd c.2) (hf : FaCols w fs) (hs : s.Ok w)
    (f : ∀ a1 v1 (ds : List PyData), a ≤ a1 → a1 ≤ a + 250 → (∀ d ∈ ds, Fit d 60000 15) → P (.d (.list ds)) (sto o cs a1 v1 r)) : Wp (run T k "_law_o_pairs" [.ref 1, .d (.int w), .d (fsD fs), .d s.d, .d (.list (ks.map ctD))] (sto o cs a v r)) P E := by
  obtain ⟨k, rfl⟩ : ∃ j, k = j + 1 := ⟨k - 1, by omega⟩
  have D := H.row.draw
  have hd := hs.deep
  rw [run_at H.o_pairs]
  unfold FnI.run ir_o_pairs Mode.of
  rw [w_scope]
  walk_at "wpl"
  rw [o_spread_ok H.sp w ks k _ hw3 (by omega) (by omega)]
  have rok : ∀ r ∈ spreadR ks w, RwOk w r := spread_rw fun k hk => (hc k hk).2
  have rl := spread_len ks w
  have rl2 : (spreadR ks w).length ≤ 216 := by
    have h0 : w = 1 ∨ w = 2 ∨ w = 3 := by omega
    refine Nat.le_trans rl.2 (Nat.le_trans (Nat.pow_le_pow_left (show ks.length + 1 ≤ 6 by omega) w) ?_)
    rcases h0 with rfl | rfl | rfl <;> decide
  generalize spreadR ks w = rows at rok rl rl2 ⊢
  walk_at "wpl"
  -- those that agree
  refine wc_inv (fun i ys st => ys = ((rows.take i).filter fun r => agB fs r).map rwD ∧ st = sto o cs a v r) ⟨rfl, rfl⟩ ?_ ?_
  · rintro i x ys st hx ⟨rfl, rfl⟩
    rw [List.getElem?_map] at hx
    obtain ⟨q, hq, rfl⟩ := Option.map_eq_some_iff.mp hx
    have qr := rok q (List.mem_of_getElem? hq)
    walk_at "wpl"
    rw [show rwD q = .tuple (q.map .int) from rfl, o_agrees_ok H.oag fs q k _ (by rw [qr.1]; exact hf) (by omega)]
    walk_at "wpl"
    rw [List.take_add_one, hq]
    cases e : agB fs q <;> simp [e, rwD]
  · rintro ys st ⟨rfl, rfl⟩
    rw [show (rows.map rwD).length = rows.length from List.length_map .., List.take_length]
    walk_at "wpl"
    have gl := List.length_filter_le (fun r => agB fs r) rows
    refine ⟨by simp only [List.length_map]; omega, ?_⟩
    rw [← List.map_append, cutTo60, ← List.map_take]
    have sok : ∀ r ∈ ((rows.filter fun r => agB fs r) ++ rows).take 60, RwOk w r := fun r hr => by
      rcases List.mem_append.mp (List.mem_of_mem_take hr) with z | z
      · exact rok r (List.mem_filter.mp z).1
      · exact rok r z
    have sl : (((rows.filter fun r => agB fs r) ++ rows).take 60).length ≤ 60 := by rw [List.length_take]; omega
    generalize ((rows.filter fun r => agB fs r) ++ rows).take 60 = some_ at sok sl ⊢
    have tr : ∀ (q : List Int) (st : Sto), RwOk w q → run T k "_law_o_truth" [.d s.d, .d (rwD q)] st = .ok (.d (.bool (s.tr q))) st := fun q st h => o_truth_ok H.oag.tr q s k st (by rw [h.1]; exact hs.cols) (by omega)
    refine wc_inv (fun i ys st => ys = ((some_.take i).filter fun r => s.tr r).map rwD ∧ st = sto o cs a v r) ⟨rfl, rfl⟩ ?_ ?_
    · rintro i x ys st hx ⟨rfl, rfl⟩
      rw [List.getElem?_map] at hx
      obtain ⟨q, hq, rfl⟩ := Option.map_eq_some_iff.mp hx
      walk_at "wpl"
      rw [tr q _ (sok q (List.mem_of_getElem? hq))]
      walk_at "wpl"
      rw [List.take_add_one, hq]
      cases e : s.tr q <;> simp [e]
    · rintro ys st ⟨rfl, rfl⟩
      rw [show (some_.map rwD).length = some_.length from List.length_map .., List.take_length]
      walk_at "wpl"
      obtain ⟨r0, hr0, er0⟩ : ∃ r0 ∈ rows, atI (rows.map rwD) 0 = some (rwD r0) := by
        cases hrs : rows with
        | nil => rw [hrs] at rl; simp at rl
        | cons q qs => exact ⟨q, List.mem_cons_self, at0⟩
      rw [er0]
      walk_at "wpl"
      have ol := List.length_filter_le (fun r => s.tr r) some_
      refine ⟨by simp only [List.length_map]; omega, ?_⟩
      refine wc_inv (fun i ys st => ys = ((some_.take i).filter fun r => !s.tr r).map rwD ∧ st = sto o cs a v r) ⟨rfl, rfl⟩ ?_ ?_
      · rintro i x ys st hx ⟨rfl, rfl⟩
        rw [List.getElem?_map] at hx
        obtain ⟨q, hq, rfl⟩ := Option.map_eq_some_iff.mp hx
        walk_at "wpl"
        rw [tr q _ (sok q (List.mem_of_getElem? hq))]
        walk_at "wpl"
        rw [List.take_add_one, hq]
        cases e : s.tr q <;> simp [e]
      · rintro ys st ⟨rfl, rfl⟩
        rw [show (some_.map rwD).length = some_.length from List.length_map .., List.take_length]
        walk_at "wpl"
        obtain ⟨x1, hx1, er1⟩ := atI_last (xs := rows.map rwD) (by rw [List.length_map]; omega)
        obtain ⟨r1, hr1, rfl⟩ := List.mem_map.mp hx1
        rw [er1]
        walk_at "wpl"
        have tl := List.length_filter_le (fun r => !s.tr r) some_
        refine ⟨by simp only [List.length_map]; omega, ?_⟩
        obtain ⟨ones, e1, o1, o2, o3⟩ : ∃ ones : List (List Int), (some_.filter fun r => s.tr r).map rwD ++ [rwD r0] = ones.map rwD ∧ 0 < ones.length ∧ ones.length ≤ 61 ∧ ∀ q ∈ ones, RwOk w q := ⟨(some_.filter fun r => s.tr r) ++ [r0], by simp, by simp, by simp; omega, fun q hq => by
          rcases List.mem_append.mp hq with z | z
          · exact sok q (List.mem_filter.mp z).1
          · rw [List.mem_singleton.mp z]; exact rok r0 hr0⟩
        obtain ⟨oths, e2, p1, p2, p3⟩ : ∃ oths : List (List Int), (some_.filter fun r => !s.tr r).map rwD ++ [rwD r1] = oths.map rwD ∧ 0 < oths.length ∧ oths.length ≤ 61 ∧ ∀ q ∈ oths, RwOk w q := ⟨(some_.filter fun r => !s.tr r) ++ [r1], by simp, by simp, by simp; omega, fun q hq => by
          rcases List.mem_append.mp hq with z | z
          · exact sok q (List.mem_filter.mp z).1
          · rw [List.mem_singleton.mp z]; exact rok r1 hr1⟩
        rw [e1, e2]
        have pick : ∀ (qs : List (List Int)) (i : Int), (∀ q ∈ qs, RwOk w q) → 0 ≤ i → i < qs.length → ∃ q, RwOk w q ∧ atI (qs.map rwD) i = some (rwD q) := fun qs i h i0 i1 => by
          obtain ⟨x, e, e'⟩ := atI_nat (xs := qs.map rwD) i0 (by rw [List.length_map]; exact i1)
          rw [List.getElem?_map] at e'
          obtain ⟨q, hq, rfl⟩ := Option.map_eq_some_iff.mp e'
          exact ⟨q, h q (List.mem_of_getElem? hq), e⟩
        refine for_inv (fun i ρ st => ∃ (x11 x12 x13 x14 x15 : Option Vv) (ds : List PyData) (a2 v2 : Int), ρ = [some (.ref 1), some (.d (.int w)), some (.d (fsD fs)), some (.d s.d), some (.d (.list (ks.map ctD))), some (.d (.list (rows.map rwD))), some (.d (.list ((rows.filter fun r => agB fs r).map rwD))), some (.d (.list (some_.map rwD))), some (.d (.list (ones.map rwD))), some (.d (.list (oths.map rwD))), some (.d (.list ds)), x11, x12, x13, x14, x15] ∧ st = sto o cs a2 v2 r ∧ a ≤ a2 ∧ a2 ≤ a + 70 * i ∧ ds.length ≤ 20 * i ∧ ∀ d ∈ ds, Fit d 60000 15) ⟨_, _, _, _, _, [], a, v, rfl, rfl, by omega, by omega, by decide, fun d h => (nomatch h)⟩ ?_ ?_
        · rintro i x ρ st hx ⟨x11, x12, x13, x14, x15, ds, a2, v2, rfl, rfl, g1, g2, g3, g4⟩
          have hi : i < 3 := by
            have := (List.getElem?_eq_some_iff.mp hx).1
            rw [upFrom_len] at this
            exact this
          walk_at "wpl"
          have lo : (ones.map rwD).length = ones.length := List.length_map ..
          have lp : (oths.map rwD).length = oths.length := List.length_map ..
          refine take_w D.pen (by omega) (by omega) (by omega) (by rw [lo]; omega) (by rw [lo]; omega) fun a3 v3 j h2 h3 j0 j1 => ?_
          rw [lo] at j1
          obtain ⟨one, one1, eo⟩ := pick ones j o3 j0 j1
          walk_at "wpl"
          rw [eo]
          walk_at "wpl"
          refine take_w D.pen (by omega) (by omega) (by omega) (by rw [lp]; omega) (by rw [lp]; omega) fun a4 v4 m h4 h5 m0 m1 => ?_
          rw [lp] at m1
          obtain ⟨oth, oth1, ep⟩ := pick oths m p3 m0 m1
          walk_at "wpl"
          rw [ep]
          walk_at "wpl"
          have f1 := rw_fit hw3 one1
          have f2 := rw_fit hw3 oth1
          rw [show rwD one = .tuple (one.map .int) from rfl] at f1 ⊢
          refine no_row_w H.norow one1.1 one1.2 hw hw3 (by omega) (by omega) (by omega) fun a5 v5 odd h6 h7 hr f3 => ?_
          walk_at "wpl"
          refine ⟨by omega, ?_⟩
          refine row_w H.row hw hw3 (by omega) (by omega) (by omega) hn (by omega) hc fun a6 v6 is h8 h9 is1 is2 => ?_
          walk_at "wpl"
          refine row_w H.row hw hw3 (by omega) (by omega) (by omega) hn (by omega) hc fun a7 v7 js h10 h11 js1 js2 => ?_
          walk_at "wpl"
          refine ⟨by simp only [List.length_append, List.length_cons, List.length_nil]; omega, _, _, _, _, _, _, a7, v7, rfl, rfl, by omega, by omega, by simp only [List.length_append, List.length_cons, List.length_nil]; omega, ?_⟩
          have f4 : Fit (.tuple (is.map .int)) 6000 1 := rw_fit (r := is) hw3 ⟨is1, is2⟩
          have f5 : Fit (.tuple (js.map .int)) 6000 1 := rw_fit (r := js) hw3 ⟨js1, js2⟩
          unfold rwD at f2 ⊢
          generalize one.map PyData.int = y1 at f1 ⊢
          generalize oth.map PyData.int = y2 at f2 ⊢
          generalize is.map PyData.int = y3 at f4 ⊢
          generalize js.map PyData.int = y4 at f5 ⊢
          obtain ⟨t1, u1, z1⟩ := f1
          obtain ⟨t2, u2, z2⟩ := f2
          obtain ⟨t3, u3, z3⟩ := f3
          obtain ⟨t4, u4, z4⟩ := f4
          obtain ⟨t5, u5, z5⟩ := f5
          simp only [plainD, wid, PyData.depth] at t1 t2 t4 t5 u1 u2 u4 u5 z1 z2 z4 z5
          simp only [List.forall_mem_append, List.forall_mem_cons]
          refine ⟨⟨g4, ?_, ?_, ?_, ?_, ?_, ?_, ?_, fun x h => (nomatch h)⟩, ?_, ?_, ?_, ?_, fun x h => (nomatch h)⟩ <;> constructor <;> (try simp only [plainD, plainAll, wid, widAll, PyData.depth, PyData.depthAll, t1, t2, t3, t4, t5, Bool.and_true]) <;> omega
        · rintro ρ st ⟨x11, x12, x13, x14, x15, ds, a2, v2, rfl, rfl, g1, g2, g3, g4⟩
          rw [upFrom_len] at g2 g3
          walk_at "wpl"
          obtain ⟨one, one1, eo⟩ := pick ones 0 o3 (by decide) (by omega)
          obtain ⟨oth, oth1, ep⟩ := pick oths 0 p3 (by decide) (by omega)
          rw [eo, ep]
          walk_at "wpl"
          refine ⟨by omega, ?_⟩
          rw [take_same]
          refine f a2 v2 _ g1 (by omega) ?_
          have f1 := rw_fit hw3 one1
          have f2 := rw_fit hw3 oth1
          unfold rwD at f1 f2 ⊢
          generalize one.map PyData.int = y1 at f1 ⊢
          generalize oth.map PyData.int = y2 at f2 ⊢
          obtain ⟨t1, u1, z1⟩ := f1
          obtain ⟨t2, u2, z2⟩ := f2
          simp only [plainD, wid, PyData.depth] at t1 t2 u1 u2 z1 z2
          simp only [List.forall_mem_append, List.forall_mem_cons]
          refine ⟨g4, ?_, fit_none.mono (by decide) (Nat.zero_le _), (Fit.tup (fit_nil (n := 0) (k := 0))).mono (by decide) (by decide), fit_int2 (by decide) |>.mono (by decide) (Nat.le_refl _), (fit_dct0 (k := 14)).mono (by decide) (Nat.le_refl _), fit_bool.mono (by decide) (Nat.zero_le _), fit_s (by decide +kernel), fun x h => (nomatch h)⟩
          constructor <;> simp only [plainD, plainAll, wid, widAll, PyData.depth, PyData.depthAll, t1, t2, Bool.and_true] <;> omega
end
end L2.Q

set_option maxHeartbeats 2000000
namespace L2.Q
open PySem PySem.Spec PyProof.Rows
local macro_rules | `(tactic| walk_at "wps") => `(tactic| simp (config := { failIfUnchanged := false, maxSteps := 10000000 }) only [w_var, w_int, w_str, w_bl, w_non, w_gint, w_gstr, w_bin, w_cmp, w_idx, w_tabGet, w_tabIx, w_chain, w_nt, w_neg, w_ife, w_conj1, w_conj, w_disj1, w_disj, wl_nil, wl_cons, w_tup, w_lst, w_new, w_call, w_bf, w_isi,
  w_frz, w_newL, w_uniq, w_usort, w_usortI, okB_f, okB_t, list1_l, w_litGet, is_bb, isnot_bb, w_bm, w_isx, w_isxB, w_fld, s_tryAs, t_nil, t_cons, t_set, t_doE, t_ifs, bm_c, bm_i, bm_s, isx_e, isx_n, isx_t, dat_n, isN_d, add_s, w_compN, w_catN,  w_ext, ext2, w_pop, wi_zip, wi_rngD, w_dct0, w_rev,  wo_no, wo_at, w_sl, w_app, wi_items, wi_rng1, wi_rng2, wi_enum, w_comp, cut1, wc_nil, wc_cons, wt_no, wt_at, b_nil, b_cons, s_set, s_asg, s_par, s_setIx, s_ret, s_retN, s_ifs, s_for, s_raise, s_doE, s_bk, s_ct, s_pass, w_body, start1, startN, start_0, retF_ret, retF_nx, wp_ok, wp_exc, wp_bind, ws_ok,
  nth, put, clear, wipe_0, wipe_c, onO_some, onO_none, onO_if, onO_map, onO_bind, onB_t, onB_f, onB_not, onB_b, onD_d, onF_nx, onF_ret, onF_bk, onF_ct, onI_i, items_l, items_t, deref_d, deref_r, drf_l, drf_f, bin2, setIx3_r, app2_r, frz1_r, onL_l, List.take_succ_cons, List.take_length, List.take_left, get_0, get_s, set_0, set_s, ix31, ix32, at0, at1, at2, at3, frz1_d, listOf_l, listOf_t, derefs_n, derefs_c, allD_n, allD_c,
  Option.map_some, Option.map_none, Option.bind_some, Option.bind_none, List.length_cons, List.length_nil, Nat.zero_add, Nat.reduceAdd, Int.cast_ofNat_Int, Int.natCast_zero, Int.natCast_one,
  add_i, sub_i, mul_i, div_i, mod_i, pow_i, add_t, add_l, lt_i, le_i, gt_i, ge_i, eq_i, ne_i, eq_s, ne_s, eq_b, is_n, isnot_n, isN_n, isN_i, idx_t, idx_l, sl_t, sl_l, tab_s, tab_g, len_t, len_l, min2_i, max2_i, min3_i, int_b, int_i, tuple_l, tuple_t, list_l, list_t, all_l, any_l, sum_l, max1_l, min1_l,
  asg_n, asg_t0, asg_t, asg_p0, asg_pn, asg_pt, isi_iI, isi_bI, isi_sI, isi_tI, isi_sS, isi_tT, Bool.not_true, Bool.not_false, decide_eq_true_eq, beq_iff_eq, if_true, if_false, ite_true, ite_false, true_and, and_true, Bool.false_eq_true, reduceIte, eq_self_iff_true, beq_self_eq_true, str_inj, String.reduceEq, Int.reduceBEq, Int.reduceEq, Nat.reduceEqDiff, not_true_eq_false, not_false_eq_true, Bool.true_and, Bool.and_true, Bool.false_and, Bool.and_false, Bool.or_false, Bool.false_or, Bool.true_or, Bool.or_true, false_and, and_false, decide_true, decide_false, zi_int_none, zi_int_bool, zi_int_int, zi_int_str, zi_int_list, zi_int_tuple, zi_int_dict, zi_bool_none, zi_bool_bool, zi_bool_int, zi_bool_str, zi_bool_list, zi_bool_tuple, zi_bool_dict, zi_str_none, zi_str_bool, zi_str_int, zi_str_str, zi_str_list, zi_str_tuple, zi_str_dict, zi_tuple_none, zi_tuple_bool, zi_tuple_int, zi_tuple_str, zi_tuple_list, zi_tuple_tuple, zi_tuple_dict, zi_list_none, zi_list_bool, zi_list_int, zi_list_str, zi_list_list, zi_list_tuple, zi_list_dict, zi_dict_none, zi_dict_bool, zi_dict_int, zi_dict_str, zi_dict_list, zi_dict_tuple, zi_dict_dict, eq_tt, ne_tt, eq_ll, ne_ll, get_cc, set_cc, lit_s, rev_t, rev_l, only_l, cat2_e, sizeLine_eq, is_t, is_s, is_l, is_b, List.isEmpty_cons, List.isEmpty_nil, Nat.reduceLeDiff, Int.reduceLE, Int.reduceLT, Int.reduceAdd, Int.reduceSub, Int.reduceNeg, Int.reduceToNat, Int.reduceMul, Nat.reduceLT, Option.getD_some, Option.getD_none, onD_d, Nat.zero_le])
local macro_rules | `(tactic| walk_at "wpl") => `(tactic| simp (config := { failIfUnchanged := false, maxSteps := 10000000 }) only [w_var, w_int, w_str, w_bl, w_non, w_gint, w_gstr, w_bin, w_cmp, w_idx, w_tabGet, w_tabIx, w_chain, w_nt, w_neg, w_ife, w_conj1, w_conj, w_disj1, w_disj, wl_nil, wl_cons, w_tup, w_lst, w_new, w_call, w_bf, w_isi,
  w_frz, w_newL, w_uniq, w_usort, w_usortI, okB_f, okB_t, list1_l, w_litGet, is_bb, isnot_bb, w_bm, w_isx, w_isxB, w_fld, s_tryAs, t_nil, t_cons, t_set, t_doE, t_ifs, bm_c, bm_i, bm_s, isx_e, isx_n, isx_t, dat_n, isN_d, add_s, w_compN, w_catN,  w_ext, ext2, w_pop, wi_zip, wi_rngD, w_dct0, w_rev,  wo_no, wo_at, w_sl, w_app, wi_items, wi_rng1, wi_rng2, wi_enum, w_comp, cut1, wt_no, wt_at, b_nil, b_cons, s_set, s_asg, s_par, s_setIx, s_ret, s_retN, s_ifs, s_for, s_raise, s_doE, s_bk, s_ct, s_pass, w_body, start1, startN, start_0, retF_ret, retF_nx, wp_ok, wp_exc, wp_bind, ws_ok,
  nth, put, clear, wipe_0, wipe_c, onO_some, onO_none, onO_if, onO_map, onO_bind, onB_t, onB_f, onB_not, onB_b, onD_d, onF_nx, onF_ret, onF_bk, onF_ct, onI_i, items_l, items_t, deref_d, deref_r, drf_l, drf_f, bin2, setIx3_r, app2_r, frz1_r, onL_l, List.take_succ_cons, List.take_length, List.take_left, get_0, get_s, set_0, set_s, ix31, ix32, at0, at1, at2, at3, frz1_d, listOf_l, listOf_t, derefs_n, derefs_c, allD_n, allD_c,
  Option.map_some, Option.map_none, Option.bind_some, Option.bind_none, List.length_cons, List.length_nil, Nat.zero_add, Nat.reduceAdd, Int.cast_ofNat_Int, Int.natCast_zero, Int.natCast_one,
  add_i, sub_i, mul_i, div_i, mod_i, pow_i, add_t, add_l, lt_i, le_i, gt_i, ge_i, eq_i, ne_i, eq_s, ne_s, eq_b, is_n, isnot_n, isN_n, isN_i, idx_t, idx_l, sl_t, sl_l, tab_s, tab_g, len_t, len_l, min2_i, max2_i, min3_i, int_b, int_i, tuple_l, tuple_t, list_l, list_t, all_l, any_l, sum_l, max1_l, min1_l,
  asg_n, asg_t0, asg_t, asg_p0, asg_pn, asg_pt, isi_iI, isi_bI, isi_sI, isi_tI, isi_sS, isi_tT, Bool.not_true, Bool.not_false, decide_eq_true_eq, beq_iff_eq, if_true, if_false, ite_true, ite_false, true_and, and_true, Bool.false_eq_true, reduceIte, eq_self_iff_true, beq_self_eq_true, str_inj, String.reduceEq, Int.reduceBEq, Int.reduceEq, Nat.reduceEqDiff, not_true_eq_false, not_false_eq_true, Bool.true_and, Bool.and_true, Bool.false_and, Bool.and_false, Bool.or_false, Bool.false_or, Bool.true_or, Bool.or_true, false_and, and_false, decide_true, decide_false, zi_int_none, zi_int_bool, zi_int_int, zi_int_str, zi_int_list, zi_int_tuple, zi_int_dict, zi_bool_none, zi_bool_bool, zi_bool_int, zi_bool_str, zi_bool_list, zi_bool_tuple, zi_bool_dict, zi_str_none, zi_str_bool, zi_str_int, zi_str_str, zi_str_list, zi_str_tuple, zi_str_dict, zi_tuple_none, zi_tuple_bool, zi_tuple_int, zi_tuple_str, zi_tuple_list, zi_tuple_tuple, zi_tuple_dict, zi_list_none, zi_list_bool, zi_list_int, zi_list_str, zi_list_list, zi_list_tuple, zi_list_dict, zi_dict_none, zi_dict_bool, zi_dict_int, zi_dict_str, zi_dict_list, zi_dict_tuple, zi_dict_dict, eq_tt, ne_tt, eq_ll, ne_ll, get_cc, set_cc, lit_s, rev_t, rev_l, only_l, cat2_e, sizeLine_eq, is_t, is_s, is_l, is_b, List.isEmpty_cons, List.isEmpty_nil, Nat.reduceLeDiff, Int.reduceLE, Int.reduceLT, Int.reduceAdd, Int.reduceSub, Int.reduceNeg, Int.reduceToNat, Int.reduceMul, Nat.reduceLT, Option.getD_some, Option.getD_none, onD_d, Nat.zero_le])
-- BODY
/-! k14: the law. -/
structure SyIn (ks : List (Int × Int)) (s : Sy) : Prop where
  all : s.all fun c b => (c, b) ∈ ks
  deep : s.depth ≤ 8
  few : s.parts ≤ 15
theorem SyIn.ok {ks : List (Int × Int)} {s : Sy} {w : Int} (h : SyIn ks s) (hc : ∀ c ∈ ks, 0 ≤ c.1 ∧ c.1 < w) : s.Ok w := ⟨Sy.all_imp (fun c b q => hc (c, b) q) s h.all, h.deep, h.few⟩
theorem SyIn.cuts {ks : List (Int × Int)} {s : Sy} (h : SyIn ks s) : ∀ c ∈ s.us, c ∈ ks := fun c hc => Sy.us_all s h.all c hc
theorem fas_ok {ks : List (Int × Int)} {w : Int} {fs : List Fa} (hl : fs.length ≤ 12) (h : ∀ f ∈ fs, SyIn ks f.1) (hc : ∀ c ∈ ks, 0 ≤ c.1 ∧ c.1 < w) : FaOk w fs := ⟨hl, fun f hf => (h f hf).ok hc⟩
structure Has14 (T : FTab) (X : Ss) : Prop where
  law : T.lookup ("law" : Str) = some ir_law14
  open_ : T.lookup ("_law_open" : Str) = some ir_open
  draw : HasDraw T
  ofacts : HasOFacts T
  pair : HasPair T X
  opair : HasOPair T
  pairs : HasPairs T
theorem mul_t11 {xs : List PyData} (h : xs.length ≤ 12) : ∃ ys, opBin .Mult (.tuple xs) (.int 11) = some (.tuple ys) ∧ ys.length ≤ 1000 ∧ ∀ y ∈ ys, y ∈ xs := by
  cases xs with
  | nil => exact ⟨[], by kernel_rfl, by decide, fun y h => (nomatch h)⟩
  | cons x xs =>
    refine ⟨(List.replicate 11 (x :: xs)).flatten, ?_, ?_, fun y hy => ?_⟩
    · show (if _ then _ else _) = _
      rw [if_pos ⟨List.cons_ne_nil _ _, by decide, by decide, by omega⟩]
      rfl
    · have e : (List.replicate 11 (x :: xs)).flatten.length = 11 * (x :: xs).length := by simp [List.length_flatten]; omega
      rw [e]; omega
    · obtain ⟨l, hl, hy⟩ := List.mem_flatten.mp hy
      rw [(List.mem_replicate.mp hl).2] at hy
      exact hy
theorem fas_of {fs : List Fa} {ys : List PyData} (h : ∀ y ∈ ys, y ∈ fs.map faD) : ∃ gs : List Fa, ys = gs.map faD ∧ ∀ g ∈ gs, g ∈ fs := by
  induction ys with
  | nil => exact ⟨[], rfl, fun g h => (nomatch h)⟩
  | cons y ys ih =>
    obtain ⟨gs, rfl, h2⟩ := ih fun z hz => h z (List.mem_cons_of_mem _ hz)
    obtain ⟨g, hg, rfl⟩ := List.mem_map.mp (h y List.mem_cons_self)
    exact ⟨g :: gs, rfl, fun x hx => (List.mem_cons.mp hx).elim (fun e => e ▸ hg) (h2 x)⟩
section
variable {T : FTab} {X : Ss} (H : Has14 T X)
include H
theorem law14 (ns : List Int) (hl : ns.length ≤ 63) : ∃ st, run T 60 "law" [.d (.list (ns.map .int))] [] = .ok (.d (.bool true)) st := by
  refine ⟨[], ?_⟩
  apply Wp.eq
  have D := H.draw
  rw [show (60 : Nat) = 59 + 1 from rfl, run_at H.law]
  unfold FnI.run ir_law14 Mode.of
  rw [w_pure rfl]
  walk_at "wpl"
  obtain ⟨cs, ec⟩ := open_ok (T := T) (k := 58) H.open_ ns hl
  rw [show (59 : Nat) = 58 + 1 from rfl, ec]
  walk_at "wpl"
  refine for_inv (fun i ρ st => ∃ (x2 x3 x4 x5 x6 x7 x8 x9 x10 x11 x12 x13 : Option Vv) (a v : Int), ρ = [some (.d (.list (ns.map .int))), some (.ref 1), x2, x3, x4, x5, x6, x7, x8, x9, x10, x11, x12, x13] ∧ st = sto (.frz (cs.map .int)) cs a v [] ∧ 0 ≤ a ∧ a ≤ 2000 * i) ⟨none, none, none, none, none, none, none, none, none, none, none, none, 0, 0, rfl, rfl, by decide, by decide⟩ ?_ ?_
  · rintro i x ρ st hx ⟨x2, x3, x4, x5, x6, x7, x8, x9, x10, x11, x12, x13, a, v, rfl, rfl, a0, a1⟩
    have hi : i < 2 := by
      have := (List.getElem?_eq_some_iff.mp hx).1
      rw [upFrom_len] at this
      exact this
    walk_at "wpl"
    refine take_w D.pen (by decide) a0 (by omega) (by decide) (by decide) fun a2 v2 w h2 h3 w0 w1 => ?_
    walk_at "wpl"
    obtain ⟨n, hn⟩ : ∃ n : Nat, (1 + w) = n := ⟨(1 + w).toNat, by omega⟩
    rw [hn]
    refine cuts_w D.pen (by decide) (by omega) (by omega) (by omega) (by omega) (by decide) (by decide) fun a3 v3 ks h4 h5 k0 k1 k2 => ?_
    have k3 : ∀ c ∈ ks, 0 ≤ c.1 ∧ c.1 < (n : Int) := fun c h => (k2 c h).1
    walk_at "wpl"
    refine facts_w H.ofacts (m := 4) (by omega) (by omega) (by decide) (by omega) (by omega) (by decide) k0 (by omega) k2 fun a4 v4 fs h6 h7 fl fp => ?_
    have fi : ∀ f ∈ fs, SyIn ks f.1 := fun f hf => ⟨(fp f hf).1, (fp f hf).2.1, (fp f hf).2.2⟩
    walk_at "wpl"
    refine saying_w D (fun c b => (c, b) ∈ ks) (fun c hc => hc) k0 (by omega) (by decide) (by omega) (by omega) fun a5 v5 s h8 h9 s1 s2 s3 => ?_
    have si : SyIn ks s := ⟨s1, s2, s3⟩
    walk_at "wpl"
    refine saying_w D (fun c b => (c, b) ∈ ks) (fun c hc => hc) k0 (by omega) (by decide) (by omega) (by omega) fun a6 v6 t h10 h11 t1 t2 t3 => ?_
    have ti : SyIn ks t := ⟨t1, t2, t3⟩
    unfold fsD
    walk_at "wpl"
    obtain ⟨ys, ey, yl, ym⟩ := mul_t11 (xs := fs.map faD) (by rw [List.length_map]; omega)
    rw [ey]
    walk_at "wpl"
    refine take_w D.pen (by decide) (by omega) (by omega) (by decide) (by decide) fun a7 v7 m h12 h13 m0 m1 => ?_
    walk_at "wpl"
    obtain ⟨gs, rfl, gm⟩ := fas_of ym
    rw [cutTo m0, ← List.map_take]
    have gl : (gs.take m.toNat).length ≤ 11 := by rw [List.length_take]; omega
    have gi : ∀ g ∈ gs.take m.toNat, SyIn ks g.1 := fun g hg => fi g (gm g (List.mem_of_mem_take hg))
    generalize gs.take m.toNat = hs at gl gi ⊢
    refine ⟨by rw [List.length_map]; omega, by rw [List.length_map]; omega, ?_⟩
    have fok := fas_ok (fs := fs) (by omega) fi k3
    refine pairs_w H.pairs (fs := fs) (by omega) (by omega) (by decide) (by omega) (by omega) k0 (by omega) k2 fok.cols (si.ok k3) fun a8 v8 ds h14 h15 hd => ?_
    walk_at "wpl"
    have lots : ∀ z ∈ [PyData.tuple (fs.map faD), .tuple (hs.map faD ++ [.tuple [t.d, .bool true]]), .tuple (hs.map faD ++ [.tuple [t.d, .bool false]])], ∃ gs : List Fa, z = .tuple (gs.map faD) ∧ gs.length ≤ 12 ∧ ∀ g ∈ gs, SyIn ks g.1 := fun z hz => by
      have more : ∀ b : Bool, ∀ g ∈ hs ++ [(t, b)], SyIn ks g.1 := fun b g hg => by
        rcases List.mem_append.mp hg with z | z
        · exact gi g z
        · rw [List.mem_singleton.mp z]; exact ti
      simp only [List.mem_cons, List.not_mem_nil, or_false] at hz
      rcases hz with rfl | rfl | rfl
      · exact ⟨fs, rfl, by omega, fi⟩
      · exact ⟨hs ++ [(t, true)], by rw [List.map_append]; rfl, by rw [List.length_append]; show _ + 1 ≤ _; omega, more true⟩
      · exact ⟨hs ++ [(t, false)], by rw [List.map_append]; rfl, by rw [List.length_append]; show _ + 1 ≤ _; omega, more false⟩
    generalize [PyData.tuple (fs.map faD), .tuple (hs.map faD ++ [.tuple [t.d, .bool true]]), .tuple (hs.map faD ++ [.tuple [t.d, .bool false]])] = zs at lots ⊢
    refine for_inv (fun j ρ st => ∃ (x6 x8 x11 x12 x13 : Option Vv), ρ = [some (.d (.list (ns.map .int))), some (.ref 1), some (.d x), some (.d (.int n)), some (.d (.list (ks.map ctD))), some (.d (.tuple (fs.map faD))), x6, some (.d (.list zs)), x8, some (.d s.d), some (.d t.d), x11, x12, x13] ∧ st = sto (.frz (cs.map .int)) cs a8 v8 []) ⟨_, _, _, _, _, rfl, rfl⟩ ?_ ?_
    · rintro j y ρ st hy ⟨x6, x8, x11, x12, x13, rfl, rfl⟩
      have fy := hd y (List.mem_of_getElem? hy)
      have er := fy.repr (by decide) (by decide)
      walk_at "wpl"
      rw [er]
      walk_at "wpl"
      refine for_inv (fun j ρ st => ∃ (x12 x13 : Option Vv), ρ = [some (.d (.list (ns.map .int))), some (.ref 1), some (.d x), some (.d (.int n)), some (.d (.list (ks.map ctD))), some (.d (.tuple (fs.map faD))), x6, some (.d (.list zs)), some (.d y), some (.d s.d), some (.d t.d), some (.d (.str y.shown)), x12, x13] ∧ st = sto (.frz (cs.map .int)) cs a8 v8 []) ⟨_, _, rfl, rfl⟩ ?_ ?_
      · rintro j z ρ st hz ⟨x12, x13, rfl, rfl⟩
        obtain ⟨gs, rfl, gl, gi⟩ := lots z (List.mem_of_getElem? hz)
        have go := fas_ok gl gi k3
        have so := si.ok k3
        have few : (ucs (gs.map (·.1) ++ [s])).length ≤ 12 := Nat.le_trans (ucs_few (ks := ks) fun q hq c hc => by
          rcases List.mem_append.mp hq with z | z
          · obtain ⟨f, hf, rfl⟩ := List.mem_map.mp z
            exact (gi f hf).cuts c hc
          · rw [List.mem_singleton.mp z] at hc; exact si.cuts c hc) (by omega)
        walk_at "wpl"
        rw [show PyData.tuple (gs.map faD) = fsD gs from rfl, is_pair_ok H.pair n gs s y 59 _ (by omega) (by omega) go so few (by decide)]
        walk_at "wpl"
        rw [o_is_pair_ok H.opair n gs s y 59 _ (by omega) (by omega) go so (by decide)]
        walk_at "wpl"
        rw [ne_bs]
        walk_at "wpl"
        exact ⟨_, _, rfl⟩
      · rintro ρ st ⟨x12, x13, rfl, rfl⟩
        walk_at "wpl"
        rw [er]
        walk_at "wpl"
        exact ⟨_, _, _, _, _, rfl⟩
    · rintro ρ st ⟨x6, x8, x11, x12, x13, rfl, rfl⟩
      walk_at "wpl"
      exact ⟨_, _, _, _, _, _, _, _, _, _, _, _, a8, v8, rfl, rfl, by omega, by omega⟩
  · rintro ρ st ⟨x2, x3, x4, x5, x6, x7, x8, x9, x10, x11, x12, x13, a, v, rfl, rfl, a0, a1⟩
    walk_at "wpl"
end
end L2.Q

set_option maxHeartbeats 0
namespace L2.Q.k14
open PySem PySem.Spec PyProof.Rows L2 L2.Q
abbrev XX : Ss := .cons .dead .nil
theorem has_w : HasW T := ⟨by kernel_rfl, by kernel_rfl⟩
theorem has_say : HasSay T := ⟨has_w, by kernel_rfl, by kernel_rfl, by kernel_rfl, by kernel_rfl⟩
theorem has_draw : HasDraw T := ⟨⟨by kernel_rfl, by kernel_rfl, by kernel_rfl, by kernel_rfl⟩, by kernel_rfl, by kernel_rfl, by kernel_rfl⟩
theorem has_row : HasRow T := ⟨has_say, by kernel_rfl⟩
theorem has_hold : HasHold T := ⟨by kernel_rfl⟩
theorem has : Has14 T XX := by
  have ot : HasOTruth T := ⟨by kernel_rfl⟩
  have oag : HasOAgrees T := ⟨ot, by kernel_rfl⟩
  have orow : HasORow T := ⟨has_draw, by kernel_rfl⟩
  have few : HasFew T XX := ⟨⟨⟨by kernel_rfl⟩, by kernel_rfl⟩, by kernel_rfl, by kernel_rfl⟩
  have facts : HasFacts T := ⟨has_say, by kernel_rfl, by kernel_rfl, by kernel_rfl⟩
  exact ⟨by kernel_rfl, by kernel_rfl, has_draw, ⟨ot, orow, by kernel_rfl⟩, ⟨facts, by kernel_rfl, few, has_row, ⟨has_hold, by kernel_rfl⟩, by kernel_rfl⟩, ⟨oag, by kernel_rfl⟩, ⟨⟨by kernel_rfl⟩, oag, orow, ⟨has_draw, by kernel_rfl⟩, by kernel_rfl⟩⟩
end L2.Q.k14
theorem PySem.Challenge.cw_openfew_k14_pairs_known_holds : PySem.Challenge.rw_openfew_k14_pairs_known.Holds :=
  L2.Q.k14.holds_of fun ns h => L2.Q.law14 L2.Q.k14.has ns h
