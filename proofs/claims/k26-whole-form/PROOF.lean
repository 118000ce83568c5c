import PyProof.Rows.All
import Wide.All
import OpenK.AllK
import Wide.FinOn
import HandS.ForMost
import HandS.ForExc
import HandS.IsInst
import HandS.Evl
import HandS.Wide
import HandS.WideBits
import HandS.Gcd
import HandS.Conv
import HandS.Style
import HandS.NoneIn
import KE.KMathG
import Flt.RightSqrt
import PySem.Challenge.RW_typedcurve_k26_whole_places_have_one_for
import HandS.Iter
import HandS.Zip
import HandS.Walk
import KE.GoesMore
import HandS.ExcInit
import HandS.ClsMeth
import HandS.ExcField
import HandS.ExcValue
import HandS.ExcIs
import PyProof.ReprRoads
import PyProof.ReprLen
import KE.KExcIs
import HandS.TryOnly
import HandS.Lambda
import KE.KDflt
import HandS.EndTab
import HandS.EndOwn
set_option Elab.async false
set_option linter.all false
set_option maxRecDepth 100000
set_option maxHeartbeats 4000000
/-! PcA: what a value stands for (data of any depth, the empty dict too), readings that evaluate to data; one list (at m) may change meanwhile. -/
namespace Pc
open PySem PySem.Spec PyProof.Rows L2
open Evl (Ex)

/-! ### the heap without some objects that may change -/
def off (m : List Addr) (H : Hp) : Hp := fun a => if a ∈ m then none else H a
theorem off_at {m : List Addr} {a : Addr} {H : Hp} (h : a ∉ m) : off m H a = H a := if_neg h
theorem off_self {m : List Addr} {a : Addr} {H : Hp} (h : a ∈ m) : off m H a = none := if_pos h
theorem off_le {m : List Addr} {H : Hp} : Ex (off m H) H := fun a o h => by
  by_cases e : a ∈ m
  · rw [off_self e] at h
    cases h
  · rw [off_at e] at h
    exact h
def Xo (m : List Addr) (H H' : Hp) : Prop := Ex (off m H) (off m H')
def Lv (m : List Addr) (H : Hp) : Prop := ∀ a ∈ m, ∃ o, H a = some o
section
variable {m : List Addr} {p : Addr} {H H1 H2 : Hp} {o : HO}
theorem Xo.of (e : Ex H H1) : Xo m H H1 := fun a u h => by
  by_cases z : a ∈ m
  · rw [off_self z] at h
    cases h
  · rw [off_at z] at h ⊢
    exact e a u h
theorem Xo.refl : Xo m H H := Ex.refl _
theorem Xo.trans (a : Xo m H H1) (b : Xo m H1 H2) : Xo m H H2 := Ex.trans a b
theorem Lv.ex (l : Lv m H) (e : Ex H H1) : Lv m H1 := fun a ha => let ⟨o, h⟩ := l a ha; ⟨o, e _ _ h⟩
theorem off_upd (h : p ∈ m) : off m (upd H p o) = off m H := by
  funext a
  by_cases z : a ∈ m
  · rw [off_self z, off_self z]
  · rw [off_at z, off_at z, upd_ne (fun e => z (by rw [e]; exact h))]
theorem Lv.ne (l : Lv m H) (h : H p = none) : p ∉ m := fun z => by
  obtain ⟨o, e⟩ := l p z
  rw [h] at e
  cases e
theorem off_new (l : Lv m H) (h : H p = none) : off m (upd H p o) p = some o := by
  rw [off_at (l.ne h), upd_same]
/-- an address that is free is none too many -/
theorem off_free (h : H p = none) : off (p :: m) H = off m H := by
  funext a
  by_cases z : a ∈ m
  · rw [off_self z, off_self (List.mem_cons_of_mem _ z)]
  · by_cases e : a = p
    · rw [off_at z, e, h, off_self List.mem_cons_self]
    · rw [off_at z, off_at (fun y => (List.mem_cons.mp y).elim e z)]
theorem off_less : Ex (off (p :: m) H) (off m H) := fun a u h => by
  by_cases z : a ∈ p :: m
  · rw [off_self z] at h
    cases h
  · rw [off_at z] at h
    rw [off_at (fun y => z (List.mem_cons_of_mem _ y))]
    exact h
theorem Lv.cons (l : Lv m H) (h : H p = some o) : Lv (p :: m) H := fun a ha => (List.mem_cons.mp ha).elim (fun e => ⟨o, by rw [e]; exact h⟩) (l a)
end

/-! ### data -/
mutual
inductive Dv (K : PySem.W.Frag) (H : Hp) : V → PyData → Prop
  | non : Dv K H .non .none
  | bl (b : Bool) : Dv K H (.bl b) (.bool b)
  | int (i : Int) : Dv K H (.int i) (.int i)
  | str (x : Str) : Dv K H (.str x) (.str x)
  | lst {a : Addr} {xs : List V} {ds : List PyData} (h : SqL K H a xs) (ha : DvAll K H xs ds) : Dv K H (.ref a) (.list ds)
  | tup {a : Addr} {xs : List V} {ds : List PyData} (h : SqT K H a xs) (ha : DvAll K H xs ds) : Dv K H (.ref a) (.tuple ds)
  | dic {a : Addr} (h : H a = some (.dK [])) : Dv K H (.ref a) (.dict [])
inductive DvAll (K : PySem.W.Frag) (H : Hp) : List V → List PyData → Prop
  | nil : DvAll K H [] []
  | cons {v : V} {vs : List V} {d : PyData} {ds : List PyData} (h : Dv K H v d) (hs : DvAll K H vs ds) : DvAll K H (v :: vs) (d :: ds)
end
section
variable {K : PySem.W.Frag} {H H' : Hp}
mutual
theorem Dv.mono (e : Ex H H') : ∀ (d : PyData) (v : V), Dv K H v d → Dv K H' v d
  | .none, _, h => by cases h; exact .non
  | .bool _, _, h => by cases h; exact .bl _
  | .int _, _, h => by cases h; exact .int _
  | .str _, _, h => by cases h; exact .str _
  | .list ds, _, h => by
    cases h with
    | lst h ha => exact .lst (Evl.ex_l e h) (DvAll.mono e ds _ ha)
  | .tuple ds, _, h => by
    cases h with
    | tup h ha => exact .tup (Evl.ex_t e h) (DvAll.mono e ds _ ha)
  | .dict _, _, h => by
    cases h with
    | dic h => exact .dic (e _ _ h)
theorem DvAll.mono (e : Ex H H') : ∀ (ds : List PyData) (vs : List V), DvAll K H vs ds → DvAll K H' vs ds
  | [], _, h => by cases h; exact .nil
  | d :: ds, _, h => by
    cases h with
    | cons h hs => exact .cons (Dv.mono e d _ h) (DvAll.mono e ds _ hs)
end
theorem Dv.up (e : Ex H H') {v : V} {d : PyData} (h : Dv K H v d) : Dv K H' v d := Dv.mono e d v h
theorem DvAll.up (e : Ex H H') {v : List V} {d : List PyData} (h : DvAll K H v d) : DvAll K H' v d := DvAll.mono e d v h
mutual
theorem Dv.dp : ∀ (d : PyData) (v : V), d.hasDict = false → Dv K H v d → Dp K H v d
  | .none, _, _, h => by cases h; exact .non
  | .bool _, _, _, h => by cases h; exact .bl _
  | .int _, _, _, h => by cases h; exact .int _
  | .str _, _, _, h => by cases h; exact .str _
  | .list ds, _, z, h => by
    cases h with
    | lst h ha => exact .lst h (DvAll.dp ds _ (by rw [PyData.hasDict] at z; exact z) ha)
  | .tuple ds, _, z, h => by
    cases h with
    | tup h ha => exact .tup h (DvAll.dp ds _ (by rw [PyData.hasDict] at z; exact z) ha)
  | .dict _, _, z, h => by rw [PyData.hasDict] at z; cases z
theorem DvAll.dp : ∀ (ds : List PyData) (vs : List V), PyData.hasDictAll ds = false → DvAll K H vs ds → DpAll K H vs ds
  | [], _, _, h => by cases h; exact .nil
  | d :: ds, _, z, h => by
    rw [PyData.hasDictAll, Bool.or_eq_false_iff] at z
    cases h with
    | cons h hs => exact .cons (Dv.dp d _ z.1 h) (DvAll.dp ds _ z.2 hs)
end
theorem DvAll.length : ∀ {vs : List V} {ds : List PyData}, DvAll K H vs ds → vs.length = ds.length
  | [], _, h => by cases h; rfl
  | _ :: _, _, h => by
    cases h with
    | cons h hs => rw [List.length_cons, List.length_cons, DvAll.length hs]
theorem DvAll.get : ∀ {vs : List V} {ds : List PyData} {i : Nat} {d : PyData}, DvAll K H vs ds → ds[i]? = some d → ∃ v, vs[i]? = some v ∧ Dv K H v d
  | _, _, _, _, .nil, e => by simp at e
  | _, _, 0, _, .cons h _, e => by
    simp at e
    subst e
    exact ⟨_, rfl, h⟩
  | _, _, i + 1, d, .cons _ hs, e => by
    obtain ⟨v, h1, h2⟩ := DvAll.get (i := i) (d := d) hs (by simpa using e)
    exact ⟨v, by simpa using h1, h2⟩
theorem DvAll.app : ∀ {vs us : List V} {ds es : List PyData}, DvAll K H vs ds → DvAll K H us es → DvAll K H (vs ++ us) (ds ++ es)
  | _, _, _, _, .nil, h => h
  | _, _, _, _, .cons h hs, k => .cons h (DvAll.app hs k)
theorem DvAll.one {vs : List V} {d : PyData} (h : DvAll K H vs [d]) : ∃ v, vs = [v] ∧ Dv K H v d := by
  cases h with
  | cons h hs =>
    cases hs
    exact ⟨_, rfl, h⟩
theorem DvAll.two {vs : List V} {d e : PyData} (h : DvAll K H vs [d, e]) : ∃ v u, vs = [v, u] ∧ Dv K H v d ∧ Dv K H u e := by
  cases h with
  | cons h hs =>
    obtain ⟨u, rfl, k⟩ := hs.one
    exact ⟨_, _, rfl, h, k⟩
theorem DvAll.three {vs : List V} {d e f : PyData} (h : DvAll K H vs [d, e, f]) : ∃ v u w, vs = [v, u, w] ∧ Dv K H v d ∧ Dv K H u e ∧ Dv K H w f := by
  cases h with
  | cons h hs =>
    obtain ⟨u, w, rfl, k, l⟩ := hs.two
    exact ⟨_, _, _, rfl, h, k, l⟩
theorem Dv.i {v : V} {i : Int} (h : Dv K H v (.int i)) : v = .int i := by cases h; rfl
theorem Dv.b {v : V} {b : Bool} (h : Dv K H v (.bool b)) : v = .bl b := by cases h; rfl
theorem Dv.n {v : V} (h : Dv K H v .none) : v = .non := by cases h; rfl
theorem Dv.s {v : V} {x : Str} (h : Dv K H v (.str x)) : v = .str x := by cases h; rfl
theorem Dv.t {v : V} {ds : List PyData} (h : Dv K H v (.tuple ds)) : ∃ a xs, v = .ref a ∧ SqT K H a xs ∧ DvAll K H xs ds := by
  cases h with
  | tup h ha => exact ⟨_, _, rfl, h, ha⟩
theorem Dv.l {v : V} {ds : List PyData} (h : Dv K H v (.list ds)) : ∃ a xs, v = .ref a ∧ SqL K H a xs ∧ DvAll K H xs ds := by
  cases h with
  | lst h ha => exact ⟨_, _, rfl, h, ha⟩
/-- a list or a tuple -/
inductive IsSeq : PyData → List PyData → Prop
  | lst (ds : List PyData) : IsSeq (.list ds) ds
  | tup (ds : List PyData) : IsSeq (.tuple ds) ds
theorem Dv.q {v : V} {d : PyData} {ds : List PyData} (h : Dv K H v d) (q : IsSeq d ds) : ∃ a xs, v = .ref a ∧ (SqL K H a xs ∨ SqT K H a xs) ∧ DvAll K H xs ds := by
  cases q with
  | lst =>
    obtain ⟨a, xs, e, h1, h2⟩ := h.l
    exact ⟨a, xs, e, .inl h1, h2⟩
  | tup =>
    obtain ⟨a, xs, e, h1, h2⟩ := h.t
    exact ⟨a, xs, e, .inr h1, h2⟩
/-- the name of its class -/
def tyD : PyData → String
  | .none => "NoneType"
  | .bool _ => "bool"
  | .int _ => "int"
  | .str _ => "str"
  | .list _ => "list"
  | .tuple _ => "tuple"
  | .dict _ => "dict"
theorem Dv.ty {v : V} {d : PyData} (h : Dv K H v d) : TyX K H v (.type (tyD d)) := by
  cases h with
  | non => exact .base .non
  | bl b => exact .base (.bl b)
  | int i => exact .base (.int i)
  | str x => exact .base (.str x)
  | lst h ha =>
    rcases h with (h | ⟨o, h⟩) | ⟨o, its, n, h1, h2, _⟩
    · exact .base (.lst h)
    · exact .base (.frz h)
    · exact .kList h1 h2
  | tup h ha =>
    rcases h with (h | ⟨o, h⟩) | ⟨o, its, n, h1, h2, _⟩
    · exact .base (.tup h)
    · exact .fTuple h
    · exact .kTuple h1 h2
  | dic h => exact .base (.dK h)
end
end Pc

set_option Elab.async false
set_option linter.all false
set_option maxRecDepth 100000
set_option maxHeartbeats 4000000
/-! PcB: readings that evaluate to data. -/
namespace Pc
open PySem PySem.Spec PyProof.Rows L2
open Evl (Ex)

/-- the reading gives a value that stands for d, whatever grew; nothing that stood is changed -/
def ED (K : PySem.W.Frag) (m : List Addr) (te : TE) (σ : L2.St) (H : Hp) (d : PyData) : Prop :=
  ∀ H1, Xo m H H1 → Lv m H1 → ∀ Q : VK, (∀ v H2, Ex H1 H2 → Dv K (off m H2) v d → Q v H2) → te σ H1 Q
def EB (m : List Addr) (tt : TT) (σ : L2.St) (H : Hp) (b : Bool) : Prop :=
  ∀ H1, Xo m H H1 → Lv m H1 → ∀ Q : Bool → Hp → Prop, (∀ H2, Ex H1 H2 → Q b H2) → tt σ H1 Q
def ES (K : PySem.W.Frag) (m : List Addr) (ta : TA) (σ : L2.St) (H : Hp) (ds : List PyData) : Prop :=
  ∀ H1, Xo m H H1 → Lv m H1 → ∀ Q : List V → Hp → Prop, (∀ vs H2, Ex H1 H2 → DvAll K (off m H2) vs ds → Q vs H2) → ta σ H1 Q
/-- the statements hand d back -/
def RD (K : PySem.W.Frag) (m : List Addr) (t : TS) (σ : L2.St) (H : Hp) (d : PyData) : Prop :=
  ∀ H1, Xo m H H1 → Lv m H1 → ∀ D : Ends, (∀ v H2, Ex H1 H2 → Dv K (off m H2) v d → D.rt v H2) → t D σ H1

section
variable {K : PySem.W.Frag} {m : List Addr} {te ta tb tc : TE} {tt tu : TT} {σ : L2.St} {H H' : Hp} {d e f : PyData} {t u : TS}
theorem ED.mono (x : Xo m H H') (h : ED K m te σ H d) : ED K m te σ H' d := fun H1 e l Q q => h H1 (x.trans e) l Q q
theorem EB.mono {b : Bool} (x : Xo m H H') (h : EB m tt σ H b) : EB m tt σ H' b := fun H1 e l Q q => h H1 (x.trans e) l Q q
theorem ES.mono {s : TA} {ds : List PyData} (x : Xo m H H') (h : ES K m s σ H ds) : ES K m s σ H' ds := fun H1 e l Q q => h H1 (x.trans e) l Q q
theorem RD.mono (x : Xo m H H') (h : RD K m t σ H d) : RD K m t σ H' d := fun H1 e l Q q => h H1 (x.trans e) l Q q
theorem ED.is (h : ED K m te σ H d) (e : d = f) : ED K m te σ H f := e ▸ h
theorem EB.is {b c : Bool} (h : EB m tt σ H b) (e : b = c) : EB m tt σ H c := e ▸ h
theorem ed_var {i : Nat} {v : V} (h : σ[i]? = some (some v)) (dv : Dv K (off m H) v d) : ED K m (tVar i) σ H d := fun H1 e l Q q => ⟨v, h, q v H1 (Ex.refl _) (dv.up e)⟩
theorem ed_c {v : V} (dv : Dv K (off m H) v d) : ED K m (tC v) σ H d := fun H1 e l Q q => q v H1 (Ex.refl _) (dv.up e)
theorem ed_int {i : Int} : ED K m (tC (.int i)) σ H (.int i) := ed_c (.int i)
theorem ed_bl {b : Bool} : ED K m (tC (.bl b)) σ H (.bool b) := ed_c (.bl b)
theorem ed_non : ED K m (tC .non) σ H .none := ed_c .non
theorem ed_str {x : Str} : ED K m (tC (.str x)) σ H (.str x) := ed_c (.str x)
theorem ed_op {r : R2} (ha : ED K m ta σ H d) (hb : ED K m tb σ H e)
    (hr : ∀ x y H1, Xo m H H1 → Lv m H1 → Dv K (off m H1) x d → Dv K (off m H1) y e → ∀ Q : VK, (∀ v H2, Ex H1 H2 → Dv K (off m H2) v f → Q v H2) → r x y H1 Q) : ED K m (tOp r ta tb) σ H f := fun H1 x l Q q =>
  ha H1 x l _ fun v H2 x2 dv => hb H2 (x.trans (.of x2)) (l.ex x2) _ fun w H3 x3 dw =>
    hr v w H3 ((x.trans (.of x2)).trans (.of x3)) ((l.ex x2).ex x3) (dv.up (Xo.of x3)) dw Q fun z H4 x4 dz => q z H4 ((x2.trans x3).trans x4) dz
theorem ed_un {r : V → Hp → VK → Prop} (ha : ED K m ta σ H d)
    (hr : ∀ x H1, Xo m H H1 → Lv m H1 → Dv K (off m H1) x d → ∀ Q : VK, (∀ v H2, Ex H1 H2 → Dv K (off m H2) v f → Q v H2) → r x H1 Q) : ED K m (tUn r ta) σ H f := fun H1 x l Q q =>
  ha H1 x l _ fun v H2 x2 dv => hr v H2 (x.trans (.of x2)) (l.ex x2) dv Q fun z H4 x4 dz => q z H4 (x2.trans x4) dz
/-! ints -/
theorem ed_I {C : Int → Int → Prop} {g : Int → Int → V} {i j : Int} {r : PyData} (ha : ED K m ta σ H (.int i)) (hb : ED K m tb σ H (.int j)) (hc : C i j) (hg : ∀ H1 : Hp, Dv K (off m H1) (g i j) r) : ED K m (tOp (rI C g) ta tb) σ H r :=
  ed_op ha hb fun x y H1 _ _ hx hy Q q => ⟨i, j, hx.i, hy.i, hc, q _ H1 (Ex.refl _) (hg H1)⟩
theorem ed_I0 {g : Int → Int → V} {i j : Int} {r : PyData} (ha : ED K m ta σ H (.int i)) (hb : ED K m tb σ H (.int j)) (hg : ∀ H1 : Hp, Dv K (off m H1) (g i j) r) : ED K m (tOp (rI0 g) ta tb) σ H r :=
  ed_op ha hb fun x y H1 _ _ hx hy Q q => ⟨i, j, hx.i, hy.i, q _ H1 (Ex.refl _) (hg H1)⟩
theorem ed_add {i j : Int} (ha : ED K m ta σ H (.int i)) (hb : ED K m tb σ H (.int j)) : ED K m (tOp (rI0 fun i j => .int (i + j)) ta tb) σ H (.int (i + j)) := ed_I0 ha hb fun _ => .int _
theorem ed_sub {i j : Int} (ha : ED K m ta σ H (.int i)) (hb : ED K m tb σ H (.int j)) : ED K m (tOp (rI0 fun i j => .int (i - j)) ta tb) σ H (.int (i - j)) := ed_I0 ha hb fun _ => .int _
theorem ed_mul {i j : Int} (ha : ED K m ta σ H (.int i)) (hb : ED K m tb σ H (.int j)) (h : CMulW i j) : ED K m (tOp (rI CMulW fun i j => .int (i * j)) ta tb) σ H (.int (i * j)) := ed_I ha hb h fun _ => .int _
theorem ed_div {i j : Int} (ha : ED K m ta σ H (.int i)) (hb : ED K m tb σ H (.int j)) (h : CDivW i j) : ED K m (tOp (rI CDivW fun i j => .int (i / j)) ta tb) σ H (.int (i / j)) := ed_I ha hb h fun _ => .int _
theorem ed_mod {i j : Int} (ha : ED K m ta σ H (.int i)) (hb : ED K m tb σ H (.int j)) (h : 0 < j) : ED K m (tOp (rI (fun _ j => 0 < j) fun i j => .int (i % j)) ta tb) σ H (.int (i % j)) := ed_I ha hb h fun _ => .int _
theorem ed_pow {i j : Int} (ha : ED K m ta σ H (.int i)) (hb : ED K m tb σ H (.int j)) (h : CPow i j) : ED K m (tOp (rI CPow fun i j => .int (i ^ j.toNat)) ta tb) σ H (.int (i ^ j.toNat)) := ed_I ha hb h fun _ => .int _
theorem ed_lt {i j : Int} (ha : ED K m ta σ H (.int i)) (hb : ED K m tb σ H (.int j)) : ED K m (tOp (rI0 fun i j => .bl (decide (i < j))) ta tb) σ H (.bool (decide (i < j))) := ed_I0 ha hb fun _ => .bl _
theorem ed_le {i j : Int} (ha : ED K m ta σ H (.int i)) (hb : ED K m tb σ H (.int j)) : ED K m (tOp (rI0 fun i j => .bl (decide (i ≤ j))) ta tb) σ H (.bool (decide (i ≤ j))) := ed_I0 ha hb fun _ => .bl _
theorem ed_gt {i j : Int} (ha : ED K m ta σ H (.int i)) (hb : ED K m tb σ H (.int j)) : ED K m (tOp (rI0 fun i j => .bl (decide (j < i))) ta tb) σ H (.bool (decide (j < i))) := ed_I0 ha hb fun _ => .bl _
theorem ed_ge {i j : Int} (ha : ED K m ta σ H (.int i)) (hb : ED K m tb σ H (.int j)) : ED K m (tOp (rI0 fun i j => .bl (decide (j ≤ i))) ta tb) σ H (.bool (decide (j ≤ i))) := ed_I0 ha hb fun _ => .bl _
theorem ed_neg {i : Int} (ha : ED K m ta σ H (.int i)) : ED K m (tUn (rU fun i => .int (-i)) ta) σ H (.int (-i)) := ed_un ha fun x H1 _ _ hx Q q => ⟨i, hx.i, q _ H1 (Ex.refl _) (.int _)⟩
/-! data compared -/
theorem noDict_of {d : PyData} (h : SeqAt.shaped d = true) : d.hasDict = false := PyData.hasDict_of_canLay d (SeqAt.canLay_of_shaped h)
theorem ed_eq (ha : ED K m ta σ H d) (hb : ED K m tb σ H e) (sd : SeqAt.shaped d = true) (se : SeqAt.shaped e = true) : ED K m (tOp (rEqD K) ta tb) σ H (.bool (PyData.eqv d e)) :=
  ed_op ha hb fun x y H1 _ _ hx hy Q q => ⟨d, e, Dv.dp d x (noDict_of sd) (hx.up off_le), Dv.dp e y (noDict_of se) (hy.up off_le), sd, se, q _ H1 (Ex.refl _) (.bl _)⟩
theorem ed_ne (ha : ED K m ta σ H d) (hb : ED K m tb σ H e) (sd : SeqAt.shaped d = true) (se : SeqAt.shaped e = true) : ED K m (tOp (rNeD K) ta tb) σ H (.bool (!PyData.eqv d e)) :=
  ed_op ha hb fun x y H1 _ _ hx hy Q q => ⟨d, e, Dv.dp d x (noDict_of sd) (hx.up off_le), Dv.dp e y (noDict_of se) (hy.up off_le), sd, se, q _ H1 (Ex.refl _) (.bl _)⟩
def isN : PyData → Bool
  | .none => true
  | _ => false
theorem Dv.isN {v : V} (h : Dv K H v d) : decide (v = .non) = isN d := by
  cases h <;> first | rfl | exact decide_eq_false (fun z => nomatch z)
def rIsN : R2 := fun x y H Q => y = .non ∧ Q (.bl (decide (x = .non))) H
def rNotN : R2 := fun x y H Q => y = .non ∧ Q (.bl (!decide (x = .non))) H
theorem op_isN' {X : Cx} : OpR X (compareOp .Is) rIsN := op_isN
theorem op_notN' {X : Cx} : OpR X (compareOp .IsNot) rNotN := op_notN
theorem ed_isN (ha : ED K m ta σ H d) : ED K m (tOp rIsN ta (tC .non)) σ H (.bool (isN d)) := ed_op ha ed_non fun x y H1 _ _ hx hy Q q => ⟨hy.n, by rw [hx.isN]; exact q _ H1 (Ex.refl _) (.bl _)⟩
theorem ed_notN (ha : ED K m ta σ H d) : ED K m (tOp rNotN ta (tC .non)) σ H (.bool (!isN d)) := ed_op ha ed_non fun x y H1 _ _ hx hy Q q => ⟨hy.n, by rw [hx.isN]; exact q _ H1 (Ex.refl _) (.bl _)⟩
theorem ed_notB {a b : Bool} (ha : ED K m ta σ H (.bool a)) (hb : ED K m tb σ H (.bool b)) : ED K m (tOp rNotB ta tb) σ H (.bool (!decide (a = b))) := ed_op ha hb fun x y H1 _ _ hx hy Q q => ⟨a, b, hx.b, hy.b, q _ H1 (Ex.refl _) (.bl _)⟩
/-! tests and truths -/
theorem eb_test {b : Bool} (h : ED K m te σ H (.bool b)) : EB m (tTest te) σ H b := fun H1 x l Q q => h H1 x l _ fun v H2 x2 dv => ⟨b, dv.b, q H2 x2⟩
theorem eb_B {b : Bool} (h : ED K m te σ H (.bool b)) : EB m (tB te) σ H b := fun H1 x l Q q => h H1 x l _ fun v H2 x2 dv => ⟨b, dv.b, q H2 x2⟩
theorem eb_and {a b : Bool} (h1 : EB m tt σ H a) (h2 : a = true → EB m tu σ H b) : EB m (tAnd tt tu) σ H (a && b) := fun H1 x l Q q => h1 H1 x l _ fun H2 x2 => by
  cases a with
  | true => exact h2 rfl H2 (x.trans (.of x2)) (l.ex x2) Q fun H3 x3 => q H3 (x2.trans x3)
  | false => exact q H2 x2
theorem eb_or {a b : Bool} (h1 : EB m tt σ H a) (h2 : a = false → EB m tu σ H b) : EB m (tOr tt tu) σ H (a || b) := fun H1 x l Q q => h1 H1 x l _ fun H2 x2 => by
  cases a with
  | true => exact q H2 x2
  | false => exact h2 rfl H2 (x.trans (.of x2)) (l.ex x2) Q fun H3 x3 => q H3 (x2.trans x3)
theorem eb_not {a : Bool} (h1 : EB m tt σ H a) : EB m (tNot tt) σ H (!a) := fun H1 x l Q q => h1 H1 x l _ fun H2 x2 => q H2 x2
theorem ed_and {a b : Bool} (h1 : ED K m ta σ H (.bool a)) (h2 : a = true → ED K m tb σ H (.bool b)) : ED K m (tAndV ta tb) σ H (.bool (a && b)) := fun H1 x l Q q => h1 H1 x l _ fun v H2 x2 dv => ⟨a, dv.b, by
  cases a with
  | true => exact h2 rfl H2 (x.trans (.of x2)) (l.ex x2) Q fun w H3 x3 dw => q w H3 (x2.trans x3) dw
  | false => exact q _ H2 x2 (.bl _)⟩
theorem ed_or {a b : Bool} (h1 : ED K m ta σ H (.bool a)) (h2 : a = false → ED K m tb σ H (.bool b)) : ED K m (tOrV ta tb) σ H (.bool (a || b)) := fun H1 x l Q q => h1 H1 x l _ fun v H2 x2 dv => ⟨a, dv.b, by
  cases a with
  | true => exact q _ H2 x2 (.bl _)
  | false => exact h2 rfl H2 (x.trans (.of x2)) (l.ex x2) Q fun w H3 x3 dw => q w H3 (x2.trans x3) dw⟩
theorem ed_not {a : Bool} (h1 : ED K m ta σ H (.bool a)) : ED K m (tNotV ta) σ H (.bool (!a)) := fun H1 x l Q q => h1 H1 x l _ fun v H2 x2 dv => ⟨a, dv.b, q _ H2 x2 (.bl _)⟩
theorem ed_if {b : Bool} (h : EB m tt σ H b) (h1 : b = true → ED K m ta σ H d) (h2 : b = false → ED K m tb σ H d) : ED K m (tIf tt ta tb) σ H d := fun H1 x l Q q => h H1 x l _ fun H2 x2 => by
  cases b with
  | true => exact h1 rfl H2 (x.trans (.of x2)) (l.ex x2) Q fun w H3 x3 dw => q w H3 (x2.trans x3) dw
  | false => exact h2 rfl H2 (x.trans (.of x2)) (l.ex x2) Q fun w H3 x3 dw => q w H3 (x2.trans x3) dw
/-! arguments, displays -/
theorem es_nil : ES K m tNil σ H [] := fun H1 x l Q q => q [] H1 (Ex.refl _) .nil
theorem es_cons {s : TA} {ds : List PyData} (h : ED K m te σ H d) (hs : ES K m s σ H ds) : ES K m (tCons te s) σ H (d :: ds) := fun H1 x l Q q =>
  h H1 x l _ fun v H2 x2 dv => hs H2 (x.trans (.of x2)) (l.ex x2) _ fun vs H3 x3 dw => q _ H3 (x2.trans x3) (.cons (dv.up (Xo.of x3)) dw)
theorem es_1 (h : ED K m te σ H d) : ES K m (tCons te tNil) σ H [d] := es_cons h es_nil
theorem es_2 (h : ED K m ta σ H d) (h' : ED K m tb σ H e) : ES K m (tCons ta (tCons tb tNil)) σ H [d, e] := es_cons h (es_1 h')
theorem es_3 (h : ED K m ta σ H d) (h' : ED K m tb σ H e) (h'' : ED K m tc σ H f) : ES K m (tCons ta (tCons tb (tCons tc tNil))) σ H [d, e, f] := es_cons h (es_2 h' h'')
theorem ed_tup {s : TA} {ds : List PyData} (h : ES K m s σ H ds) (hz : ds.length ≤ 100000 := by simp) : ED K m (tTup s) σ H (.tuple ds) := fun H1 x l Q q =>
  h H1 x l _ fun vs H2 x2 dv => ⟨by rw [dv.length]; exact Evl.sz_of hz, fun p hp => by
    have x3 : Ex H2 (upd H2 p (.tup vs)) := Ex.new hp
    exact q _ _ (x2.trans x3) (.tup (Evl.st_of (off_new (l.ex x2) hp)) (dv.up (Xo.of x3)))⟩
theorem ed_lst {s : TA} {ds : List PyData} (h : ES K m s σ H ds) (hz : ds.length ≤ 100000 := by simp) : ED K m (tLst s) σ H (.list ds) := fun H1 x l Q q =>
  h H1 x l _ fun vs H2 x2 dv => ⟨by rw [dv.length]; exact Evl.sz_of hz, fun p hp => by
    have x3 : Ex H2 (upd H2 p (.lst vs)) := Ex.new hp
    exact q _ _ (x2.trans x3) (.lst (Evl.sq_of (off_new (l.ex x2) hp)) (dv.up (Xo.of x3)))⟩
theorem ed_dic : ED K m tDNewK σ H (.dict []) := fun H1 x l Q q p hp => q _ _ (Ex.new hp) (.dic (off_new l hp))
/-! calls of built-ins -/
theorem ed_cb {r : List V → Hp → VK → Prop} {s : TA} {ds : List PyData} (h : ES K m s σ H ds)
    (hr : ∀ vs H1, Xo m H H1 → Lv m H1 → DvAll K (off m H1) vs ds → ∀ Q : VK, (∀ v H2, Ex H1 H2 → Dv K (off m H2) v f → Q v H2) → r vs H1 Q) : ED K m (tCB r s) σ H f := fun H1 x l Q q =>
  h H1 x l _ fun vs H2 x2 dv => hr vs H2 (x.trans (.of x2)) (l.ex x2) dv Q fun v H3 x3 dw => q v H3 (x2.trans x3) dw
def rAbs : List V → Hp → VK → Prop := fun xs H Q => ∃ i, xs = [.int i] ∧ Q (.int (if i < 0 then -i else i)) H
theorem cr_abs {X : Cx} : CallR X (.builtin "abs") rAbs := call_abs
theorem ed_abs {i : Int} (h : ED K m te σ H (.int i)) : ED K m (tCB rAbs (tCons te tNil)) σ H (.int (i.natAbs : Int)) := ed_cb (es_1 h) fun vs H1 _ _ dw Q q => by
  obtain ⟨v, rfl, dv⟩ := dw.one
  have e : (if i < 0 then -i else i) = (i.natAbs : Int) := by split <;> omega
  exact ⟨i, by rw [dv.i], by rw [e]; exact q _ H1 (Ex.refl _) (.int _)⟩
def rInt : List V → Hp → VK → Prop := fun xs H Q => (∃ i, xs = [.int i] ∧ Q (.int i) H) ∨ ∃ k, xs = [.bl k] ∧ Q (.int (if k then 1 else 0)) H
theorem cr_int {X : Cx} : CallR X (.type "int") rInt := call_int1
theorem ed_intI {i : Int} (h : ED K m te σ H (.int i)) : ED K m (tCB rInt (tCons te tNil)) σ H (.int i) := ed_cb (es_1 h) fun vs H1 _ _ dw Q q => by
  obtain ⟨v, rfl, dv⟩ := dw.one
  exact .inl ⟨i, by rw [dv.i], q _ H1 (Ex.refl _) (.int _)⟩
theorem ed_intB {b : Bool} (h : ED K m te σ H (.bool b)) : ED K m (tCB rInt (tCons te tNil)) σ H (.int (if b then 1 else 0)) := ed_cb (es_1 h) fun vs H1 _ _ dw Q q => by
  obtain ⟨v, rfl, dv⟩ := dw.one
  exact .inr ⟨b, by rw [dv.b], q _ H1 (Ex.refl _) (.int _)⟩
def rLenQ (K : PySem.W.Frag) : List V → Hp → VK → Prop := fun xs H Q => ∃ x n, xs = [x] ∧ LenV K x H n ∧ Q (.int n) H
theorem cr_len {X : Cx} : CallR X (.builtin "len") (rLenQ X.K) := call_len
theorem ed_len {ds : List PyData} (h : ED K m te σ H d) (hq : IsSeq d ds) : ED K m (tCB (rLenQ K) (tCons te tNil)) σ H (.int (ds.length : Int)) := ed_cb (es_1 h) fun vs H1 _ _ dw Q q => by
  obtain ⟨v, rfl, dv⟩ := dw.one
  obtain ⟨a, xs, rfl, hs, ha⟩ := dv.q hq
  refine ⟨_, ds.length, rfl, ?_, q _ H1 (Ex.refl _) (.int _)⟩
  rcases hs with hs | hs
  · exact .inl ⟨xs, Evl.ex_l off_le hs, ha.length.symm⟩
  · exact .inr ⟨xs, Evl.ex_t off_le hs, ha.length.symm⟩
theorem ed_ix {ds : List PyData} {i : Nat} (ha : ED K m ta σ H d) (hq : IsSeq d ds) (hb : ED K m tb σ H (.int (i : Int))) (hi : ds[i]? = some e) : ED K m (tOp (rIx K) ta tb) σ H e := ed_op ha hb fun x y H1 _ _ hx hy Q q => by
  obtain ⟨a, xs, rfl, hs, hv⟩ := hx.q hq
  obtain ⟨v, hv1, hv2⟩ := hv.get hi
  rw [hy.i]
  rcases hs with hs | hs
  · exact .inl ⟨a, xs, i, v, rfl, rfl, Evl.ex_l off_le hs, atI_nat hv1, q _ H1 (Ex.refl _) hv2⟩
  · exact .inr (.inl ⟨a, xs, i, v, rfl, rfl, Evl.ex_t off_le hs, atI_nat hv1, q _ H1 (Ex.refl _) hv2⟩)
/-- tuple(x) -/
def rTupC (K : PySem.W.Frag) : List V → Hp → VK → Prop := fun xs H Q => ∃ p ys, xs = [.ref p] ∧ ((SqL K H p ys ∧ ∀ l, H l = none → Q (.ref l) (upd H l (.tup ys))) ∨ (SqT K H p ys ∧ Q (.ref p) H))
theorem cr_tup {X : Cx} : CallR X (.type "tuple") (rTupC X.K) := call_tuple_of
theorem ed_tupC {ds : List PyData} (h : ED K m te σ H d) (hq : IsSeq d ds) : ED K m (tCB (rTupC K) (tCons te tNil)) σ H (.tuple ds) := ed_cb (es_1 h) fun vs H1 _ l dw Q q => by
  obtain ⟨v, rfl, dv⟩ := dw.one
  obtain ⟨a, xs, rfl, hs, ha⟩ := dv.q hq
  rcases hs with hs | hs
  · refine ⟨a, xs, rfl, .inl ⟨Evl.ex_l off_le hs, fun p hp => ?_⟩⟩
    exact q _ _ (Ex.new hp) (.tup (Evl.st_of (off_new l hp)) (ha.up (Xo.of (Ex.new hp))))
  · exact ⟨a, xs, rfl, .inr ⟨Evl.ex_t off_le hs, q _ H1 (Ex.refl _) (.tup hs ha)⟩⟩
/-- list(x) -/
def rLstC (K : PySem.W.Frag) : List V → Hp → VK → Prop := fun xs H Q => ∃ p ys, xs = [.ref p] ∧ (SqL K H p ys ∨ SqT K H p ys) ∧ ∀ l, H l = none → Q (.ref l) (upd H l (.lst ys))
theorem cr_lst {X : Cx} : CallR X (.type "list") (rLstC X.K) := call_list_of
theorem ed_lstC {ds : List PyData} (h : ED K m te σ H d) (hq : IsSeq d ds) : ED K m (tCB (rLstC K) (tCons te tNil)) σ H (.list ds) := ed_cb (es_1 h) fun vs H1 _ l dw Q q => by
  obtain ⟨v, rfl, dv⟩ := dw.one
  obtain ⟨a, xs, rfl, hs, ha⟩ := dv.q hq
  refine ⟨a, xs, rfl, hs.imp (Evl.ex_l off_le) (Evl.ex_t off_le), fun p hp => ?_⟩
  exact q _ _ (Ex.new hp) (.lst (Evl.sq_of (off_new l hp)) (ha.up (Xo.of (Ex.new hp))))
/-- all(a list of truths) -/
theorem bls_of {H : Hp} : ∀ {vs : List V} {bs : List Bool}, DvAll K H vs (bs.map .bool) → vs = bs.map V.bl
  | _, [], h => by cases h; rfl
  | _, b :: bs, h => by
    cases h with
    | cons h hs => rw [h.b, bls_of hs] <;> rfl
theorem ed_all {bs : List Bool} (h : ED K m te σ H (.list (bs.map .bool))) : ED K m (tCB (rAll K) (tCons te tNil)) σ H (.bool (bs.all id)) := ed_cb (es_1 h) fun vs H1 _ l dw Q q => by
  obtain ⟨v, rfl, dv⟩ := dw.one
  obtain ⟨a, xs, rfl, hs, ha⟩ := dv.l
  exact ⟨a, bs, rfl, by rw [← bls_of ha]; exact Evl.ex_l off_le hs, q _ H1 (Ex.refl _) (.bl _)⟩
/-- isinstance(x, T), T a built-in class -/
theorem ed_isi {n : String} {b : Bool} (h : ED K m te σ H d) (hk : kitB (tyD d) n = some b) : ED K m (tCB (rIsi K) (tCons te (tCons (tC (.ty n)) tNil))) σ H (.bool b) := fun H1 x l Q q =>
  h H1 x l _ fun v H2 x2 dv => ⟨v, .ty n, .type (tyD d), .type n, b, rfl, .ty n, (dv.up off_le).ty, kit_ty hk, q _ H2 x2 (.bl _)⟩
def isI : PyData → Bool
  | .int _ | .bool _ => true
  | _ => false
def isB : PyData → Bool
  | .bool _ => true
  | _ => false
def isS : PyData → Bool
  | .list _ | .tuple _ => true
  | _ => false
theorem kit_int : ∀ d : PyData, kitB (tyD d) "int" = some (isI d)
  | .none | .bool _ | .int _ | .str _ | .list _ | .tuple _ | .dict _ => by simp only [tyD, isI] <;> decide +kernel
theorem kit_bool : ∀ d : PyData, kitB (tyD d) "bool" = some (isB d)
  | .none | .bool _ | .int _ | .str _ | .list _ | .tuple _ | .dict _ => by simp only [tyD, isB] <;> decide +kernel
def isLB : PyData → Bool
  | .list _ => true
  | _ => false
def isTB : PyData → Bool
  | .tuple _ => true
  | _ => false
theorem kit_list : ∀ d : PyData, kitB (tyD d) "list" = some (isLB d)
  | .none | .bool _ | .int _ | .str _ | .list _ | .tuple _ | .dict _ => by simp only [tyD, isLB] <;> decide +kernel
theorem kit_tup : ∀ d : PyData, kitB (tyD d) "tuple" = some (isTB d)
  | .none | .bool _ | .int _ | .str _ | .list _ | .tuple _ | .dict _ => by simp only [tyD, isTB] <;> decide +kernel
theorem ed_isI (h : ED K m te σ H d) : ED K m (tCB (rIsi K) (tCons te (tCons (tC (.ty "int")) tNil))) σ H (.bool (isI d)) := ed_isi h (kit_int d)
theorem ed_isB (h : ED K m te σ H d) : ED K m (tCB (rIsi K) (tCons te (tCons (tC (.ty "bool")) tNil))) σ H (.bool (isB d)) := ed_isi h (kit_bool d)
theorem kit_seq (d : PyData) : PySem.W.kitAny K (.type (tyD d)) [.type "list", .type "tuple"] = some (isS d) := by
  refine kitAny_cons (kit_ty (kit_list d)) (fun z => kitAny_cons (kit_ty (kit_tup d)) (fun z2 => ?_) fun z2 => ?_) fun z => ?_
  · have e : isS d = false := by
      cases d <;> first | rfl | (exact absurd z Bool.noConfusion) | (exact absurd z2 Bool.noConfusion)
    rw [e]
    exact kitAny_nil
  · cases d <;> first | rfl | cases z2
  · cases d <;> first | rfl | cases z
/-- isinstance(x, (list, tuple)) -/
theorem ed_isS (h : ED K m te σ H d) : ED K m (tCB (rIsiT K) (tCons te (tCons (tTup (tCons (tC (.ty "list")) (tCons (tC (.ty "tuple")) tNil))) tNil))) σ H (.bool (isS d)) := fun H1 x l Q q =>
  h H1 x l _ fun v H2 x2 dv => ⟨(by show 2 ≤ sizeLine; decide), fun p hp => by
    have x3 : Ex H2 (upd H2 p (.tup [.ty "list", .ty "tuple"])) := Ex.new hp
    exact ⟨v, p, [.ty "list", .ty "tuple"], .type (tyD d), [.type "list", .type "tuple"], isS d, rfl, upd_same, .cons (.ty _) (.cons (.ty _) .nil), ((dv.up (Xo.of x3)).up off_le).ty, kit_seq d, q _ _ (x2.trans x3) (.bl _)⟩⟩
theorem isS_seq (h : isS d = true) : ∃ ds, IsSeq d ds := by
  cases d <;> first | exact ⟨_, .lst _⟩ | exact ⟨_, .tup _⟩ | exact absurd h Bool.noConfusion
/-! promises -/
/-- the def: on data ds it hands back d, wherever R ds d -/
def spD (K : PySem.W.Frag) (R : List PyData → PyData → Prop) : Sp := fun vs H Q _ => ∃ (m : List Addr) (ds : List PyData) (d : PyData), Lv m H ∧ DvAll K (off m H) vs ds ∧ R ds d ∧ ∀ v H', Ex H H' → Dv K (off m H') v d → Q v H'
theorem ed_call {R : List PyData → PyData → Prop} {s : TA} {ds : List PyData} {E : XK} (h : ES K m s σ H ds) (hr : R ds d) : ED K m (tCall (spD K R) [] E s) σ H d := fun H1 x l Q q =>
  h H1 x l _ fun vs H2 x2 dv => ⟨m, ds, d, l.ex x2, by rw [List.append_nil]; exact dv, hr, fun v H3 x3 dw => q v H3 (x2.trans x3) dw⟩
/-! statements -/
theorem rd_ret (h : ED K m te σ H d) : RD K m (tRet te) σ H d := fun H1 x l D q => h H1 x l _ q
theorem rd_set {i : Nat} (h : ED K m te σ H e) (hu : ∀ v H1, Xo m H H1 → Lv m H1 → Dv K (off m H1) v e → RD K m u (σ.set i (some v)) H1 d) : RD K m (tSeq (tAsg te (gName i)) u) σ H d := fun H1 x l D q =>
  h H1 x l _ fun v H2 x2 dv => hu v H2 (x.trans (.of x2)) (l.ex x2) dv H2 .refl (l.ex x2) D fun w H3 x3 dw => q w H3 (x2.trans x3) dw
theorem rd_if {b : Bool} (h : EB m tt σ H b) (h1 : b = true → RD K m t σ H d) (h2 : b = false → RD K m u σ H d) : RD K m (tIfS tt t u) σ H d := fun H1 x l D q => h H1 x l _ fun H2 x2 => by
  cases b with
  | true => exact h1 rfl H2 (x.trans (.of x2)) (l.ex x2) D fun w H3 x3 dw => q w H3 (x2.trans x3) dw
  | false => exact h2 rfl H2 (x.trans (.of x2)) (l.ex x2) D fun w H3 x3 dw => q w H3 (x2.trans x3) dw
/-- if test: return ..; the rest -/
theorem rd_ifr {b : Bool} (h : EB m tt σ H b) (h1 : b = true → RD K m t σ H d) (h2 : b = false → RD K m u σ H d) : RD K m (tSeq (tIfS tt t tNext) u) σ H d := fun H1 x l D q => h H1 x l _ fun H2 x2 => by
  cases b with
  | true => exact h1 rfl H2 (x.trans (.of x2)) (l.ex x2) _ fun w H3 x3 dw => q w H3 (x2.trans x3) dw
  | false => exact h2 rfl H2 (x.trans (.of x2)) (l.ex x2) D fun w H3 x3 dw => q w H3 (x2.trans x3) dw
/-- a, b = x, y -/
theorem rd_par {s : TA} {i j : Nat} {f : PyData} (h : ES K m s σ H [e, f]) (hu : ∀ v w H1, Xo m H H1 → Lv m H1 → Dv K (off m H1) v e → Dv K (off m H1) w f → RD K m u ((σ.set i (some v)).set j (some w)) H1 d) : RD K m (tSeq (tPar i j s) u) σ H d := fun H1 x l D q =>
  h H1 x l _ fun vs H2 x2 dv => by
    obtain ⟨v, w, rfl, dv, dw⟩ := dv.two
    exact ⟨v, w, rfl, hu v w H2 (x.trans (.of x2)) (l.ex x2) dv dw H2 .refl (l.ex x2) D fun w H3 x3 dw => q w H3 (x2.trans x3) dw⟩
theorem rd_par3 {s : TA} {i j k : Nat} {f g : PyData} (h : ES K m s σ H [e, f, g]) (hu : ∀ v w z H1, Xo m H H1 → Lv m H1 → Dv K (off m H1) v e → Dv K (off m H1) w f → Dv K (off m H1) z g → RD K m u (((σ.set i (some v)).set j (some w)).set k (some z)) H1 d) : RD K m (tSeq (tPar3 i j k s) u) σ H d := fun H1 x l D q =>
  h H1 x l _ fun vs H2 x2 dv => by
    obtain ⟨v, w, z, rfl, dv, dw, dz⟩ := dv.three
    exact ⟨v, w, z, rfl, hu v w z H2 (x.trans (.of x2)) (l.ex x2) dv dw dz H2 .refl (l.ex x2) D fun w H3 x3 dw => q w H3 (x2.trans x3) dw⟩
end
end Pc

set_option Elab.async false
set_option linter.all false
set_option maxRecDepth 100000
set_option maxHeartbeats 4000000
/-! PcC: lists and tuples walked and unpacked alike, comprehensions, pairs of sequences, whiles. -/
namespace Pc
open PySem PySem.Spec PyProof.Rows L2
open Evl (Ex)

/-! ### what is walked: a list or a tuple -/
def iSeq (K : PySem.W.Frag) (tl : TE) : TI := fun σ H R => tl σ H fun x H1 => ∃ a, x = .ref a ∧ (((∃ xs, SqL K H1 a xs) ∧ R (Itl K a) H1) ∨ ((∃ xs, SqT K H1 a xs) ∧ R (Itt K a) H1))
section
variable {X : Cx} {tg : Expr}
theorem pi_seq {l : Expr} {tl : TE} (hl : PE X l tl) : PI X tg l (iSeq X.K tl) := ⟨fun pins s σ H R I h =>
  thn (hl.run pins s σ H _ I h) fun v s1 got => by
    obtain ⟨x, H1, I1, r1, a, rfl, q1⟩ := got
    obtain rfl : v = .ref a := r1
    have new : ∀ b ∈ [s1.heap.objs.size], FpOk X pins H1 b := fun b hb => by
      obtain rfl := List.mem_singleton.mp hb
      exact I1.fpOk (Nat.le_refl _) (I1.hok.fresh (Nat.le_refl _))
    have old : ∀ (ob : Obj) b o, s1.heap.get? b = some o → (s1.heap.push ob).get? b = some o := fun ob b o e => Heap.get?_push_of_some _ e
    rcases q1 with ⟨⟨xs, hq⟩, q⟩ | ⟨⟨xs, hq⟩, q⟩
    · obtain ⟨its, _, p, _⟩ := I1.list hq
      exact wpAny_pyIter_list p.isList ⟨_, [s1.heap.objs.size], _, Itl X.K a, H1, rfl, I1.kept (t' := s1.toks) (old _), turn_list a _, ⟨_, Heap.get?_push_size _ rfl, rfl, rfl⟩, new, q⟩
    · obtain ⟨its, _, p, _⟩ := I1.tuple hq
      exact wpAny_pyIter_tuple (show s1.heap.IsTuple a its.toArray from p) ⟨_, [s1.heap.objs.size], _, Itt X.K a, H1, rfl, I1.kept (t' := s1.toks) (old _), turn_tuple a _, ⟨_, Heap.get?_push_size _ rfl, rfl, rfl⟩, new, q⟩⟩
/-- (a, b, ..) = a list or a tuple of that length -/
def gSeq (K : PySem.W.Frag) (n : Nat) (t : TGs) : TG := fun v σ H Q => ∃ a xs, v = .ref a ∧ (SqL K H a xs ∨ SqT K H a xs) ∧ xs.length = n ∧ t xs σ H Q
theorem pg_seq {es : List Expr} {k : Nat} {t : TGs} {n : Nat} (hc : X.calm = true) (h : PGs X es t)
    (hn : (assignEach es X.env).length = n := by rfl) (hst : (assignEach es X.env).findIdx? (·.1) = none := by rfl) : PG X (.Tuple es k pos) (gSeq X.K n t) := ⟨fun pins s σ H v u Q I r hw => by
  obtain ⟨a, xs, e, hq, hl, hw⟩ := hw
  rcases hq with hq | hq
  · exact (pg_unl hc h hn hst).run pins s σ H v u Q I r ⟨a, xs, e, hq, hl, hw⟩
  · exact (pg_tup hc h hn hst).run pins s σ H v u Q I r ⟨a, xs, e, hq, hl, hw⟩⟩
end

section
variable {K : PySem.W.Frag} {m : List Addr} {te tl : TE} {σ : L2.St} {H : Hp} {d e : PyData} {u : TS}
/-! ### targets -/
theorem rd_tup2 {i j : Nat} {f : PyData} (h : ED K m te σ H (.tuple [e, f])) (hu : ∀ v w H1, Xo m H H1 → Lv m H1 → Dv K (off m H1) v e → Dv K (off m H1) w f → RD K m u ((σ.set i (some v)).set j (some w)) H1 d) : RD K m (tSeq (tAsg te (gTup K 2 (gCons (gName i) (gCons (gName j) gNil)))) u) σ H d := fun H1 x l D q =>
  h H1 x l _ fun v H2 x2 dv => by
    obtain ⟨a, xs, rfl, hs, hv⟩ := dv.t
    obtain ⟨v, w, rfl, dv, dw⟩ := hv.two
    exact ⟨a, _, rfl, Evl.ex_t off_le hs, rfl, v, [w], rfl, w, [], rfl, rfl, hu v w H2 (x.trans (.of x2)) (l.ex x2) dv dw H2 .refl (l.ex x2) D fun z H3 x3 dz => q z H3 (x2.trans x3) dz⟩
/-- (a, b), (c, d) = .. -/
theorem rd_tup4 {i j k n : Nat} {f g h' : PyData} (h : ED K m te σ H (.tuple [.tuple [e, f], .tuple [g, h']]))
    (hu : ∀ v w y z H1, Xo m H H1 → Lv m H1 → Dv K (off m H1) v e → Dv K (off m H1) w f → Dv K (off m H1) y g → Dv K (off m H1) z h' → RD K m u ((((σ.set i (some v)).set j (some w)).set k (some y)).set n (some z)) H1 d) :
    RD K m (tSeq (tAsg te (gTup K 2 (gCons (gTup K 2 (gCons (gName i) (gCons (gName j) gNil))) (gCons (gTup K 2 (gCons (gName k) (gCons (gName n) gNil))) gNil)))) u) σ H d := fun H1 x l D q =>
  h H1 x l _ fun v H2 x2 dv => by
    obtain ⟨a, xs, rfl, hs, hv⟩ := dv.t
    obtain ⟨p, p', rfl, dp, dp'⟩ := hv.two
    obtain ⟨b, ys, rfl, hb, hv1⟩ := dp.t
    obtain ⟨c, zs, rfl, hc, hv2⟩ := dp'.t
    obtain ⟨v, w, rfl, dv, dw⟩ := hv1.two
    obtain ⟨y, z, rfl, dy, dz⟩ := hv2.two
    refine ⟨a, _, rfl, Evl.ex_t off_le hs, rfl, .ref b, [.ref c], rfl, ⟨b, _, rfl, Evl.ex_t off_le hb, rfl, v, [w], rfl, w, [], rfl, rfl, ?_⟩⟩
    refine ⟨.ref c, [], rfl, ⟨c, _, rfl, Evl.ex_t off_le hc, rfl, y, [z], rfl, z, [], rfl, rfl, ?_⟩⟩
    exact ⟨rfl, hu v w y z H2 (x.trans (.of x2)) (l.ex x2) dv dw dy dz H2 .refl (l.ex x2) D fun r H3 x3 dr => q r H3 (x2.trans x3) dr⟩
/-- a, b, c = a list or a tuple -/
theorem rd_seq3 {i j k : Nat} {f g d' : PyData} (h : ED K m te σ H e) (hq : IsSeq e [f, g, d']) {r : PyData}
    (hu : ∀ v w y H1, Xo m H H1 → Lv m H1 → Dv K (off m H1) v f → Dv K (off m H1) w g → Dv K (off m H1) y d' → RD K m u (((σ.set i (some v)).set j (some w)).set k (some y)) H1 r) :
    RD K m (tSeq (tAsg te (gSeq K 3 (gCons (gName i) (gCons (gName j) (gCons (gName k) gNil))))) u) σ H r := fun H1 x l D q =>
  h H1 x l _ fun v H2 x2 dv => by
    obtain ⟨a, xs, rfl, hs, hv⟩ := dv.q hq
    obtain ⟨v, w, y, rfl, dv, dw, dy⟩ := hv.three
    exact ⟨a, _, rfl, hs.imp (Evl.ex_l off_le) (Evl.ex_t off_le), rfl, v, [w, y], rfl, w, [y], rfl, y, [], rfl, rfl, hu v w y H2 (x.trans (.of x2)) (l.ex x2) dv dw dy H2 .refl (l.ex x2) D fun z H3 x3 dz => q z H3 (x2.trans x3) dz⟩

/-! ### comprehensions -/
/-- what stands while the new list at D grows -/
structure Grow (K : PySem.W.Frag) (m : List Addr) (H0 H : Hp) (D : Addr) (es : List PyData) : Prop where
  ex : Ex H0 H
  at_ : ∃ acc, H D = some (.lst acc) ∧ DvAll K (off (D :: m) H) acc es
theorem Grow.start {H0 : Hp} {D : Addr} (h : H0 D = none) : Grow K m H0 (upd H0 D (.lst [])) D [] := ⟨Ex.new h, [], upd_same, .nil⟩
theorem Grow.live {H0 H : Hp} {D : Addr} {es : List PyData} (g : Grow K m H0 H D es) (l : Lv m H0) : Lv (D :: m) H := let ⟨_, h, _⟩ := g.at_; (l.ex g.ex).cons h
theorem Grow.more {H0 H H2 : Hp} {D : Addr} {es : List PyData} {y : V} {d : PyData} (hD : H0 D = none) (g : Grow K m H0 H D es) (x : Ex H H2) (dv : Dv K (off (D :: m) H2) y d) :
    ∃ acc, H2 D = some (.lst acc) ∧ acc.length = es.length ∧ Grow K m H0 (upd H2 D (.lst (acc ++ [y]))) D (es ++ [d]) := by
  obtain ⟨acc, h1, h2⟩ := g.at_
  refine ⟨acc, x _ _ h1, h2.length, (g.ex.trans x).mut hD, acc ++ [y], upd_same, ?_⟩
  rw [off_upd List.mem_cons_self]
  exact (h2.up (Xo.of x)).app (.cons dv .nil)
theorem Grow.step {H0 H H2 : Hp} {D : Addr} {es : List PyData} (g : Grow K m H0 H D es) (x : Ex H H2) : Grow K m H0 H2 D es := by
  obtain ⟨acc, h1, h2⟩ := g.at_
  exact ⟨g.ex.trans x, acc, x _ _ h1, h2.up (Xo.of x)⟩
theorem Grow.done {H0 H : Hp} {D : Addr} {es : List PyData} (l : Lv m H0) (hD : H0 D = none) (g : Grow K m H0 H D es) : Dv K (off m H) (.ref D) (.list es) := by
  obtain ⟨acc, h1, h2⟩ := g.at_
  exact .lst (Evl.sq_of (by rw [off_at (l.ne hD)]; exact h1)) (h2.up off_less)
theorem take_snoc {α : Type} {l : List α} {i : Nat} {x : α} (h : l[i]? = some x) : l.take (i + 1) = l.take i ++ [x] := by
  obtain ⟨hi, e⟩ := List.getElem?_eq_some_iff.mp h
  rw [← e]
  exact List.take_succ_eq_append_getElem hi
/-- [f(x) for x in s] -/
theorem ed_lc {ds es : List PyData} {i : Nat} {vs : List Nat} (h : ED K m tl σ H d) (hq : IsSeq d ds) (hlen : es.length = ds.length) (hz : ds.length ≤ 100000)
    (hw : ∀ v, wipe ((wipe σ vs).set i (some v)) vs = wipe σ vs)
    (he : ∀ (D : Addr) (j : Nat) (a b : PyData) (v : V) (H1 : Hp), H D = none → ds[j]? = some a → es[j]? = some b → Xo (D :: m) H H1 → Dv K (off (D :: m) H1) v a → ED K (D :: m) te ((wipe σ vs).set i (some v)) H1 b) :
    ED K m (tLc (iSeq K tl) (gName i) tYes te vs) σ H (.list es) := fun H1 x l Q q =>
  h H1 x l _ fun v H2 x2 dv => by
    obtain ⟨a, xs, rfl, hs, ha⟩ := dv.q hq
    have l2 := l.ex x2
    have turn : ∀ D, H2 D = none → ∀ (j : Nat) (y : V) (H3 : Hp), xs[j]? = some y → Grow K m H2 H3 D (es.take j) →
        wipe ((wipe σ vs).set i (some y)) vs = wipe σ vs ∧ te ((wipe σ vs).set i (some y)) H3 fun z H4 => ∃ acc, H4 D = some (.lst acc) ∧ acc.length < sizeLine ∧ Grow K m H2 (upd H4 D (.lst (acc ++ [z]))) D (es.take (j + 1)) := fun D hD j y H3 hj g => by
      have hj' : j < ds.length := by rw [← ha.length]; exact (List.getElem?_eq_some_iff.mp hj).1
      obtain ⟨b, hb⟩ : ∃ b, ds[j]? = some b := ⟨_, List.getElem?_eq_getElem hj'⟩
      obtain ⟨c, hc⟩ : ∃ c, es[j]? = some c := ⟨_, List.getElem?_eq_getElem (by omega)⟩
      obtain ⟨y', hy', dy⟩ := ha.get hb
      obtain rfl : y' = y := by rw [hj] at hy'; exact (Option.some.inj hy').symm
      have fr : off (D :: m) H2 = off m H2 := off_free hD
      have x3 : Xo (D :: m) H2 H3 := Xo.of g.ex
      have hDH : off m H D = none := by
        cases z : off m H D with
        | none => rfl
        | some o =>
          have z2 := (x.trans (.of x2)) D o z
          rw [off_at (l2.ne hD)] at z2
          rw [hD] at z2
          cases z2
      have hDH2 : H D = none := by
        rw [off_at (l2.ne hD)] at hDH
        exact hDH
      have xx : Xo (D :: m) H H3 := by
        refine Xo.trans (fun b o hb => ?_) x3
        rw [off_free hDH2] at hb
        rw [fr]
        exact (x.trans (.of x2)) b o hb
      refine ⟨hw _, he D j b c _ H3 hDH2 hb hc xx (by rw [← fr] at dy; exact dy.up x3) H3 .refl (g.live l2) _ fun z H4 x4 dz => ?_⟩
      obtain ⟨acc, e1, e2, e3⟩ := g.more hD x4 dz
      refine ⟨acc, e1, ?_, by rw [take_snoc hc]; exact e3⟩
      rw [e2, List.length_take]
      exact Evl.sz_lt (by omega)
    have fin : ∀ D, H2 D = none → ∀ H3, Grow K m H2 H3 D (es.take xs.length) → Q (.ref D) H3 := fun D hD H3 g => by
      rw [ha.length, ← hlen, List.take_length] at g
      exact q _ _ (x2.trans g.ex) (g.done l2 hD)
    refine ⟨a, rfl, ?_⟩
    rcases hs with hs | hs
    · have hs' : SqL K H2 a xs := Evl.ex_l off_le hs
      exact .inl ⟨⟨xs, hs'⟩, fun D hD => lc_list (xs := xs) (fun j H3 => Grow K m H2 H3 D (es.take j)) (Grow.start hD) (fun j H3 _ g => Evl.ex_l g.ex hs') (fun j y H3 hj g => by
        obtain ⟨t1, t2⟩ := turn D hD j y H3 hj g
        exact ⟨t1, t2⟩) (fin D hD)⟩
    · have hs' : SqT K H2 a xs := Evl.ex_t off_le hs
      exact .inr ⟨⟨xs, hs'⟩, fun D hD => lc_tup (xs := xs) (fun j H3 => Grow K m H2 H3 D (es.take j)) (Grow.start hD) (fun j H3 _ g => Evl.ex_t g.ex hs') (fun j y H3 hj g => by
        obtain ⟨t1, t2⟩ := turn D hD j y H3 hj g
        exact ⟨t1, t2⟩) (fin D hD)⟩
/-- [x for x in s if test(x)]; the answers bs tell what is kept -/
def keepBy : List PyData → List Bool → List PyData
  | d :: ds, b :: bs => if b then d :: keepBy ds bs else keepBy ds bs
  | _, _ => []
theorem keepBy_take {ds : List PyData} {bs : List Bool} {j : Nat} {d : PyData} {b : Bool} (h : ds[j]? = some d) (h' : bs[j]? = some b) : keepBy (ds.take (j + 1)) (bs.take (j + 1)) = keepBy (ds.take j) (bs.take j) ++ if b then [d] else [] := by
  induction ds generalizing bs j with
  | nil => simp at h
  | cons x ds ih =>
    cases bs with
    | nil => simp at h'
    | cons c bs =>
      cases j with
      | zero =>
        simp at h h'
        subst h h'
        cases c <;> simp [keepBy]
      | succ j =>
        have := ih (bs := bs) (j := j) (by simpa using h) (by simpa using h')
        simp only [List.take_succ_cons, keepBy]
        cases c
        · simpa using this
        · simp only [if_true, List.cons_append, List.cons.injEq, true_and]
          simpa using this
theorem keepBy_len : ∀ (ds : List PyData) (bs : List Bool), (keepBy ds bs).length ≤ ds.length
  | [], _ => by simp [keepBy]
  | _ :: _, [] => by simp [keepBy]
  | d :: ds, b :: bs => by
    have := keepBy_len ds bs
    unfold keepBy
    split <;> simp <;> omega
theorem ed_lcIf {ds : List PyData} {bs : List Bool} {i : Nat} {vs : List Nat} {tt : TT} (h : ED K m tl σ H d) (hq : IsSeq d ds) (hlen : bs.length = ds.length) (hz : ds.length ≤ 100000)
    (hi : i < (wipe σ vs).length)
    (hw : ∀ v, wipe ((wipe σ vs).set i (some v)) vs = wipe σ vs)
    (he : ∀ (D : Addr) (j : Nat) (a : PyData) (b : Bool) (v : V) (H1 : Hp), H D = none → ds[j]? = some a → bs[j]? = some b → Xo (D :: m) H H1 → Dv K (off (D :: m) H1) v a → EB (D :: m) tt ((wipe σ vs).set i (some v)) H1 b) :
    ED K m (tLc (iSeq K tl) (gName i) tt (tVar i) vs) σ H (.list (keepBy ds bs)) := fun H1 x l Q q =>
  h H1 x l _ fun v H2 x2 dv => by
    obtain ⟨a, xs, rfl, hs, ha⟩ := dv.q hq
    have l2 := l.ex x2
    have turn : ∀ D, H2 D = none → ∀ (j : Nat) (y : V) (H3 : Hp), xs[j]? = some y → Grow K m H2 H3 D (keepBy (ds.take j) (bs.take j)) →
        wipe ((wipe σ vs).set i (some y)) vs = wipe σ vs ∧ tt ((wipe σ vs).set i (some y)) H3 fun b H4 => if b = true then tVar i ((wipe σ vs).set i (some y)) H4 fun z H4 => ∃ acc, H4 D = some (.lst acc) ∧ acc.length < sizeLine ∧ Grow K m H2 (upd H4 D (.lst (acc ++ [z]))) D (keepBy (ds.take (j + 1)) (bs.take (j + 1)))
          else Grow K m H2 H4 D (keepBy (ds.take (j + 1)) (bs.take (j + 1))) := fun D hD j y H3 hj g => by
      have hj' : j < ds.length := by rw [← ha.length]; exact (List.getElem?_eq_some_iff.mp hj).1
      obtain ⟨b, hb⟩ : ∃ b, ds[j]? = some b := ⟨_, List.getElem?_eq_getElem hj'⟩
      obtain ⟨c, hc⟩ : ∃ c, bs[j]? = some c := ⟨_, List.getElem?_eq_getElem (by omega)⟩
      obtain ⟨y', hy', dy⟩ := ha.get hb
      obtain rfl : y' = y := by rw [hj] at hy'; exact (Option.some.inj hy').symm
      have fr : off (D :: m) H2 = off m H2 := off_free hD
      have x3 : Xo (D :: m) H2 H3 := Xo.of g.ex
      have hDH2 : H D = none := by
        cases z : H D with
        | none => rfl
        | some o =>
          have z2 := (x.trans (.of x2)) D o (by rw [off_at (l2.ne hD)]; exact z)
          rw [off_at (l2.ne hD), hD] at z2
          cases z2
      have xx : Xo (D :: m) H H3 := by
        refine Xo.trans (fun b o hb => ?_) x3
        rw [off_free hDH2] at hb
        rw [fr]
        exact (x.trans (.of x2)) b o hb
      have dy3 : Dv K (off (D :: m) H3) y' b := by
        rw [← fr] at dy
        exact dy.up x3
      refine ⟨hw _, he D j b c _ H3 hDH2 hb hc xx dy3 H3 .refl (g.live l2) _ fun H4 x4 => ?_⟩
      rw [keepBy_take hb hc]
      cases c with
      | true =>
        rw [if_pos rfl]
        refine ⟨y', by rw [List.getElem?_set_self hi], ?_⟩
        obtain ⟨acc, e1, e2, e3⟩ := g.more hD x4 (dy3.up (Xo.of x4))
        refine ⟨acc, e1, ?_, e3⟩
        have := keepBy_len (ds.take j) (bs.take j)
        rw [List.length_take] at this
        exact Evl.sz_lt (by omega)
      | false =>
        rw [if_neg Bool.false_ne_true, if_neg Bool.false_ne_true, List.append_nil]
        exact g.step x4
    have fin : ∀ D, H2 D = none → ∀ H3, Grow K m H2 H3 D (keepBy (ds.take xs.length) (bs.take xs.length)) → Q (.ref D) H3 := fun D hD H3 g => by
      rw [ha.length, List.take_length, ← hlen, List.take_length] at g
      exact q _ _ (x2.trans g.ex) (g.done l2 hD)
    refine ⟨a, rfl, ?_⟩
    rcases hs with hs | hs
    · have hs' : SqL K H2 a xs := Evl.ex_l off_le hs
      exact .inl ⟨⟨xs, hs'⟩, fun D hD => lc_list (xs := xs) (fun j H3 => Grow K m H2 H3 D (keepBy (ds.take j) (bs.take j))) (Grow.start hD) (fun j H3 _ g => Evl.ex_l g.ex hs') (fun j y H3 hj g => turn D hD j y H3 hj g) (fin D hD)⟩
    · have hs' : SqT K H2 a xs := Evl.ex_t off_le hs
      exact .inr ⟨⟨xs, hs'⟩, fun D hD => lc_tup (xs := xs) (fun j H3 => Grow K m H2 H3 D (keepBy (ds.take j) (bs.take j))) (Grow.start hD) (fun j H3 _ g => Evl.ex_t g.ex hs') (fun j y H3 hj g => turn D hD j y H3 hj g) (fin D hD)⟩
/-! ### statements that run on -/
def ND (m : List Addr) (t : TS) (σ : L2.St) (H : Hp) (P : L2.St → Hp → Prop) : Prop :=
  ∀ H1, Xo m H H1 → Lv m H1 → ∀ D : Ends, (∀ σ' H2, Ex H1 H2 → P σ' H2 → D.nx σ' H2) → t D σ H1
theorem nd_par {s : TA} {i j : Nat} {e f : PyData} {P : L2.St → Hp → Prop} (h : ES K m s σ H [e, f]) (hu : ∀ v w H1, Xo m H H1 → Lv m H1 → Dv K (off m H1) v e → Dv K (off m H1) w f → P ((σ.set i (some v)).set j (some w)) H1) : ND m (tPar i j s) σ H P := fun H1 x l D q =>
  h H1 x l _ fun vs H2 x2 dv => by
    obtain ⟨v, w, rfl, dv, dw⟩ := dv.two
    exact ⟨v, w, rfl, q _ H2 x2 (hu v w H2 (x.trans (.of x2)) (l.ex x2) dv dw)⟩
/-- while test: body; the rest. J: what holds of the slots, with a measure -/
theorem rd_while {tt : TT} {tb : TS} (J : Nat → L2.St → Hp → Prop) (h0 : ∃ n, J n σ H) (hm : ∀ n σ H1 H2, J n σ H1 → Xo m H1 H2 → J n σ H2)
    (hs : ∀ n σ1 H1, Xo m H H1 → Lv m H1 → J n σ1 H1 → ∃ b, EB m tt σ1 H1 b ∧ (b = true → ND m tb σ1 H1 fun σ2 H2 => ∃ n', n' < n ∧ J n' σ2 H2) ∧ (b = false → RD K m u σ1 H1 d)) :
    RD K m (tSeq (tWhile tt tb) u) σ H d := fun H1 x l D q => by
  refine ⟨fun n σ1 H2 => Ex H1 H2 ∧ J n σ1 H2, ?_, ?_⟩
  · obtain ⟨n, hn⟩ := h0
    exact ⟨n, Ex.refl _, hm _ _ _ _ hn x⟩
  · rintro n σ1 H2 ⟨x2, hJ⟩
    obtain ⟨b, hb, ht, hf⟩ := hs n σ1 H2 (x.trans (.of x2)) (l.ex x2) hJ
    refine hb H2 .refl (l.ex x2) _ fun H3 x3 => ?_
    cases b with
    | true =>
      rw [if_pos rfl]
      refine ⟨fun σ' H' => ∃ n', n' < n ∧ Ex H1 H' ∧ J n' σ' H', fun σ' H' ⟨n', a, b, c⟩ => ⟨n', a, b, c⟩, ht rfl H3 (.of x3) ((l.ex x2).ex x3) _ fun σ' H4 x4 ⟨n', h1, h2⟩ => ⟨n', h1, (x2.trans x3).trans x4, h2⟩⟩
    | false =>
      rw [if_neg Bool.false_ne_true]
      exact hf rfl H3 (.of x3) ((l.ex x2).ex x3) D fun v H4 x4 dv => q v H4 ((x2.trans x3).trans x4) dv
end
end Pc

set_option Elab.async false
set_option linter.all false
set_option maxRecDepth 100000
set_option maxHeartbeats 4000000
/-! PcM: numbers as rationals: their data, bounds, sums and products in lowest form. -/
namespace Pc
open PySem
def numD (q : Rat) : PyData := if q.den = 1 then .int q.num else .tuple [.int q.num, .int (q.den : Int)]
def Bd (k : Nat) (q : Rat) : Prop := q.num.natAbs < 2 ^ k ∧ q.den < 2 ^ k
theorem Bd.mono {j k : Nat} {q : Rat} (h : Bd j q) (e : j ≤ k) : Bd k q :=
  ⟨Nat.lt_of_lt_of_le h.1 (Nat.pow_le_pow_right (by decide) e), Nat.lt_of_lt_of_le h.2 (Nat.pow_le_pow_right (by decide) e)⟩
/-- i over u -/
def fr (i : Int) (u : Nat) : Rat := mkRat i u
theorem fr_norm {i : Int} {u : Nat} (h : u ≠ 0) : fr i u = Rat.normalize i u h := by
  unfold fr mkRat
  rw [dif_neg h]
theorem fr_num {i : Int} {u : Nat} (h : u ≠ 0) : (fr i u).num = i / (Int.gcd i u : Nat) := by
  rw [fr_norm h, Rat.normalize_eq h]
  rfl
theorem fr_den {i : Int} {u : Nat} (h : u ≠ 0) : (fr i u).den = u / Int.gcd i u := by
  rw [fr_norm h, Rat.normalize_eq h]
  rfl
theorem gcd_pos {i : Int} {u : Nat} (h : u ≠ 0) : 0 < Int.gcd i u := Nat.pos_of_ne_zero fun z => h (by
  have := (Int.gcd_eq_zero_iff.mp z).2
  omega)
theorem fr_eq (i : Int) (u : Nat) : fr i u = (i : Rat) / (u : Rat) := by
  unfold fr
  rw [Rat.mkRat_eq_div]
theorem fr_add (a b : Rat) : fr (a.num * b.den + b.num * a.den) (a.den * b.den) = a + b := by
  rw [fr_norm (Nat.mul_ne_zero a.den_nz b.den_nz), Rat.add_def]
theorem fr_mul (a b : Rat) : fr (a.num * b.num) (a.den * b.den) = a * b := by
  rw [fr_norm (Nat.mul_ne_zero a.den_nz b.den_nz), Rat.mul_def]
theorem fr_self (q : Rat) : fr q.num q.den = q := Rat.mkRat_self q
theorem fr_bd {i : Int} {u k : Nat} (h : u ≠ 0) (hi : i.natAbs < 2 ^ k) (hu : u < 2 ^ k) : Bd k (fr i u) := by
  have g := gcd_pos (i := i) h
  refine ⟨?_, ?_⟩
  · rw [fr_num h, Int.natAbs_ediv_of_dvd (Int.gcd_dvd_left ..)]
    exact Nat.lt_of_le_of_lt (Nat.div_le_self _ _) hi
  · rw [fr_den h]
    exact Nat.lt_of_le_of_lt (Nat.div_le_self _ _) hu
theorem mul_lt {a b i j : Nat} (h1 : i < 2 ^ a) (h2 : j < 2 ^ b) : i * j < 2 ^ (a + b) := by
  rw [Nat.pow_add]
  exact Nat.mul_lt_mul'' h1 h2
theorem abs_mul_lt {a b : Nat} {i j : Int} (h1 : i.natAbs < 2 ^ a) (h2 : j.natAbs < 2 ^ b) : (i * j).natAbs < 2 ^ (a + b) := by
  rw [Int.natAbs_mul]
  exact mul_lt h1 h2
theorem abs_add_lt {k : Nat} {i j : Int} (h1 : i.natAbs < 2 ^ k) (h2 : j.natAbs < 2 ^ k) : (i + j).natAbs < 2 ^ (k + 1) := by
  rw [Nat.pow_succ]
  omega
theorem Bd.mul {j k : Nat} {a b : Rat} (h : Bd j a) (h' : Bd k b) : Bd (j + k) (a * b) := by
  rw [← fr_mul]
  exact fr_bd (Nat.mul_ne_zero a.den_nz b.den_nz) (abs_mul_lt h.1 h'.1) (mul_lt h.2 h'.2)
theorem sum_num {j k : Nat} {a b : Rat} (h : Bd j a) (h' : Bd k b) : (a.num * b.den + b.num * a.den).natAbs < 2 ^ (j + k + 1) :=
  abs_add_lt (abs_mul_lt h.1 (by simpa using h'.2)) (by rw [Nat.add_comm j k]; exact abs_mul_lt h'.1 (by simpa using h.2))
theorem Bd.add {j k : Nat} {a b : Rat} (h : Bd j a) (h' : Bd k b) : Bd (j + k + 1) (a + b) := by
  rw [← fr_add]
  exact fr_bd (Nat.mul_ne_zero a.den_nz b.den_nz) (sum_num h h') (Nat.lt_of_lt_of_le (mul_lt h.2 h'.2) (Nat.pow_le_pow_right (by decide) (Nat.le_succ _)))
theorem sh_int {i : Int} : SeqAt.shaped (.int i) = true := by simp [SeqAt.shaped, PyData.canLay0, PyData.depth]
theorem sh_num (q : Rat) : SeqAt.shaped (numD q) = true := by
  unfold numD
  split <;> simp [SeqAt.shaped, PyData.canLay0, PyData.canLayAll0, PyData.depth, PyData.depthAll]
theorem numD_int (i : Int) : numD (i : Rat) = .int i := by
  unfold numD
  rw [if_pos (Rat.den_intCast i), Rat.num_intCast]
theorem numD_inj {p q : Rat} (h : numD p = numD q) : p = q := by
  unfold numD at h
  by_cases hp : p.den = 1 <;> by_cases hq : q.den = 1
  · rw [if_pos hp, if_pos hq] at h
    exact Rat.ext (PyData.int.inj h) (hp.trans hq.symm)
  · rw [if_pos hp, if_neg hq] at h
    cases h
  · rw [if_neg hp, if_pos hq] at h
    cases h
  · rw [if_neg hp, if_neg hq] at h
    injection h with h
    injection h with h1 h2
    injection h2 with h2 _
    injection h1 with h1
    injection h2 with h2
    exact Rat.ext h1 (by omega)
theorem eqv_num (p q : Rat) : PyData.eqv (numD p) (numD q) = decide (p = q) := by
  have e : ∀ p q : Rat, PyData.eqv (numD p) (numD q) = true ↔ p = q := by
    intro p q
    unfold numD
    by_cases hp : p.den = 1 <;> by_cases hq : q.den = 1
    · rw [if_pos hp, if_pos hq]
      simp only [PyData.eqv, beq_iff_eq]
      exact ⟨fun z => Rat.ext z (hp.trans hq.symm), fun z => by rw [z]⟩
    · rw [if_pos hp, if_neg hq]
      simp only [PyData.eqv, Bool.false_eq_true, false_iff]
      rintro rfl
      exact hq hp
    · rw [if_neg hp, if_pos hq]
      simp only [PyData.eqv, Bool.false_eq_true, false_iff]
      rintro rfl
      exact hp hq
    · rw [if_neg hp, if_neg hq]
      simp only [PyData.eqv, PyData.eqvAll, Bool.and_true, Bool.and_eq_true, beq_iff_eq]
      exact ⟨fun z => Rat.ext z.1 (by omega), fun z => by rw [z]; exact ⟨rfl, rfl⟩⟩
  by_cases h : p = q
  · rw [decide_eq_true h]
    exact (e p q).mpr h
  · rw [decide_eq_false h]
    cases z : PyData.eqv (numD p) (numD q)
    · rfl
    · exact absurd ((e p q).mp z) h
end Pc

set_option Elab.async false
set_option linter.all false
set_option maxRecDepth 100000
set_option maxHeartbeats 4000000
/-! PcR: rules of our own at operations: isqrt and ** of greater ints, a for over a range, calls by keywords alone. -/
namespace Pc
open PySem PySem.Spec PyProof.Rows L2
open Evl (Ex)
/-! ### isqrt -/
abbrev sq (n : Nat) : Nat := Float64.isqrt n
theorem sq_spec (n : Nat) : sq n * sq n ≤ n ∧ n < (sq n + 1) * (sq n + 1) := PySem.Float64.isqrt_spec n
theorem sq_one {n r : Nat} (h1 : r * r ≤ n) (h2 : n < (r + 1) * (r + 1)) : r = sq n := by
  have ⟨a, b⟩ := sq_spec n
  rcases Nat.lt_trichotomy r (sq n) with h | h | h
  · have := Nat.mul_le_mul (show r + 1 ≤ sq n from h) (show r + 1 ≤ sq n from h)
    omega
  · exact h
  · have := Nat.mul_le_mul (show sq n + 1 ≤ r from h) (show sq n + 1 ≤ r from h)
    omega
theorem sq_le (n : Nat) : sq n ≤ n := by
  have h := (sq_spec n).1
  rcases Nat.eq_zero_or_pos (sq n) with e | e
  · omega
  · exact Nat.le_trans (Nat.le_mul_of_pos_left _ e) h
def rIsq : List V → Hp → VK → Prop := fun vs H Q => ∃ n : Nat, vs = [.int (n : Int)] ∧ n < 2 ^ 9000 ∧ Q (.int (sq n : Nat)) H
section
variable {X : Cx}
theorem cr_isqrt : CallR X (.builtin "math.isqrt") rIsq := by
  intro pins s σ H vs us Q I r h
  obtain ⟨n, rfl, hn, q⟩ := h
  obtain ⟨u, rfl, t, rfl⟩ := vals1 r
  have hl : ((n : Int)).toNat.log2 < 9000 := by
    rw [Int.toNat_natCast]
    exact PySem.Flt.log2_lt_of (by decide) hn
  exact call_function_meets PySem.W.MGF.kind_isqrt PySem.W.MGF.plain_isqrt PySem.W.MGF.entry_isqrt (PySem.W.MGF.args_isqrt _) (PySem.W.mg_run_isqrt (n : Int) t (by omega) (by omega) (by omega)).meets ⟨.int _, H, I.tok _, ⟨_, rfl⟩, q⟩
/-! ### ** -/
def CPowW (i j : Int) : Prop := i.natAbs < 2 ^ 5000 ∧ 0 ≤ j ∧ j ≤ 100
theorem bits_le (x : Int) : Builtin.Int.intBits x ≤ x.natAbs.log2 + 1 := by
  unfold Builtin.Int.intBits
  split <;> omega
theorem op_powW : OpR X (binaryOp .Pow) (rI CPowW fun i j => .int (i ^ j.toNat)) := opI fun i j _ _ _ _ _ hc q => by
  refine pow_int hc.2.1 ?_ q
  have h1 := PySem.Flt.log2_lt_of (by decide) hc.1
  have h2 := bits_le i
  have h3 : (Builtin.Int.intBits i : Int) ≤ 5000 := by omega
  have h4 : (Builtin.Int.intBits i : Int) * j ≤ 5000 * 100 := Int.mul_le_mul h3 hc.2.2 hc.2.1 (by decide)
  omega
end
section
variable {K : PySem.W.Frag} {m : List Addr} {te ta tb tl : TE} {σ : L2.St} {H : Hp} {d e : PyData} {t u : TS}
theorem ed_isqrt {n : Nat} (h : ED K m te σ H (.int (n : Int))) (hn : n < 2 ^ 9000) : ED K m (tCB rIsq (tCons te tNil)) σ H (.int (sq n : Nat)) := ed_cb (es_1 h) fun vs H1 _ _ dw Q q => by
  obtain ⟨v, rfl, dv⟩ := dw.one
  exact ⟨n, by rw [dv.i], hn, q _ H1 (Ex.refl _) (.int _)⟩
theorem ed_powW {i j : Int} (ha : ED K m ta σ H (.int i)) (hb : ED K m tb σ H (.int j)) (h : CPowW i j) : ED K m (tOp (rI CPowW fun i j => .int (i ^ j.toNat)) ta tb) σ H (.int (i ^ j.toNat)) := ed_I ha hb h fun _ => .int _
theorem ed_bits {i : Int} (ha : ED K m te σ H (.int i)) : ED K m (tBits te) σ H (.int (Builtin.Int.intBits i : Nat)) := fun H1 x l Q q => ha H1 x l _ fun v H2 x2 dv => ⟨i, dv.i, q _ H2 x2 (.int _)⟩
/-! ### statements that run on -/
theorem nd_set {i : Nat} {P : L2.St → Hp → Prop} (h : ED K m te σ H e) (hu : ∀ v H1, Xo m H H1 → Lv m H1 → Dv K (off m H1) v e → P (σ.set i (some v)) H1) : ND m (tAsg te (gName i)) σ H P := fun H1 x l D q =>
  h H1 x l _ fun v H2 x2 dv => q _ H2 x2 (hu v H2 (x.trans (.of x2)) (l.ex x2) dv)
theorem nd_tup2 {i j : Nat} {f : PyData} {P : L2.St → Hp → Prop} (h : ED K m te σ H (.tuple [e, f])) (hu : ∀ v w H1, Xo m H H1 → Lv m H1 → Dv K (off m H1) v e → Dv K (off m H1) w f → P ((σ.set i (some v)).set j (some w)) H1) : ND m (tAsg te (gTup K 2 (gCons (gName i) (gCons (gName j) gNil)))) σ H P := fun H1 x l D q =>
  h H1 x l _ fun v H2 x2 dv => by
    obtain ⟨a, xs, rfl, hs, hv⟩ := dv.t
    obtain ⟨v, w, rfl, dv, dw⟩ := hv.two
    exact ⟨a, _, rfl, Evl.ex_t off_le hs, rfl, v, [w], rfl, w, [], rfl, rfl, q _ H2 x2 (hu v w H2 (x.trans (.of x2)) (l.ex x2) dv dw)⟩
theorem nd_seq {P : L2.St → Hp → Prop} (h : ND m t σ H fun σ1 H1 => ND m u σ1 H1 P) : ND m (tSeq t u) σ H P := fun H1 x l D q =>
  h H1 x l _ fun σ1 H2 x2 hu => hu H2 .refl (l.ex x2) D fun σ2 H3 x3 p => q σ2 H3 (x2.trans x3) p
/-- for name in range(n): body; the rest. J: what holds ahead of turn i -/
theorem rd_range {i n : Nat} {tb : TS} (J : Nat → L2.St → Hp → Prop) (h : ED K m te σ H (.int (n : Int))) (hn : n < 2 ^ 60) (h0 : ∀ H1, Xo m H H1 → J 0 σ H1)
    (hs : ∀ k σ1 H1, k < n → Xo m H H1 → Lv m H1 → J k σ1 H1 → ND m tb (σ1.set i (some (.int (k : Int)))) H1 (J (k + 1)))
    (hd : ∀ σ1 H1, Xo m H H1 → Lv m H1 → J n σ1 H1 → RD K m u σ1 H1 d) : RD K m (tSeq (tFor (iRng1 (tCons te tNil)) (gName i) tb) u) σ H d := fun H1 x l D q =>
  h H1 x l _ fun v H2 x2 dv => by
    refine ⟨(n : Int), by rw [dv.i], by omega, by omega, ?_⟩
    rw [Int.toNat_natCast]
    refine for_range (fun k σ1 H3 => Ex H1 H3 ∧ J k σ1 H3) ⟨x2, h0 H2 (x.trans (.of x2))⟩ (fun k σ1 H3 hk ⟨x3, hj⟩ => ?_) fun σ1 H3 ⟨x3, hj⟩ => hd σ1 H3 (x.trans (.of x3)) (l.ex x3) hj H3 .refl (l.ex x3) D fun v H4 x4 dv => q v H4 (x3.trans x4) dv
    have e : ((0 : Int) + (k : Int)) = (k : Int) := by omega
    rw [e]
    exact hs k σ1 H3 hk (x.trans (.of x3)) (l.ex x3) hj H3 .refl (l.ex x3) _ fun σ2 H4 x4 hj => ⟨x3.trans x4, hj⟩
end
end Pc

set_option Elab.async false
set_option linter.all false
set_option maxRecDepth 100000
set_option maxHeartbeats 4000000
/-! PcT: the text by places (printed by gen.py). -/
namespace Pc
open PySem PySem.Spec PyProof.Rows L2
def topS (i : Nat) : Stmt := PySem.Challenge.pw_typedcurve_k26_whole_places_have_one_for.main.body.getD i (.Pass ⟨0, 0, 0, 0⟩)
abbrev s_is_integer : Stmt := topS 7
abbrev n_is_integer : List Str := ["value"]
abbrev p_is_integer : List Str := ["value"]
theorem sc_is_integer : FnScope n_is_integer p_is_integer (defScope s_is_integer) := ⟨rfl, rfl, rfl, by decide +kernel, rfl, by decide +kernel, by decide +kernel⟩
abbrev s_is_within : Stmt := topS 8
abbrev n_is_within : List Str := ["value", "least", "most"]
abbrev p_is_within : List Str := ["value", "least", "most"]
theorem sc_is_within : FnScope n_is_within p_is_within (defScope s_is_within) := ⟨rfl, rfl, rfl, by decide +kernel, rfl, by decide +kernel, by decide +kernel⟩
abbrev s_is_list : Stmt := topS 9
abbrev n_is_list : List Str := ["value"]
abbrev p_is_list : List Str := ["value"]
theorem sc_is_list : FnScope n_is_list p_is_list (defScope s_is_list) := ⟨rfl, rfl, rfl, by decide +kernel, rfl, by decide +kernel, by decide +kernel⟩
abbrev s_common : Stmt := topS 10
abbrev n_common : List Str := ["one", "other"]
abbrev p_common : List Str := ["one", "other"]
theorem sc_common : FnScope n_common p_common (defScope s_common) := ⟨rfl, rfl, rfl, by decide +kernel, rfl, by decide +kernel, by decide +kernel⟩
abbrev s_is_number : Stmt := topS 11
abbrev n_is_number : List Str := ["value"]
abbrev p_is_number : List Str := ["value"]
theorem sc_is_number : FnScope n_is_number p_is_number (defScope s_is_number) := ⟨rfl, rfl, rfl, by decide +kernel, rfl, by decide +kernel, by decide +kernel⟩
abbrev s_is_point : Stmt := topS 12
abbrev n_is_point : List Str := ["value", "each"]
abbrev p_is_point : List Str := ["value"]
theorem sc_is_point : FnScope n_is_point p_is_point (defScope s_is_point) := ⟨rfl, rfl, rfl, by decide +kernel, rfl, by decide +kernel, by decide +kernel⟩
abbrev s_kept : Stmt := topS 13
abbrev n_kept : List Str := ["number"]
abbrev p_kept : List Str := ["number"]
theorem sc_kept : FnScope n_kept p_kept (defScope s_kept) := ⟨rfl, rfl, rfl, by decide +kernel, rfl, by decide +kernel, by decide +kernel⟩
abbrev s_kept_row : Stmt := topS 14
abbrev n_kept_row : List Str := ["row", "each"]
abbrev p_kept_row : List Str := ["row"]
theorem sc_kept_row : FnScope n_kept_row p_kept_row (defScope s_kept_row) := ⟨rfl, rfl, rfl, by decide +kernel, rfl, by decide +kernel, by decide +kernel⟩
abbrev s_need_point : Stmt := topS 15
abbrev n_need_point : List Str := ["value", "part"]
abbrev p_need_point : List Str := ["value", "part"]
theorem sc_need_point : FnScope n_need_point p_need_point (defScope s_need_point) := ⟨rfl, rfl, rfl, by decide +kernel, rfl, by decide +kernel, by decide +kernel⟩
abbrev s_halves : Stmt := topS 17
abbrev n_halves : List Str := ["number"]
abbrev p_halves : List Str := ["number"]
theorem sc_halves : FnScope n_halves p_halves (defScope s_halves) := ⟨rfl, rfl, rfl, by decide +kernel, rfl, by decide +kernel, by decide +kernel⟩
abbrev s_lowest : Stmt := topS 18
abbrev n_lowest : List Str := ["above", "under", "part"]
abbrev p_lowest : List Str := ["above", "under"]
theorem sc_lowest : FnScope n_lowest p_lowest (defScope s_lowest) := ⟨rfl, rfl, rfl, by decide +kernel, rfl, by decide +kernel, by decide +kernel⟩
abbrev s_added : Stmt := topS 19
abbrev n_added : List Str := ["one", "other", "above", "under", "its", "below_it"]
abbrev p_added : List Str := ["one", "other"]
theorem sc_added : FnScope n_added p_added (defScope s_added) := ⟨rfl, rfl, rfl, by decide +kernel, rfl, by decide +kernel, by decide +kernel⟩
abbrev s_product : Stmt := topS 20
abbrev n_product : List Str := ["one", "other", "above", "under", "its", "below_it"]
abbrev p_product : List Str := ["one", "other"]
theorem sc_product : FnScope n_product p_product (defScope s_product) := ⟨rfl, rfl, rfl, by decide +kernel, rfl, by decide +kernel, by decide +kernel⟩
abbrev s_sign_in : Stmt := topS 21
abbrev n_sign_in : List Str := ["number", "above"]
abbrev p_sign_in : List Str := ["number"]
theorem sc_sign_in : FnScope n_sign_in p_sign_in (defScope s_sign_in) := ⟨rfl, rfl, rfl, by decide +kernel, rfl, by decide +kernel, by decide +kernel⟩
abbrev s_square : Stmt := topS 22
abbrev n_square : List Str := ["number"]
abbrev p_square : List Str := ["number"]
theorem sc_square : FnScope n_square p_square (defScope s_square) := ⟨rfl, rfl, rfl, by decide +kernel, rfl, by decide +kernel, by decide +kernel⟩
abbrev s_root_in : Stmt := topS 23
abbrev n_root_in : List Str := ["number", "above", "under", "high", "low"]
abbrev p_root_in : List Str := ["number"]
theorem sc_root_in : FnScope n_root_in p_root_in (defScope s_root_in) := ⟨rfl, rfl, rfl, by decide +kernel, rfl, by decide +kernel, by decide +kernel⟩
abbrev s_is_place : Stmt := topS 26
abbrev n_is_place : List Str := ["value", "point", "aside", "root", "each"]
abbrev p_is_place : List Str := ["value"]
theorem sc_is_place : FnScope n_is_place p_is_place (defScope s_is_place) := ⟨rfl, rfl, rfl, by decide +kernel, rfl, by decide +kernel, by decide +kernel⟩
abbrev s_kept_place : Stmt := topS 27
abbrev n_kept_place : List Str := ["place"]
abbrev p_kept_place : List Str := ["place"]
theorem sc_kept_place : FnScope n_kept_place p_kept_place (defScope s_kept_place) := ⟨rfl, rfl, rfl, by decide +kernel, rfl, by decide +kernel, by decide +kernel⟩
abbrev s_need_place : Stmt := topS 28
abbrev n_need_place : List Str := ["value", "part"]
abbrev p_need_place : List Str := ["value", "part"]
theorem sc_need_place : FnScope n_need_place p_need_place (defScope s_need_place) := ⟨rfl, rfl, rfl, by decide +kernel, rfl, by decide +kernel, by decide +kernel⟩
abbrev s_shifted : Stmt := topS 29
abbrev n_shifted : List Str := ["point", "other"]
abbrev p_shifted : List Str := ["point", "other"]
theorem sc_shifted : FnScope n_shifted p_shifted (defScope s_shifted) := ⟨rfl, rfl, rfl, by decide +kernel, rfl, by decide +kernel, by decide +kernel⟩
abbrev s_grown : Stmt := topS 30
abbrev n_grown : List Str := ["point", "number"]
abbrev p_grown : List Str := ["point", "number"]
theorem sc_grown : FnScope n_grown p_grown (defScope s_grown) := ⟨rfl, rfl, rfl, by decide +kernel, rfl, by decide +kernel, by decide +kernel⟩
abbrev s_placed : Stmt := topS 31
abbrev n_placed : List Str := ["point", "aside", "root", "whole", "part", "x", "y", "above", "under", "its", "below_it"]
abbrev p_placed : List Str := ["point", "aside", "root"]
theorem sc_placed : FnScope n_placed p_placed (defScope s_placed) := ⟨rfl, rfl, rfl, by decide +kernel, rfl, by decide +kernel, by decide +kernel⟩
abbrev s_place_of : Stmt := topS 32
abbrev n_place_of : List Str := ["point", "aside", "root", "mine", "more"]
abbrev p_place_of : List Str := ["point", "aside", "root"]
theorem sc_place_of : FnScope n_place_of p_place_of (defScope s_place_of) := ⟨rfl, rfl, rfl, by decide +kernel, rfl, by decide +kernel, by decide +kernel⟩
abbrev s_as_point : Stmt := topS 33
abbrev n_as_point : List Str := ["place", "mine"]
abbrev p_as_point : List Str := ["place"]
theorem sc_as_point : FnScope n_as_point p_as_point (defScope s_as_point) := ⟨rfl, rfl, rfl, by decide +kernel, rfl, by decide +kernel, by decide +kernel⟩
abbrev s_law_moor : Stmt := topS 35
abbrev n_law_moor : List Str := ["_law_script", "_law_cell"]
abbrev p_law_moor : List Str := ["_law_script"]
theorem sc_law_moor : FnScope n_law_moor p_law_moor (defScope s_law_moor) := ⟨rfl, rfl, rfl, by decide +kernel, rfl, by decide +kernel, by decide +kernel⟩
abbrev s_law_heath : Stmt := topS 36
abbrev n_law_heath : List Str := ["_law_moor_here", "_law_many", "_law_turn", "_law_cell", "_law_mixed", "_law_left"]
abbrev p_law_heath : List Str := ["_law_moor_here", "_law_many"]
theorem sc_law_heath : FnScope n_law_heath p_law_heath (defScope s_law_heath) := ⟨rfl, rfl, rfl, by decide +kernel, rfl, by decide +kernel, by decide +kernel⟩
abbrev s_law_pick : Stmt := topS 37
abbrev n_law_pick : List Str := ["_law_moor_here", "_law_some"]
abbrev p_law_pick : List Str := ["_law_moor_here", "_law_some"]
theorem sc_law_pick : FnScope n_law_pick p_law_pick (defScope s_law_pick) := ⟨rfl, rfl, rfl, by decide +kernel, rfl, by decide +kernel, by decide +kernel⟩
abbrev s_law_lowest : Stmt := topS 38
abbrev n_law_lowest : List Str := ["_law_above", "_law_under", "_law_part", "_law_one", "_law_other"]
abbrev p_law_lowest : List Str := ["_law_above", "_law_under"]
theorem sc_law_lowest : FnScope n_law_lowest p_law_lowest (defScope s_law_lowest) := ⟨rfl, rfl, rfl, by decide +kernel, rfl, by decide +kernel, by decide +kernel⟩
abbrev s_law_halves : Stmt := topS 39
abbrev n_law_halves : List Str := ["_law_number"]
abbrev p_law_halves : List Str := ["_law_number"]
theorem sc_law_halves : FnScope n_law_halves p_law_halves (defScope s_law_halves) := ⟨rfl, rfl, rfl, by decide +kernel, rfl, by decide +kernel, by decide +kernel⟩
abbrev s_law_plus : Stmt := topS 40
abbrev n_law_plus : List Str := ["_law_one", "_law_other", "_law_mine", "_law_its"]
abbrev p_law_plus : List Str := ["_law_one", "_law_other"]
theorem sc_law_plus : FnScope n_law_plus p_law_plus (defScope s_law_plus) := ⟨rfl, rfl, rfl, by decide +kernel, rfl, by decide +kernel, by decide +kernel⟩
abbrev s_law_times : Stmt := topS 41
abbrev n_law_times : List Str := ["_law_one", "_law_other", "_law_mine", "_law_its"]
abbrev p_law_times : List Str := ["_law_one", "_law_other"]
theorem sc_law_times : FnScope n_law_times p_law_times (defScope s_law_times) := ⟨rfl, rfl, rfl, by decide +kernel, rfl, by decide +kernel, by decide +kernel⟩
abbrev s_law_whole_root : Stmt := topS 42
abbrev n_law_whole_root : List Str := ["_law_number", "_law_turn", "_law_low", "_law_high", "_law_half"]
abbrev p_law_whole_root : List Str := ["_law_number"]
theorem sc_law_whole_root : FnScope n_law_whole_root p_law_whole_root (defScope s_law_whole_root) := ⟨rfl, rfl, rfl, by decide +kernel, rfl, by decide +kernel, by decide +kernel⟩
abbrev s_law_root : Stmt := topS 43
abbrev n_law_root : List Str := ["_law_number", "_law_pair", "_law_roots"]
abbrev p_law_root : List Str := ["_law_number"]
theorem sc_law_root : FnScope n_law_root p_law_root (defScope s_law_root) := ⟨rfl, rfl, rfl, by decide +kernel, rfl, by decide +kernel, by decide +kernel⟩
abbrev s_law_form : Stmt := topS 44
abbrev n_law_form : List Str := ["_law_point", "_law_aside", "_law_root_here", "_law_whole", "_law_part", "_law_more", "_law_factor", "_law_one", "_law_other", "_law_left", "_law_right", "_law_under", "_law_mine", "_law_its"]
abbrev p_law_form : List Str := ["_law_point", "_law_aside", "_law_root_here"]
theorem sc_law_form : FnScope n_law_form p_law_form (defScope s_law_form) := ⟨rfl, rfl, rfl, by decide +kernel, rfl, by decide +kernel, by decide +kernel⟩
abbrev s_law_small : Stmt := topS 45
abbrev n_law_small : List Str := ["_law_moor_here", "_law_way"]
abbrev p_law_small : List Str := ["_law_moor_here"]
theorem sc_law_small : FnScope n_law_small p_law_small (defScope s_law_small) := ⟨rfl, rfl, rfl, by decide +kernel, rfl, by decide +kernel, by decide +kernel⟩
abbrev s_law_heard : Stmt := topS 46
abbrev n_law_heard : List Str := ["_law_ask", "_law_caught", "error"]
abbrev p_law_heard : List Str := ["_law_ask"]
theorem sc_law_heard : FnScope n_law_heard p_law_heard (defScope s_law_heard) := ⟨rfl, rfl, rfl, by decide +kernel, rfl, by decide +kernel, by decide +kernel⟩
abbrev s_law_said : Stmt := topS 47
abbrev n_law_said : List Str := ["_law_ask", "_law_caught", "_law_kinds", "_law_words", "_law_word", "_law_is_so"]
abbrev p_law_said : List Str := ["_law_ask"]
theorem sc_law_said : FnScope n_law_said p_law_said (defScope s_law_said) := ⟨rfl, rfl, rfl, by decide +kernel, rfl, by decide +kernel, by decide +kernel⟩
abbrev s_law_root_drawn : Stmt := topS 48
abbrev n_law_root_drawn : List Str := ["_law_moor_here", "_law_way", "_law_some", "_law_half"]
abbrev p_law_root_drawn : List Str := ["_law_moor_here"]
theorem sc_law_root_drawn : FnScope n_law_root_drawn p_law_root_drawn (defScope s_law_root_drawn) := ⟨rfl, rfl, rfl, by decide +kernel, rfl, by decide +kernel, by decide +kernel⟩
abbrev s_law_is_number : Stmt := topS 49
abbrev n_law_is_number : List Str := ["_law_value", "_law_each"]
abbrev p_law_is_number : List Str := ["_law_value"]
theorem sc_law_is_number : FnScope n_law_is_number p_law_is_number (defScope s_law_is_number) := ⟨rfl, rfl, rfl, by decide +kernel, rfl, by decide +kernel, by decide +kernel⟩
abbrev s_law_is_place : Stmt := topS 50
abbrev n_law_is_place : List Str := ["_law_value", "_law_pair", "_law_root_here", "_law_point", "_law_each"]
abbrev p_law_is_place : List Str := ["_law_value"]
theorem sc_law_is_place : FnScope n_law_is_place p_law_is_place (defScope s_law_is_place) := ⟨rfl, rfl, rfl, by decide +kernel, rfl, by decide +kernel, by decide +kernel⟩
abbrev s_law_bent : Stmt := topS 51
abbrev n_law_bent : List Str := ["_law_moor_here", "_law_place", "_law_way", "_law_point", "_law_aside", "_law_root_here"]
abbrev p_law_bent : List Str := ["_law_moor_here", "_law_place"]
theorem sc_law_bent : FnScope n_law_bent p_law_bent (defScope s_law_bent) := ⟨rfl, rfl, rfl, by decide +kernel, rfl, by decide +kernel, by decide +kernel⟩
abbrev s_law : Stmt := topS 52
abbrev n_law : List Str := ["_law_script", "_law_moor_here", "_law_turn", "_law_heard_here", "_law_by", "_law_other", "_law_lap", "_law_odd", "_law_none", "_law_low", "_law_point", "_law_aside", "_law_root_here", "_law_due", "_law_told", "_law_value", "_law_each"]
abbrev p_law : List Str := ["_law_script"]
theorem sc_law : FnScope n_law p_law (defScope s_law) := ⟨rfl, rfl, rfl, by decide +kernel, rfl, by decide +kernel, by decide +kernel⟩
/-- where things stand -/
structure Ad where
  is_integer : Addr
  d_is_integer : FuncData
  is_within : Addr
  d_is_within : FuncData
  is_list : Addr
  d_is_list : FuncData
  common : Addr
  d_common : FuncData
  is_number : Addr
  d_is_number : FuncData
  is_point : Addr
  d_is_point : FuncData
  kept : Addr
  d_kept : FuncData
  kept_row : Addr
  d_kept_row : FuncData
  need_point : Addr
  d_need_point : FuncData
  halves : Addr
  d_halves : FuncData
  lowest : Addr
  d_lowest : FuncData
  added : Addr
  d_added : FuncData
  product : Addr
  d_product : FuncData
  sign_in : Addr
  d_sign_in : FuncData
  square : Addr
  d_square : FuncData
  root_in : Addr
  d_root_in : FuncData
  is_place : Addr
  d_is_place : FuncData
  kept_place : Addr
  d_kept_place : FuncData
  need_place : Addr
  d_need_place : FuncData
  shifted : Addr
  d_shifted : FuncData
  grown : Addr
  d_grown : FuncData
  placed : Addr
  d_placed : FuncData
  place_of : Addr
  d_place_of : FuncData
  as_point : Addr
  d_as_point : FuncData
  law_moor : Addr
  d_law_moor : FuncData
  law_heath : Addr
  d_law_heath : FuncData
  law_pick : Addr
  d_law_pick : FuncData
  law_lowest : Addr
  d_law_lowest : FuncData
  law_halves : Addr
  d_law_halves : FuncData
  law_plus : Addr
  d_law_plus : FuncData
  law_times : Addr
  d_law_times : FuncData
  law_whole_root : Addr
  d_law_whole_root : FuncData
  law_root : Addr
  d_law_root : FuncData
  law_form : Addr
  d_law_form : FuncData
  law_small : Addr
  d_law_small : FuncData
  law_heard : Addr
  d_law_heard : FuncData
  law_said : Addr
  d_law_said : FuncData
  law_root_drawn : Addr
  d_law_root_drawn : FuncData
  law_is_number : Addr
  d_law_is_number : FuncData
  law_is_place : Addr
  d_law_is_place : FuncData
  law_bent : Addr
  d_law_bent : FuncData
  law : Addr
  d_law : FuncData
  CurveError : Addr
  BadNumber : Addr
  BadPoint : Addr
  BadPlace : Addr
  NONE : Addr
structure Gf (K : PySem.W.Frag) (mg : Str → Option Value) (x : Str) (st : Stmt) (f : Addr) (fd : FuncData) : Prop where
  fn : Fun K x x st f fd
  gl : mg x = some (.ref f)
structure Txt (K : PySem.W.Frag) (mg : Str → Option Value) (a : Ad) : Prop where
  f_is_integer : Gf K mg "is_integer" s_is_integer a.is_integer a.d_is_integer
  f_is_within : Gf K mg "is_within" s_is_within a.is_within a.d_is_within
  f_is_list : Gf K mg "is_list" s_is_list a.is_list a.d_is_list
  f_common : Gf K mg "common" s_common a.common a.d_common
  f_is_number : Gf K mg "is_number" s_is_number a.is_number a.d_is_number
  f_is_point : Gf K mg "is_point" s_is_point a.is_point a.d_is_point
  f_kept : Gf K mg "kept" s_kept a.kept a.d_kept
  f_kept_row : Gf K mg "kept_row" s_kept_row a.kept_row a.d_kept_row
  f_need_point : Gf K mg "need_point" s_need_point a.need_point a.d_need_point
  f_halves : Gf K mg "halves" s_halves a.halves a.d_halves
  f_lowest : Gf K mg "lowest" s_lowest a.lowest a.d_lowest
  f_added : Gf K mg "added" s_added a.added a.d_added
  f_product : Gf K mg "product" s_product a.product a.d_product
  f_sign_in : Gf K mg "sign_in" s_sign_in a.sign_in a.d_sign_in
  f_square : Gf K mg "square" s_square a.square a.d_square
  f_root_in : Gf K mg "root_in" s_root_in a.root_in a.d_root_in
  f_is_place : Gf K mg "is_place" s_is_place a.is_place a.d_is_place
  f_kept_place : Gf K mg "kept_place" s_kept_place a.kept_place a.d_kept_place
  f_need_place : Gf K mg "need_place" s_need_place a.need_place a.d_need_place
  f_shifted : Gf K mg "shifted" s_shifted a.shifted a.d_shifted
  f_grown : Gf K mg "grown" s_grown a.grown a.d_grown
  f_placed : Gf K mg "placed" s_placed a.placed a.d_placed
  f_place_of : Gf K mg "place_of" s_place_of a.place_of a.d_place_of
  f_as_point : Gf K mg "as_point" s_as_point a.as_point a.d_as_point
  f_law_moor : Gf K mg "_law_moor" s_law_moor a.law_moor a.d_law_moor
  f_law_heath : Gf K mg "_law_heath" s_law_heath a.law_heath a.d_law_heath
  f_law_pick : Gf K mg "_law_pick" s_law_pick a.law_pick a.d_law_pick
  f_law_lowest : Gf K mg "_law_lowest" s_law_lowest a.law_lowest a.d_law_lowest
  f_law_halves : Gf K mg "_law_halves" s_law_halves a.law_halves a.d_law_halves
  f_law_plus : Gf K mg "_law_plus" s_law_plus a.law_plus a.d_law_plus
  f_law_times : Gf K mg "_law_times" s_law_times a.law_times a.d_law_times
  f_law_whole_root : Gf K mg "_law_whole_root" s_law_whole_root a.law_whole_root a.d_law_whole_root
  f_law_root : Gf K mg "_law_root" s_law_root a.law_root a.d_law_root
  f_law_form : Gf K mg "_law_form" s_law_form a.law_form a.d_law_form
  f_law_small : Gf K mg "_law_small" s_law_small a.law_small a.d_law_small
  f_law_heard : Gf K mg "_law_heard" s_law_heard a.law_heard a.d_law_heard
  f_law_said : Gf K mg "_law_said" s_law_said a.law_said a.d_law_said
  f_law_root_drawn : Gf K mg "_law_root_drawn" s_law_root_drawn a.law_root_drawn a.d_law_root_drawn
  f_law_is_number : Gf K mg "_law_is_number" s_law_is_number a.law_is_number a.d_law_is_number
  f_law_is_place : Gf K mg "_law_is_place" s_law_is_place a.law_is_place a.d_law_is_place
  f_law_bent : Gf K mg "_law_bent" s_law_bent a.law_bent a.d_law_bent
  f_law : Gf K mg "law" s_law a.law a.d_law
  g_CurveError : mg "CurveError" = some (.ref a.CurveError)
  g_BadNumber : mg "BadNumber" = some (.ref a.BadNumber)
  g_BadPoint : mg "BadPoint" = some (.ref a.BadPoint)
  g_BadPlace : mg "BadPlace" = some (.ref a.BadPlace)
  b_abs : mg "abs" = none
  b_all : mg "all" = none
  b_bool : mg "bool" = none
  b_int : mg "int" = none
  b_isinstance : mg "isinstance" = none
  b_len : mg "len" = none
  b_list : mg "list" = none
  b_range : mg "range" = none
  b_repr : mg "repr" = none
  b_tuple : mg "tuple" = none
  b_zip : mg "zip" = none
  isqrt : mg "isqrt" = some (.builtin "math.isqrt")
  NONE : mg "NONE" = some (.ref a.NONE)
  noneT : SqT K (fun _ => none) a.NONE [.int 0, .int 0]
section
variable {K : PySem.W.Frag} {mg : Str → Option Value} {a : Ad}
theorem Txt.b_is_integer (T : Txt K mg a) : Binds K a.d_is_integer p_is_integer [] := T.f_is_integer.fn.binds fun _ _ _ _ _ _ us hl => match us, hl with | [_], _ => rfl
theorem Txt.b_is_within (T : Txt K mg a) : Binds K a.d_is_within p_is_within [] := T.f_is_within.fn.binds fun _ _ _ _ _ _ us hl => match us, hl with | [_, _, _], _ => rfl
theorem Txt.b_is_list (T : Txt K mg a) : Binds K a.d_is_list p_is_list [] := T.f_is_list.fn.binds fun _ _ _ _ _ _ us hl => match us, hl with | [_], _ => rfl
theorem Txt.b_common (T : Txt K mg a) : Binds K a.d_common p_common [] := T.f_common.fn.binds fun _ _ _ _ _ _ us hl => match us, hl with | [_, _], _ => rfl
theorem Txt.b_is_number (T : Txt K mg a) : Binds K a.d_is_number p_is_number [] := T.f_is_number.fn.binds fun _ _ _ _ _ _ us hl => match us, hl with | [_], _ => rfl
theorem Txt.b_is_point (T : Txt K mg a) : Binds K a.d_is_point p_is_point [] := T.f_is_point.fn.binds fun _ _ _ _ _ _ us hl => match us, hl with | [_], _ => rfl
theorem Txt.b_kept (T : Txt K mg a) : Binds K a.d_kept p_kept [] := T.f_kept.fn.binds fun _ _ _ _ _ _ us hl => match us, hl with | [_], _ => rfl
theorem Txt.b_kept_row (T : Txt K mg a) : Binds K a.d_kept_row p_kept_row [] := T.f_kept_row.fn.binds fun _ _ _ _ _ _ us hl => match us, hl with | [_], _ => rfl
theorem Txt.b_need_point (T : Txt K mg a) : Binds K a.d_need_point p_need_point [] := T.f_need_point.fn.binds fun _ _ _ _ _ _ us hl => match us, hl with | [_, _], _ => rfl
theorem Txt.b_halves (T : Txt K mg a) : Binds K a.d_halves p_halves [] := T.f_halves.fn.binds fun _ _ _ _ _ _ us hl => match us, hl with | [_], _ => rfl
theorem Txt.b_lowest (T : Txt K mg a) : Binds K a.d_lowest p_lowest [] := T.f_lowest.fn.binds fun _ _ _ _ _ _ us hl => match us, hl with | [_, _], _ => rfl
theorem Txt.b_added (T : Txt K mg a) : Binds K a.d_added p_added [] := T.f_added.fn.binds fun _ _ _ _ _ _ us hl => match us, hl with | [_, _], _ => rfl
theorem Txt.b_product (T : Txt K mg a) : Binds K a.d_product p_product [] := T.f_product.fn.binds fun _ _ _ _ _ _ us hl => match us, hl with | [_, _], _ => rfl
theorem Txt.b_sign_in (T : Txt K mg a) : Binds K a.d_sign_in p_sign_in [] := T.f_sign_in.fn.binds fun _ _ _ _ _ _ us hl => match us, hl with | [_], _ => rfl
theorem Txt.b_square (T : Txt K mg a) : Binds K a.d_square p_square [] := T.f_square.fn.binds fun _ _ _ _ _ _ us hl => match us, hl with | [_], _ => rfl
theorem Txt.b_root_in (T : Txt K mg a) : Binds K a.d_root_in p_root_in [] := T.f_root_in.fn.binds fun _ _ _ _ _ _ us hl => match us, hl with | [_], _ => rfl
theorem Txt.b_is_place (T : Txt K mg a) : Binds K a.d_is_place p_is_place [] := T.f_is_place.fn.binds fun _ _ _ _ _ _ us hl => match us, hl with | [_], _ => rfl
theorem Txt.b_kept_place (T : Txt K mg a) : Binds K a.d_kept_place p_kept_place [] := T.f_kept_place.fn.binds fun _ _ _ _ _ _ us hl => match us, hl with | [_], _ => rfl
theorem Txt.b_need_place (T : Txt K mg a) : Binds K a.d_need_place p_need_place [] := T.f_need_place.fn.binds fun _ _ _ _ _ _ us hl => match us, hl with | [_, _], _ => rfl
theorem Txt.b_shifted (T : Txt K mg a) : Binds K a.d_shifted p_shifted [] := T.f_shifted.fn.binds fun _ _ _ _ _ _ us hl => match us, hl with | [_, _], _ => rfl
theorem Txt.b_grown (T : Txt K mg a) : Binds K a.d_grown p_grown [] := T.f_grown.fn.binds fun _ _ _ _ _ _ us hl => match us, hl with | [_, _], _ => rfl
theorem Txt.b_placed (T : Txt K mg a) : Binds K a.d_placed p_placed [] := T.f_placed.fn.binds fun _ _ _ _ _ _ us hl => match us, hl with | [_, _, _], _ => rfl
theorem Txt.b_place_of (T : Txt K mg a) : Binds K a.d_place_of p_place_of [] := T.f_place_of.fn.binds fun _ _ _ _ _ _ us hl => match us, hl with | [_, _, _], _ => rfl
theorem Txt.b_as_point (T : Txt K mg a) : Binds K a.d_as_point p_as_point [] := T.f_as_point.fn.binds fun _ _ _ _ _ _ us hl => match us, hl with | [_], _ => rfl
theorem Txt.b_law_moor (T : Txt K mg a) : Binds K a.d_law_moor p_law_moor [] := T.f_law_moor.fn.binds fun _ _ _ _ _ _ us hl => match us, hl with | [_], _ => rfl
theorem Txt.b_law_heath (T : Txt K mg a) : Binds K a.d_law_heath p_law_heath [] := T.f_law_heath.fn.binds fun _ _ _ _ _ _ us hl => match us, hl with | [_, _], _ => rfl
theorem Txt.b_law_pick (T : Txt K mg a) : Binds K a.d_law_pick p_law_pick [] := T.f_law_pick.fn.binds fun _ _ _ _ _ _ us hl => match us, hl with | [_, _], _ => rfl
theorem Txt.b_law_lowest (T : Txt K mg a) : Binds K a.d_law_lowest p_law_lowest [] := T.f_law_lowest.fn.binds fun _ _ _ _ _ _ us hl => match us, hl with | [_, _], _ => rfl
theorem Txt.b_law_halves (T : Txt K mg a) : Binds K a.d_law_halves p_law_halves [] := T.f_law_halves.fn.binds fun _ _ _ _ _ _ us hl => match us, hl with | [_], _ => rfl
theorem Txt.b_law_plus (T : Txt K mg a) : Binds K a.d_law_plus p_law_plus [] := T.f_law_plus.fn.binds fun _ _ _ _ _ _ us hl => match us, hl with | [_, _], _ => rfl
theorem Txt.b_law_times (T : Txt K mg a) : Binds K a.d_law_times p_law_times [] := T.f_law_times.fn.binds fun _ _ _ _ _ _ us hl => match us, hl with | [_, _], _ => rfl
theorem Txt.b_law_whole_root (T : Txt K mg a) : Binds K a.d_law_whole_root p_law_whole_root [] := T.f_law_whole_root.fn.binds fun _ _ _ _ _ _ us hl => match us, hl with | [_], _ => rfl
theorem Txt.b_law_root (T : Txt K mg a) : Binds K a.d_law_root p_law_root [] := T.f_law_root.fn.binds fun _ _ _ _ _ _ us hl => match us, hl with | [_], _ => rfl
theorem Txt.b_law_form (T : Txt K mg a) : Binds K a.d_law_form p_law_form [] := T.f_law_form.fn.binds fun _ _ _ _ _ _ us hl => match us, hl with | [_, _, _], _ => rfl
theorem Txt.b_law_small (T : Txt K mg a) : Binds K a.d_law_small p_law_small [] := T.f_law_small.fn.binds fun _ _ _ _ _ _ us hl => match us, hl with | [_], _ => rfl
theorem Txt.b_law_heard (T : Txt K mg a) : Binds K a.d_law_heard p_law_heard [] := T.f_law_heard.fn.binds fun _ _ _ _ _ _ us hl => match us, hl with | [_], _ => rfl
theorem Txt.b_law_said (T : Txt K mg a) : Binds K a.d_law_said p_law_said [] := T.f_law_said.fn.binds fun _ _ _ _ _ _ us hl => match us, hl with | [_], _ => rfl
theorem Txt.b_law_root_drawn (T : Txt K mg a) : Binds K a.d_law_root_drawn p_law_root_drawn [] := T.f_law_root_drawn.fn.binds fun _ _ _ _ _ _ us hl => match us, hl with | [_], _ => rfl
theorem Txt.b_law_is_number (T : Txt K mg a) : Binds K a.d_law_is_number p_law_is_number [] := T.f_law_is_number.fn.binds fun _ _ _ _ _ _ us hl => match us, hl with | [_], _ => rfl
theorem Txt.b_law_is_place (T : Txt K mg a) : Binds K a.d_law_is_place p_law_is_place [] := T.f_law_is_place.fn.binds fun _ _ _ _ _ _ us hl => match us, hl with | [_], _ => rfl
theorem Txt.b_law_bent (T : Txt K mg a) : Binds K a.d_law_bent p_law_bent [] := T.f_law_bent.fn.binds fun _ _ _ _ _ _ us hl => match us, hl with | [_, _], _ => rfl
theorem Txt.b_law (T : Txt K mg a) : Binds K a.d_law p_law [] := T.f_law.fn.binds fun _ _ _ _ _ _ us hl => match us, hl with | [_], _ => rfl
end
end Pc
namespace Pc
open PySem PySem.Spec PyProof.Rows L2
open Evl (Ex)
/-- a def that hands data back: its body's derivation with the reading -/
theorem okD {P : Program} {w : World} {K : PySem.W.Frag} {mg : Str → Option Value} {base : Heap} {x qual : Str} {st : Stmt} {f : Addr} {fd : FuncData} {N ps : List Str} {k : Nat} {R : List PyData → PyData → Prop} (F : Fun K x qual st f fd) (S : FnScope N ps (defScope st))
    (len : ∀ ds d, R ds d → ds.length = ps.length)
    (body : ∀ (cdv : Value) (A : Around) (outer : List Env) (s : Shared) (H : Hp) (E : XK), Room k (A.deeper (envOfC qual (defScope st) s.heap.objs.size f cdv)) →
      ∃ t, PSs (cxOf CX0 P w K mg base N qual (defScope st) f cdv A outer s H E).nox (defBody st) t ∧ ∀ m vs ds d, Lv m H → DvAll K (off m H) vs ds → R ds d → RD K m t (start N vs) H d) :
    FnOk P w K mg base CX0 (k + 1) f fd ps (spD K R) := F.ok S (fun vs H Q E ⟨m, ds, d, l, dv, r, _⟩ => by rw [dv.length, len ds d r]) fun cdv A outer s H vs Q E hr ⟨m, ds, d, l, dv, r, q⟩ => by
  obtain ⟨t, h1, h2⟩ := body cdv A outer s H E hr
  exact ⟨t, h1, h2 m vs ds d l dv r H .refl l _ q⟩
end Pc

set_option Elab.async false
set_option linter.all false
set_option maxRecDepth 100000
set_option maxHeartbeats 4000000
/-! PcD1: what any value is (first part of the program's defs). -/
namespace Pc
open PySem PySem.Spec PyProof.Rows L2
open Evl (Ex)
/-- an integer, no truth -/
def isZ (d : PyData) : Bool := isI d && !isB d
def iv : PyData → Int
  | .int i => i
  | _ => 0
theorem isZ_int {d : PyData} (h : isZ d = true) : d = .int (iv d) := by
  cases d <;> first | rfl | exact absurd h Bool.noConfusion
section
variable {P : Program} {w : World} {K : PySem.W.Frag} {mg : Str → Option Value} {base : Heap} {a : Ad}
def RisInteger (ds : List PyData) (d : PyData) : Prop := ∃ x, ds = [x] ∧ d = .bool (isZ x)
theorem ok_is_integer (T : Txt K mg a) : FnOk P w K mg base CX0 1 a.is_integer a.d_is_integer p_is_integer (spD K RisInteger) :=
  okD T.f_is_integer.fn sc_is_integer (by rintro _ _ ⟨x, rfl, rfl⟩; rfl) fun cdv A outer s H E hr => ⟨_, (pss_one (ps_ret (pe_and (pe_callB call_isi rfl T.b_isinstance (by decide +kernel) (pa_cons (pv 0) (pa_cons (pe_bltn (v := .ty "int") rfl T.b_int (by decide +kernel) rfl) pa_nil))) (pe_one (pe_not (pe_callB call_isi rfl T.b_isinstance (by decide +kernel) (pa_cons (pv 0) (pa_cons (pe_bltn (v := .ty "bool") rfl T.b_bool (by decide +kernel) rfl) pa_nil)))))))), fun m vs ds d l dv r => by
    obtain ⟨x, rfl, rfl⟩ := r
    obtain ⟨v, rfl, h⟩ := dv.one
    exact rd_ret (ed_and (ed_isI (ed_var rfl h)) fun _ => ed_not (ed_isB (ed_var rfl h)))⟩
def RisWithin (ds : List PyData) (d : PyData) : Prop := ∃ x, ds = [x, .int 2, .none] ∧ d = .bool (isZ x && decide (2 ≤ iv x))
theorem ok_is_within (T : Txt K mg a) : FnOk P w K mg base CX0 2 a.is_within a.d_is_within p_is_within (spD K RisWithin) :=
  okD T.f_is_within.fn sc_is_within (by rintro _ _ ⟨x, rfl, rfl⟩; rfl) fun cdv A outer s H E hr => ⟨_, (pss_cons (ps_if (pt_not (pt_val (pe_call (ok_is_integer T) (hr.mono (by decide)) rfl T.f_is_integer.gl T.f_is_integer.fn.kp T.b_is_integer .nil pass0 (pa_cons (pv 0) pa_nil)))) (pss_one (ps_ret pe_bl)) pss_nil)
      (pss_one (ps_ret (pe_and (pe_or (pe_cmpR op_isN' (pv 1) pe_non (nomark _)) (pe_one (pe_cmpR op_le (pv 1) (pv 0) (nomark _)))) (pe_one (pe_or (pe_cmpR op_isN' (pv 2) pe_non (nomark _)) (pe_one (pe_cmpR op_le (pv 0) (pv 2) (nomark _))))))))), fun m vs ds d l dv r => by
    obtain ⟨x, rfl, rfl⟩ := r
    obtain ⟨v, v1, v2, rfl, h, h1, h2⟩ := dv.three
    refine rd_ifr (eb_not (eb_B (ed_call (es_1 (ed_var rfl h)) ⟨x, rfl, rfl⟩))) (fun z => ?_) fun z => ?_
    · have z' : isZ x = false := by simpa using z
      rw [z']
      exact rd_ret ed_bl
    · have z' : isZ x = true := by simpa using z
      have e := isZ_int z'
      rw [z', Bool.true_and]
      rw [e] at h
      refine rd_ret ((ed_and (b := true) (ed_or (b := decide (2 ≤ iv x)) (ed_isN (ed_var rfl h1)) fun _ => ed_le (ed_var rfl h1) (ed_var rfl h)) fun _ => (ed_or (b := true) (ed_isN (ed_var rfl h2)) fun q => nomatch q).is rfl).is ?_)
      simp [isN]⟩
def RisList (ds : List PyData) (d : PyData) : Prop := ∃ x, ds = [x] ∧ d = .bool (isS x)
theorem ok_is_list (T : Txt K mg a) : FnOk P w K mg base CX0 1 a.is_list a.d_is_list p_is_list (spD K RisList) :=
  okD T.f_is_list.fn sc_is_list (by rintro _ _ ⟨x, rfl, rfl⟩; rfl) fun cdv A outer s H E hr => ⟨_, (pss_one (ps_ret (pe_callB call_isiT rfl T.b_isinstance (by decide +kernel) (pa_cons (pv 0) (pa_cons (pe_tup (pa_cons (pe_bltn (v := .ty "list") rfl T.b_list (by decide +kernel) rfl) (pa_cons (pe_bltn (v := .ty "tuple") rfl T.b_tuple (by decide +kernel) rfl) pa_nil))) pa_nil))))), fun m vs ds d l dv r => by
    obtain ⟨x, rfl, rfl⟩ := r
    obtain ⟨v, rfl, h⟩ := dv.one
    exact rd_ret (ed_isS (ed_var rfl h))⟩
def Rcommon (ds : List PyData) (d : PyData) : Prop := ∃ i j : Int, ds = [.int i, .int j] ∧ d = .int (Int.gcd i j : Nat)
/-- the states of the two slots in Euclid's while -/
def Euc (g : Nat) (rest : List (Option V)) (n : Nat) (σ : L2.St) (_ : Hp) : Prop := ∃ x y : Nat, σ = some (.int x) :: some (.int y) :: rest ∧ Nat.gcd x y = g ∧ y = n
theorem euc_step {x y g : Nat} (hy : 0 < y) (h : Nat.gcd x y = g) : Nat.gcd y (x % y) = g ∧ x % y < y := ⟨by rw [← h, Nat.gcd_comm x y, Nat.gcd_rec y x, Nat.gcd_comm], Nat.mod_lt _ hy⟩
theorem ok_common (T : Txt K mg a) : FnOk P w K mg base CX0 1 a.common a.d_common p_common (spD K Rcommon) :=
  okD T.f_common.fn sc_common (by rintro _ _ ⟨i, j, rfl, rfl⟩; rfl) fun cdv A outer s H E hr => ⟨_, (pss_cons (ps_par (i := 0) (j := 1) (by rfl) sc_common.nd rfl rfl (by decide) rfl rfl (pa_cons (pe_callB cr_abs rfl T.b_abs (by decide +kernel) (pa_cons (pv 0) pa_nil)) (pa_cons (pe_callB cr_abs rfl T.b_abs (by decide +kernel) (pa_cons (pv 1) pa_nil)) pa_nil)) (by rfl))
      (pss_cons (ps_while PassesOwn.never (pt_cmpR op_gt (pv 1) pe_int (nomark _)) (pss_one (ps_par (i := 0) (j := 1) (by rfl) sc_common.nd rfl rfl (by decide) rfl rfl (pa_cons (pv 1) (pa_cons (pe_op op_mod (pv 0) (pv 1)) pa_nil)) (by rfl))))
      (pss_one (ps_ret (pv 0))))), fun m vs ds d l dv r => by
    obtain ⟨i, j, rfl, rfl⟩ := r
    obtain ⟨v, v1, rfl, h, h1⟩ := dv.two
    refine rd_par (es_2 (ed_abs (ed_var rfl h)) (ed_abs (ed_var rfl h1))) fun v w H1 x1 l1 hv hw => ?_
    refine rd_while (Euc (Int.gcd i j) []) ⟨_, i.natAbs, j.natAbs, by rw [hv.i, hw.i] <;> rfl, rfl, rfl⟩ (fun n σ H1 H2 h _ => h) fun n σ1 H2 x2 l2 hJ => ?_
    obtain ⟨x, y, rfl, hg, rfl⟩ := hJ
    have hx : Dv K (off m H2) (.int x) (.int x) := .int _
    have hy : Dv K (off m H2) (.int y) (.int y) := .int _
    refine ⟨_, eb_test (ed_gt (ed_var rfl hy) ed_int), fun z => ?_, fun z => ?_⟩
    · have z' : 0 < y := by simpa using z
      refine nd_par (es_2 (ed_var rfl hy) (ed_mod (ed_var rfl hx) (ed_var rfl hy) (by omega))) fun v w H3 x3 l3 hv hw => ?_
      obtain ⟨h1, h2⟩ := euc_step z' hg
      exact ⟨x % y, h2, y, x % y, by rw [hv.i, hw.i] <;> rfl, h1, rfl⟩
    · have z' : y = 0 := by simpa using z
      subst z'
      rw [Nat.gcd_zero_right] at hg
      exact rd_ret ((ed_var rfl hx).is (by rw [hg]))⟩
end
end Pc

set_option Elab.async false
set_option linter.all false
set_option maxRecDepth 100000
set_option maxHeartbeats 4000000
/-! PcD2: what any value is (numbers, points), numbers reckoned with: the program's defs. -/
namespace Pc
open PySem PySem.Spec PyProof.Rows L2
open Evl (Ex)
def sqD : PyData → List PyData
  | .list xs => xs
  | .tuple xs => xs
  | _ => []
theorem seq_of {d : PyData} (h : isS d = true) : IsSeq d (sqD d) := by
  cases d <;> first | exact .lst _ | exact .tup _ | exact absurd h Bool.noConfusion
theorem IsSeq.s {d : PyData} {ds : List PyData} (h : IsSeq d ds) : isS d = true := by cases h <;> rfl
theorem IsSeq.e {d : PyData} {ds : List PyData} (h : IsSeq d ds) : sqD d = ds := by cases h <;> rfl
theorem sqD_no {d : PyData} (h : isS d = false) : sqD d = [] := by
  cases d <;> first | rfl | exact absurd h Bool.noConfusion
/-- a pair of integers in its one form -/
def prB : List PyData → Bool
  | [p, q] => isZ p && (isZ q && decide (2 ≤ iv q)) && decide (Int.gcd (iv p) (iv q) = 1)
  | _ => false
def isNum (d : PyData) : Bool := isZ d || prB (sqD d)
def ptB : List PyData → Bool
  | [p, q] => isNum p && isNum q
  | _ => false
def isPt (d : PyData) : Bool := ptB (sqD d)
def kp : PyData → PyData
  | .list xs => .tuple xs
  | d => d
theorem len2 {ds : List PyData} (h : ds.length = 2) : ∃ p q, ds = [p, q] := by
  match ds, h with
  | [p, q], _ => exact ⟨p, q, rfl⟩
theorem prB_len {ds : List PyData} (h : ¬ ds.length = 2) : prB ds = false := by
  match ds with
  | [] | [_] | _ :: _ :: _ :: _ => rfl
  | [p, q] => exact absurd rfl h
theorem ptB_len {ds : List PyData} (h : ¬ ds.length = 2) : ptB ds = false := by
  match ds with
  | [] | [_] | _ :: _ :: _ :: _ => rfl
  | [p, q] => exact absurd rfl h
theorem eqv_int (i j : Int) : PyData.eqv (.int i) (.int j) = (i == j) := by simp only [PyData.eqv]
section
variable {P : Program} {w : World} {K : PySem.W.Frag} {mg : Str → Option Value} {base : Heap} {a : Ad}
def RisNumber (ds : List PyData) (d : PyData) : Prop := ∃ x, ds = [x] ∧ d = .bool (isNum x)
theorem ok_is_number (T : Txt K mg a) : FnOk P w K mg base CX0 3 a.is_number a.d_is_number p_is_number (spD K RisNumber) :=
  okD T.f_is_number.fn sc_is_number (by rintro _ _ ⟨x, rfl, rfl⟩; rfl) fun cdv A outer s H E hr => ⟨_, (pss_cons (ps_if (pt_val (pe_call (ok_is_integer T) (hr.mono (by decide)) rfl T.f_is_integer.gl T.f_is_integer.fn.kp T.b_is_integer .nil pass0 (pa_cons (pv 0) pa_nil))) (pss_one (ps_ret pe_bl)) pss_nil)
      (pss_cons (ps_if (PW.pt (pw_or (pt_not (pt_val (pe_call (ok_is_list T) (hr.mono (by decide)) rfl T.f_is_list.gl T.f_is_list.fn.kp T.b_is_list .nil pass0 (pa_cons (pv 0) pa_nil)))) (pw_or (pt_cmpR (op_neD hr.units) (pe_callB cr_len rfl T.b_len (by decide +kernel) (pa_cons (pv 0) pa_nil)) pe_int (nomark _)) (pw_or1 (pt_not (pt_val (pe_call (ok_is_integer T) (hr.mono (by decide)) rfl T.f_is_integer.gl T.f_is_integer.fn.kp T.b_is_integer .nil pass0 (pa_cons (pe_ix ix_seq (pv 0) pe_int (fun _ _ => rfl)) pa_nil)))))))) (pss_one (ps_ret pe_bl)) pss_nil)
      (pss_one (ps_ret (pe_and (pe_call (ok_is_within T) (hr.mono (by decide)) rfl T.f_is_within.gl T.f_is_within.fn.kp T.b_is_within .nil pass0 (pa_cons (pe_ix ix_seq (pv 0) pe_int (fun _ _ => rfl)) (pa_cons pe_int (pa_cons pe_non pa_nil)))) (pe_one (pe_cmpR (op_eqD hr.units) (pe_call (ok_common T) (hr.mono (by decide)) rfl T.f_common.gl T.f_common.fn.kp T.b_common .nil pass0 (pa_cons (pe_ix ix_seq (pv 0) pe_int (fun _ _ => rfl)) (pa_cons (pe_ix ix_seq (pv 0) pe_int (fun _ _ => rfl)) pa_nil))) pe_int (nomark _)))))))), fun m vs ds d l dv r => by
    obtain ⟨x, rfl, rfl⟩ := r
    obtain ⟨v, rfl, h⟩ := dv.one
    refine rd_ifr (eb_B (ed_call (es_1 (ed_var rfl h)) ⟨x, rfl, rfl⟩)) (fun z => rd_ret (ed_bl.is (by unfold isNum; rw [z]; rfl))) fun z => ?_
    have e : isNum x = prB (sqD x) := by unfold isNum; rw [z, Bool.false_or]
    rw [e]
    cases hS : isS x with
    | false =>
      rw [sqD_no hS]
      exact rd_ifr (b := true) ((eb_or (b := true) (eb_not (eb_B (ed_call (es_1 (ed_var rfl h)) ⟨x, rfl, rfl⟩))) fun y => by rw [hS] at y; cases y).is (by rw [hS]; rfl)) (fun _ => rd_ret ed_bl) fun y => nomatch y
    | true =>
      have hq := seq_of hS
      by_cases hl : (sqD x).length = 2
      · obtain ⟨p, q, hpq⟩ := len2 hl
        rw [hpq] at hq ⊢
        have e0 : ED K m (tOp (rIx K) (tVar 0) (tC (.int 0))) (start n_is_number [v]) H p := ed_ix (ed_var rfl h) hq ed_int (i := 0) rfl
        have e1 : ED K m (tOp (rIx K) (tVar 0) (tC (.int 1))) (start n_is_number [v]) H q := ed_ix (ed_var rfl h) hq ed_int (i := 1) rfl
        refine rd_ifr (b := !isZ p) ((eb_or (eb_not (eb_B (ed_call (es_1 (ed_var rfl h)) ⟨x, rfl, rfl⟩))) fun _ => eb_or (eb_test (ed_ne (ed_len (ed_var rfl h) hq) ed_int sh_int sh_int)) fun _ => eb_not (eb_B (ed_call (es_1 e0) ⟨p, rfl, rfl⟩))).is (by rw [hS, eqv_int]; rfl)) (fun y => ?_) fun y => ?_
        · have y' : isZ p = false := by simpa using y
          exact rd_ret (ed_bl.is (by simp [prB, y']))
        · have y' : isZ p = true := by simpa using y
          refine rd_ret ((ed_and (ed_call (es_3 e1 ed_int ed_non) ⟨q, rfl, rfl⟩) fun zq => ?_).is (by rw [prB, y', Bool.true_and]))
          have zq' : isZ q = true := (Bool.and_eq_true_iff.mp zq).1
          exact (ed_eq (ed_call (es_2 e0 e1) ⟨iv p, iv q, by rw [← isZ_int y', ← isZ_int zq'], rfl⟩) ed_int sh_int sh_int).is (by rw [eqv_int]; congr 1; rw [Bool.eq_iff_iff]; simp only [beq_iff_eq, decide_eq_true_eq]; omega)
      · refine rd_ifr (b := true) ((eb_or (eb_not (eb_B (ed_call (es_1 (ed_var rfl h)) ⟨x, rfl, rfl⟩))) fun _ => eb_or (b := true) (eb_test (ed_ne (ed_len (ed_var rfl h) hq) ed_int sh_int sh_int)) fun y => ?_).is ?_) (fun _ => rd_ret (ed_bl.is (by rw [prB_len hl]))) fun y => nomatch y
        · rw [eqv_int] at y
          simp only [Bool.not_eq_false', beq_iff_eq] at y
          omega
        · rw [Bool.or_true, Bool.or_true]⟩
def RisPoint (ds : List PyData) (d : PyData) : Prop := ∃ x, ds = [x] ∧ d = .bool (isPt x)
theorem ok_is_point (T : Txt K mg a) : FnOk P w K mg base CX0 4 a.is_point a.d_is_point p_is_point (spD K RisPoint) :=
  okD T.f_is_point.fn sc_is_point (by rintro _ _ ⟨x, rfl, rfl⟩; rfl) fun cdv A outer s H E hr => ⟨_, (pss_one (ps_ret (pe_and (pe_call (ok_is_list T) (hr.mono (by decide)) rfl T.f_is_list.gl T.f_is_list.fn.kp T.b_is_list .nil pass0 (pa_cons (pv 0) pa_nil)) (pe_and (pe_cmpR (op_eqD hr.units) (pe_callB cr_len rfl T.b_len (by decide +kernel) (pa_cons (pv 0) pa_nil)) pe_int (nomark _)) (pe_one (pe_callB (cr_all rfl) rfl T.b_all (by decide +kernel) (pa_cons (pe_lc (own := [("each", 1)]) (g := (gName 1)) (tt := tYes) rfl sc_is_point.nd (pi_seq (pv 0)) (blkOk_by (own := [("each", 1)]) (N := n_is_point) (sc := defScope s_is_point) (by decide +kernel)) (fun _ _ _ _ _ => (pg_name (i := 1) sc_is_point.nd rfl (Or.inl rfl))) (fun _ _ _ _ _ => pts_nil) (fun _ _ _ _ _ => (pe_call (ok_is_number T) (hr.mono (by decide)) rfl T.f_is_number.gl T.f_is_number.fn.kp T.b_is_number .nil pass0 (pa_cons (pv 1) pa_nil)))) pa_nil))))))), fun m vs ds d l dv r => by
    obtain ⟨x, rfl, rfl⟩ := r
    obtain ⟨v, rfl, h⟩ := dv.one
    cases hS : isS x with
    | false => exact rd_ret ((ed_and (b := true) (ed_call (es_1 (ed_var rfl h)) ⟨x, rfl, rfl⟩) fun y => by rw [hS] at y; cases y).is (by rw [hS, isPt, sqD_no hS]; rfl))
    | true =>
      have hq := seq_of hS
      by_cases hl : (sqD x).length = 2
      · obtain ⟨p, q, hpq⟩ := len2 hl
        have e : isPt x = (isNum p && isNum q) := by rw [isPt, hpq]; rfl
        rw [hpq] at hq
        refine rd_ret ((ed_and (ed_call (es_1 (ed_var rfl h)) ⟨x, rfl, rfl⟩) fun _ => ed_and (ed_eq (ed_len (ed_var rfl h) hq) ed_int sh_int sh_int) fun _ => ed_all (bs := [isNum p, isNum q]) ?_).is (by rw [e, hS, eqv_int]; simp))
        refine ed_lc (es := [.bool (isNum p), .bool (isNum q)]) (ed_var rfl h) hq rfl (by simp) (fun v => rfl) fun D j b c v H1 hD hb hc x1 dv => ed_call (es_1 (ed_var rfl dv)) ?_
        match j, hb, hc with
        | 0, hb, hc => exact ⟨b, rfl, by cases hb; cases hc; rfl⟩
        | 1, hb, hc => exact ⟨b, rfl, by cases hb; cases hc; rfl⟩
        | j + 2, hb, hc => cases hb
      · refine rd_ret ((ed_and (ed_call (es_1 (ed_var rfl h)) ⟨x, rfl, rfl⟩) fun _ => ed_and (b := true) (ed_eq (ed_len (ed_var rfl h) hq) ed_int sh_int sh_int) fun y => ?_).is ?_)
        · rw [eqv_int, beq_iff_eq] at y
          omega
        · rw [isPt, ptB_len hl, eqv_int, hS, Bool.true_and, Bool.and_true]
          congr 1
          rw [beq_eq_false_iff_ne]
          omega⟩
def Rkept (ds : List PyData) (d : PyData) : Prop := ∃ x, ds = [x] ∧ d = kp x
theorem ok_kept (T : Txt K mg a) : FnOk P w K mg base CX0 1 a.kept a.d_kept p_kept (spD K Rkept) :=
  okD T.f_kept.fn sc_kept (by rintro _ _ ⟨x, rfl, rfl⟩; rfl) fun cdv A outer s H E hr => ⟨_, (pss_one (ps_ret (pe_ifExp (pt_val (pe_callB call_isiT rfl T.b_isinstance (by decide +kernel) (pa_cons (pv 0) (pa_cons (pe_tup (pa_cons (pe_bltn (v := .ty "list") rfl T.b_list (by decide +kernel) rfl) (pa_cons (pe_bltn (v := .ty "tuple") rfl T.b_tuple (by decide +kernel) rfl) pa_nil))) pa_nil)))) (pe_callTy cr_tup rfl T.b_tuple (by decide +kernel) (pa_cons (pv 0) pa_nil)) (pv 0)))), fun m vs ds d l dv r => by
    obtain ⟨x, rfl, rfl⟩ := r
    obtain ⟨v, rfl, h⟩ := dv.one
    refine rd_ret (ed_if (eb_B (ed_isS (ed_var rfl h))) (fun z => ?_) fun z => ?_)
    · refine (ed_tupC (ed_var rfl h) (seq_of z)).is ?_
      cases x <;> first | rfl | exact absurd z Bool.noConfusion
    · refine (ed_var rfl h).is ?_
      cases x <;> first | rfl | exact absurd z Bool.noConfusion⟩
def RkeptRow (ds : List PyData) (d : PyData) : Prop := ∃ x xs, ds = [x] ∧ IsSeq x xs ∧ xs.length ≤ 1000 ∧ d = .tuple (xs.map kp)
theorem map_get {f : PyData → PyData} {xs : List PyData} {j : Nat} {b c : PyData} (hb : xs[j]? = some b) (hc : (xs.map f)[j]? = some c) : c = f b := by
  rw [List.getElem?_map, hb] at hc
  exact (Option.some.inj hc).symm
theorem ok_kept_row (T : Txt K mg a) : FnOk P w K mg base CX0 2 a.kept_row a.d_kept_row p_kept_row (spD K RkeptRow) :=
  okD T.f_kept_row.fn sc_kept_row (by rintro _ _ ⟨x, xs, rfl, _, _, rfl⟩; rfl) fun cdv A outer s H E hr => ⟨_, (pss_one (ps_ret (pe_callTy cr_tup rfl T.b_tuple (by decide +kernel) (pa_cons (pe_lc (own := [("each", 1)]) (g := (gName 1)) (tt := tYes) rfl sc_kept_row.nd (pi_seq (pv 0)) (blkOk_by (own := [("each", 1)]) (N := n_kept_row) (sc := defScope s_kept_row) (by decide +kernel)) (fun _ _ _ _ _ => (pg_name (i := 1) sc_kept_row.nd rfl (Or.inl rfl))) (fun _ _ _ _ _ => pts_nil) (fun _ _ _ _ _ => (pe_call (ok_kept T) (hr.mono (by decide)) rfl T.f_kept.gl T.f_kept.fn.kp T.b_kept .nil pass0 (pa_cons (pv 1) pa_nil)))) pa_nil)))), fun m vs ds d l dv r => by
    obtain ⟨x, xs, rfl, hq, hl, rfl⟩ := r
    obtain ⟨v, rfl, h⟩ := dv.one
    refine rd_ret (ed_tupC (ed_lc (es := xs.map kp) (ed_var rfl h) hq (by rw [List.length_map]) (by omega) (fun v => rfl) fun D j b c v H1 hD hb hc x1 dv => ed_call (es_1 (ed_var rfl dv)) ⟨b, rfl, map_get hb hc⟩) (.lst _))⟩
/-! ### numbers -/
def Rhalves (ds : List PyData) (d : PyData) : Prop := ∃ q : Rat, ds = [numD q] ∧ d = .tuple [.int q.num, .int (q.den : Int)]
theorem numD_I (q : Rat) : isI (numD q) = decide (q.den = 1) := by
  unfold numD
  split
  · rename_i h
    rw [decide_eq_true h]; rfl
  · rename_i h
    rw [decide_eq_false h]; rfl
theorem numD_i {q : Rat} (h : q.den = 1) : numD q = .int q.num := if_pos h
theorem numD_p {q : Rat} (h : ¬ q.den = 1) : numD q = .tuple [.int q.num, .int (q.den : Int)] := if_neg h
theorem ok_halves (T : Txt K mg a) : FnOk P w K mg base CX0 1 a.halves a.d_halves p_halves (spD K Rhalves) :=
  okD T.f_halves.fn sc_halves (by rintro _ _ ⟨x, rfl, rfl⟩; rfl) fun cdv A outer s H E hr => ⟨_, (pss_one (ps_ret (pe_ifExp (pt_val (pe_callB call_isi rfl T.b_isinstance (by decide +kernel) (pa_cons (pv 0) (pa_cons (pe_bltn (v := .ty "int") rfl T.b_int (by decide +kernel) rfl) pa_nil)))) (pe_tup (pa_cons (pv 0) (pa_cons pe_int pa_nil))) (pe_tup (pa_cons (pe_ix ix_seq (pv 0) pe_int (fun _ _ => rfl)) (pa_cons (pe_ix ix_seq (pv 0) pe_int (fun _ _ => rfl)) pa_nil)))))), fun m vs ds d l dv r => by
    obtain ⟨q, rfl, rfl⟩ := r
    obtain ⟨v, rfl, h⟩ := dv.one
    refine rd_ret (ed_if (eb_B (ed_isI (ed_var rfl h))) (fun z => ?_) fun z => ?_)
    · rw [numD_I, decide_eq_true_eq] at z
      rw [numD_i z] at h
      exact (ed_tup (es_2 (ed_var rfl h) ed_int)).is (by rw [z]; rfl)
    · rw [numD_I, decide_eq_false_iff_not] at z
      rw [numD_p z] at h
      exact ed_tup (es_2 (ed_ix (ed_var rfl h) (.tup _) (ed_int (i := 0)) (i := 0) rfl) (ed_ix (ed_var rfl h) (.tup _) (ed_int (i := 1)) (i := 1) rfl))⟩
/-- i over u in its one form -/
def Rlowest (ds : List PyData) (d : PyData) : Prop := ∃ (i : Int) (u : Nat), u ≠ 0 ∧ i.natAbs < 2 ^ 8000 ∧ u < 2 ^ 8000 ∧ ds = [.int i, .int (u : Int)] ∧ d = numD (fr i u)
theorem low_div {i : Int} {u : Nat} (h : u ≠ 0) : ((u : Int) / (Int.gcd i u : Nat)) = ((fr i u).den : Int) := by rw [fr_den h]; omega
theorem low_fit {i : Int} {u : Nat} (h : u ≠ 0) (hu : u < 2 ^ 8000) : CDivW i (Int.gcd i u : Nat) := by
  refine wide_div (by have := gcd_pos (i := i) h; omega) (b := 8000) ?_ (by decide) (by decide)
  have : Int.gcd i u ≤ u := by
    have := Nat.le_of_dvd (Nat.pos_of_ne_zero h) (Int.natCast_dvd_natCast.mp (Int.gcd_dvd_right i (u : Int)))
    exact this
  rw [Int.natAbs_natCast]
  omega
theorem ok_lowest (T : Txt K mg a) : FnOk P w K mg base CX0 2 a.lowest a.d_lowest p_lowest (spD K Rlowest) :=
  okD T.f_lowest.fn sc_lowest (by rintro _ _ ⟨i, u, _, _, _, rfl, rfl⟩; rfl) fun cdv A outer s H E hr => ⟨_, (pss_cons (ps_set (i := 2) sc_lowest.nd rfl (Or.inl rfl) (pe_call (ok_common T) (hr.mono (by decide)) rfl T.f_common.gl T.f_common.fn.kp T.b_common .nil pass0 (pa_cons (pv 0) (pa_cons (pv 1) pa_nil))))
      (pss_cons (ps_set (i := 2) sc_lowest.nd rfl (Or.inl rfl) (pe_ifExp (pt_cmpR op_lt (pv 1) pe_int (nomark _)) (pe_un un_neg (pv 2)) (pv 2)))
      (pss_cons (ps_par (i := 0) (j := 1) (by rfl) sc_lowest.nd rfl rfl (by decide) rfl rfl (pa_cons (pe_op op_fdivW (pv 0) (pv 2)) (pa_cons (pe_op op_fdivW (pv 1) (pv 2)) pa_nil)) (by rfl))
      (pss_one (ps_ret (pe_ifExp (pt_cmpR (op_eqD hr.units) (pv 1) pe_int (nomark _)) (pv 0) (pe_tup (pa_cons (pv 0) (pa_cons (pv 1) pa_nil))))))))), fun m vs ds d l dv r => by
    obtain ⟨i, u, h0, hi, hu, rfl, rfl⟩ := r
    obtain ⟨v, v1, rfl, h, h1⟩ := dv.two
    refine rd_set (ed_call (es_2 (ed_var rfl h) (ed_var rfl h1)) ⟨i, u, rfl, rfl⟩) fun v2 H1 x1 l1 h2 => ?_
    have h := h.up x1
    have h1 := h1.up x1
    refine rd_set (ed_if (b := false) ((eb_test (ed_lt (ed_var rfl h1) ed_int)).is (by rw [decide_eq_false_iff_not]; omega)) (fun z => nomatch z) fun _ => ed_var rfl h2) fun v3 H2 x2 l2 h3 => ?_
    have h := h.up x2
    have h1 := h1.up x2
    refine rd_par (es_2 (ed_div (ed_var rfl h) (ed_var rfl h3) (low_fit h0 hu)) (ed_div (ed_var rfl h1) (ed_var rfl h3) (low_fit h0 hu))) fun v4 v5 H3 x3 l3 h4 h5 => ?_
    rw [← fr_num h0] at h4
    rw [low_div h0] at h5
    refine rd_ret (ed_if (eb_test (ed_eq (ed_var rfl h5) ed_int sh_int sh_int)) (fun z => ?_) fun z => ?_)
    · rw [eqv_int, beq_iff_eq] at z
      exact (ed_var rfl h4).is (numD_i (by omega)).symm
    · rw [eqv_int, beq_eq_false_iff_ne] at z
      exact (ed_tup (es_2 (ed_var rfl h4) (ed_var rfl h5))).is (numD_p (by omega)).symm⟩
/-- a number's halves fit for a product -/
theorem mulW {a b : Nat} {i j : Int} (hi : i.natAbs < 2 ^ a) (hj : j.natAbs < 2 ^ b) (h : a + b < 900000) : CMulW i j :=
  wide_mul (a := a + 1) (b := b + 1) (Nat.lt_of_lt_of_le hi (Nat.pow_le_pow_right (by decide) (by omega))) (Nat.lt_of_lt_of_le hj (Nat.pow_le_pow_right (by decide) (by omega))) (by omega) (by omega) (by omega)
theorem Bd.d {k : Nat} {q : Rat} (h : Bd k q) : (q.den : Int).natAbs < 2 ^ k := by simpa using h.2
def Radded (ds : List PyData) (d : PyData) : Prop := ∃ (p q : Rat), Bd 3900 p ∧ Bd 3900 q ∧ ds = [numD p, numD q] ∧ d = numD (p + q)
theorem lt8000 {n j : Nat} (h : n < 2 ^ j) (hj : j ≤ 8000) : n < 2 ^ 8000 := Nat.lt_of_lt_of_le h (Nat.pow_le_pow_right (by decide) hj)
theorem low_of {i : Int} {u j : Nat} {q : Rat} (h0 : u ≠ 0) (hi : i.natAbs < 2 ^ j) (hu : u < 2 ^ j) (hj : j ≤ 8000) (e : fr i u = q) : Rlowest [.int i, .int (u : Int)] (numD q) := ⟨i, u, h0, lt8000 hi hj, lt8000 hu hj, rfl, by rw [e]⟩
theorem ok_added (T : Txt K mg a) : FnOk P w K mg base CX0 3 a.added a.d_added p_added (spD K Radded) :=
  okD T.f_added.fn sc_added (by rintro _ _ ⟨p, q, _, _, rfl, rfl⟩; rfl) fun cdv A outer s H E hr => ⟨_, (pss_cons (ps_asg (pe_tup (pa_cons (pe_call (ok_halves T) (hr.mono (by decide)) rfl T.f_halves.gl T.f_halves.fn.kp T.b_halves .nil pass0 (pa_cons (pv 0) pa_nil)) (pa_cons (pe_call (ok_halves T) (hr.mono (by decide)) rfl T.f_halves.gl T.f_halves.fn.kp T.b_halves .nil pass0 (pa_cons (pv 1) pa_nil)) pa_nil))) (pg_tup rfl (pgs_cons (pg_tup rfl (pgs_cons (pg_name (i := 2) sc_added.nd rfl (Or.inl rfl)) (pgs_cons (pg_name (i := 3) sc_added.nd rfl (Or.inl rfl)) pgs_nil))) (pgs_cons (pg_tup rfl (pgs_cons (pg_name (i := 4) sc_added.nd rfl (Or.inl rfl)) (pgs_cons (pg_name (i := 5) sc_added.nd rfl (Or.inl rfl)) pgs_nil))) pgs_nil))))
      (pss_one (ps_ret (pe_call (ok_lowest T) (hr.mono (by decide)) rfl T.f_lowest.gl T.f_lowest.fn.kp T.b_lowest .nil pass0 (pa_cons (pe_op op_add (pe_op op_mulW (pv 2) (pv 5)) (pe_op op_mulW (pv 4) (pv 3))) (pa_cons (pe_op op_mulW (pv 3) (pv 5)) pa_nil)))))), fun m vs ds d l dv r => by
    obtain ⟨p, q, hp, hq, rfl, rfl⟩ := r
    obtain ⟨v, v1, rfl, h, h1⟩ := dv.two
    refine rd_tup4 (ed_tup (es_2 (ed_call (es_1 (ed_var rfl h)) ⟨p, rfl, rfl⟩) (ed_call (es_1 (ed_var rfl h1)) ⟨q, rfl, rfl⟩))) fun w1 w2 w3 w4 H1 x1 l1 k1 k2 k3 k4 => ?_
    refine rd_ret (ed_call (es_2 (ed_add (ed_mul (ed_var rfl k1) (ed_var rfl k4) (mulW hp.1 hq.d (by decide))) (ed_mul (ed_var rfl k3) (ed_var rfl k2) (mulW hq.1 hp.d (by decide)))) (ed_mul (ed_var rfl k2) (ed_var rfl k4) (mulW hp.d hq.d (by decide)))) ?_)
    rw [← Int.natCast_mul]
    exact low_of (Nat.mul_ne_zero p.den_nz q.den_nz) (sum_num hp hq) (Nat.lt_of_lt_of_le (mul_lt hp.2 hq.2) (Nat.pow_le_pow_right (by decide) (by decide))) (by decide) (fr_add p q)⟩
def Rproduct (ds : List PyData) (d : PyData) : Prop := ∃ (p q : Rat), Bd 3900 p ∧ Bd 3900 q ∧ ds = [numD p, numD q] ∧ d = numD (p * q)
theorem ok_product (T : Txt K mg a) : FnOk P w K mg base CX0 3 a.product a.d_product p_product (spD K Rproduct) :=
  okD T.f_product.fn sc_product (by rintro _ _ ⟨p, q, _, _, rfl, rfl⟩; rfl) fun cdv A outer s H E hr => ⟨_, (pss_cons (ps_asg (pe_tup (pa_cons (pe_call (ok_halves T) (hr.mono (by decide)) rfl T.f_halves.gl T.f_halves.fn.kp T.b_halves .nil pass0 (pa_cons (pv 0) pa_nil)) (pa_cons (pe_call (ok_halves T) (hr.mono (by decide)) rfl T.f_halves.gl T.f_halves.fn.kp T.b_halves .nil pass0 (pa_cons (pv 1) pa_nil)) pa_nil))) (pg_tup rfl (pgs_cons (pg_tup rfl (pgs_cons (pg_name (i := 2) sc_product.nd rfl (Or.inl rfl)) (pgs_cons (pg_name (i := 3) sc_product.nd rfl (Or.inl rfl)) pgs_nil))) (pgs_cons (pg_tup rfl (pgs_cons (pg_name (i := 4) sc_product.nd rfl (Or.inl rfl)) (pgs_cons (pg_name (i := 5) sc_product.nd rfl (Or.inl rfl)) pgs_nil))) pgs_nil))))
      (pss_one (ps_ret (pe_call (ok_lowest T) (hr.mono (by decide)) rfl T.f_lowest.gl T.f_lowest.fn.kp T.b_lowest .nil pass0 (pa_cons (pe_op op_mulW (pv 2) (pv 4)) (pa_cons (pe_op op_mulW (pv 3) (pv 5)) pa_nil)))))), fun m vs ds d l dv r => by
    obtain ⟨p, q, hp, hq, rfl, rfl⟩ := r
    obtain ⟨v, v1, rfl, h, h1⟩ := dv.two
    refine rd_tup4 (ed_tup (es_2 (ed_call (es_1 (ed_var rfl h)) ⟨p, rfl, rfl⟩) (ed_call (es_1 (ed_var rfl h1)) ⟨q, rfl, rfl⟩))) fun w1 w2 w3 w4 H1 x1 l1 k1 k2 k3 k4 => ?_
    refine rd_ret (ed_call (es_2 (ed_mul (ed_var rfl k1) (ed_var rfl k3) (mulW hp.1 hq.1 (by decide))) (ed_mul (ed_var rfl k2) (ed_var rfl k4) (mulW hp.d hq.d (by decide)))) ?_)
    rw [← Int.natCast_mul]
    exact low_of (Nat.mul_ne_zero p.den_nz q.den_nz) (abs_mul_lt hp.1 hq.1) (mul_lt hp.2 hq.2) (by decide) (fr_mul p q)⟩
def Rsquare (ds : List PyData) (d : PyData) : Prop := ∃ (p : Rat), Bd 3900 p ∧ ds = [numD p] ∧ d = numD (p * p)
theorem ok_square (T : Txt K mg a) : FnOk P w K mg base CX0 4 a.square a.d_square p_square (spD K Rsquare) :=
  okD T.f_square.fn sc_square (by rintro _ _ ⟨p, _, rfl, rfl⟩; rfl) fun cdv A outer s H E hr => ⟨_, (pss_one (ps_ret (pe_call (ok_product T) (hr.mono (by decide)) rfl T.f_product.gl T.f_product.fn.kp T.b_product .nil pass0 (pa_cons (pv 0) (pa_cons (pv 0) pa_nil))))), fun m vs ds d l dv r => by
    obtain ⟨p, hp, rfl, rfl⟩ := r
    obtain ⟨v, rfl, h⟩ := dv.one
    exact rd_ret (ed_call (es_2 (ed_var rfl h) (ed_var rfl h)) ⟨p, p, hp, hp, rfl, rfl⟩)⟩
/-- 1, 0, -1 -/
def sgn (i : Int) : Int := (if decide (0 < i) then 1 else 0) - (if decide (i < 0) then 1 else 0)
def RsignIn (ds : List PyData) (d : PyData) : Prop := ∃ (p : Rat), ds = [numD p] ∧ d = .int (sgn p.num)
theorem ok_sign_in (T : Txt K mg a) : FnOk P w K mg base CX0 2 a.sign_in a.d_sign_in p_sign_in (spD K RsignIn) :=
  okD T.f_sign_in.fn sc_sign_in (by rintro _ _ ⟨p, rfl, rfl⟩; rfl) fun cdv A outer s H E hr => ⟨_, (pss_cons (ps_set (i := 1) sc_sign_in.nd rfl (Or.inl rfl) (pe_ix ix_seq (pe_call (ok_halves T) (hr.mono (by decide)) rfl T.f_halves.gl T.f_halves.fn.kp T.b_halves .nil pass0 (pa_cons (pv 0) pa_nil)) pe_int (fun _ _ => rfl)))
      (pss_one (ps_ret (pe_op op_sub (pe_callTy cr_int rfl T.b_int (by decide +kernel) (pa_cons (pe_cmpR op_gt (pv 1) pe_int (nomark _)) pa_nil)) (pe_callTy cr_int rfl T.b_int (by decide +kernel) (pa_cons (pe_cmpR op_lt (pv 1) pe_int (nomark _)) pa_nil)))))), fun m vs ds d l dv r => by
    obtain ⟨p, rfl, rfl⟩ := r
    obtain ⟨v, rfl, h⟩ := dv.one
    refine rd_set (ed_ix (ed_call (es_1 (ed_var rfl h)) ⟨p, rfl, rfl⟩) (.tup _) (ed_int (i := 0)) (i := 0) rfl) fun v1 H1 x1 l1 h1 => ?_
    exact rd_ret (ed_sub (ed_intB (ed_gt (ed_var rfl h1) ed_int)) (ed_intB (ed_lt (ed_var rfl h1) ed_int)))⟩
/-- the number whose square a number from 0 on is, if there is one -/
def rootQ (q : Rat) : Option Rat := if sq q.num.natAbs * sq q.num.natAbs = q.num.natAbs ∧ sq q.den * sq q.den = q.den then some (fr (sq q.num.natAbs : Nat) (sq q.den)) else none
def optD : Option Rat → PyData
  | some q => numD q
  | none => .none
def RrootIn (ds : List PyData) (d : PyData) : Prop := ∃ (p : Rat), 0 ≤ p.num ∧ Bd 8000 p ∧ ds = [numD p] ∧ d = optD (rootQ p)
theorem ok_root_in (T : Txt K mg a) : FnOk P w K mg base CX0 3 a.root_in a.d_root_in p_root_in (spD K RrootIn) :=
  okD T.f_root_in.fn sc_root_in (by rintro _ _ ⟨p, _, _, rfl, rfl⟩; rfl) fun cdv A outer s H E hr => ⟨_, (pss_cons (ps_asg (pe_call (ok_halves T) (hr.mono (by decide)) rfl T.f_halves.gl T.f_halves.fn.kp T.b_halves .nil pass0 (pa_cons (pv 0) pa_nil)) (pg_tup rfl (pgs_cons (pg_name (i := 1) sc_root_in.nd rfl (Or.inl rfl)) (pgs_cons (pg_name (i := 2) sc_root_in.nd rfl (Or.inl rfl)) pgs_nil))))
      (pss_cons (ps_par (i := 3) (j := 4) (by rfl) sc_root_in.nd rfl rfl (by decide) rfl rfl (pa_cons (pe_callBfun cr_isqrt rfl T.isqrt (pa_cons (pv 1) pa_nil)) (pa_cons (pe_callBfun cr_isqrt rfl T.isqrt (pa_cons (pv 2) pa_nil)) pa_nil)) (by rfl))
      (pss_one (ps_ret (pe_ifExp (PW.pt (pw_and (pt_cmpR (op_eqD hr.units) (pe_op op_mulW (pv 3) (pv 3)) (pv 1) (nomark _)) (pw_and1 (pt_cmpR (op_eqD hr.units) (pe_op op_mulW (pv 4) (pv 4)) (pv 2) (nomark _))))) (pe_call (ok_lowest T) (hr.mono (by decide)) rfl T.f_lowest.gl T.f_lowest.fn.kp T.b_lowest .nil pass0 (pa_cons (pv 3) (pa_cons (pv 4) pa_nil))) pe_non))))), fun m vs ds d l dv r => by
    obtain ⟨p, hp, hb, rfl, rfl⟩ := r
    obtain ⟨v, rfl, h⟩ := dv.one
    have ep : p.num = (p.num.natAbs : Int) := by omega
    refine rd_tup2 (ed_call (es_1 (ed_var rfl h)) ⟨p, rfl, rfl⟩) fun v1 v2 H1 x1 l1 h1 h2 => ?_
    rw [ep] at h1
    refine rd_par (es_2 (ed_isqrt (ed_var rfl h1) (Nat.lt_of_lt_of_le hb.1 (Nat.pow_le_pow_right (by decide) (by decide)))) (ed_isqrt (ed_var rfl h2) (Nat.lt_of_lt_of_le hb.2 (Nat.pow_le_pow_right (by decide) (by decide))))) fun v3 v4 H2 x2 l2 h3 h4 => ?_
    have h1 := h1.up x2
    have h2 := h2.up x2
    have bn : ((sq p.num.natAbs : Nat) : Int).natAbs < 2 ^ 8000 := by rw [Int.natAbs_natCast]; exact Nat.lt_of_le_of_lt (sq_le _) hb.1
    have bd : ((sq p.den : Nat) : Int).natAbs < 2 ^ 8000 := by rw [Int.natAbs_natCast]; exact Nat.lt_of_le_of_lt (sq_le _) hb.2
    refine rd_ret (ed_if (b := decide (sq p.num.natAbs * sq p.num.natAbs = p.num.natAbs ∧ sq p.den * sq p.den = p.den)) ((eb_and (eb_test (ed_eq (ed_mul (ed_var rfl h3) (ed_var rfl h3) (mulW bn bn (by decide))) (ed_var rfl h1) sh_int sh_int)) fun _ => eb_test (ed_eq (ed_mul (ed_var rfl h4) (ed_var rfl h4) (mulW bd bd (by decide))) (ed_var rfl h2) sh_int sh_int)).is ?_) (fun z => ?_) fun z => ?_)
    · rw [eqv_int, eqv_int, Bool.eq_iff_iff, Bool.and_eq_true, beq_iff_eq, beq_iff_eq, decide_eq_true_eq, ← Int.natCast_mul, ← Int.natCast_mul]
      omega
    · have z' := of_decide_eq_true z
      have e : rootQ p = some (fr (sq p.num.natAbs : Nat) (sq p.den)) := if_pos z'
      rw [e]
      refine ed_call (es_2 (ed_var rfl h3) (ed_var rfl h4)) (low_of ?_ bn (by rw [Int.natAbs_natCast] at bd; exact bd) (by decide) rfl)
      intro y
      rw [y] at z'
      exact p.den_nz (by omega)
    · have z' := of_decide_eq_false z
      have e : rootQ p = none := if_neg z'
      rw [e]
      exact ed_non⟩
end
end Pc

set_option Elab.async false
set_option linter.all false
set_option maxRecDepth 100000
set_option maxHeartbeats 4000000
/-! PcZ: zip of a list with a list or a tuple, walked by a comprehension. -/
namespace Pc
open PySem PySem.Spec PyProof.Rows L2
open Evl (Ex)
/-- a list at a, a tuple at b, the items in new pairs -/
def ItzM (K : PySem.W.Frag) (a b : Addr) : It where
  go := fun i H => ∃ (xs ys : List V) (x y : V), SqL K H a xs ∧ SqT K H b ys ∧ xs[i]? = some x ∧ ys[i]? = some y
  yld := fun i H v H' => ∃ T x y, v = .ref T ∧ H T = none ∧ H' = upd H T (.tup [x, y]) ∧ (∀ xs, SqL K H a xs → xs[i]? = some x) ∧ ∀ ys, SqT K H b ys → ys[i]? = some y
  stop := fun i H => ∃ xs ys : List V, SqL K H a xs ∧ SqT K H b ys ∧ i ≤ xs.length ∧ i ≤ ys.length ∧ (i = xs.length ∨ i = ys.length)
theorem sep_of {z TI TO i1 i2 a b : Addr} (D : ZipApart z TI TO i1 i2 a b) : ZipSep2 z TI TO i1 i2 [i1, a] [i2, b] := by
  obtain ⟨d1, d2, d3, d4, d5, d6, d7, d8, d9, d10, d11, d12, d13, d14, d15, d16, d17, d18⟩ := D
  refine ⟨d1, d2, d5, d6, by simp, ?_, ?_, d7, by simp, ?_, ?_, ?_, ?_⟩ <;> (simp only [List.mem_cons, List.not_mem_nil, or_false, not_or])
  · exact ⟨d3.symm, d11.symm⟩
  · exact ⟨d8, d12.symm⟩
  · exact ⟨d4.symm, d15.symm⟩
  · exact ⟨d9, d16.symm⟩
  · exact ⟨d10, d17.symm⟩
  · exact ⟨d10.symm, d14.symm⟩
theorem turn_zipM {P : Program} {w : World} {K : PySem.W.Frag} {elts : List Expr} {kk : Nat} {tpos : Pos} {a b z TI TO i1 i2 : Addr} (D : ZipApart z TI TO i1 i2 a b) :
    Turn P w K (.Tuple elts kk tpos) (ItzM K a b) [z, TI, TO, i1, i2] z (fun i h => IsZip h z TI TO .none ∧ IsPair h TI (.ref i1) (.ref i2) ∧ (∃ x y, IsPair h TO x y) ∧ h.IsListIter i1 a i ∧ h.IsTupleIter i2 b i) where
  mem := List.mem_cons_self
  obj := fun i h ⟨hz, hTI, ⟨x, y, hTO⟩, ⟨o1, e1, _, d1⟩, ⟨o2, e2, _, d2⟩⟩ c hc => by
    simp only [List.mem_cons, List.mem_nil_iff, or_false] at hc
    rcases hc with rfl | rfl | rfl | rfl | rfl
    · exact ⟨_, hz, fun v q => nomatch q⟩
    · exact ⟨_, hTI, fun v q => nomatch q⟩
    · exact ⟨_, hTO, fun v q => nomatch q⟩
    · exact ⟨o1, e1, fun v q => nomatch (d1.symm.trans q)⟩
    · exact ⟨o2, e2, fun v q => nomatch (d2.symm.trans q)⟩
  keep := fun i h h' ⟨hz, hTI, ⟨x, y, hTO⟩, h1, h2⟩ k =>
    ⟨k z (by simp) _ hz, k TI (by simp) _ hTI, ⟨x, y, k TO (by simp) _ hTO⟩, h1.at fun o q => k i1 (by simp) o q, h2.at fun o q => k i2 (by simp) o q⟩
  item := by
    intro X hP hw hK hc i pins s σ H E I hf ⟨hz, hTI, ⟨x0, y0, hTO⟩, h1, h2⟩ ⟨xs, ys, x, y, hqx, hqy, hx, hy⟩
    subst hP hw hK
    obtain ⟨us, rv, p, _⟩ := I.list hqx
    obtain ⟨ws, rv2, p2, _⟩ := I.tuple hqy
    obtain ⟨u, hu, ru⟩ := rv.get hx
    obtain ⟨u2, hu2, ru2⟩ := rv2.get hy
    have hh : X.A.in1.handled = none := I.ok.hd hc
    have n1 : i < us.toArray.size := by
      have := (List.getElem?_eq_some_iff.mp hu).1
      simpa using this
    have n2 : i < ws.toArray.size := by
      have := (List.getElem?_eq_some_iff.mp hu2).1
      simpa using this
    have hzl : z < s.heap.objs.size := Heap.lt_size hz
    have hTIl := Heap.lt_size hTI
    have hTOl := Heap.lt_size hTO
    obtain ⟨o1, e1, _⟩ := id h1
    obtain ⟨o2, e2, _⟩ := id h2
    refine wpAny_pyNext_zipD2_item (sep_of D) (Draws.list hh i1 a D.l1i1 us.toArray) (Draws.tuple hh i2 b D.l2i2 ws.toArray) hz hTI hTO ⟨h1, p.isList⟩ ⟨h2, p2⟩ n1 n2 fun x1 x2 h' tk q1 q2 z' TO' h1' h2' hT hsz hk => ?_
    have e1' : x1 = u := by
      have : us.toArray[i]? = some x1 := q1
      rw [List.getElem?_toArray, hu] at this
      exact (Option.some.inj this).symm
    have e2' : x2 = u2 := by
      have : ws.toArray[i]? = some x2 := q2
      rw [List.getElem?_toArray, hu2] at this
      exact (Option.some.inj this).symm
    subst e1' e2'
    refine ⟨_, rfl, wpAny_letOwnedTupleGo_zip (s := { s with heap := h', toks := tk }) z' fun h'' z'' sb => ?_⟩
    have hT2 : h''.get? s.heap.objs.size = some { cls := .type "tuple", data := .seq #[x1, x2] } := (sb.2 _ (Nat.ne_of_gt hzl)).trans hT
    have new : ObjOk X.prog X.w (upd H s.heap.objs.size (.tup [x, y])) h'' s.heap.objs.size (.tup [x, y]) :=
      ⟨by show 2 ≤ sizeLine; decide, [x1, x2], .cons ru (.cons ru2 .nil), ⟨_, hT2, rfl, _, rfl⟩⟩
    have I1 : Inv X pins σ (upd H s.heap.objs.size (.tup [x, y])) { s with heap := h'', toks := tk } :=
      I.turnedNew (t' := tk) (ch := [z, TI, TO, i1, i2]) (fun c o hb q => (sb.2 c (fun y => hb (by simp [y]))).trans (hk c o (fun y => hb (by simp [y])) (fun y => hb (by simp [y])) (fun y => hb (by simp [y])) (fun y => hb (by simp [y])) q)) hf (Nat.le_refl _) new
    refine ⟨.ref s.heap.objs.size, _, I1, rfl, ⟨_, x, y, rfl, I.hok.fresh (Nat.le_refl _), rfl, fun l hl => by rw [I.list_inj hl hqx]; exact hx, fun l hl => by rw [I.tuple_inj hl hqy]; exact hy⟩, ⟨z'', ?_, ⟨x1, x2, ?_⟩, ?_, ?_⟩, fun c hcm => ?_⟩
    · exact (sb.2 _ D.TIz).trans (hk _ _ D.TIz D.TITO D.TIi1 D.TIi2 hTI)
    · exact (sb.2 _ D.TOz).trans TO'
    · exact h1'.1.at fun o q => (sb.2 _ D.i1z).trans q
    · exact h2'.1.at fun o q => (sb.2 _ D.i2z).trans q
    · have hlt : c < s.heap.objs.size := by
        simp only [List.mem_cons, List.mem_nil_iff, or_false] at hcm
        rcases hcm with rfl | rfl | rfl | rfl | rfl
        · exact hzl
        · exact hTIl
        · exact hTOl
        · exact Heap.lt_size e1
        · exact Heap.lt_size e2
      rw [upd_ne (Nat.ne_of_lt hlt)]
      exact (hf c hcm).1
  done := by
    intro X hP hw hK hc i pins s σ H E I hf ⟨hz, hTI, ⟨x0, y0, hTO⟩, h1, h2⟩ ⟨xs, ys, hqx, hqy, l1, l2, he⟩
    subst hP hw hK
    obtain ⟨us, rv, p, _⟩ := I.list hqx
    obtain ⟨ws, rv2, p2, _⟩ := I.tuple hqy
    have hh : X.A.in1.handled = none := I.ok.hd hc
    have e1 := rv.length
    have e2 := rv2.length
    have s1 : us.toArray.size = us.length := List.size_toArray ..
    have s2 : ws.toArray.size = ws.length := List.size_toArray ..
    exact wpAny_pyNext_zipD2_end (sep_of D) (Draws.list hh i1 a D.l1i1 us.toArray) (Draws.tuple hh i2 b D.l2i2 ws.toArray) hz hTI hTO ⟨h1, p.isList⟩ ⟨h2, p2⟩ (by omega) (by omega) (by omega) fun h' tk hk => ⟨rfl, I.turnedL (t' := tk) (ch := [z, TI, TO, i1, i2]) (fun c o hb q =>
      hk c o (fun y => hb (by simp [y])) (fun y => hb (by simp [y])) (fun y => hb (by simp [y])) (fun y => hb (by simp [y])) q) hf⟩
  self := fun A i s Q E st h => wpAny_pyIter_zip st.1 h
/-- zip(a list, a list or a tuple) -/
def iZipQ (K : PySem.W.Frag) (ta : TA) : TI := fun σ H R => ta σ H fun vs H1 => ∃ a b xs ys, vs = [.ref a, .ref b] ∧ SqL K H1 a xs ∧ ((SqL K H1 b ys ∧ R (Itz K a b) H1) ∨ (SqT K H1 b ys ∧ R (ItzM K a b) H1))
theorem pi_zipQ {X : Cx} {e e2 : Expr} {ta : TA} {p pos tpos : Pos} {elts : List Expr} {kk : Nat} (hg : Gl X "zip") (hm : X.mg "zip" = none) (ha : PA X [e, e2] ta)
    (hs : starEach [e, e2] X.env = (false, eval e X.env) :: starEach [e2] X.env := by rfl) (hpl : (backTo pos (starEach [e2] X.env)).any (·.1) = false := by rfl) :
    PI X (.Tuple elts kk tpos) (.Call (.Name "zip" p) [e, e2] [] pos) (iZipQ X.K ta) := by
  refine ⟨fun pins s σ H R I h => ?_⟩
  refine Call_ (ld_blt I hg hm PyProof.Rows.boot_zip (PyProof.Rows.callWith_type1 (thn (ha.run pos pins s σ H _ I h) fun us s1 got => ?_) hs hpl))
  · skip
    obtain ⟨vs, H1, I1, r1, a, b, xs, ys, rfl, hqx, q1⟩ := got
    obtain ⟨u, w', rfl, ra, rb⟩ := vals2 r1
    obtain rfl : u = .ref a := ra
    obtain rfl : w' = .ref b := rb
    have fresh5 : ∀ c, c ∈ [s1.heap.objs.size + 4, s1.heap.objs.size + 2, s1.heap.objs.size + 3, s1.heap.objs.size, s1.heap.objs.size + 1] → FpOk X pins H1 c := fun c hc => by
      have hle : s1.heap.objs.size ≤ c := by
        simp only [List.mem_cons, List.mem_nil_iff, or_false] at hc
        rcases hc with rfl | rfl | rfl | rfl | rfl
        · exact Nat.le_add_right _ _
        · exact Nat.le_add_right _ _
        · exact Nat.le_add_right _ _
        · exact Nat.le_refl _
        · exact Nat.le_add_right _ _
      exact I1.fpOk hle (I1.hok.fresh hle)
    obtain ⟨us, rv, p1, _⟩ := I1.list hqx
    rcases q1 with ⟨hqy, q⟩ | ⟨hqy, q⟩
    · obtain ⟨ws, rv2, p2, _⟩ := I1.list hqy
      exact call_zip_2 p1.isList p2.isList fun h' hz hTI hTO h1 h2 hsz hk => wpAny_pyIter_zip hz
        ⟨_, [s1.heap.objs.size + 4, s1.heap.objs.size + 2, s1.heap.objs.size + 3, s1.heap.objs.size, s1.heap.objs.size + 1], _, _, H1, rfl, I1.kept (t' := s1.toks) hk, turn_zip (PySem.W.ktu_apart s1.heap.objs.size a b p1.lt p2.lt), ⟨hz, hTI, ⟨_, _, hTO⟩, h1, h2⟩, fresh5, q⟩
    · obtain ⟨ws, rv2, p2, _⟩ := I1.tuple hqy
      exact zip_begins2 (begins_list a us.toArray) (begins_tuple b ws.toArray) p1.isList p2 fun h' hz hTI hTO h1 h2 hsz hk => wpAny_pyIter_zip hz
        ⟨_, [s1.heap.objs.size + 4, s1.heap.objs.size + 2, s1.heap.objs.size + 3, s1.heap.objs.size, s1.heap.objs.size + 1], _, _, H1, rfl, I1.kept (t' := s1.toks) hk, turn_zipM (PySem.W.ktu_apart s1.heap.objs.size a b p1.lt p2.lt), ⟨hz, hTI, ⟨_, _, hTO⟩, ⟨_, h1, rfl, rfl⟩, ⟨_, h2, rfl, rfl⟩⟩, fresh5, q⟩
theorem walk_zipM {K : PySem.W.Frag} {a b : Addr} {xs ys : List V} (hl : xs.length = ys.length) : Walk (ItzM K a b) xs.length (fun H => SqL K H a xs ∧ SqT K H b ys) (YPair (fun i => xs[i]?) (fun i => ys[i]?)) where
  goes := fun i H hi q => ⟨xs, ys, xs[i], ys[i], q.1, q.2, by simp [hi], by simp [hl ▸ hi]⟩
  stops := fun H q => ⟨xs, ys, q.1, q.2, Nat.le_refl _, Nat.le_of_eq hl, .inl rfl⟩
  yields := fun i H v H' _ q ⟨T, x, z, h1, h2, h3, h4, h5⟩ => ⟨T, x, z, h1, h2, h3, h4 xs q.1, h5 ys q.2⟩
section
variable {K : PySem.W.Frag} {m : List Addr} {te ta tb : TE} {σ : L2.St} {H : Hp} {d e : PyData}
/-- [f(x, y) for x, y in zip(a list, a list or a tuple)], both of one length -/
theorem ed_lcZip {ds es fs : List PyData} {i j : Nat} {vs : List Nat} (ha : ED K m ta σ H (.list ds)) (hb : ED K m tb σ H e) (hq : IsSeq e es) (hl : ds.length = es.length) (hf : fs.length = ds.length) (hz : ds.length ≤ 100000)
    (hw : ∀ v w, wipe (((wipe σ vs).set i (some v)).set j (some w)) vs = wipe σ vs)
    (he : ∀ (D : Addr) (n : Nat) (a b c : PyData) (v w : V) (H1 : Hp), H D = none → ds[n]? = some a → es[n]? = some b → fs[n]? = some c → Xo (D :: m) H H1 → Dv K (off (D :: m) H1) v a → Dv K (off (D :: m) H1) w b →
      ED K (D :: m) te (((wipe σ vs).set i (some v)).set j (some w)) H1 c) :
    ED K m (tLc (iZipQ K (tCons ta (tCons tb tNil))) (gTup K 2 (gCons (gName i) (gCons (gName j) gNil))) tYes te vs) σ H (.list fs) := fun H1 x l Q q =>
  ha H1 x l _ fun v Ha xa dva => hb Ha (x.trans (.of xa)) (l.ex xa) _ fun v' H2 xb dvb => by
    have x2 : Ex H1 H2 := xa.trans xb
    obtain ⟨a, xs, rfl, hs, hA⟩ := (dva.up (Xo.of xb)).l
    obtain ⟨b, ys, rfl, ht, hB⟩ := dvb.q hq
    have l2 := l.ex x2
    have hs' : SqL K H2 a xs := Evl.ex_l off_le hs
    have hlen : xs.length = ys.length := by rw [hA.length, hB.length, hl]
    have turn : ∀ D, H2 D = none → ∀ (n : Nat) (p : V) (H3 H4 : Hp), n < xs.length → Grow K m H2 H3 D (fs.take n) → YPair (fun i => xs[i]?) (fun i => ys[i]?) n H3 p H4 →
        gTup K 2 (gCons (gName i) (gCons (gName j) gNil)) p (wipe σ vs) H4 fun σ2 H5 => wipe σ2 vs = wipe σ vs ∧ tYes σ2 H5 fun b H6 => if b = true then te σ2 H6 fun z H7 => ∃ acc, H7 D = some (.lst acc) ∧ acc.length < sizeLine ∧ Grow K m H2 (upd H7 D (.lst (acc ++ [z]))) D (fs.take (n + 1)) else Grow K m H2 H6 D (fs.take (n + 1)) := fun D hD n p H3 H4 hn g yp => by
      obtain ⟨T, y, z, rfl, hT, rfl, hy, hz'⟩ := yp
      have xT : Ex H3 (upd H3 T (.tup [y, z])) := Ex.new hT
      refine ⟨T, [y, z], rfl, Evl.st_of upd_same, rfl, y, [z], rfl, z, [], rfl, rfl, ?_⟩
      have hn1 : n < ds.length := by rw [← hA.length]; exact hn
      obtain ⟨a', h1⟩ : ∃ a', ds[n]? = some a' := ⟨_, List.getElem?_eq_getElem hn1⟩
      obtain ⟨b', h2⟩ : ∃ b', es[n]? = some b' := ⟨_, List.getElem?_eq_getElem (by omega)⟩
      obtain ⟨c', h3⟩ : ∃ c', fs[n]? = some c' := ⟨_, List.getElem?_eq_getElem (by omega)⟩
      obtain ⟨y', ey, dy⟩ := hA.get h1
      obtain ⟨z', ez, dz⟩ := hB.get h2
      obtain rfl : y' = y := Option.some.inj (ey.symm.trans hy)
      obtain rfl : z' = z := Option.some.inj (ez.symm.trans hz')
      have fr : off (D :: m) H2 = off m H2 := off_free hD
      have g4 := g.step xT
      have x3 : Xo (D :: m) H2 (upd H3 T (.tup [y', z'])) := Xo.of g4.ex
      have hDH2 : H D = none := by
        cases w : H D with
        | none => rfl
        | some o =>
          have z2 := (x.trans (.of x2)) D o (by rw [off_at (l2.ne hD)]; exact w)
          rw [off_at (l2.ne hD), hD] at z2
          cases z2
      have xx : Xo (D :: m) H (upd H3 T (.tup [y', z'])) := by
        refine Xo.trans (fun b o hb => ?_) x3
        rw [off_free hDH2] at hb
        rw [fr]
        exact (x.trans (.of x2)) b o hb
      rw [← fr] at dy dz
      refine ⟨hw _ _, he D n a' b' c' y' z' _ hDH2 h1 h2 h3 xx (dy.up x3) (dz.up x3) _ .refl (g4.live l2) _ fun r H4 x4 dr => ?_⟩
      obtain ⟨acc, e1, e2, e3⟩ := g4.more hD x4 dr
      refine ⟨acc, e1, ?_, by rw [take_snoc h3]; exact e3⟩
      rw [e2, List.length_take]
      exact Evl.sz_lt (by omega)
    have fin : ∀ D, H2 D = none → ∀ H3, Grow K m H2 H3 D (fs.take xs.length) → Q (.ref D) H3 := fun D hD H3 g => by
      rw [hA.length, ← hf, List.take_length] at g
      exact q _ _ (x2.trans g.ex) (g.done l2 hD)
    refine ⟨a, b, xs, ys, rfl, hs', ?_⟩
    rcases ht with ht | ht
    · have ht' : SqL K H2 b ys := Evl.ex_l off_le ht
      exact .inl ⟨ht', fun D hD => lc_it (walk_zip (K := K) (a := a) (b := b) (xs := xs) (ys := ys) (n := xs.length) (by omega)) (fun n H3 => Grow K m H2 H3 D (fs.take n)) (Grow.start hD) (fun n H3 _ g => ⟨Evl.ex_l g.ex hs', Evl.ex_l g.ex ht'⟩) (fun n p H3 H4 hn g y => turn D hD n p H3 H4 hn g y) (fin D hD)⟩
    · have ht' : SqT K H2 b ys := Evl.ex_t off_le ht
      exact .inr ⟨ht', fun D hD => lc_it (walk_zipM (K := K) (a := a) (b := b) hlen) (fun n H3 => Grow K m H2 H3 D (fs.take n)) (Grow.start hD) (fun n H3 _ g => ⟨Evl.ex_l g.ex hs', Evl.ex_t g.ex ht'⟩) (fun n p H3 H4 hn g y => turn D hD n p H3 H4 hn g y) (fin D hD)⟩
end
end Pc

set_option Elab.async false
set_option linter.all false
set_option maxRecDepth 100000
set_option maxHeartbeats 4000000
/-! PcD3: the law's own numbers; the place of a spot, by the law and by the program. -/
namespace Pc
open PySem PySem.Spec PyProof.Rows L2
open Evl (Ex)
/-! ### the place of a spot -/
def plD (a b : Rat) (x y : Int) (r : Rat) : PyData := .tuple [.tuple [numD a, numD b], .tuple [.int x, .int y], numD r]
def fac (g : Nat) (c e : Rat) : Rat := fr (g : Int) (c.den * e.den)
def formD (a b c e r : Rat) : PyData :=
  if r = 0 ∨ (c = 0 ∧ e = 0) then plD a b 0 0 0
  else match rootQ r with
    | some w => plD (a + c * w) (b + e * w) 0 0 0
    | none => plD a b (c.num * e.den / (Int.gcd (c.num * e.den) (e.num * c.den) : Nat)) (e.num * c.den / (Int.gcd (c.num * e.den) (e.num * c.den) : Nat))
        (r * (fac (Int.gcd (c.num * e.den) (e.num * c.den)) c e * fac (Int.gcd (c.num * e.den) (e.num * c.den)) c e))
theorem numD_0 : numD 0 = .int 0 := rfl
theorem sh_pt (a b : Rat) : SeqAt.shaped (.tuple [numD a, numD b]) = true := by
  unfold numD
  split <;> split <;> simp [SeqAt.shaped, PyData.canLay0, PyData.canLayAll0, PyData.depth, PyData.depthAll]
theorem sh_00 : SeqAt.shaped (.tuple [.int 0, .int 0]) = true := sh_pt 0 0
theorem eqv_pt0 (c e : Rat) : PyData.eqv (.tuple [numD c, numD e]) (.tuple [.int 0, .int 0]) = decide (c = 0 ∧ e = 0) := by
  rw [← numD_0]
  simp only [PyData.eqv, PyData.eqvAll, eqv_num, Bool.and_true]
  rw [Bool.eq_iff_iff]
  simp
theorem eqv_0 (r : Rat) : PyData.eqv (numD r) (.int 0) = decide (r = 0) := by rw [← numD_0, eqv_num]
theorem rootQ_bd {k : Nat} {r w : Rat} (h : Bd k r) (e : rootQ r = some w) : Bd k w := by
  unfold rootQ at e
  split at e
  · rename_i hc
    have e' := Option.some.inj e
    subst e'
    refine fr_bd (fun z => ?_) (by rw [Int.natAbs_natCast]; exact Nat.lt_of_le_of_lt (sq_le _) h.1) (Nat.lt_of_le_of_lt (sq_le _) h.2)
    have := hc.2
    rw [z] at this
    exact r.den_nz (by omega)
  · cases e
theorem gcd_lt {k : Nat} {x y : Int} (hx : x.natAbs < 2 ^ k) (hy : y.natAbs < 2 ^ k) : Int.gcd x y < 2 ^ k := by
  by_cases h : x = 0
  · subst h
    rw [Int.gcd_zero_left]
    exact hy
  · exact Nat.lt_of_le_of_lt (Nat.le_of_dvd (by omega) (Nat.gcd_dvd_left _ _)) hx
theorem gcd_ne {c e : Rat} (h : ¬ (c = 0 ∧ e = 0)) : 0 < Int.gcd (c.num * e.den) (e.num * c.den) := by
  refine Nat.pos_of_ne_zero fun z => h ?_
  have ⟨h1, h2⟩ := Int.gcd_eq_zero_iff.mp z
  have hd := c.den_nz
  have he := e.den_nz
  refine ⟨Rat.num_eq_zero.mp ?_, Rat.num_eq_zero.mp ?_⟩
  · rcases Int.mul_eq_zero.mp h1 with q | q
    · exact q
    · omega
  · rcases Int.mul_eq_zero.mp h2 with q | q
    · exact q
    · omega
theorem Bd.x {k : Nat} {c e : Rat} (hc : Bd k c) (he : Bd k e) : (c.num * e.den).natAbs < 2 ^ (k + k) := abs_mul_lt hc.1 he.d
/-- what the second part of both defs asks: the numbers are not too great, the aside is one -/
structure Spot (c e : Rat) : Prop where
  hc : Bd 900 c
  he : Bd 900 e
  ne : ¬ (c = 0 ∧ e = 0)
section
variable {c e : Rat}
abbrev gcdS (c e : Rat) : Nat := Int.gcd (c.num * e.den) (e.num * c.den)
theorem Spot.g (s : Spot c e) : gcdS c e < 2 ^ 1800 := gcd_lt (s.hc.x s.he) (s.he.x s.hc)
theorem Spot.low (s : Spot c e) : Rlowest [.int (gcdS c e : Nat), .int ((c.den * e.den : Nat) : Int)] (numD (fac (gcdS c e) c e)) :=
  low_of (Nat.mul_ne_zero c.den_nz e.den_nz) (j := 1800) (by rw [Int.natAbs_natCast]; exact s.g) (mul_lt s.hc.2 s.he.2) (by decide) rfl
theorem Spot.f (s : Spot c e) : Bd 1800 (fac (gcdS c e) c e) := fr_bd (Nat.mul_ne_zero c.den_nz e.den_nz) (by rw [Int.natAbs_natCast]; exact s.g) (mul_lt s.hc.2 s.he.2)
theorem Spot.ff (s : Spot c e) : Bd 3600 (fac (gcdS c e) c e * fac (gcdS c e) c e) := s.f.mul s.f
theorem Spot.div (s : Spot c e) (x : Int) : CDivW x (gcdS c e : Nat) := wide_div (by have := gcd_ne s.ne; show (0 : Int) < (gcdS c e : Nat); exact Int.natCast_pos.mpr this) (b := 1800) (by rw [Int.natAbs_natCast]; exact s.g) (by decide) (by decide)
end
section
variable {P : Program} {w : World} {K : PySem.W.Frag} {mg : Str → Option Value} {base : Heap} {a : Ad}
/-! ### the program's -/
def Rshifted (ds : List PyData) (d : PyData) : Prop := ∃ (p q x y : Rat), Bd 3900 p ∧ Bd 3900 q ∧ Bd 3900 x ∧ Bd 3900 y ∧ ds = [.tuple [numD p, numD q], .tuple [numD x, numD y]] ∧ d = .tuple [numD (p + x), numD (q + y)]
theorem ok_shifted (T : Txt K mg a) : FnOk P w K mg base CX0 4 a.shifted a.d_shifted p_shifted (spD K Rshifted) :=
  okD T.f_shifted.fn sc_shifted (by rintro _ _ ⟨p, q, x, y, _, _, _, _, rfl, rfl⟩; rfl) fun cdv A outer s H E hr => ⟨_, (pss_one (ps_ret (pe_tup (pa_cons (pe_call (ok_added T) (hr.mono (by decide)) rfl T.f_added.gl T.f_added.fn.kp T.b_added .nil pass0 (pa_cons (pe_ix ix_seq (pv 0) pe_int (fun _ _ => rfl)) (pa_cons (pe_ix ix_seq (pv 1) pe_int (fun _ _ => rfl)) pa_nil))) (pa_cons (pe_call (ok_added T) (hr.mono (by decide)) rfl T.f_added.gl T.f_added.fn.kp T.b_added .nil pass0 (pa_cons (pe_ix ix_seq (pv 0) pe_int (fun _ _ => rfl)) (pa_cons (pe_ix ix_seq (pv 1) pe_int (fun _ _ => rfl)) pa_nil))) pa_nil))))), fun m vs ds d l dv r => by
    obtain ⟨p, q, x, y, h1, h2, h3, h4, rfl, rfl⟩ := r
    obtain ⟨v, v1, rfl, k, k1⟩ := dv.two
    exact rd_ret (ed_tup (es_2 (ed_call (es_2 (ed_ix (ed_var rfl k) (.tup _) (ed_int (i := 0)) (i := 0) rfl) (ed_ix (ed_var rfl k1) (.tup _) (ed_int (i := 0)) (i := 0) rfl)) ⟨p, x, h1, h3, rfl, rfl⟩)
      (ed_call (es_2 (ed_ix (ed_var rfl k) (.tup _) (ed_int (i := 1)) (i := 1) rfl) (ed_ix (ed_var rfl k1) (.tup _) (ed_int (i := 1)) (i := 1) rfl)) ⟨q, y, h2, h4, rfl, rfl⟩)))⟩
def Rgrown (ds : List PyData) (d : PyData) : Prop := ∃ (p q n : Rat), Bd 3900 p ∧ Bd 3900 q ∧ Bd 3900 n ∧ ds = [.tuple [numD p, numD q], numD n] ∧ d = .tuple [numD (p * n), numD (q * n)]
theorem ok_grown (T : Txt K mg a) : FnOk P w K mg base CX0 4 a.grown a.d_grown p_grown (spD K Rgrown) :=
  okD T.f_grown.fn sc_grown (by rintro _ _ ⟨p, q, n, _, _, _, rfl, rfl⟩; rfl) fun cdv A outer s H E hr => ⟨_, (pss_one (ps_ret (pe_tup (pa_cons (pe_call (ok_product T) (hr.mono (by decide)) rfl T.f_product.gl T.f_product.fn.kp T.b_product .nil pass0 (pa_cons (pe_ix ix_seq (pv 0) pe_int (fun _ _ => rfl)) (pa_cons (pv 1) pa_nil))) (pa_cons (pe_call (ok_product T) (hr.mono (by decide)) rfl T.f_product.gl T.f_product.fn.kp T.b_product .nil pass0 (pa_cons (pe_ix ix_seq (pv 0) pe_int (fun _ _ => rfl)) (pa_cons (pv 1) pa_nil))) pa_nil))))), fun m vs ds d l dv r => by
    obtain ⟨p, q, n, h1, h2, h3, rfl, rfl⟩ := r
    obtain ⟨v, v1, rfl, k, k1⟩ := dv.two
    exact rd_ret (ed_tup (es_2 (ed_call (es_2 (ed_ix (ed_var rfl k) (.tup _) (ed_int (i := 0)) (i := 0) rfl) (ed_var rfl k1)) ⟨p, n, h1, h3, rfl, rfl⟩)
      (ed_call (es_2 (ed_ix (ed_var rfl k) (.tup _) (ed_int (i := 1)) (i := 1) rfl) (ed_var rfl k1)) ⟨q, n, h2, h3, rfl, rfl⟩)))⟩
theorem Txt.none (T : Txt K mg a) {H : Hp} : Dv K H (.ref a.NONE) (.tuple [.int 0, .int 0]) := .tup (Evl.ex_t (fun _ _ h => by have h' : (Option.none : Option HO) = some _ := h; cases h') T.noneT) (.cons (.int _) (.cons (.int _) .nil))
def Rplaced (ds : List PyData) (d : PyData) : Prop := ∃ (p q c e r : Rat), Bd 900 p ∧ Bd 900 q ∧ Bd 900 c ∧ Bd 900 e ∧ Bd 900 r ∧ 0 ≤ r.num ∧ ds = [.tuple [numD p, numD q], .tuple [numD c, numD e], numD r] ∧ d = formD p q c e r
theorem ok_placed (T : Txt K mg a) : FnOk P w K mg base CX0 5 a.placed a.d_placed p_placed (spD K Rplaced) :=
  okD T.f_placed.fn sc_placed (by rintro _ _ ⟨p, q, c, e, r, _, _, _, _, _, _, rfl, rfl⟩; rfl) fun cdv A outer s H E hr => ⟨_, (pss_cons (ps_if (PW.pt (pw_or (pt_cmpR (op_eqD hr.units) (pv 2) pe_int (nomark _)) (pw_or1 (pt_cmpR (op_eqD hr.units) (pv 1) (pe_glob (v := .ref a.NONE) rfl T.NONE rfl) (nomark _))))) (pss_one (ps_ret (pe_tup (pa_cons (pv 0) (pa_cons (pe_glob (v := .ref a.NONE) rfl T.NONE rfl) (pa_cons pe_int pa_nil)))))) pss_nil)
      (pss_cons (ps_set (i := 3) sc_placed.nd rfl (Or.inl rfl) (pe_call (ok_root_in T) (hr.mono (by decide)) rfl T.f_root_in.gl T.f_root_in.fn.kp T.b_root_in .nil pass0 (pa_cons (pv 2) pa_nil)))
      (pss_cons (ps_if (pt_cmpR op_notN' (pv 3) pe_non (nomark _)) (pss_one (ps_ret (pe_tup (pa_cons (pe_call (ok_shifted T) (hr.mono (by decide)) rfl T.f_shifted.gl T.f_shifted.fn.kp T.b_shifted .nil pass0 (pa_cons (pv 0) (pa_cons (pe_call (ok_grown T) (hr.mono (by decide)) rfl T.f_grown.gl T.f_grown.fn.kp T.b_grown .nil pass0 (pa_cons (pv 1) (pa_cons (pv 3) pa_nil))) pa_nil))) (pa_cons (pe_glob (v := .ref a.NONE) rfl T.NONE rfl) (pa_cons pe_int pa_nil)))))) pss_nil)
      (pss_cons (ps_asg (pe_tup (pa_cons (pe_call (ok_halves T) (hr.mono (by decide)) rfl T.f_halves.gl T.f_halves.fn.kp T.b_halves .nil pass0 (pa_cons (pe_ix ix_seq (pv 1) pe_int (fun _ _ => rfl)) pa_nil)) (pa_cons (pe_call (ok_halves T) (hr.mono (by decide)) rfl T.f_halves.gl T.f_halves.fn.kp T.b_halves .nil pass0 (pa_cons (pe_ix ix_seq (pv 1) pe_int (fun _ _ => rfl)) pa_nil)) pa_nil))) (pg_tup rfl (pgs_cons (pg_tup rfl (pgs_cons (pg_name (i := 7) sc_placed.nd rfl (Or.inl rfl)) (pgs_cons (pg_name (i := 8) sc_placed.nd rfl (Or.inl rfl)) pgs_nil))) (pgs_cons (pg_tup rfl (pgs_cons (pg_name (i := 9) sc_placed.nd rfl (Or.inl rfl)) (pgs_cons (pg_name (i := 10) sc_placed.nd rfl (Or.inl rfl)) pgs_nil))) pgs_nil))))
      (pss_cons (ps_par (i := 5) (j := 6) (by rfl) sc_placed.nd rfl rfl (by decide) rfl rfl (pa_cons (pe_op op_mulW (pv 7) (pv 10)) (pa_cons (pe_op op_mulW (pv 9) (pv 8)) pa_nil)) (by rfl))
      (pss_cons (ps_set (i := 4) sc_placed.nd rfl (Or.inl rfl) (pe_call (ok_common T) (hr.mono (by decide)) rfl T.f_common.gl T.f_common.fn.kp T.b_common .nil pass0 (pa_cons (pv 5) (pa_cons (pv 6) pa_nil))))
      (pss_one (ps_ret (pe_tup (pa_cons (pv 0) (pa_cons (pe_tup (pa_cons (pe_op op_fdivW (pv 5) (pv 4)) (pa_cons (pe_op op_fdivW (pv 6) (pv 4)) pa_nil))) (pa_cons (pe_call (ok_product T) (hr.mono (by decide)) rfl T.f_product.gl T.f_product.fn.kp T.b_product .nil pass0 (pa_cons (pv 2) (pa_cons (pe_call (ok_square T) (hr.mono (by decide)) rfl T.f_square.gl T.f_square.fn.kp T.b_square .nil pass0 (pa_cons (pe_call (ok_lowest T) (hr.mono (by decide)) rfl T.f_lowest.gl T.f_lowest.fn.kp T.b_lowest .nil pass0 (pa_cons (pv 4) (pa_cons (pe_op op_mulW (pv 8) (pv 10)) pa_nil))) pa_nil)) pa_nil))) pa_nil)))))))))))), fun m vs ds d l dv r => by
    obtain ⟨p, q, c, e, r, hp, hq, hc, he, hr', h0, rfl, rfl⟩ := r
    obtain ⟨v, v1, v2, rfl, k, k1, k2⟩ := dv.three
    refine rd_ifr (b := decide (r = 0 ∨ (c = 0 ∧ e = 0))) ((eb_or (eb_test (ed_eq (ed_var rfl k2) ed_int (sh_num _) sh_int)) fun _ => eb_test (ed_eq (ed_var rfl k1) (ed_c T.none) (sh_pt _ _) sh_00)).is ?_) (fun z => ?_) fun z => ?_
    · rw [eqv_0, eqv_pt0, Bool.eq_iff_iff]
      simp
    · rw [formD, if_pos (of_decide_eq_true z)]
      exact rd_ret (ed_tup (es_3 (ed_var rfl k) (ed_c T.none) ed_int))
    · have z' := of_decide_eq_false z
      have sp : Spot c e := ⟨hc, he, fun y => z' (.inr y)⟩
      rw [formD, if_neg z']
      refine rd_set (ed_call (es_1 (ed_var rfl k2)) ⟨r, h0, hr'.mono (by decide), rfl, rfl⟩) fun v3 H1 x1 l1 k3 => ?_
      have k := k.up x1
      have k1 := k1.up x1
      have k2 := k2.up x1
      cases hw : rootQ r with
      | some w =>
        rw [hw] at k3
        have nw : isN (numD w) = false := by unfold numD; split <;> rfl
        have bw := rootQ_bd hr' hw
        refine rd_ifr (b := true) ((eb_test (ed_notN (ed_var rfl k3))).is (by show (!isN (numD w)) = true; rw [nw]; rfl)) (fun _ => ?_) fun y => nomatch y
        exact rd_ret (ed_tup (es_3 (ed_call (es_2 (ed_var rfl k) (ed_call (es_2 (ed_var rfl k1) (ed_var rfl k3)) ⟨c, e, w, hc.mono (by decide), he.mono (by decide), bw.mono (by decide), rfl, rfl⟩))
          ⟨p, q, c * w, e * w, hp.mono (by decide), hq.mono (by decide), (hc.mul bw).mono (by decide), (he.mul bw).mono (by decide), rfl, rfl⟩) (ed_c T.none) ed_int))
      | none =>
        rw [hw] at k3
        refine rd_ifr (b := false) (eb_test (ed_notN (ed_var rfl k3))) (fun y => nomatch y) fun _ => ?_
        refine rd_tup4 (ed_tup (es_2 (ed_call (es_1 (ed_ix (ed_var rfl k1) (.tup _) (ed_int (i := 0)) (i := 0) rfl)) ⟨c, rfl, rfl⟩) (ed_call (es_1 (ed_ix (ed_var rfl k1) (.tup _) (ed_int (i := 1)) (i := 1) rfl)) ⟨e, rfl, rfl⟩))) fun w1 w2 w3 w4 H2 x2 l2 m1 m2 m3 m4 => ?_
        have k := k.up x2
        have k2 := k2.up x2
        refine rd_par (es_2 (ed_mul (ed_var rfl m1) (ed_var rfl m4) (mulW hc.1 he.d (by decide))) (ed_mul (ed_var rfl m3) (ed_var rfl m2) (mulW he.1 hc.d (by decide)))) fun w5 w6 H3 x3 l3 m5 m6 => ?_
        have k := k.up x3
        have k2 := k2.up x3
        have m2 := m2.up x3
        have m4 := m4.up x3
        refine rd_set (ed_call (es_2 (ed_var rfl m5) (ed_var rfl m6)) ⟨_, _, rfl, rfl⟩) fun w7 H4 x4 l4 m7 => ?_
        have k := k.up x4
        have k2 := k2.up x4
        have m2 := m2.up x4
        have m4 := m4.up x4
        have m5 := m5.up x4
        have m6 := m6.up x4
        refine rd_ret (ed_tup (es_3 (ed_var rfl k) (ed_tup (es_2 (ed_div (ed_var rfl m5) (ed_var rfl m7) (sp.div _)) (ed_div (ed_var rfl m6) (ed_var rfl m7) (sp.div _)))) ?_))
        refine ed_call (es_2 (ed_var rfl k2) (ed_call (es_1 (ed_call (es_2 (ed_var rfl m7) (ed_mul (ed_var rfl m2) (ed_var rfl m4) (mulW hc.d he.d (by decide)))) ?_)) ⟨fac (gcdS c e) c e, sp.f.mono (by decide), rfl, rfl⟩)) ⟨r, _, hr'.mono (by decide), sp.ff.mono (by decide), rfl, rfl⟩
        rw [← Int.natCast_mul]
        exact sp.low⟩
/-! ### the law's numbers -/
def EucA (g : Nat) (pre rest : List (Option V)) (n : Nat) (σ : L2.St) (_ : Hp) : Prop := ∃ x y : Nat, σ = pre ++ some (.int x) :: some (.int y) :: rest ∧ Nat.gcd x y = g ∧ y = n
theorem ok_law_lowest (T : Txt K mg a) : FnOk P w K mg base CX0 1 a.law_lowest a.d_law_lowest p_law_lowest (spD K Rlowest) :=
  okD T.f_law_lowest.fn sc_law_lowest (by rintro _ _ ⟨i, u, _, _, _, rfl, rfl⟩; rfl) fun cdv A outer s H E hr => ⟨_, (pss_cons (ps_par (i := 3) (j := 4) (by rfl) sc_law_lowest.nd rfl rfl (by decide) rfl rfl (pa_cons (pe_callB cr_abs rfl T.b_abs (by decide +kernel) (pa_cons (pv 0) pa_nil)) (pa_cons (pe_callB cr_abs rfl T.b_abs (by decide +kernel) (pa_cons (pv 1) pa_nil)) pa_nil)) (by rfl))
      (pss_cons (ps_while PassesOwn.never (pt_cmpR op_gt (pv 4) pe_int (nomark _)) (pss_one (ps_par (i := 3) (j := 4) (by rfl) sc_law_lowest.nd rfl rfl (by decide) rfl rfl (pa_cons (pv 4) (pa_cons (pe_op op_mod (pe_callTy cr_int rfl T.b_int (by decide +kernel) (pa_cons (pv 3) pa_nil)) (pv 4)) pa_nil)) (by rfl))))
      (pss_cons (ps_set (i := 2) sc_law_lowest.nd rfl (Or.inl rfl) (pe_ifExp (pt_cmpR op_gt (pv 1) pe_int (nomark _)) (pv 3) (pe_un un_neg (pv 3))))
      (pss_cons (ps_par (i := 0) (j := 1) (by rfl) sc_law_lowest.nd rfl rfl (by decide) rfl rfl (pa_cons (pe_op op_fdivW (pv 0) (pv 2)) (pa_cons (pe_op op_fdivW (pv 1) (pv 2)) pa_nil)) (by rfl))
      (pss_one (ps_ret (pe_ifExp (pt_cmpR (op_eqD hr.units) (pv 1) pe_int (nomark _)) (pv 0) (pe_tup (pa_cons (pv 0) (pa_cons (pv 1) pa_nil)))))))))), fun m vs ds d l dv r => by
    obtain ⟨i, u, h0, hi, hu, rfl, rfl⟩ := r
    obtain ⟨v, v1, rfl, h, h1⟩ := dv.two
    refine rd_par (es_2 (ed_abs (ed_var rfl h)) (ed_abs (ed_var rfl h1))) fun v2 v3 H1 x1 l1 h2 h3 => ?_
    have h := h.up x1
    have h1 := h1.up x1
    refine rd_while (EucA (Int.gcd i (u : Int)) [some v, some v1, .none] []) ⟨_, i.natAbs, ((u : Int)).natAbs, by rw [h2.i, h3.i] <;> rfl, rfl, rfl⟩ (fun n σ H1 H2 h _ => h) fun n σ1 H2 x2 l2 hJ => ?_
    obtain ⟨x, y, rfl, hg, rfl⟩ := hJ
    have hx : Dv K (off m H2) (.int x) (.int x) := .int _
    have hy : Dv K (off m H2) (.int y) (.int y) := .int _
    refine ⟨_, eb_test (ed_gt (ed_var rfl hy) ed_int), fun z => ?_, fun z => ?_⟩
    · have z' : 0 < y := by simpa using z
      refine nd_par (es_2 (ed_var rfl hy) (ed_mod (ed_intI (ed_var rfl hx)) (ed_var rfl hy) (by omega))) fun v w H3 x3 l3 hv hw => ?_
      obtain ⟨h1, h2⟩ := euc_step z' hg
      exact ⟨x % y, h2, y, x % y, by rw [hv.i, hw.i] <;> rfl, h1, rfl⟩
    · have z' : y = 0 := by simpa using z
      subst z'
      rw [Nat.gcd_zero_right] at hg
      subst hg
      have h := h.up x2
      have h1 := h1.up x2
      refine rd_set (ed_if (b := true) ((eb_test (ed_gt (ed_var rfl h1) ed_int)).is (by rw [decide_eq_true_eq]; omega)) (fun _ => ed_var rfl hx) fun z => nomatch z) fun v4 H3 x3 l3 h4 => ?_
      have h := h.up x3
      have h1 := h1.up x3
      refine rd_par (es_2 (ed_div (ed_var rfl h) (ed_var rfl h4) (low_fit h0 hu)) (ed_div (ed_var rfl h1) (ed_var rfl h4) (low_fit h0 hu))) fun v5 v6 H4 x4 l4 h5 h6 => ?_
      rw [← fr_num h0] at h5
      rw [low_div h0] at h6
      refine rd_ret (ed_if (eb_test (ed_eq (ed_var rfl h6) ed_int sh_int sh_int)) (fun z => ?_) fun z => ?_)
      · rw [eqv_int, beq_iff_eq] at z
        exact (ed_var rfl h5).is (numD_i (by omega)).symm
      · rw [eqv_int, beq_eq_false_iff_ne] at z
        exact (ed_tup (es_2 (ed_var rfl h5) (ed_var rfl h6))).is (numD_p (by omega)).symm⟩
def RlawHalves (ds : List PyData) (d : PyData) : Prop := ∃ q : Rat, ds = [numD q] ∧ d = .list [.int q.num, .int (q.den : Int)]
theorem ok_law_halves (T : Txt K mg a) : FnOk P w K mg base CX0 1 a.law_halves a.d_law_halves p_law_halves (spD K RlawHalves) :=
  okD T.f_law_halves.fn sc_law_halves (by rintro _ _ ⟨x, rfl, rfl⟩; rfl) fun cdv A outer s H E hr => ⟨_, (pss_one (ps_ret (pe_ifExp (pt_val (pe_callB call_isi rfl T.b_isinstance (by decide +kernel) (pa_cons (pv 0) (pa_cons (pe_bltn (v := .ty "int") rfl T.b_int (by decide +kernel) rfl) pa_nil)))) (pe_lst (pa_cons (pv 0) (pa_cons pe_int pa_nil))) (pe_lst (pa_cons (pe_ix ix_seq (pv 0) pe_int (fun _ _ => rfl)) (pa_cons (pe_ix ix_seq (pv 0) pe_int (fun _ _ => rfl)) pa_nil)))))), fun m vs ds d l dv r => by
    obtain ⟨q, rfl, rfl⟩ := r
    obtain ⟨v, rfl, h⟩ := dv.one
    refine rd_ret (ed_if (eb_B (ed_isI (ed_var rfl h))) (fun z => ?_) fun z => ?_)
    · rw [numD_I, decide_eq_true_eq] at z
      rw [numD_i z] at h
      exact (ed_lst (es_2 (ed_var rfl h) ed_int)).is (by rw [z]; rfl)
    · rw [numD_I, decide_eq_false_iff_not] at z
      rw [numD_p z] at h
      exact ed_lst (es_2 (ed_ix (ed_var rfl h) (.tup _) (ed_int (i := 0)) (i := 0) rfl) (ed_ix (ed_var rfl h) (.tup _) (ed_int (i := 1)) (i := 1) rfl))⟩
theorem ok_law_plus (T : Txt K mg a) : FnOk P w K mg base CX0 2 a.law_plus a.d_law_plus p_law_plus (spD K Radded) :=
  okD T.f_law_plus.fn sc_law_plus (by rintro _ _ ⟨p, q, _, _, rfl, rfl⟩; rfl) fun cdv A outer s H E hr => ⟨_, (pss_cons (ps_par (i := 2) (j := 3) (by rfl) sc_law_plus.nd rfl rfl (by decide) rfl rfl (pa_cons (pe_call (ok_law_halves T) (hr.mono (by decide)) rfl T.f_law_halves.gl T.f_law_halves.fn.kp T.b_law_halves .nil pass0 (pa_cons (pv 0) pa_nil)) (pa_cons (pe_call (ok_law_halves T) (hr.mono (by decide)) rfl T.f_law_halves.gl T.f_law_halves.fn.kp T.b_law_halves .nil pass0 (pa_cons (pv 1) pa_nil)) pa_nil)) (by rfl))
      (pss_one (ps_ret (pe_call (ok_law_lowest T) (hr.mono (by decide)) rfl T.f_law_lowest.gl T.f_law_lowest.fn.kp T.b_law_lowest .nil pass0 (pa_cons (pe_op op_add (pe_op op_mulW (pe_ix ix_seq (pv 2) pe_int (fun _ _ => rfl)) (pe_ix ix_seq (pv 3) pe_int (fun _ _ => rfl))) (pe_op op_mulW (pe_ix ix_seq (pv 3) pe_int (fun _ _ => rfl)) (pe_ix ix_seq (pv 2) pe_int (fun _ _ => rfl)))) (pa_cons (pe_op op_mulW (pe_ix ix_seq (pv 2) pe_int (fun _ _ => rfl)) (pe_ix ix_seq (pv 3) pe_int (fun _ _ => rfl))) pa_nil)))))), fun m vs ds d l dv r => by
    obtain ⟨p, q, hp, hq, rfl, rfl⟩ := r
    obtain ⟨v, v1, rfl, h, h1⟩ := dv.two
    refine rd_par (es_2 (ed_call (es_1 (ed_var rfl h)) ⟨p, rfl, rfl⟩) (ed_call (es_1 (ed_var rfl h1)) ⟨q, rfl, rfl⟩)) fun w1 w2 H1 x1 l1 k1 k2 => ?_
    refine rd_ret (ed_call (es_2 (ed_add (ed_mul (ed_ix (ed_var rfl k1) (.lst _) (ed_int (i := 0)) (i := 0) rfl) (ed_ix (ed_var rfl k2) (.lst _) (ed_int (i := 1)) (i := 1) rfl) (mulW hp.1 hq.d (by decide)))
      (ed_mul (ed_ix (ed_var rfl k2) (.lst _) (ed_int (i := 0)) (i := 0) rfl) (ed_ix (ed_var rfl k1) (.lst _) (ed_int (i := 1)) (i := 1) rfl) (mulW hq.1 hp.d (by decide))))
      (ed_mul (ed_ix (ed_var rfl k1) (.lst _) (ed_int (i := 1)) (i := 1) rfl) (ed_ix (ed_var rfl k2) (.lst _) (ed_int (i := 1)) (i := 1) rfl) (mulW hp.d hq.d (by decide)))) ?_)
    rw [← Int.natCast_mul]
    exact low_of (Nat.mul_ne_zero p.den_nz q.den_nz) (sum_num hp hq) (Nat.lt_of_lt_of_le (mul_lt hp.2 hq.2) (Nat.pow_le_pow_right (by decide) (by decide))) (by decide) (fr_add p q)⟩
theorem ok_law_times (T : Txt K mg a) : FnOk P w K mg base CX0 2 a.law_times a.d_law_times p_law_times (spD K Rproduct) :=
  okD T.f_law_times.fn sc_law_times (by rintro _ _ ⟨p, q, _, _, rfl, rfl⟩; rfl) fun cdv A outer s H E hr => ⟨_, (pss_cons (ps_par (i := 2) (j := 3) (by rfl) sc_law_times.nd rfl rfl (by decide) rfl rfl (pa_cons (pe_call (ok_law_halves T) (hr.mono (by decide)) rfl T.f_law_halves.gl T.f_law_halves.fn.kp T.b_law_halves .nil pass0 (pa_cons (pv 0) pa_nil)) (pa_cons (pe_call (ok_law_halves T) (hr.mono (by decide)) rfl T.f_law_halves.gl T.f_law_halves.fn.kp T.b_law_halves .nil pass0 (pa_cons (pv 1) pa_nil)) pa_nil)) (by rfl))
      (pss_one (ps_ret (pe_call (ok_law_lowest T) (hr.mono (by decide)) rfl T.f_law_lowest.gl T.f_law_lowest.fn.kp T.b_law_lowest .nil pass0 (pa_cons (pe_op op_mulW (pe_ix ix_seq (pv 2) pe_int (fun _ _ => rfl)) (pe_ix ix_seq (pv 3) pe_int (fun _ _ => rfl))) (pa_cons (pe_op op_mulW (pe_ix ix_seq (pv 2) pe_int (fun _ _ => rfl)) (pe_ix ix_seq (pv 3) pe_int (fun _ _ => rfl))) pa_nil)))))), fun m vs ds d l dv r => by
    obtain ⟨p, q, hp, hq, rfl, rfl⟩ := r
    obtain ⟨v, v1, rfl, h, h1⟩ := dv.two
    refine rd_par (es_2 (ed_call (es_1 (ed_var rfl h)) ⟨p, rfl, rfl⟩) (ed_call (es_1 (ed_var rfl h1)) ⟨q, rfl, rfl⟩)) fun w1 w2 H1 x1 l1 k1 k2 => ?_
    refine rd_ret (ed_call (es_2 (ed_mul (ed_ix (ed_var rfl k1) (.lst _) (ed_int (i := 0)) (i := 0) rfl) (ed_ix (ed_var rfl k2) (.lst _) (ed_int (i := 0)) (i := 0) rfl) (mulW hp.1 hq.1 (by decide)))
      (ed_mul (ed_ix (ed_var rfl k1) (.lst _) (ed_int (i := 1)) (i := 1) rfl) (ed_ix (ed_var rfl k2) (.lst _) (ed_int (i := 1)) (i := 1) rfl) (mulW hp.d hq.d (by decide)))) ?_)
    rw [← Int.natCast_mul]
    exact low_of (Nat.mul_ne_zero p.den_nz q.den_nz) (abs_mul_lt hp.1 hq.1) (mul_lt hp.2 hq.2) (by decide) (fr_mul p q)⟩
/-! ### the root by halves -/
def Rwhole (ds : List PyData) (d : PyData) : Prop := ∃ n : Nat, n < 2 ^ 8000 ∧ ds = [.int (n : Int)] ∧ d = .int (sq n : Nat)
/-- between two turns of the halving -/
structure Halv (n k : Nat) (lo hi : Nat) : Prop where
  low : lo * lo ≤ n
  high : n < hi * hi
  lt : lo < hi
  up : hi ≤ n + 1
  wd : hi - lo ≤ 2 ^ ((Builtin.Int.intBits (n : Int)) - k)
theorem bits_gt (n : Nat) : n < 2 ^ (Builtin.Int.intBits (n : Int)) := by
  unfold Builtin.Int.intBits
  split
  · rename_i h
    have : n = 0 := by simpa using h
    subst this
    decide
  · rename_i h
    rw [Int.natAbs_natCast]
    exact Nat.lt_log2_self
theorem Halv.start (n : Nat) : Halv n 0 0 (n + 1) where
  low := Nat.zero_le _
  high := by
    have h : n + 1 ≤ (n + 1) * (n + 1) := Nat.le_mul_of_pos_left (n + 1) (Nat.succ_pos n)
    omega
  lt := Nat.succ_pos _
  up := Nat.le_refl _
  wd := by have := bits_gt n; rw [Nat.sub_zero, Nat.sub_zero]; omega
theorem Halv.next {n k lo hi : Nat} (h : Halv n k lo hi) : if (lo + hi) / 2 * ((lo + hi) / 2) ≤ n then Halv n (k + 1) ((lo + hi) / 2) hi else Halv n (k + 1) lo ((lo + hi) / 2) := by
  obtain ⟨h1, h2, h3, h4, h5⟩ := h
  have w : ∀ b : Nat, hi - lo ≤ 2 ^ (b - k) → hi - (lo + hi) / 2 ≤ 2 ^ (b - (k + 1)) := fun b hb => by
    by_cases hk : k < b
    · have e : b - k = (b - (k + 1)) + 1 := by omega
      rw [e, Nat.pow_succ] at hb
      omega
    · have e : b - k = 0 := by omega
      have e' : b - (k + 1) = 0 := by omega
      rw [e] at hb
      rw [e']
      omega
  have w2 : ∀ b : Nat, hi - lo ≤ 2 ^ (b - k) → (lo + hi) / 2 - lo ≤ 2 ^ (b - (k + 1)) := fun b hb => Nat.le_trans (by omega) (w b hb)
  split
  · rename_i hc
    exact ⟨hc, h2, by omega, h4, w _ h5⟩
  · rename_i hc
    refine ⟨h1, by omega, ?_, by omega, w2 _ h5⟩
    refine Nat.lt_of_le_of_ne (by omega) fun z => hc ?_
    rw [← z]
    exact h1
theorem Halv.fin {n lo hi : Nat} (h : Halv n (Builtin.Int.intBits (n : Int) + 2) lo hi) : lo = sq n := by
  obtain ⟨h1, h2, h3, h4, h5⟩ := h
  rw [show Builtin.Int.intBits (n : Int) - (Builtin.Int.intBits (n : Int) + 2) = 0 by omega] at h5
  have e : hi = lo + 1 := by omega
  subst e
  exact sq_one h1 h2
theorem ok_law_whole_root (T : Txt K mg a) : FnOk P w K mg base CX0 1 a.law_whole_root a.d_law_whole_root p_law_whole_root (spD K Rwhole) :=
  okD T.f_law_whole_root.fn sc_law_whole_root (by rintro _ _ ⟨n, _, rfl, rfl⟩; rfl) fun cdv A outer s H E hr => ⟨_, (pss_cons (ps_par (i := 2) (j := 3) (by rfl) sc_law_whole_root.nd rfl rfl (by decide) rfl rfl (pa_cons pe_int (pa_cons (pe_op op_add (pv 0) pe_int) pa_nil)) (by rfl))
      (pss_cons (ps_for PassesOwn.never rfl (pi_range1 rfl T.b_range (pa_cons (pe_op op_add (pe_bits (pe_callTy cr_int rfl T.b_int (by decide +kernel) (pa_cons (pv 0) pa_nil))) pe_int) pa_nil)) (pg_name (i := 1) sc_law_whole_root.nd rfl (Or.inl rfl)) (pss_cons (ps_set (i := 4) sc_law_whole_root.nd rfl (Or.inl rfl) (pe_op op_fdivW (pe_op op_add (pv 2) (pv 3)) pe_int))
      (pss_one (ps_asg (pe_ifExp (pt_cmpR op_le (pe_op op_mulW (pv 4) (pv 4)) (pv 0) (nomark _)) (pe_tup (pa_cons (pv 4) (pa_cons (pv 3) pa_nil))) (pe_tup (pa_cons (pv 2) (pa_cons (pv 4) pa_nil)))) (pg_tup rfl (pgs_cons (pg_name (i := 2) sc_law_whole_root.nd rfl (Or.inl rfl)) (pgs_cons (pg_name (i := 3) sc_law_whole_root.nd rfl (Or.inl rfl)) pgs_nil)))))))
      (pss_one (ps_ret (pv 2))))), fun m vs ds d l dv r => by
    obtain ⟨n, hn, rfl, rfl⟩ := r
    obtain ⟨v, rfl, h⟩ := dv.one
    refine rd_par (es_2 ed_int (ed_add (ed_var rfl h) ed_int)) fun v1 v2 H1 x1 l1 h1 h2 => ?_
    have h := h.up x1
    have hb : Builtin.Int.intBits (n : Int) ≤ 8000 := by
      have := bits_le (n : Int)
      have h2 := PySem.Flt.log2_lt_of (n := n) (by decide) hn
      rw [Int.natAbs_natCast] at this
      omega
    refine rd_range (n := Builtin.Int.intBits (n : Int) + 2) (fun k σ H => ∃ (lo hi : Nat) (o1 o4 : Option V), Halv n k lo hi ∧ σ = [some v, o1, some (.int lo), some (.int hi), o4])
      ((ed_add (ed_bits (ed_intI (ed_var rfl h))) ed_int).is (by rw [Int.natCast_add]; rfl)) (Nat.lt_of_le_of_lt (m := 8002) (by omega) (by decide)) (fun H2 _ => ⟨0, n + 1, .none, .none, Halv.start n, by rw [h1.i, h2.i] <;> rfl⟩) (fun k σ1 H2 hk x2 l2 hJ => ?_) fun σ1 H2 x2 l2 hJ => ?_
    · obtain ⟨lo, hi, o1, o4, hv, rfl⟩ := hJ
      have k2 : Dv K (off m H2) (.int lo) (.int lo) := .int _
      have k3 : Dv K (off m H2) (.int hi) (.int hi) := .int _
      have h := h.up x2
      have eh : ((lo : Int) + (hi : Int)) / 2 = (((lo + hi) / 2 : Nat) : Int) := by omega
      have hf : (((lo + hi) / 2 : Nat) : Int).natAbs < 2 ^ 8000 := by
        rw [Int.natAbs_natCast]
        have := hv.up
        have := hv.lt
        exact Nat.lt_of_le_of_lt (by omega) hn
      refine nd_seq (nd_set (ed_div (ed_add (ed_var rfl k2) (ed_var rfl k3)) ed_int ⟨by decide, by decide⟩) fun v4 H3 x3 l3 k4 => ?_)
      rw [eh] at k4
      have k2 := k2.up x3
      have k3 := k3.up x3
      have h := h.up x3
      have nx := hv.next
      refine nd_tup2 (e := .int (if (lo + hi) / 2 * ((lo + hi) / 2) ≤ n then ((lo + hi) / 2 : Nat) else lo : Nat)) (f := .int (if (lo + hi) / 2 * ((lo + hi) / 2) ≤ n then hi else ((lo + hi) / 2 : Nat) : Nat))
        (ed_if (b := decide ((lo + hi) / 2 * ((lo + hi) / 2) ≤ n)) ((eb_test (ed_le (ed_mul (ed_var rfl k4) (ed_var rfl k4) (mulW hf hf (by decide))) (ed_var rfl h))).is ?_) (fun z => ?_) fun z => ?_) fun v5 v6 H4 x4 l4 k5 k6 => ?_
      · rw [← Int.natCast_mul, Bool.eq_iff_iff, decide_eq_true_eq, decide_eq_true_eq, Int.ofNat_le]
      · have z' := of_decide_eq_true z
        rw [if_pos z', if_pos z']
        exact ed_tup (es_2 (ed_var rfl k4) (ed_var rfl k3))
      · have z' := of_decide_eq_false z
        rw [if_neg z', if_neg z']
        exact ed_tup (es_2 (ed_var rfl k2) (ed_var rfl k4))
      · refine ⟨_, _, some (.int (k : Int)), some v4, ?_, by rw [k5.i, k6.i] <;> rfl⟩
        by_cases z' : (lo + hi) / 2 * ((lo + hi) / 2) ≤ n
        · rw [if_pos z'] at nx
          rw [if_pos z', if_pos z']
          exact nx
        · rw [if_neg z'] at nx
          rw [if_neg z', if_neg z']
          exact nx
    · obtain ⟨lo, hi, o1, o4, hv, rfl⟩ := hJ
      have k2 : Dv K (off m H2) (.int lo) (.int lo) := .int _
      exact rd_ret ((ed_var rfl k2).is (by rw [hv.fin]))⟩
def RlawRoot (ds : List PyData) (d : PyData) : Prop := ∃ (p : Rat), 0 ≤ p.num ∧ Bd 4000 p ∧ ds = [numD p] ∧ d = optD (rootQ p)
theorem sh_l2 (i j : Int) : SeqAt.shaped (.list [.int i, .int j]) = true := by simp [SeqAt.shaped, PyData.canLay0, PyData.canLayAll0, PyData.depth, PyData.depthAll]
theorem eqv_l2 (i j x y : Int) : PyData.eqv (.list [.int i, .int j]) (.list [.int x, .int y]) = (i == x && j == y) := by simp [PyData.eqv, PyData.eqvAll]
theorem ok_law_root (T : Txt K mg a) : FnOk P w K mg base CX0 2 a.law_root a.d_law_root p_law_root (spD K RlawRoot) :=
  okD T.f_law_root.fn sc_law_root (by rintro _ _ ⟨p, _, _, rfl, rfl⟩; rfl) fun cdv A outer s H E hr => ⟨_, (pss_cons (ps_set (i := 1) sc_law_root.nd rfl (Or.inl rfl) (pe_call (ok_law_halves T) (hr.mono (by decide)) rfl T.f_law_halves.gl T.f_law_halves.fn.kp T.b_law_halves .nil pass0 (pa_cons (pv 0) pa_nil)))
      (pss_cons (ps_set (i := 2) sc_law_root.nd rfl (Or.inl rfl) (pe_lst (pa_cons (pe_call (ok_law_whole_root T) (hr.mono (by decide)) rfl T.f_law_whole_root.gl T.f_law_whole_root.fn.kp T.b_law_whole_root .nil pass0 (pa_cons (pe_ix ix_seq (pv 1) pe_int (fun _ _ => rfl)) pa_nil)) (pa_cons (pe_call (ok_law_whole_root T) (hr.mono (by decide)) rfl T.f_law_whole_root.gl T.f_law_whole_root.fn.kp T.b_law_whole_root .nil pass0 (pa_cons (pe_ix ix_seq (pv 1) pe_int (fun _ _ => rfl)) pa_nil)) pa_nil))))
      (pss_one (ps_ret (pe_ifExp (pt_cmpR (op_eqD hr.units) (pe_lst (pa_cons (pe_op op_powW (pe_ix ix_seq (pv 2) pe_int (fun _ _ => rfl)) pe_int) (pa_cons (pe_op op_powW (pe_ix ix_seq (pv 2) pe_int (fun _ _ => rfl)) pe_int) pa_nil))) (pv 1) (nomark _)) (pe_call (ok_law_lowest T) (hr.mono (by decide)) rfl T.f_law_lowest.gl T.f_law_lowest.fn.kp T.b_law_lowest .nil pass0 (pa_cons (pe_ix ix_seq (pv 2) pe_int (fun _ _ => rfl)) (pa_cons (pe_ix ix_seq (pv 2) pe_int (fun _ _ => rfl)) pa_nil))) pe_non))))), fun m vs ds d l dv r => by
    obtain ⟨p, hp, hb, rfl, rfl⟩ := r
    obtain ⟨v, rfl, h⟩ := dv.one
    have ep : p.num = (p.num.natAbs : Int) := by omega
    refine rd_set (ed_call (es_1 (ed_var rfl h)) ⟨p, rfl, rfl⟩) fun v1 H1 x1 l1 h1 => ?_
    rw [ep] at h1
    refine rd_set (ed_lst (es_2 (ed_call (es_1 (ed_ix (ed_var rfl h1) (.lst _) (ed_int (i := 0)) (i := 0) rfl)) ⟨p.num.natAbs, lt8000 hb.1 (by decide), rfl, rfl⟩) (ed_call (es_1 (ed_ix (ed_var rfl h1) (.lst _) (ed_int (i := 1)) (i := 1) rfl)) ⟨p.den, lt8000 hb.2 (by decide), rfl, rfl⟩))) fun v2 H2 x2 l2 h2 => ?_
    have h1 := h1.up x2
    have bn : ((sq p.num.natAbs : Nat) : Int).natAbs < 2 ^ 4000 := by rw [Int.natAbs_natCast]; exact Nat.lt_of_le_of_lt (sq_le _) hb.1
    have bd : ((sq p.den : Nat) : Int).natAbs < 2 ^ 4000 := by rw [Int.natAbs_natCast]; exact Nat.lt_of_le_of_lt (sq_le _) hb.2
    have up : ∀ {i : Nat}, i < 2 ^ 4000 → i < 2 ^ 5000 := fun h => Nat.lt_of_lt_of_le h (Nat.pow_le_pow_right (by decide) (by decide))
    refine rd_ret (ed_if (b := decide (sq p.num.natAbs * sq p.num.natAbs = p.num.natAbs ∧ sq p.den * sq p.den = p.den)) ((eb_test (ed_eq (ed_lst (es_2 (ed_powW (ed_ix (ed_var rfl h2) (.lst _) (ed_int (i := 0)) (i := 0) rfl) ed_int ⟨up bn, by decide, by decide⟩) (ed_powW (ed_ix (ed_var rfl h2) (.lst _) (ed_int (i := 1)) (i := 1) rfl) ed_int ⟨up bd, by decide, by decide⟩))) (ed_var rfl h1) (sh_l2 _ _) (sh_l2 _ _))).is ?_) (fun z => ?_) fun z => ?_)
    · have e2 : ∀ i : Nat, ((i : Int)) ^ (2 : Int).toNat = ((i * i : Nat) : Int) := fun i => by
        rw [show (2 : Int).toNat = 2 from rfl, Int.pow_succ, Int.pow_succ, Int.pow_zero, Int.one_mul, Int.natCast_mul]
      rw [eqv_l2, e2, e2, Bool.eq_iff_iff, Bool.and_eq_true, beq_iff_eq, beq_iff_eq, decide_eq_true_eq]
      omega
    · have z' := of_decide_eq_true z
      have e : rootQ p = some (fr (sq p.num.natAbs : Nat) (sq p.den)) := if_pos z'
      rw [e]
      refine ed_call (es_2 (ed_ix (ed_var rfl h2) (.lst _) (ed_int (i := 0)) (i := 0) rfl) (ed_ix (ed_var rfl h2) (.lst _) (ed_int (i := 1)) (i := 1) rfl)) (low_of ?_ bn (by rw [Int.natAbs_natCast] at bd; exact bd) (by decide) rfl)
      intro y
      rw [y] at z'
      exact p.den_nz (by omega)
    · have z' := of_decide_eq_false z
      have e : rootQ p = none := if_neg z'
      rw [e]
      exact ed_non⟩
/-! ### the law's place -/
def RlawForm (ds : List PyData) (d : PyData) : Prop := ∃ (p q c e r : Rat) (A : PyData), Bd 900 p ∧ Bd 900 q ∧ Bd 900 c ∧ Bd 900 e ∧ Bd 900 r ∧ 0 ≤ r.num ∧ IsSeq A [numD c, numD e] ∧ ds = [.list [numD p, numD q], A, numD r] ∧ d = formD p q c e r
theorem ok_law_form (T : Txt K mg a) : FnOk P w K mg base CX0 3 a.law_form a.d_law_form p_law_form (spD K RlawForm) :=
  okD T.f_law_form.fn sc_law_form (by rintro _ _ ⟨p, q, c, e, r, A, _, _, _, _, _, _, _, rfl, rfl⟩; rfl) fun cdv A outer s H E hr => ⟨_, (pss_cons (ps_if (PW.pt (pw_or (pt_cmpR (op_eqD hr.units) (pe_callTy cr_tup rfl T.b_tuple (by decide +kernel) (pa_cons (pv 1) pa_nil)) (pe_tup (pa_cons pe_int (pa_cons pe_int pa_nil))) (nomark _)) (pw_or1 (pt_cmpR (op_eqD hr.units) (pv 2) pe_int (nomark _))))) (pss_one (ps_ret (pe_tup (pa_cons (pe_callTy cr_tup rfl T.b_tuple (by decide +kernel) (pa_cons (pv 0) pa_nil)) (pa_cons (pe_tup (pa_cons pe_int (pa_cons pe_int pa_nil))) (pa_cons pe_int pa_nil)))))) pss_nil)
      (pss_cons (ps_set (i := 3) sc_law_form.nd rfl (Or.inr rfl) (pe_call (ok_law_root T) (hr.mono (by decide)) rfl T.f_law_root.gl T.f_law_root.fn.kp T.b_law_root .nil pass0 (pa_cons (pv 2) pa_nil)))
      (pss_cons (ps_if (pt_cmpR op_notN' (pv 3) pe_non (nomark _)) (pss_one (ps_ret (pe_tup (pa_cons (pe_callTy cr_tup rfl T.b_tuple (by decide +kernel) (pa_cons (pe_lc (own := [("_law_mine", 12), ("_law_its", 13)]) (g := (gTup _ 2 (gCons (gName 12) (gCons (gName 13) gNil)))) (tt := tYes) rfl sc_law_form.nd (pi_zipQ rfl T.b_zip (pa_cons (pv 0) (pa_cons (pv 1) pa_nil))) (blkOk_by (own := [("_law_mine", 12), ("_law_its", 13)]) (N := n_law_form) (sc := defScope s_law_form) (by decide +kernel)) (fun _ _ _ _ _ => (pg_tup rfl (pgs_cons (pg_name (i := 12) sc_law_form.nd rfl (Or.inl rfl)) (pgs_cons (pg_name (i := 13) sc_law_form.nd rfl (Or.inl rfl)) pgs_nil)))) (fun _ _ _ _ _ => pts_nil) (fun _ _ _ _ _ => (pe_call (ok_law_plus T) (hr.mono (by decide)) rfl T.f_law_plus.gl T.f_law_plus.fn.kp T.b_law_plus .nil pass0 (pa_cons (pv 12) (pa_cons (pe_call (ok_law_times T) (hr.mono (by decide)) rfl T.f_law_times.gl T.f_law_times.fn.kp T.b_law_times .nil pass0 (pa_cons (pv 13) (pa_cons (pv 3) pa_nil))) pa_nil))))) pa_nil)) (pa_cons (pe_tup (pa_cons pe_int (pa_cons pe_int pa_nil))) (pa_cons pe_int pa_nil)))))) pss_nil)
      (pss_cons (ps_par (i := 7) (j := 8) (by rfl) sc_law_form.nd rfl rfl (by decide) rfl rfl (pa_cons (pe_call (ok_law_halves T) (hr.mono (by decide)) rfl T.f_law_halves.gl T.f_law_halves.fn.kp T.b_law_halves .nil pass0 (pa_cons (pe_ix ix_seq (pv 1) pe_int (fun _ _ => rfl)) pa_nil)) (pa_cons (pe_call (ok_law_halves T) (hr.mono (by decide)) rfl T.f_law_halves.gl T.f_law_halves.fn.kp T.b_law_halves .nil pass0 (pa_cons (pe_ix ix_seq (pv 1) pe_int (fun _ _ => rfl)) pa_nil)) pa_nil)) (by rfl))
      (pss_cons (ps_par3 (i := 9) (j := 10) (l := 11) (by rfl) sc_law_form.nd rfl rfl rfl (by decide) (by decide) (by decide) rfl rfl rfl (pa_cons (pe_op op_mulW (pe_ix ix_seq (pv 7) pe_int (fun _ _ => rfl)) (pe_ix ix_seq (pv 8) pe_int (fun _ _ => rfl))) (pa_cons (pe_op op_mulW (pe_ix ix_seq (pv 8) pe_int (fun _ _ => rfl)) (pe_ix ix_seq (pv 7) pe_int (fun _ _ => rfl))) (pa_cons (pe_op op_mulW (pe_ix ix_seq (pv 7) pe_int (fun _ _ => rfl)) (pe_ix ix_seq (pv 8) pe_int (fun _ _ => rfl))) pa_nil))) (by rfl))
      (pss_cons (ps_set (i := 4) sc_law_form.nd rfl (Or.inl rfl) (pe_callB cr_abs rfl T.b_abs (by decide +kernel) (pa_cons (pv 9) pa_nil)))
      (pss_cons (ps_set (i := 5) sc_law_form.nd rfl (Or.inl rfl) (pe_callB cr_abs rfl T.b_abs (by decide +kernel) (pa_cons (pv 10) pa_nil)))
      (pss_cons (ps_while PassesOwn.never (pt_cmpR op_gt (pv 5) pe_int (nomark _)) (pss_one (ps_par (i := 4) (j := 5) (by rfl) sc_law_form.nd rfl rfl (by decide) rfl rfl (pa_cons (pv 5) (pa_cons (pe_op op_mod (pe_callTy cr_int rfl T.b_int (by decide +kernel) (pa_cons (pv 4) pa_nil)) (pv 5)) pa_nil)) (by rfl))))
      (pss_cons (ps_set (i := 6) sc_law_form.nd rfl (Or.inl rfl) (pe_call (ok_law_lowest T) (hr.mono (by decide)) rfl T.f_law_lowest.gl T.f_law_lowest.fn.kp T.b_law_lowest .nil pass0 (pa_cons (pv 4) (pa_cons (pv 11) pa_nil))))
      (pss_one (ps_ret (pe_tup (pa_cons (pe_callTy cr_tup rfl T.b_tuple (by decide +kernel) (pa_cons (pv 0) pa_nil)) (pa_cons (pe_tup (pa_cons (pe_op op_fdivW (pv 9) (pv 4)) (pa_cons (pe_op op_fdivW (pv 10) (pv 4)) pa_nil))) (pa_cons (pe_call (ok_law_times T) (hr.mono (by decide)) rfl T.f_law_times.gl T.f_law_times.fn.kp T.b_law_times .nil pass0 (pa_cons (pv 2) (pa_cons (pe_call (ok_law_times T) (hr.mono (by decide)) rfl T.f_law_times.gl T.f_law_times.fn.kp T.b_law_times .nil pass0 (pa_cons (pv 6) (pa_cons (pv 6) pa_nil))) pa_nil))) pa_nil))))))))))))))), fun m vs ds d l dv r => by
    obtain ⟨p, q, c, e, r, A, hp, hq, hc, he, hr', h0, hA, rfl, rfl⟩ := r
    obtain ⟨v, v1, v2, rfl, k, k1, k2⟩ := dv.three
    refine rd_ifr (b := decide (r = 0 ∨ (c = 0 ∧ e = 0))) ((eb_or (eb_test (ed_eq (ed_tupC (ed_var rfl k1) hA) (ed_tup (es_2 ed_int ed_int)) (sh_pt _ _) sh_00)) fun _ => eb_test (ed_eq (ed_var rfl k2) ed_int (sh_num _) sh_int)).is ?_) (fun z => ?_) fun z => ?_
    · rw [eqv_0, eqv_pt0, Bool.eq_iff_iff]
      simp
      exact Or.comm
    · rw [formD, if_pos (of_decide_eq_true z)]
      exact rd_ret (ed_tup (es_3 (ed_tupC (ed_var rfl k) (.lst _)) (ed_tup (es_2 ed_int ed_int)) ed_int))
    · have z' := of_decide_eq_false z
      have sp : Spot c e := ⟨hc, he, fun y => z' (.inr y)⟩
      rw [formD, if_neg z']
      refine rd_set (ed_call (es_1 (ed_var rfl k2)) ⟨r, h0, hr'.mono (by decide), rfl, rfl⟩) fun v3 H1 x1 l1 k3 => ?_
      have k := k.up x1
      have k1 := k1.up x1
      have k2 := k2.up x1
      cases hw : rootQ r with
      | some w =>
        rw [hw] at k3
        have nw : isN (numD w) = false := by unfold numD; split <;> rfl
        have bw := rootQ_bd hr' hw
        refine rd_ifr (b := true) ((eb_test (ed_notN (ed_var rfl k3))).is (by show (!isN (numD w)) = true; rw [nw]; rfl)) (fun _ => ?_) fun y => nomatch y
        refine rd_ret (ed_tup (es_3 (ed_tupC (ed_lcZip (fs := [numD (p + c * w), numD (q + e * w)]) (ed_var rfl k) (ed_var rfl k1) hA rfl rfl (by simp) (fun _ _ => rfl) ?_) (.lst _)) (ed_tup (es_2 ed_int ed_int)) ed_int))
        intro D n x y f u1 u2 H2 hD hx hy hf x2 d1 d2
        have k3' : Dv K (off (D :: m) H2) v3 (numD w) := by
          rw [← off_free hD] at k3
          exact k3.up x2
        match n, hx, hy, hf with
        | 0, hx, hy, hf =>
          cases hx
          cases hy
          cases hf
          exact ed_call (es_2 (ed_var rfl d1) (ed_call (es_2 (ed_var rfl d2) (ed_var rfl k3')) ⟨c, w, hc.mono (by decide), bw.mono (by decide), rfl, rfl⟩)) ⟨p, c * w, hp.mono (by decide), (hc.mul bw).mono (by decide), rfl, rfl⟩
        | 1, hx, hy, hf =>
          cases hx
          cases hy
          cases hf
          exact ed_call (es_2 (ed_var rfl d1) (ed_call (es_2 (ed_var rfl d2) (ed_var rfl k3')) ⟨e, w, he.mono (by decide), bw.mono (by decide), rfl, rfl⟩)) ⟨q, e * w, hq.mono (by decide), (he.mul bw).mono (by decide), rfl, rfl⟩
        | n + 2, hx, _, _ => cases hx
      | none =>
        rw [hw] at k3
        refine rd_ifr (b := false) (eb_test (ed_notN (ed_var rfl k3))) (fun y => nomatch y) fun _ => ?_
        refine rd_par (es_2 (ed_call (es_1 (ed_ix (ed_var rfl k1) hA (ed_int (i := 0)) (i := 0) rfl)) ⟨c, rfl, rfl⟩) (ed_call (es_1 (ed_ix (ed_var rfl k1) hA (ed_int (i := 1)) (i := 1) rfl)) ⟨e, rfl, rfl⟩)) fun w1 w2 H2 x2 l2 m1 m2 => ?_
        have k := k.up x2
        have k2 := k2.up x2
        refine rd_par3 (es_3 (ed_mul (ed_ix (ed_var rfl m1) (.lst _) (ed_int (i := 0)) (i := 0) rfl) (ed_ix (ed_var rfl m2) (.lst _) (ed_int (i := 1)) (i := 1) rfl) (mulW hc.1 he.d (by decide)))
          (ed_mul (ed_ix (ed_var rfl m2) (.lst _) (ed_int (i := 0)) (i := 0) rfl) (ed_ix (ed_var rfl m1) (.lst _) (ed_int (i := 1)) (i := 1) rfl) (mulW he.1 hc.d (by decide)))
          (ed_mul (ed_ix (ed_var rfl m1) (.lst _) (ed_int (i := 1)) (i := 1) rfl) (ed_ix (ed_var rfl m2) (.lst _) (ed_int (i := 1)) (i := 1) rfl) (mulW hc.d he.d (by decide)))) fun w3 w4 w5 H3 x3 l3 m3 m4 m5 => ?_
        have k := k.up x3
        have k2 := k2.up x3
        rw [← Int.natCast_mul] at m5
        refine rd_set (ed_abs (ed_var rfl m3)) fun w6 H4 x4 l4 m6 => ?_
        have k := k.up x4
        have k2 := k2.up x4
        have m3 := m3.up x4
        have m4 := m4.up x4
        have m5 := m5.up x4
        refine rd_set (ed_abs (ed_var rfl m4)) fun w7 H5 x5 l5 m7 => ?_
        have k := k.up x5
        have k2 := k2.up x5
        have m3 := m3.up x5
        have m4 := m4.up x5
        have m5 := m5.up x5
        have m6 := m6.up x5
        refine rd_while (EucA (gcdS c e) [some v, some v1, some v2, some v3] [.none, some w1, some w2, some w3, some w4, some w5, .none, .none]) ⟨_, (c.num * e.den).natAbs, (e.num * c.den).natAbs, by rw [m6.i, m7.i] <;> rfl, rfl, rfl⟩ (fun n σ H1 H2 h _ => h) fun n σ1 H6 x6 l6 hJ => ?_
        obtain ⟨x, y, rfl, hg, rfl⟩ := hJ
        have hx : Dv K (off m H6) (.int x) (.int x) := .int _
        have hy : Dv K (off m H6) (.int y) (.int y) := .int _
        refine ⟨_, eb_test (ed_gt (ed_var rfl hy) ed_int), fun z => ?_, fun z => ?_⟩
        · have z' : 0 < y := by simpa using z
          refine nd_par (es_2 (ed_var rfl hy) (ed_mod (ed_intI (ed_var rfl hx)) (ed_var rfl hy) (by omega))) fun v w H3 x3 l3 hv hw => ?_
          obtain ⟨h1, h2⟩ := euc_step z' hg
          exact ⟨x % y, h2, y, x % y, by rw [hv.i, hw.i] <;> rfl, h1, rfl⟩
        · have z' : y = 0 := by simpa using z
          subst z'
          rw [Nat.gcd_zero_right] at hg
          subst hg
          have k := k.up x6
          have k2 := k2.up x6
          have m3 := m3.up x6
          have m4 := m4.up x6
          have m5 := m5.up x6
          refine rd_set (ed_call (es_2 (ed_var rfl hx) (ed_var rfl m5)) sp.low) fun w8 H7 x7 l7 m8 => ?_
          have k := k.up x7
          have k2 := k2.up x7
          have m3 := m3.up x7
          have m4 := m4.up x7
          have hx := hx.up x7
          exact rd_ret (ed_tup (es_3 (ed_tupC (ed_var rfl k) (.lst _)) (ed_tup (es_2 (ed_div (ed_var rfl m3) (ed_var rfl hx) (sp.div _)) (ed_div (ed_var rfl m4) (ed_var rfl hx) (sp.div _))))
            (ed_call (es_2 (ed_var rfl k2) (ed_call (es_2 (ed_var rfl m8) (ed_var rfl m8)) ⟨_, _, sp.f.mono (by decide), sp.f.mono (by decide), rfl, rfl⟩)) ⟨r, _, hr'.mono (by decide), sp.ff.mono (by decide), rfl, rfl⟩)))⟩
end
end Pc

set_option Elab.async false
set_option linter.all false
set_option maxRecDepth 100000
set_option maxHeartbeats 4000000
/-! PcD4: whether any value is a place: by the program and by the law. -/
namespace Pc
open PySem PySem.Spec PyProof.Rows L2
open Evl (Ex)
/-- data of a small depth without dicts, its integers not too great -/
def Wf : Nat → PyData → Prop
  | _, .none => True
  | _, .bool _ => True
  | _, .int i => i.natAbs < 2 ^ 900
  | _, .str x => PyData.strOk x = true
  | n + 1, .list xs => ∀ x ∈ xs, Wf n x
  | n + 1, .tuple xs => ∀ x ∈ xs, Wf n x
  | _, _ => False
theorem lay_all {n : Nat} : ∀ {xs : List PyData}, (∀ x ∈ xs, x.canLay0 = true ∧ x.depth ≤ n) → PyData.canLayAll0 xs = true ∧ PyData.depthAll xs ≤ n
  | [], _ => by simp [PyData.canLayAll0, PyData.depthAll]
  | x :: xs, h => by
    have h1 := h x List.mem_cons_self
    have h2 := lay_all (xs := xs) fun y hy => h y (List.mem_cons_of_mem _ hy)
    simp only [PyData.canLayAll0, PyData.depthAll, h1.1, h2.1, Bool.and_self, true_and]
    omega
theorem Wf.lay : ∀ {n : Nat} {d : PyData}, Wf n d → d.canLay0 = true ∧ d.depth ≤ n
  | n, .none, _ => by simp [PyData.canLay0, PyData.depth]
  | n, .bool _, _ => by simp [PyData.canLay0, PyData.depth]
  | n, .int _, _ => by simp [PyData.canLay0, PyData.depth]
  | n, .str x, h => by
    have h' : PyData.strOk x = true := by cases n <;> exact h
    simp [PyData.canLay0, PyData.depth, h']
  | 0, .list _, h => h.elim
  | 0, .tuple _, h => h.elim
  | 0, .dict _, h => h.elim
  | n + 1, .dict _, h => h.elim
  | n + 1, .list xs, h => by
    have := lay_all (n := n) (xs := xs) fun x hx => Wf.lay (h x hx)
    simp only [PyData.canLay0, PyData.depth, this.1, true_and]
    omega
  | n + 1, .tuple xs, h => by
    have := lay_all (n := n) (xs := xs) fun x hx => Wf.lay (h x hx)
    simp only [PyData.canLay0, PyData.depth, this.1, true_and]
    omega
theorem Wf.sh {n : Nat} {d : PyData} (h : Wf n d) (hn : n ≤ 60) : SeqAt.shaped d = true := by
  have := h.lay
  unfold SeqAt.shaped
  rw [this.1, Bool.true_and, decide_eq_true_eq]
  omega
theorem Wf.seq {n : Nat} {d : PyData} {ds : List PyData} (h : Wf n d) (q : IsSeq d ds) : ∃ k, n = k + 1 ∧ ∀ x ∈ ds, Wf k x := by
  cases n with
  | zero => cases q <;> exact h.elim
  | succ k => exact ⟨k, rfl, by cases q <;> exact h⟩
theorem Wf.int {n : Nat} {i : Int} (h : Wf n (.int i)) : i.natAbs < 2 ^ 900 := by cases n <;> exact h
theorem Wf.z {n : Nat} {d : PyData} (h : Wf n d) (z : isZ d = true) : (iv d).natAbs < 2 ^ 900 := by
  rw [isZ_int z] at h
  exact h.int
theorem keepBy_mem : ∀ {ds : List PyData} {bs : List Bool} {d : PyData}, d ∈ keepBy ds bs → d ∈ ds
  | [], _, _, h => by simp [keepBy] at h
  | _ :: _, [], _, h => by simp [keepBy] at h
  | x :: ds, b :: bs, d, h => by
    unfold keepBy at h
    split at h
    · rcases List.mem_cons.mp h with e | h
      · rw [e]; exact List.mem_cons_self
      · exact List.mem_cons_of_mem _ (keepBy_mem h)
    · exact List.mem_cons_of_mem _ (keepBy_mem h)
theorem keepBy_none : ∀ {ds : List PyData} {bs : List Bool}, bs.length = ds.length → (keepBy ds bs).isEmpty = !bs.any id
  | [], [], _ => rfl
  | x :: ds, b :: bs, h => by
    cases b with
    | true => rfl
    | false =>
      have := keepBy_none (ds := ds) (bs := bs) (by simpa using h)
      simp only [keepBy, Bool.false_eq_true, if_false, List.any_cons, id, Bool.false_or]
      exact this
  | [], _ :: _, h => by simp at h
  | _ :: _, [], h => by simp at h
theorem eqv_nil (l : List PyData) : PyData.eqv (.list l) (.list []) = l.isEmpty := by
  cases l <;> simp [PyData.eqv, PyData.eqvAll]
theorem sh_nil : SeqAt.shaped (.list []) = true := by simp [SeqAt.shaped, PyData.canLay0, PyData.canLayAll0, PyData.depth, PyData.depthAll]
/-- the number that a value is -/
def prQ : List PyData → Rat
  | [p, q] => fr (iv p) (iv q).toNat
  | _ => 0
def numQ (d : PyData) : Rat := if isZ d = true then (iv d : Rat) else prQ (sqD d)
theorem kp_seq {d : PyData} {ds : List PyData} (h : IsSeq d ds) : kp d = .tuple ds := by cases h <;> rfl
theorem isZ_no {d : PyData} {ds : List PyData} (h : IsSeq d ds) : isZ d = false := by cases h <;> rfl
theorem prB_of {ds : List PyData} (h : prB ds = true) : ∃ (i : Int) (u : Nat), ds = [.int i, .int (u : Int)] ∧ 2 ≤ u ∧ Int.gcd i u = 1 := by
  match ds, h with
  | [p, q], h =>
    unfold prB at h
    simp only [Bool.and_eq_true, decide_eq_true_eq] at h
    obtain ⟨⟨h1, h2, h3⟩, h4⟩ := h
    refine ⟨iv p, (iv q).toNat, ?_, by omega, ?_⟩
    · rw [Int.toNat_of_nonneg (by omega), ← isZ_int h1, ← isZ_int h2]
    · rw [Int.toNat_of_nonneg (by omega)]
      exact h4
  | [], h => cases h
  | [_], h => cases h
  | _ :: _ :: _ :: _, h => cases h
theorem fr_low {i : Int} {u : Nat} (hu : 2 ≤ u) (hg : Int.gcd i u = 1) : (fr i u).num = i ∧ (fr i u).den = u := by
  rw [fr_num (by omega), fr_den (by omega), hg]
  simp
theorem pr_num {i : Int} {u : Nat} (hu : 2 ≤ u) (hg : Int.gcd i u = 1) : numD (fr i u) = .tuple [.int i, .int (u : Int)] := by
  have h := fr_low hu hg
  rw [numD_p (by omega), h.1, h.2]
theorem seq_of' {d : PyData} (h : prB (sqD d) = true) : IsSeq d (sqD d) := by
  cases hs : isS d with
  | true => exact seq_of hs
  | false =>
    rw [sqD_no hs] at h
    cases h
theorem kp_num {d : PyData} (h : isNum d = true) : kp d = numD (numQ d) := by
  unfold isNum at h
  unfold numQ
  by_cases z : isZ d = true
  · rw [if_pos z, numD_int]
    conv => lhs; rw [isZ_int z]
    rfl
  · have z' : isZ d = false := by simpa using z
    rw [z', Bool.false_or] at h
    rw [if_neg z, kp_seq (seq_of' h)]
    obtain ⟨i, u, e, hu, hg⟩ := prB_of h
    rw [e]
    show _ = numD (fr i ((u : Int)).toNat)
    rw [Int.toNat_natCast, pr_num hu hg]
theorem num_bd {n : Nat} {d : PyData} (w : Wf n d) (h : isNum d = true) : Bd 900 (numQ d) := by
  unfold isNum at h
  unfold numQ
  by_cases z : isZ d = true
  · rw [if_pos z]
    refine ⟨?_, ?_⟩
    · rw [Rat.num_intCast]
      exact w.z z
    · rw [Rat.den_intCast]
      exact Nat.one_lt_two_pow (by decide)
  · have z' : isZ d = false := by simpa using z
    rw [z', Bool.false_or] at h
    rw [if_neg z]
    have hq := seq_of' h
    obtain ⟨i, u, e, hu, hg⟩ := prB_of h
    obtain ⟨k, rfl, hk⟩ := w.seq hq
    rw [e] at hk ⊢
    have h1 := (hk (.int i) (by simp)).int
    have h2 := (hk (.int (u : Int)) (by simp)).int
    show Bd 900 (fr i ((u : Int)).toNat)
    rw [Int.toNat_natCast]
    exact fr_bd (by omega) h1 (by simpa using h2)
/-! ### what a place is -/
def asB : List PyData → PyData → Bool
  | [x, y], r => (isZ x && isZ y) && (if iv x = 0 ∧ iv y = 0 then isZ r && (iv r == 0) else (Int.gcd (iv x) (iv y) == 1 && (decide (0 < sgn (numQ r).num) && (rootQ (numQ r)).isNone)))
  | _, _ => false
def plB : List PyData → Bool
  | [p, s, r] => (isPt p && isNum r) && asB (sqD s) r
  | _ => false
def isPl (d : PyData) : Bool := plB (sqD d)
theorem len3 {ds : List PyData} (h : ds.length = 3) : ∃ p q r, ds = [p, q, r] := by
  match ds, h with
  | [p, q, r], _ => exact ⟨p, q, r, rfl⟩
theorem plB_len {ds : List PyData} (h : ¬ ds.length = 3) : plB ds = false := by
  match ds with
  | [] | [_] | [_, _] | _ :: _ :: _ :: _ :: _ => rfl
  | [p, q, r] => exact absurd rfl h
theorem asB_len {ds : List PyData} {r : PyData} (h : ¬ ds.length = 2) : asB ds r = false := by
  match ds with
  | [] | [_] | _ :: _ :: _ :: _ => rfl
  | [p, q] => exact absurd rfl h
/-- a value that may be asked: data as in Wf, or none of the two kinds of lists -/
def Ask (d : PyData) : Prop := (∃ n, n ≤ 60 ∧ Wf n d) ∨ isS d = false
theorem eqv_i2 (x y : Int) : PyData.eqv (.tuple [.int x, .int y]) (.tuple [.int 0, .int 0]) = decide (x = 0 ∧ y = 0) := by
  simp only [PyData.eqv, PyData.eqvAll, Bool.and_true]
  rw [Bool.eq_iff_iff]
  simp
theorem sh_t2 (i j : Int) : SeqAt.shaped (.tuple [.int i, .int j]) = true := by simp [SeqAt.shaped, PyData.canLay0, PyData.canLayAll0, PyData.depth, PyData.depthAll]
theorem isN_opt (o : Option Rat) : isN (optD o) = o.isNone := by
  cases o with
  | none => rfl
  | some q =>
    show isN (numD q) = false
    unfold numD
    split <;> rfl
section
variable {P : Program} {w : World} {K : PySem.W.Frag} {mg : Str → Option Value} {base : Heap} {a : Ad}
def RisPlace (ds : List PyData) (d : PyData) : Prop := ∃ x, ds = [x] ∧ Ask x ∧ d = .bool (isPl x)
theorem ok_is_place (T : Txt K mg a) : FnOk P w K mg base CX0 5 a.is_place a.d_is_place p_is_place (spD K RisPlace) :=
  okD T.f_is_place.fn sc_is_place (by rintro _ _ ⟨x, rfl, _, rfl⟩; rfl) fun cdv A outer s H E hr => ⟨_, (pss_cons (ps_if (PW.pt (pw_or (pt_not (pt_val (pe_call (ok_is_list T) (hr.mono (by decide)) rfl T.f_is_list.gl T.f_is_list.fn.kp T.b_is_list .nil pass0 (pa_cons (pv 0) pa_nil)))) (pw_or (pt_cmpR (op_neD hr.units) (pe_callB cr_len rfl T.b_len (by decide +kernel) (pa_cons (pv 0) pa_nil)) pe_int (nomark _)) (pw_or (pt_not (pt_val (pe_call (ok_is_point T) (hr.mono (by decide)) rfl T.f_is_point.gl T.f_is_point.fn.kp T.b_is_point .nil pass0 (pa_cons (pe_ix ix_seq (pv 0) pe_int (fun _ _ => rfl)) pa_nil)))) (pw_or1 (pt_not (pt_val (pe_call (ok_is_number T) (hr.mono (by decide)) rfl T.f_is_number.gl T.f_is_number.fn.kp T.b_is_number .nil pass0 (pa_cons (pe_ix ix_seq (pv 0) pe_int (fun _ _ => rfl)) pa_nil))))))))) (pss_one (ps_ret pe_bl)) pss_nil)
      (pss_cons (ps_asg (pv 0) (pg_seq rfl (pgs_cons (pg_name (i := 1) sc_is_place.nd rfl (Or.inl rfl)) (pgs_cons (pg_name (i := 2) sc_is_place.nd rfl (Or.inl rfl)) (pgs_cons (pg_name (i := 3) sc_is_place.nd rfl (Or.inl rfl)) pgs_nil)))))
      (pss_cons (ps_if (PW.pt (pw_or (pt_not (pt_val (pe_call (ok_is_list T) (hr.mono (by decide)) rfl T.f_is_list.gl T.f_is_list.fn.kp T.b_is_list .nil pass0 (pa_cons (pv 2) pa_nil)))) (pw_or (pt_cmpR (op_neD hr.units) (pe_callB cr_len rfl T.b_len (by decide +kernel) (pa_cons (pv 2) pa_nil)) pe_int (nomark _)) (pw_or1 (pt_not (pt_val (pe_callB (cr_all rfl) rfl T.b_all (by decide +kernel) (pa_cons (pe_lc (own := [("each", 4)]) (g := (gName 4)) (tt := tYes) rfl sc_is_place.nd (pi_seq (pv 2)) (blkOk_by (own := [("each", 4)]) (N := n_is_place) (sc := defScope s_is_place) (by decide +kernel)) (fun _ _ _ _ _ => (pg_name (i := 4) sc_is_place.nd rfl (Or.inl rfl))) (fun _ _ _ _ _ => pts_nil) (fun _ _ _ _ _ => (pe_call (ok_is_integer T) (hr.mono (by decide)) rfl T.f_is_integer.gl T.f_is_integer.fn.kp T.b_is_integer .nil pass0 (pa_cons (pv 4) pa_nil)))) pa_nil)))))))) (pss_one (ps_ret pe_bl)) pss_nil)
      (pss_cons (ps_if (pt_cmpR (op_eqD hr.units) (pe_callTy cr_tup rfl T.b_tuple (by decide +kernel) (pa_cons (pv 2) pa_nil)) (pe_glob (v := .ref a.NONE) rfl T.NONE rfl) (nomark _)) (pss_one (ps_ret (pe_and (pe_call (ok_is_integer T) (hr.mono (by decide)) rfl T.f_is_integer.gl T.f_is_integer.fn.kp T.b_is_integer .nil pass0 (pa_cons (pv 3) pa_nil)) (pe_one (pe_cmpR (op_eqD hr.units) (pv 3) pe_int (nomark _)))))) pss_nil)
      (pss_one (ps_ret (pe_and (pe_cmpR (op_eqD hr.units) (pe_call (ok_common T) (hr.mono (by decide)) rfl T.f_common.gl T.f_common.fn.kp T.b_common .nil pass0 (pa_cons (pe_ix ix_seq (pv 2) pe_int (fun _ _ => rfl)) (pa_cons (pe_ix ix_seq (pv 2) pe_int (fun _ _ => rfl)) pa_nil))) pe_int (nomark _)) (pe_and (pe_cmpR op_gt (pe_call (ok_sign_in T) (hr.mono (by decide)) rfl T.f_sign_in.gl T.f_sign_in.fn.kp T.b_sign_in .nil pass0 (pa_cons (pe_call (ok_kept T) (hr.mono (by decide)) rfl T.f_kept.gl T.f_kept.fn.kp T.b_kept .nil pass0 (pa_cons (pv 3) pa_nil)) pa_nil)) pe_int (nomark _)) (pe_one (pe_cmpR op_isN' (pe_call (ok_root_in T) (hr.mono (by decide)) rfl T.f_root_in.gl T.f_root_in.fn.kp T.b_root_in .nil pass0 (pa_cons (pe_call (ok_kept T) (hr.mono (by decide)) rfl T.f_kept.gl T.f_kept.fn.kp T.b_kept .nil pass0 (pa_cons (pv 3) pa_nil)) pa_nil)) pe_non (nomark _))))))))))), fun m vs ds d l dv r => by
    obtain ⟨x, rfl, hA, rfl⟩ := r
    obtain ⟨v, rfl, h⟩ := dv.one
    cases hS : isS x with
    | false =>
      refine rd_ifr (b := true) ((eb_or (b := true) (eb_not (eb_B (ed_call (es_1 (ed_var rfl h)) ⟨x, rfl, rfl⟩))) fun y => by rw [hS] at y; cases y).is (by rw [hS]; rfl)) (fun _ => rd_ret (ed_bl.is ?_)) fun y => nomatch y
      rw [isPl, sqD_no hS]
      rfl
    | true =>
      obtain ⟨n, hn, hw⟩ := hA.resolve_right (by rw [hS]; exact Bool.noConfusion)
      have hq := seq_of hS
      by_cases hl : (sqD x).length = 3
      · obtain ⟨p, s, r, hx⟩ := len3 hl
        have epl : isPl x = ((isPt p && isNum r) && asB (sqD s) r) := by rw [isPl, hx]; rfl
        rw [hx] at hq
        obtain ⟨k, rfl, hk⟩ := hw.seq hq
        have wr := hk r (by simp)
        have ws := hk s (by simp)
        refine rd_ifr (b := !(isPt p && isNum r)) ((eb_or (eb_not (eb_B (ed_call (es_1 (ed_var rfl h)) ⟨x, rfl, rfl⟩))) fun _ => eb_or (eb_test (ed_ne (ed_len (ed_var rfl h) hq) ed_int sh_int sh_int)) fun _ =>
          eb_or (eb_not (eb_B (ed_call (es_1 (ed_ix (ed_var rfl h) hq (ed_int (i := 0)) (i := 0) rfl)) ⟨p, rfl, rfl⟩))) fun _ => eb_not (eb_B (ed_call (es_1 (ed_ix (ed_var rfl h) hq (ed_int (i := 2)) (i := 2) rfl)) ⟨r, rfl, rfl⟩))).is (by rw [hS, eqv_int, Bool.not_and]; rfl)) (fun y => ?_) fun y => ?_
        · have y' : (isPt p && isNum r) = false := by rw [Bool.not_eq_true'] at y; exact y
          rw [epl, y']
          exact rd_ret ed_bl
        · have y' : (isPt p && isNum r) = true := by rw [Bool.not_eq_false'] at y; exact y
          obtain ⟨yp, yr⟩ := Bool.and_eq_true_iff.mp y'
          rw [epl, y', Bool.true_and]
          refine rd_seq3 (ed_var rfl h) hq fun v1 v2 v3 H1 x1 l1 h1 h2 h3 => ?_
          cases hs : isS s with
          | false =>
            refine rd_ifr (b := true) ((eb_or (b := true) (eb_not (eb_B (ed_call (es_1 (ed_var rfl h2)) ⟨s, rfl, rfl⟩))) fun y => by rw [hs] at y; cases y).is (by rw [hs]; rfl)) (fun _ => rd_ret (ed_bl.is (by rw [sqD_no hs]; rfl))) fun y => nomatch y
          | true =>
            have hqs := seq_of hs
            by_cases hl2 : (sqD s).length = 2
            · obtain ⟨x1', y1', hs2⟩ := len2 hl2
              rw [hs2] at hqs ⊢
              obtain ⟨k2, rfl, hk2⟩ := ws.seq hqs
              have wx := hk2 x1' (by simp)
              have wy := hk2 y1' (by simp)
              refine rd_ifr (b := !(isZ x1' && isZ y1')) ((eb_or (eb_not (eb_B (ed_call (es_1 (ed_var rfl h2)) ⟨s, rfl, rfl⟩))) fun _ => eb_or (eb_test (ed_ne (ed_len (ed_var rfl h2) hqs) ed_int sh_int sh_int)) fun _ =>
                eb_not (eb_B (ed_all (bs := [isZ x1', isZ y1']) (ed_lc (es := [.bool (isZ x1'), .bool (isZ y1')]) (ed_var rfl h2) hqs rfl (by simp) (fun v => rfl) ?_)))).is (by rw [hs, eqv_int]; simp)) (fun y => ?_) fun y => ?_
              · intro D j b c u H2 hD hb hc x2 du
                match j, hb, hc with
                | 0, hb, hc => exact ed_call (es_1 (ed_var rfl du)) ⟨b, rfl, by cases hb; cases hc; rfl⟩
                | 1, hb, hc => exact ed_call (es_1 (ed_var rfl du)) ⟨b, rfl, by cases hb; cases hc; rfl⟩
                | j + 2, hb, hc => cases hb
              · have y' : (isZ x1' && isZ y1') = false := by rw [Bool.not_eq_true'] at y; exact y
                refine rd_ret (ed_bl.is ?_)
                show _ = PyData.bool ((isZ x1' && isZ y1') && _)
                rw [y']
                rfl
              · have y' : (isZ x1' && isZ y1') = true := by rw [Bool.not_eq_false'] at y; exact y
                obtain ⟨yx, yy⟩ := Bool.and_eq_true_iff.mp y'
                have e1 := isZ_int yx
                have e2 := isZ_int yy
                have ea : asB [x1', y1'] r = (if iv x1' = 0 ∧ iv y1' = 0 then isZ r && (iv r == 0) else (Int.gcd (iv x1') (iv y1') == 1 && (decide (0 < sgn (numQ r).num) && (rootQ (numQ r)).isNone))) := by
                  show ((isZ x1' && isZ y1') && _) = _
                  rw [y', Bool.true_and]
                rw [ea]
                refine rd_ifr (b := decide (iv x1' = 0 ∧ iv y1' = 0)) ((eb_test (ed_eq (ed_tupC (ed_var rfl h2) hqs) (ed_c T.none) (by rw [e1, e2]; exact sh_t2 _ _) sh_00)).is (by rw [e1, e2]; exact eqv_i2 _ _)) (fun z => ?_) fun z => ?_
                · rw [if_pos (of_decide_eq_true z)]
                  refine rd_ret (ed_and (ed_call (es_1 (ed_var rfl h3)) ⟨r, rfl, rfl⟩) fun zr => ?_)
                  have er := isZ_int zr
                  exact (ed_eq (ed_var rfl h3) ed_int (by rw [er]; exact sh_int) sh_int).is (by conv => lhs; rw [er, eqv_int])
                · rw [if_neg (of_decide_eq_false z)]
                  have ck : ED K m (tCall (spD K Rkept) [] E0 (tCons (tVar 3) tNil)) (start n_is_place [v] |>.set 1 (some v1) |>.set 2 (some v2) |>.set 3 (some v3)) H1 (numD (numQ r)) := (ed_call (es_1 (ed_var rfl h3)) ⟨r, rfl, rfl⟩).is (kp_num yr)
                  refine rd_ret (ed_and ((ed_eq (ed_call (es_2 (ed_ix (ed_var rfl h2) hqs (ed_int (i := 0)) (i := 0) rfl) (ed_ix (ed_var rfl h2) hqs (ed_int (i := 1)) (i := 1) rfl)) ⟨iv x1', iv y1', by rw [← e1, ← e2], rfl⟩) ed_int sh_int sh_int).is ?_) fun _ =>
                    ed_and (ed_gt (ed_call (es_1 ck) ⟨_, rfl, rfl⟩) ed_int) fun zs => (ed_isN (ed_call (es_1 ck) ⟨_, ?_, (num_bd wr yr).mono (by decide), rfl, rfl⟩)).is (by rw [isN_opt]))
                  · rw [eqv_int]
                    congr 1
                    rw [Bool.eq_iff_iff, beq_iff_eq, beq_iff_eq]
                    omega
                  · have := of_decide_eq_true zs
                    unfold sgn at this
                    split at this <;> split at this <;> simp at * <;> omega
            · refine rd_ifr (b := true) ((eb_or (eb_not (eb_B (ed_call (es_1 (ed_var rfl h2)) ⟨s, rfl, rfl⟩))) fun _ => eb_or (b := true) (eb_test (ed_ne (ed_len (ed_var rfl h2) hqs) ed_int sh_int sh_int)) fun y => ?_).is ?_) (fun _ => rd_ret (ed_bl.is (by rw [asB_len hl2]))) fun y => nomatch y
              · rw [eqv_int] at y
                simp only [Bool.not_eq_false', beq_iff_eq] at y
                omega
              · rw [Bool.or_true, Bool.or_true]
      · refine rd_ifr (b := true) ((eb_or (eb_not (eb_B (ed_call (es_1 (ed_var rfl h)) ⟨x, rfl, rfl⟩))) fun _ => eb_or (b := true) (eb_test (ed_ne (ed_len (ed_var rfl h) hq) ed_int sh_int sh_int)) fun y => ?_).is ?_) (fun _ => rd_ret (ed_bl.is (by rw [isPl, plB_len hl]))) fun y => nomatch y
        · rw [eqv_int] at y
          simp only [Bool.not_eq_false', beq_iff_eq] at y
          omega
        · rw [Bool.or_true, Bool.or_true]⟩
def RkeptPlace (ds : List PyData) (d : PyData) : Prop := ∃ (x p s r : PyData) (ps ss : List PyData), ds = [x] ∧ IsSeq x [p, s, r] ∧ IsSeq p ps ∧ ps.length ≤ 1000 ∧ IsSeq s ss ∧ d = .tuple [.tuple (ps.map kp), .tuple ss, kp r]
theorem ok_kept_place (T : Txt K mg a) : FnOk P w K mg base CX0 3 a.kept_place a.d_kept_place p_kept_place (spD K RkeptPlace) :=
  okD T.f_kept_place.fn sc_kept_place (by rintro _ _ ⟨x, _, _, _, _, _, rfl, _⟩; rfl) fun cdv A outer s H E hr => ⟨_, (pss_one (ps_ret (pe_tup (pa_cons (pe_call (ok_kept_row T) (hr.mono (by decide)) rfl T.f_kept_row.gl T.f_kept_row.fn.kp T.b_kept_row .nil pass0 (pa_cons (pe_ix ix_seq (pv 0) pe_int (fun _ _ => rfl)) pa_nil)) (pa_cons (pe_callTy cr_tup rfl T.b_tuple (by decide +kernel) (pa_cons (pe_ix ix_seq (pv 0) pe_int (fun _ _ => rfl)) pa_nil)) (pa_cons (pe_call (ok_kept T) (hr.mono (by decide)) rfl T.f_kept.gl T.f_kept.fn.kp T.b_kept .nil pass0 (pa_cons (pe_ix ix_seq (pv 0) pe_int (fun _ _ => rfl)) pa_nil)) pa_nil)))))), fun m vs ds d l dv r => by
    obtain ⟨x, p, s, r, ps, ss, rfl, hx, hp, hl, hs, rfl⟩ := r
    obtain ⟨v, rfl, h⟩ := dv.one
    exact rd_ret (ed_tup (es_3 (ed_call (es_1 (ed_ix (ed_var rfl h) hx (ed_int (i := 0)) (i := 0) rfl)) ⟨p, ps, rfl, hp, hl, rfl⟩) (ed_tupC (ed_ix (ed_var rfl h) hx (ed_int (i := 1)) (i := 1) rfl) hs)
      (ed_call (es_1 (ed_ix (ed_var rfl h) hx (ed_int (i := 2)) (i := 2) rfl)) ⟨r, rfl, rfl⟩)))⟩
end
end Pc

set_option Elab.async false
set_option linter.all false
set_option maxRecDepth 100000
set_option maxHeartbeats 4000000
/-! PcD5: whether any value is a place: by the law; both agree. -/
namespace Pc
open PySem PySem.Spec PyProof.Rows L2
open Evl (Ex)
/-! ### a for that may hand d back -/
def RN (K : PySem.W.Frag) (m : List Addr) (t : TS) (σ : L2.St) (H : Hp) (P : L2.St → Prop) (d : PyData) : Prop :=
  ∀ H1, Xo m H H1 → Lv m H1 → ∀ D : Ends, (∀ σ' H2, Ex H1 H2 → P σ' → D.nx σ' H2) → (∀ v H2, Ex H1 H2 → Dv K (off m H2) v d → D.rt v H2) → t D σ H1
section
variable {K : PySem.W.Frag} {m : List Addr} {te tl : TE} {tt : TT} {σ : L2.St} {H : Hp} {d dd : PyData} {t u tb : TS} {P : L2.St → Prop}
theorem rn_if {b : Bool} (h : EB m tt σ H b) (h1 : b = true → RD K m t σ H d) (h2 : b = false → P σ) : RN K m (tIfS tt t tNext) σ H P d := fun H1 x l D qn qr => h H1 x l _ fun H2 x2 => by
  cases b with
  | true => exact h1 rfl H2 (x.trans (.of x2)) (l.ex x2) D fun w H3 x3 dw => qr w H3 (x2.trans x3) dw
  | false => exact qn σ H2 x2 (h2 rfl)
theorem rd_forSeq {ds : List PyData} {i : Nat} (h : ED K m tl σ H dd) (hq : IsSeq dd ds) (J : Nat → L2.St → Prop) (h0 : J 0 σ)
    (hs : ∀ k a v σ1 H1, ds[k]? = some a → J k σ1 → Xo m H H1 → Lv m H1 → Dv K (off m H1) v a → RN K m tb (σ1.set i (some v)) H1 (J (k + 1)) d)
    (hd : ∀ σ1 H1, Xo m H H1 → Lv m H1 → J ds.length σ1 → RD K m u σ1 H1 d) : RD K m (tSeq (tFor (iSeq K tl) (gName i) tb) u) σ H d := fun H1 x l D q =>
  h H1 x l _ fun v H2 x2 dv => by
    obtain ⟨a, xs, rfl, hs', ha⟩ := dv.q hq
    have turn : ∀ (k : Nat) (y : V) (σ1 : L2.St) (H3 : Hp) (D' : Ends), xs[k]? = some y → (Ex H2 H3 ∧ J k σ1) → (∀ σ2 H4, Ex H2 H4 ∧ J (k + 1) σ2 → D'.nx σ2 H4) → (∀ w H4, Ex H2 H4 → Dv K (off m H4) w d → D'.rt w H4) → tb D' (σ1.set i (some y)) H3 := fun k y σ1 H3 D' hy ⟨x3, hj⟩ qn qr => by
      have hk : k < ds.length := by rw [← ha.length]; exact (List.getElem?_eq_some_iff.mp hy).1
      obtain ⟨b, hb⟩ : ∃ b, ds[k]? = some b := ⟨_, List.getElem?_eq_getElem hk⟩
      obtain ⟨y', ey, dy⟩ := ha.get hb
      obtain rfl : y' = y := Option.some.inj (ey.symm.trans hy)
      exact hs k b y' σ1 H3 hb hj ((x.trans (.of x2)).trans (.of x3)) ((l.ex x2).ex x3) (dy.up (Xo.of x3)) H3 .refl ((l.ex x2).ex x3) D' (fun σ2 H4 x4 p => qn σ2 H4 ⟨x3.trans x4, p⟩) fun w H4 x4 dw => qr w H4 (x3.trans x4) dw
    have fin : ∀ σ1 H3, Ex H2 H3 ∧ J xs.length σ1 → u D σ1 H3 := fun σ1 H3 ⟨x3, hj⟩ => by
      rw [ha.length] at hj
      exact hd σ1 H3 ((x.trans (.of x2)).trans (.of x3)) ((l.ex x2).ex x3) hj H3 .refl ((l.ex x2).ex x3) D fun w H4 x4 dw => q w H4 ((x2.trans x3).trans x4) dw
    refine ⟨a, rfl, ?_⟩
    rcases hs' with hs' | hs'
    · have h' : SqL K H2 a xs := Evl.ex_l off_le hs'
      exact .inl ⟨⟨xs, h'⟩, for_list (xs := xs) (fun k σ1 H3 => Ex H2 H3 ∧ J k σ1) ⟨Ex.refl _, h0⟩ (fun k σ1 H3 _ p => Evl.ex_l p.1 h') (fun k y σ1 H3 hy p => turn k y σ1 H3 _ hy p (fun σ2 H4 p2 => p2) fun w H4 x4 dw => q w H4 (x2.trans x4) dw) fin⟩
    · have h' : SqT K H2 a xs := Evl.ex_t off_le hs'
      exact .inr ⟨⟨xs, h'⟩, for_tup (xs := xs) (fun k σ1 H3 => Ex H2 H3 ∧ J k σ1) ⟨Ex.refl _, h0⟩ (fun k σ1 H3 _ p => Evl.ex_t p.1 h') (fun k y σ1 H3 hy p => turn k y σ1 H3 _ hy p (fun σ2 H4 p2 => p2) fun w H4 x4 dw => q w H4 (x2.trans x4) dw) fin⟩
end
/-! ### the mathematics -/
theorem sh_pl (a b : Rat) (x y : Int) (r : Rat) : SeqAt.shaped (plD a b x y r) = true := by
  unfold plD numD
  split <;> split <;> split <;> simp [SeqAt.shaped, PyData.canLay0, PyData.canLayAll0, PyData.depth, PyData.depthAll]
theorem form_pl (p q c e r : Rat) : ∃ a b x y s, formD p q c e r = plD a b x y s := by
  unfold formD
  split
  · exact ⟨_, _, _, _, _, rfl⟩
  · split
    · exact ⟨_, _, _, _, _, rfl⟩
    · exact ⟨_, _, _, _, _, rfl⟩
theorem eqv_pl (a b a' b' : Rat) (x y x' y' : Int) (r r' : Rat) : PyData.eqv (plD a b x y r) (plD a' b' x' y' r') = decide (((a = a' ∧ b = b') ∧ (x = x' ∧ y = y')) ∧ r = r') := by
  unfold plD
  simp only [PyData.eqv, PyData.eqvAll, eqv_num, Bool.and_true]
  rw [Bool.eq_iff_iff]
  simp only [Bool.and_eq_true, decide_eq_true_eq, beq_iff_eq]
  exact ⟨fun ⟨h1, h2, h3⟩ => ⟨⟨h1, h2⟩, h3⟩, fun ⟨⟨h1, h2⟩, h3⟩ => ⟨h1, h2, h3⟩⟩
theorem sgn_pos {i : Int} : 0 < sgn i ↔ 0 < i := by
  unfold sgn
  by_cases h : 0 < i
  · have h2 : ¬ i < 0 := by omega
    simp [h, h2]
  · by_cases h2 : i < 0 <;> simp [h, h2]
theorem rat_pos {r : Rat} (h0 : 0 ≤ r.num) (h : r ≠ 0) : 0 < r.num := by
  rcases Int.lt_or_eq_of_le h0 with q | q
  · exact q
  · exact absurd (Rat.num_eq_zero.mp q.symm) h
theorem fac_int (g : Nat) (x y : Int) : fac g (x : Rat) (y : Rat) = (g : Rat) := by
  unfold fac
  rw [Rat.den_intCast, Rat.den_intCast, fr_eq, Rat.intCast_natCast]
  have e : ((1 * 1 : Nat) : Rat) = 1 := rfl
  rw [e]
  grind
theorem div_gcd_self {x : Int} {g : Nat} (hx : x ≠ 0) (hg : 0 < g) (hd : (g : Int) ∣ x) : x / (g : Int) = x ↔ g = 1 := by
  obtain ⟨k, rfl⟩ := hd
  rw [Int.mul_ediv_cancel_left _ (by omega)]
  constructor
  · intro h
    have hk : k ≠ 0 := fun z => hx (by rw [z, Int.mul_zero])
    have h2 : 1 * k = (g : Int) * k := by rw [Int.one_mul]; exact h
    have := Int.eq_of_mul_eq_mul_right hk h2
    omega
  · rintro rfl
    simp
theorem mul_sq_self {r : Rat} (hr : r ≠ 0) (g : Nat) (hg : 0 < g) : r * ((g : Rat) * (g : Rat)) = r ↔ g = 1 := by
  constructor
  · intro h
    have h2 : (g : Rat) * (g : Rat) = 1 := by grind
    have h3 : ((g * g : Nat) : Rat) = ((1 : Nat) : Rat) := by rw [Rat.natCast_mul, h2]; rfl
    have h4 : g * g = 1 := Rat.natCast_inj.mp h3
    rcases Nat.lt_or_ge g 2 with q | q
    · omega
    · have := Nat.mul_le_mul q q
      omega
  · rintro rfl
    simp
theorem form_whole {p q : Rat} {x y : Int} {r : Rat} (h0 : 0 ≤ r.num) :
    PyData.eqv (formD p q (x : Rat) (y : Rat) r) (plD p q x y r) = (if x = 0 ∧ y = 0 then decide (r = 0) else (Int.gcd x y == 1 && (decide (0 < sgn r.num) && (rootQ r).isNone))) := by
  unfold formD
  have cx : ∀ z : Int, (z : Rat) = 0 ↔ z = 0 := fun z => Rat.intCast_eq_zero_iff
  by_cases hxy : x = 0 ∧ y = 0
  · rw [if_pos hxy, if_pos (.inr ⟨(cx x).mpr hxy.1, (cx y).mpr hxy.2⟩), eqv_pl]
    rw [Bool.eq_iff_iff, decide_eq_true_eq, decide_eq_true_eq]
    exact ⟨fun h => h.2.symm, fun h => ⟨⟨⟨rfl, rfl⟩, hxy.1.symm, hxy.2.symm⟩, h.symm⟩⟩
  · rw [if_neg hxy]
    by_cases hr : r = 0
    · rw [if_pos (.inl hr), eqv_pl]
      have e : decide (0 < sgn r.num) = false := by rw [hr]; rfl
      rw [e, Bool.false_and, Bool.and_false, decide_eq_false_iff_not]
      exact fun h => hxy ⟨h.1.2.1.symm, h.1.2.2.symm⟩
    · rw [if_neg (show ¬ (r = 0 ∨ ((x : Rat) = 0 ∧ (y : Rat) = 0)) from fun z => z.elim hr fun z => hxy ⟨(cx x).mp z.1, (cx y).mp z.2⟩)]
      have hp := rat_pos h0 hr
      have e : decide (0 < sgn r.num) = true := decide_eq_true (sgn_pos.mpr hp)
      rw [e, Bool.true_and]
      cases hw : rootQ r with
      | some w =>
        show PyData.eqv (plD _ _ 0 0 0) _ = _
        rw [eqv_pl]
        simp only [Option.isNone_some, Bool.and_false, decide_eq_false_iff_not]
        exact fun h => hxy ⟨h.1.2.1.symm, h.1.2.2.symm⟩
      | none =>
        simp only [Rat.num_intCast, Rat.den_intCast, Option.isNone_none, Bool.and_true]
        rw [fac_int, eqv_pl]
        have e1 : x * ((1 : Nat) : Int) = x := by omega
        have e2 : y * ((1 : Nat) : Int) = y := by omega
        rw [e1, e2]
        have hg : 0 < Int.gcd x y := Nat.pos_of_ne_zero fun z => hxy (Int.gcd_eq_zero_iff.mp z)
        have d1 : ((Int.gcd x y : Nat) : Int) ∣ x := Int.gcd_dvd_left ..
        have d2 : ((Int.gcd x y : Nat) : Int) ∣ y := Int.gcd_dvd_right ..
        rw [Bool.eq_iff_iff, decide_eq_true_eq, beq_iff_eq]
        constructor
        · rintro ⟨_, h⟩
          exact (mul_sq_self hr _ hg).mp h
        · intro h
          refine ⟨⟨⟨rfl, rfl⟩, ?_, ?_⟩, (mul_sq_self hr _ hg).mpr h⟩
          · rw [h]; simp
          · rw [h]; simp
theorem num0 {r : PyData} (h : isNum r = true) : decide (numQ r = 0) = (isZ r && (iv r == 0)) := by
  unfold isNum at h
  unfold numQ
  by_cases z : isZ r = true
  · rw [if_pos z, z, Bool.true_and, Bool.eq_iff_iff, decide_eq_true_eq, beq_iff_eq]
    exact Rat.intCast_eq_zero_iff
  · have z' : isZ r = false := by simpa using z
    rw [z', Bool.false_or] at h
    rw [if_neg z, z', Bool.false_and, decide_eq_false_iff_not]
    obtain ⟨i, u, e, hu, hg⟩ := prB_of h
    rw [e]
    show ¬ fr i ((u : Int)).toNat = 0
    rw [Int.toNat_natCast]
    intro q
    have h1 := (fr_low hu hg).1
    rw [q] at h1
    have h2 : i = 0 := h1.symm
    rw [h2, Int.gcd_zero_left] at hg
    simp at hg
    omega
theorem num_I {x : PyData} (h : isNum x = true) : isI x = isZ x := by
  cases x <;> first | rfl | (exact absurd h Bool.noConfusion)
theorem num_of_z {x : PyData} (h : isZ x = true) : isNum x = true := by
  unfold isNum
  rw [h]
  rfl
/-- the law's answer, as a test of its parts -/
theorem pl_parts {p s r : PyData} : isPl (.tuple [p, s, r]) = (isNum r && (isPt p && (isPt s && ((sqD s).all isI && (asB (sqD s) r))))) := by
  show ((isPt p && isNum r) && asB (sqD s) r) = _
  have e : (isPt s && ((sqD s).all isI && asB (sqD s) r)) = asB (sqD s) r := by
    cases hA : asB (sqD s) r with
    | false => simp
    | true =>
      by_cases hl : (sqD s).length = 2
      · obtain ⟨x, y, hxy⟩ := len2 hl
        rw [hxy] at hA
        unfold asB at hA
        obtain ⟨h1, h2⟩ := Bool.and_eq_true_iff.mp (Bool.and_eq_true_iff.mp hA).1
        have i1 : isI x = true := (Bool.and_eq_true_iff.mp h1).1
        have i2 : isI y = true := (Bool.and_eq_true_iff.mp h2).1
        rw [isPt, hxy]
        simp [ptB, num_of_z h1, num_of_z h2, i1, i2]
      · rw [asB_len hl] at hA
        cases hA
  rw [e]
  cases isPt p <;> cases isNum r <;> rfl
theorem pl_seq {x : PyData} {p s r : PyData} (h : IsSeq x [p, s, r]) : isPl x = (isNum r && (isPt p && (isPt s && ((sqD s).all isI && (asB (sqD s) r))))) := by
  rw [← pl_parts, isPl, h.e, isPl]
  rfl
section
variable {P : Program} {w : World} {K : PySem.W.Frag} {mg : Str → Option Value} {base : Heap} {a : Ad}
def RlawNum (ds : List PyData) (d : PyData) : Prop := ∃ x, ds = [x] ∧ Ask x ∧ d = .bool (isNum x)
theorem notZ (b : PyData) : (isB b || !isI b) = !isZ b := by cases b <;> rfl
theorem map_getB {f : PyData → Bool} {xs : List PyData} {j : Nat} {b : PyData} {c : Bool} (hb : xs[j]? = some b) (hc : (xs.map f)[j]? = some c) : c = f b := by
  rw [List.getElem?_map, hb] at hc
  exact (Option.some.inj hc).symm
theorem sh_keep {n : Nat} {ds : List PyData} {bs : List Bool} (h : ∀ x ∈ ds, Wf n x) (hn : n ≤ 59) : SeqAt.shaped (.list (keepBy ds bs)) = true :=
  Wf.sh (n := n + 1) (fun x hx => h x (keepBy_mem hx)) (by omega)
theorem ok_law_is_number (T : Txt K mg a) : FnOk P w K mg base CX0 2 a.law_is_number a.d_law_is_number p_law_is_number (spD K RlawNum) :=
  okD T.f_law_is_number.fn sc_law_is_number (by rintro _ _ ⟨x, rfl, _, rfl⟩; rfl) fun cdv A outer s H E hr => ⟨_, (pss_cons (ps_if (pt_val (pe_callB (r := rIsi K) call_isi rfl T.b_isinstance (by decide +kernel) (pa_cons (pv 0) (pa_cons (pe_bltn (v := .ty "int") rfl T.b_int (by decide +kernel) rfl) pa_nil)))) (pss_one (ps_ret (pe_not (pe_callB (r := rIsi K) call_isi rfl T.b_isinstance (by decide +kernel) (pa_cons (pv 0) (pa_cons (pe_bltn (v := .ty "bool") rfl T.b_bool (by decide +kernel) rfl) pa_nil)))))) pss_nil)
      (pss_cons (ps_if (PW.pt (pw_or (pt_not (pt_val (pe_callB (r := rIsiT K) call_isiT rfl T.b_isinstance (by decide +kernel) (pa_cons (pv 0) (pa_cons (pe_tup (pa_cons (pe_bltn (v := .ty "list") rfl T.b_list (by decide +kernel) rfl) (pa_cons (pe_bltn (v := .ty "tuple") rfl T.b_tuple (by decide +kernel) rfl) pa_nil))) pa_nil))))) (pw_or1 (pt_cmpR (r := rNeD K) (op_neD hr.units) (pe_callB (r := rLenQ K) cr_len rfl T.b_len (by decide +kernel) (pa_cons (pv 0) pa_nil)) pe_int (nomark _))))) (pss_one (ps_ret pe_bl)) pss_nil)
      (pss_cons (ps_if (pt_cmpR (r := rNeD K) (op_neD hr.units) (pe_lc (own := [("_law_each", 1)]) (g := (gName 1)) rfl sc_law_is_number.nd (pi_seq (pv 0)) (blkOk_by (own := [("_law_each", 1)]) (N := n_law_is_number) (sc := defScope s_law_is_number) (by decide +kernel)) (fun _ _ _ _ _ => (pg_name (i := 1) sc_law_is_number.nd rfl (Or.inl rfl))) (fun _ _ _ _ _ => pts_one (PW.pt (pw_or (pt_val (pe_callB (r := rIsi K) call_isi rfl T.b_isinstance (by decide +kernel) (pa_cons (pv 1) (pa_cons (pe_bltn (v := .ty "bool") rfl T.b_bool (by decide +kernel) rfl) pa_nil)))) (pw_or1 (pt_not (pt_val (pe_callB (r := rIsi K) call_isi rfl T.b_isinstance (by decide +kernel) (pa_cons (pv 1) (pa_cons (pe_bltn (v := .ty "int") rfl T.b_int (by decide +kernel) rfl) pa_nil))))))))) (fun _ _ _ _ _ => (pv 1))) (pe_lst pa_nil) (nomark _)) (pss_one (ps_ret pe_bl)) pss_nil)
      (pss_one (ps_ret (pe_and (pe_cmpR op_gt (pe_ix (r := rIx K) ix_seq (pv 0) pe_int (fun _ _ => rfl)) pe_int (nomark _)) (pe_one (pe_cmpR (r := rEqD K) (op_eqD hr.units) (pe_call (ok_law_lowest T) (hr.mono (by decide)) rfl T.f_law_lowest.gl T.f_law_lowest.fn.kp T.b_law_lowest .nil pass0 (pa_cons (pe_ix (r := rIx K) ix_seq (pv 0) pe_int (fun _ _ => rfl)) (pa_cons (pe_ix (r := rIx K) ix_seq (pv 0) pe_int (fun _ _ => rfl)) pa_nil))) (pe_callTy (r := rTupC K) cr_tup rfl T.b_tuple (by decide +kernel) (pa_cons (pv 0) pa_nil)) (nomark _))))))))), fun m vs ds d l dv r => by
    obtain ⟨x, rfl, hA, rfl⟩ := r
    obtain ⟨v, rfl, h⟩ := dv.one
    refine rd_ifr (eb_B (ed_isI (ed_var rfl h))) (fun z => rd_ret ((ed_not (ed_isB (ed_var rfl h))).is ?_)) fun z => ?_
    · cases x <;> first | rfl | exact absurd z Bool.noConfusion
    have nz : isZ x = false := by unfold isZ; rw [z]; rfl
    have en : isNum x = prB (sqD x) := by unfold isNum; rw [nz, Bool.false_or]
    rw [en]
    cases hS : isS x with
    | false =>
      rw [sqD_no hS]
      exact rd_ifr (b := true) ((eb_or (b := true) (eb_not (eb_B (ed_isS (ed_var rfl h)))) fun y => by rw [hS] at y; cases y).is (by rw [hS]; rfl)) (fun _ => rd_ret ed_bl) fun y => nomatch y
    | true =>
      have hq := seq_of hS
      obtain ⟨n, hn, hw⟩ := hA.resolve_right (by rw [hS]; exact Bool.noConfusion)
      obtain ⟨k, rfl, hk⟩ := hw.seq hq
      refine rd_ifr (eb_or (eb_not (eb_B (ed_isS (ed_var rfl h)))) fun _ => eb_test (ed_ne (ed_len (ed_var rfl h) hq) ed_int sh_int sh_int)) (fun y => ?_) fun y => ?_
      · rw [hS, eqv_int] at y
        simp only [Bool.not_true, Bool.false_or, Bool.not_eq_true', beq_eq_false_iff_ne] at y
        exact rd_ret (ed_bl.is (by rw [prB_len (by omega)]))
      · rw [hS, eqv_int] at y
        simp only [Bool.not_true, Bool.false_or, Bool.not_eq_false', beq_iff_eq] at y
        have hl : (sqD x).length = 2 := by omega
        refine rd_ifr (eb_test (ed_ne (ed_lcIf (bs := (sqD x).map fun b => (isB b || !isI b)) (ed_var rfl h) hq (by rw [List.length_map]) (by omega) (Nat.le_of_ble_eq_true rfl) (fun v => rfl) fun D j b c u H1 hD hb hc x1 du =>
          (eb_or (eb_B (ed_isB (ed_var rfl du))) fun _ => eb_not (eb_B (ed_isI (ed_var rfl du)))).is (map_getB (f := fun b => (isB b || !isI b)) hb hc).symm) (ed_lst es_nil) (sh_keep hk (by omega)) sh_nil)) (fun y2 => ?_) fun y2 => ?_
        · rw [eqv_nil, keepBy_none (by rw [List.length_map]), Bool.not_not] at y2
          obtain ⟨p, q, hpq⟩ := len2 hl
          rw [hpq] at y2 ⊢
          refine rd_ret (ed_bl.is ?_)
          simp only [List.map_cons, List.map_nil, List.any_cons, List.any_nil, id, Bool.or_false, notZ] at y2
          unfold prB
          cases h1 : isZ p <;> cases h2 : isZ q <;> simp [h1, h2] at y2 ⊢
        · rw [eqv_nil, keepBy_none (by rw [List.length_map]), Bool.not_not] at y2
          obtain ⟨p, q, hpq⟩ := len2 hl
          rw [hpq] at y2 hq hk ⊢
          simp only [List.map_cons, List.map_nil, List.any_cons, List.any_nil, id, Bool.or_false, notZ] at y2
          have z1 : isZ p = true := by
            cases h1 : isZ p
            · rw [h1] at y2; simp at y2
            · rfl
          have z2 : isZ q = true := by
            cases h2 : isZ q
            · rw [h2] at y2; simp at y2
            · rfl
          have e1 := isZ_int z1
          have e2 := isZ_int z2
          have b1 := (hk p (by simp)).z z1
          have b2 := (hk q (by simp)).z z2
          have hq' : IsSeq x [.int (iv p), .int (iv q)] := by rw [← e1, ← e2]; exact hq
          refine rd_ret ((ed_and (b := decide (Int.gcd (iv p) (iv q) = 1)) (ed_gt (ed_ix (ed_var rfl h) hq' (ed_int (i := 1)) (i := 1) rfl) ed_int) fun g => (ed_eq (d := numD (fr (iv p) (iv q).toNat)) (e := .tuple [.int (iv p), .int (iv q)]) (ed_call (es_2 (ed_ix (ed_var rfl h) hq' (ed_int (i := 0)) (i := 0) rfl) (ed_ix (ed_var rfl h) hq' (ed_int (i := 1)) (i := 1) rfl)) ?_) (ed_tupC (ed_var rfl h) hq') (sh_num _) (sh_t2 _ _)).is ?_).is ?_)
          · have g' := of_decide_eq_true g
            refine ⟨iv p, (iv q).toNat, by omega, lt8000 b1 (by decide), lt8000 (j := 900) (by omega) (by decide), ?_, rfl⟩
            rw [Int.toNat_of_nonneg (by omega)]
          · have g' := of_decide_eq_true g
            congr 1
            obtain ⟨u, hu⟩ : ∃ u : Nat, iv q = (u : Int) := ⟨(iv q).toNat, by omega⟩
            rw [hu, Int.toNat_natCast]
            have hu0 : u ≠ 0 := by omega
            have hu2 : 2 ≤ u := by omega
            rw [Bool.eq_iff_iff, decide_eq_true_eq]
            constructor
            · intro he
              by_cases hd : (fr (iv p) u).den = 1
              · rw [numD_i hd] at he
                simp [PyData.eqv] at he
              · rw [numD_p hd] at he
                simp only [PyData.eqv, PyData.eqvAll, Bool.and_true, Bool.and_eq_true, beq_iff_eq] at he
                have h2 : (fr (iv p) u).den = u := by omega
                rw [fr_den hu0] at h2
                have hg := gcd_pos (i := iv p) hu0
                rcases Nat.lt_or_ge 1 (Int.gcd (iv p) u) with q | q
                · have := Nat.div_lt_self (Nat.pos_of_ne_zero hu0) q
                  omega
                · omega
            · intro hg
              rw [pr_num hu2 hg]
              simp [PyData.eqv, PyData.eqvAll]
          · congr 1
            show _ = (isZ p && (isZ q && decide (2 ≤ iv q)) && decide (Int.gcd (iv p) (iv q) = 1))
            rw [z1, z2, Bool.true_and, Bool.true_and]
            congr 1⟩
theorem num_S {g : PyData} (h : isNum g = true) (q : isI g = false) : isS g = true := by
  cases g <;> first | rfl | (exact absurd q Bool.noConfusion) | (exact absurd h Bool.noConfusion)
/-- each if isinstance(each, int) else tuple(each) -/
theorem ed_kept {m : List Addr} {σ : L2.St} {H : Hp} {te : TE} {g : PyData} (h : ED K m te σ H g) (hg : isNum g = true) : ED K m (tIf (tB (tCB (rIsi K) (tCons te (tCons (tC (.ty "int")) tNil)))) te (tCB (rTupC K) (tCons te tNil))) σ H (numD (numQ g)) :=
  ed_if (eb_B (ed_isI h)) (fun q => h.is (by
    rw [← kp_num hg]
    rw [num_I hg] at q
    rw [isZ_int q]
    rfl)) fun q => (ed_tupC h (seq_of (num_S hg q))).is (by rw [← kp_num hg, kp_seq (seq_of (num_S hg q))])
def RlawPlace (ds : List PyData) (d : PyData) : Prop := ∃ x, ds = [x] ∧ Ask x ∧ d = .bool (isPl x)
theorem ok_law_is_place (T : Txt K mg a) : FnOk P w K mg base CX0 4 a.law_is_place a.d_law_is_place p_law_is_place (spD K RlawPlace) :=
  okD T.f_law_is_place.fn sc_law_is_place (by rintro _ _ ⟨x, rfl, _, rfl⟩; rfl) fun cdv A outer s H E hr => ⟨_, (pss_cons (ps_if (PW.pt (pw_or (pt_not (pt_val (pe_callB (r := rIsiT K) call_isiT rfl T.b_isinstance (by decide +kernel) (pa_cons (pv 0) (pa_cons (pe_tup (pa_cons (pe_bltn (v := .ty "list") rfl T.b_list (by decide +kernel) rfl) (pa_cons (pe_bltn (v := .ty "tuple") rfl T.b_tuple (by decide +kernel) rfl) pa_nil))) pa_nil))))) (pw_or (pt_cmpR (r := rNeD K) (op_neD hr.units) (pe_callB (r := rLenQ K) cr_len rfl T.b_len (by decide +kernel) (pa_cons (pv 0) pa_nil)) pe_int (nomark _)) (pw_or1 (pt_not (pt_val (pe_call (ok_law_is_number T) (hr.mono (by decide)) rfl T.f_law_is_number.gl T.f_law_is_number.fn.kp T.b_law_is_number .nil pass0 (pa_cons (pe_ix (r := rIx K) ix_seq (pv 0) pe_int (fun _ _ => rfl)) pa_nil)))))))) (pss_one (ps_ret pe_bl)) pss_nil)
      (pss_cons (ps_for PassesOwn.never rfl (pi_seq (pe_tup (pa_cons (pe_ix (r := rIx K) ix_seq (pv 0) pe_int (fun _ _ => rfl)) (pa_cons (pe_ix (r := rIx K) ix_seq (pv 0) pe_int (fun _ _ => rfl)) pa_nil)))) (pg_name (i := 1) sc_law_is_place.nd rfl (Or.inl rfl)) (pss_one (ps_if (PW.pt (pw_or (pt_not (pt_val (pe_callB (r := rIsiT K) call_isiT rfl T.b_isinstance (by decide +kernel) (pa_cons (pv 1) (pa_cons (pe_tup (pa_cons (pe_bltn (v := .ty "list") rfl T.b_list (by decide +kernel) rfl) (pa_cons (pe_bltn (v := .ty "tuple") rfl T.b_tuple (by decide +kernel) rfl) pa_nil))) pa_nil))))) (pw_or (pt_cmpR (r := rNeD K) (op_neD hr.units) (pe_callB (r := rLenQ K) cr_len rfl T.b_len (by decide +kernel) (pa_cons (pv 1) pa_nil)) pe_int (nomark _)) (pw_or1 (pt_cmpR (r := rNeD K) (op_neD hr.units) (pe_lc (own := [("_law_each", 4)]) (g := (gName 4)) rfl sc_law_is_place.nd (pi_seq (pv 1)) (blkOk_by (own := [("_law_each", 4)]) (N := n_law_is_place) (sc := defScope s_law_is_place) (by decide +kernel)) (fun _ _ _ _ _ => (pg_name (i := 4) sc_law_is_place.nd rfl (Or.inl rfl))) (fun _ _ _ _ _ => pts_one (pt_not (pt_val (pe_call (ok_law_is_number T) (hr.mono (by decide)) rfl T.f_law_is_number.gl T.f_law_is_number.fn.kp T.b_law_is_number .nil pass0 (pa_cons (pv 4) pa_nil))))) (fun _ _ _ _ _ => (pv 4))) (pe_lst pa_nil) (nomark _)))))) (pss_one (ps_ret pe_bl)) pss_nil)))
      (pss_cons (ps_if (pt_cmpR (r := rNeD K) (op_neD hr.units) (pe_lc (own := [("_law_each", 4)]) (g := (gName 4)) rfl sc_law_is_place.nd (pi_seq (pe_ix (r := rIx K) ix_seq (pv 0) pe_int (fun _ _ => rfl))) (blkOk_by (own := [("_law_each", 4)]) (N := n_law_is_place) (sc := defScope s_law_is_place) (by decide +kernel)) (fun _ _ _ _ _ => (pg_name (i := 4) sc_law_is_place.nd rfl (Or.inl rfl))) (fun _ _ _ _ _ => pts_one (pt_not (pt_val (pe_callB (r := rIsi K) call_isi rfl T.b_isinstance (by decide +kernel) (pa_cons (pv 4) (pa_cons (pe_bltn (v := .ty "int") rfl T.b_int (by decide +kernel) rfl) pa_nil)))))) (fun _ _ _ _ _ => (pv 4))) (pe_lst pa_nil) (nomark _)) (pss_one (ps_ret pe_bl)) pss_nil)
      (pss_cons (ps_set (i := 2) sc_law_is_place.nd rfl (Or.inl rfl) (pe_ifExp (pt_val (pe_callB (r := rIsi K) call_isi rfl T.b_isinstance (by decide +kernel) (pa_cons (pe_ix (r := rIx K) ix_seq (pv 0) pe_int (fun _ _ => rfl)) (pa_cons (pe_bltn (v := .ty "int") rfl T.b_int (by decide +kernel) rfl) pa_nil)))) (pe_ix (r := rIx K) ix_seq (pv 0) pe_int (fun _ _ => rfl)) (pe_callTy (r := rTupC K) cr_tup rfl T.b_tuple (by decide +kernel) (pa_cons (pe_ix (r := rIx K) ix_seq (pv 0) pe_int (fun _ _ => rfl)) pa_nil))))
      (pss_cons (ps_if (pt_cmpR op_lt (pe_ix (r := rIx K) ix_seq (pe_call (ok_law_halves T) (hr.mono (by decide)) rfl T.f_law_halves.gl T.f_law_halves.fn.kp T.b_law_halves .nil pass0 (pa_cons (pv 2) pa_nil)) pe_int (fun _ _ => rfl)) pe_int (nomark _)) (pss_one (ps_ret pe_bl)) pss_nil)
      (pss_cons (ps_setLc (i := 3) (own := [("_law_each", 4)]) (g := (gName 4)) (tt := tYes) rfl sc_law_is_place.nd rfl rfl (sw_true rfl rfl rfl (by decide +kernel)) (pi_seq (pe_ix (r := rIx K) ix_seq (pv 0) pe_int (fun _ _ => rfl))) (blkOk_by (own := [("_law_each", 4)]) (N := n_law_is_place) (sc := defScope s_law_is_place) (by decide +kernel)) (fun _ _ _ _ _ => (pg_name (i := 4) sc_law_is_place.nd rfl (Or.inl rfl))) (fun _ _ _ _ _ => pts_nil) (fun _ _ _ _ _ => (pe_ifExp (pt_val (pe_callB (r := rIsi K) call_isi rfl T.b_isinstance (by decide +kernel) (pa_cons (pv 4) (pa_cons (pe_bltn (v := .ty "int") rfl T.b_int (by decide +kernel) rfl) pa_nil)))) (pv 4) (pe_callTy (r := rTupC K) cr_tup rfl T.b_tuple (by decide +kernel) (pa_cons (pv 4) pa_nil)))))
      (pss_one (ps_ret (pe_cmpR (r := rEqD K) (op_eqD hr.units) (pe_call (ok_law_form T) (hr.mono (by decide)) rfl T.f_law_form.gl T.f_law_form.fn.kp T.b_law_form .nil pass0 (pa_cons (pv 3) (pa_cons (pe_ix (r := rIx K) ix_seq (pv 0) pe_int (fun _ _ => rfl)) (pa_cons (pv 2) pa_nil)))) (pe_tup (pa_cons (pe_callTy (r := rTupC K) cr_tup rfl T.b_tuple (by decide +kernel) (pa_cons (pv 3) pa_nil)) (pa_cons (pe_callTy (r := rTupC K) cr_tup rfl T.b_tuple (by decide +kernel) (pa_cons (pe_ix (r := rIx K) ix_seq (pv 0) pe_int (fun _ _ => rfl)) pa_nil)) (pa_cons (pv 2) pa_nil)))) (nomark _)))))))))), fun m vs ds d l dv r => by
    obtain ⟨x, rfl, hA, rfl⟩ := r
    obtain ⟨v, rfl, h⟩ := dv.one
    cases hS : isS x with
    | false =>
      refine rd_ifr (b := true) ((eb_or (b := true) (eb_not (eb_B (ed_isS (ed_var rfl h)))) fun y => by rw [hS] at y; cases y).is (by rw [hS]; rfl)) (fun _ => rd_ret (ed_bl.is ?_)) fun y => nomatch y
      rw [isPl, sqD_no hS]
      rfl
    | true =>
      obtain ⟨n, hn, hw⟩ := hA.resolve_right (by rw [hS]; exact Bool.noConfusion)
      have hq := seq_of hS
      by_cases hl : (sqD x).length = 3
      · obtain ⟨p, s, r, hx⟩ := len3 hl
        rw [hx] at hq
        rw [pl_seq hq]
        obtain ⟨k, rfl, hk⟩ := hw.seq hq
        have wp := hk p (by simp)
        have ws := hk s (by simp)
        have wr := hk r (by simp)
        have i0 : ∀ {σ : L2.St} {H1 : Hp}, σ[0]? = some (some v) → Xo m H H1 → ED K m (tOp (rIx K) (tVar 0) (tC (.int 0))) σ H1 p := fun e x1 => ed_ix (ed_var e (h.up x1)) hq (ed_int (i := 0)) (i := 0) rfl
        have i1 : ∀ {σ : L2.St} {H1 : Hp}, σ[0]? = some (some v) → Xo m H H1 → ED K m (tOp (rIx K) (tVar 0) (tC (.int 1))) σ H1 s := fun e x1 => ed_ix (ed_var e (h.up x1)) hq (ed_int (i := 1)) (i := 1) rfl
        have i2 : ∀ {σ : L2.St} {H1 : Hp}, σ[0]? = some (some v) → Xo m H H1 → ED K m (tOp (rIx K) (tVar 0) (tC (.int 2))) σ H1 r := fun e x1 => ed_ix (ed_var e (h.up x1)) hq (ed_int (i := 2)) (i := 2) rfl
        refine rd_ifr (b := !isNum r) ((eb_or (eb_not (eb_B (ed_isS (ed_var rfl h)))) fun _ => eb_or (eb_test (ed_ne (ed_len (ed_var rfl h) hq) ed_int sh_int sh_int)) fun _ =>
          eb_not (eb_B (ed_call (es_1 (i2 rfl .refl)) ⟨r, rfl, .inl ⟨k, by omega, wr⟩, rfl⟩))).is (by rw [hS, eqv_int]; rfl)) (fun y => ?_) fun y => ?_
        · rw [Bool.not_eq_true'] at y
          rw [y]
          exact rd_ret ed_bl
        · rw [Bool.not_eq_false'] at y
          rw [y, Bool.true_and]
          -- the two pairs
          refine rd_forSeq (ds := [p, s]) (ed_tup (es_2 (i0 rfl .refl) (i1 rfl .refl))) (.tup _) (fun j σ => (∃ o, σ = [some v, o, .none, .none, .none]) ∧ (1 ≤ j → isPt p = true) ∧ (2 ≤ j → isPt s = true)) ⟨⟨_, rfl⟩, fun z => by omega, fun z => by omega⟩ (fun j b u σ1 H1 hb hJ x1 l1 du => ?_) fun σ1 H1 x1 l1 hJ => ?_
          · obtain ⟨⟨o, rfl⟩, hJ1, hJ2⟩ := hJ
            have wb : Wf k b := by
              match j, hb with
              | 0, hb => cases hb; exact wp
              | 1, hb => cases hb; exact ws
              | j + 2, hb => cases hb
            refine rn_if (b := !isPt b) ?_ (fun z => ?_) fun z => ?_
            · cases hSb : isS b with
              | false => exact ((eb_or (b := true) (eb_not (eb_B (ed_isS (ed_var (i := 1) rfl du)))) fun y => by rw [hSb] at y; cases y).is (by rw [hSb, isPt, sqD_no hSb]; rfl))
              | true =>
                have hqb := seq_of hSb
                obtain ⟨k', rfl, hk'⟩ := wb.seq hqb
                by_cases hlb : (sqD b).length = 2
                · obtain ⟨g, g', hg⟩ := len2 hlb
                  refine (eb_or (eb_not (eb_B (ed_isS (ed_var (i := 1) rfl du)))) fun _ => eb_or (eb_test (ed_ne (ed_len (ed_var (i := 1) rfl du) hqb) ed_int sh_int sh_int)) fun _ => eb_test (ed_ne
                    (ed_lcIf (bs := (sqD b).map fun b => !isNum b) (ed_var (i := 1) rfl du) hqb (by rw [List.length_map]) (by omega) (Nat.le_of_ble_eq_true rfl) (fun v => rfl) fun D j b' c u' H2 hD hb' hc x2 du' =>
                      (eb_not (eb_B (ed_call (es_1 (ed_var rfl du')) ⟨b', rfl, .inl ⟨k', by omega, hk' b' (List.mem_of_getElem? hb')⟩, rfl⟩))).is (map_getB (f := fun b => !isNum b) hb' hc).symm)
                    (ed_lst es_nil) (sh_keep hk' (by omega)) sh_nil)).is ?_
                  rw [hSb, eqv_int, eqv_nil, keepBy_none (by rw [List.length_map]), hg, isPt, hg]
                  simp [ptB]
                · refine (eb_or (eb_not (eb_B (ed_isS (ed_var (i := 1) rfl du)))) fun _ => eb_or (b := true) (eb_test (ed_ne (ed_len (ed_var (i := 1) rfl du) hqb) ed_int sh_int sh_int)) fun y => ?_).is ?_
                  · rw [eqv_int] at y
                    simp only [Bool.not_eq_false', beq_iff_eq] at y
                    omega
                  · rw [Bool.or_true, Bool.or_true, isPt, ptB_len hlb]
                    rfl
            · rw [Bool.not_eq_true'] at z
              refine rd_ret (ed_bl.is ?_)
              match j, hb with
              | 0, hb => cases hb; rw [z]; rfl
              | 1, hb => cases hb; rw [z, Bool.false_and, Bool.and_false]
              | j + 2, hb => cases hb
            · rw [Bool.not_eq_false'] at z
              refine ⟨⟨_, rfl⟩, ?_, ?_⟩
              · match j, hb with
                | 0, hb => cases hb; exact fun _ => z
                | 1, hb => exact fun _ => hJ1 (Nat.le_refl _)
                | j + 2, hb => cases hb
              · match j, hb with
                | 0, hb => exact fun q => by omega
                | 1, hb => cases hb; exact fun _ => z
                | j + 2, hb => cases hb
          · obtain ⟨⟨o, rfl⟩, hJ1, hJ2⟩ := hJ
            have pp : isPt p = true := hJ1 (Nat.le_of_ble_eq_true rfl)
            have ps : isPt s = true := hJ2 (Nat.le_of_ble_eq_true rfl)
            rw [pp, ps, Bool.true_and, Bool.true_and]
            have pairs : ∀ {z : PyData}, isPt z = true → ∃ g g', IsSeq z [g, g'] ∧ isNum g = true ∧ isNum g' = true := fun {z} hz => by
              have hl2 : (sqD z).length = 2 := by
                by_cases q : (sqD z).length = 2
                · exact q
                · rw [isPt, ptB_len q] at hz
                  cases hz
              have hSz : isS z = true := by
                cases q : isS z
                · rw [sqD_no q] at hl2
                  cases hl2
                · rfl
              obtain ⟨g, g', hg⟩ := len2 hl2
              have hz' := hz
              rw [isPt, hg] at hz'
              obtain ⟨h1, h2⟩ := Bool.and_eq_true_iff.mp (show (isNum g && isNum g') = true from hz')
              exact ⟨g, g', by rw [← hg]; exact seq_of hSz, h1, h2⟩
            obtain ⟨p1, p2, hqp, np1, np2⟩ := pairs pp
            obtain ⟨s1, s2, hqs, ns1, ns2⟩ := pairs ps
            obtain ⟨kp', rfl, hkp⟩ := wp.seq hqp
            obtain ⟨_, e', hks⟩ := ws.seq hqs
            have eall : (sqD s).all isI = (isI s1 && isI s2) := by rw [hqs.e]; simp
            refine rd_ifr (b := !((sqD s).all isI)) ((eb_test (ed_ne (ed_lcIf (bs := [s1, s2].map fun b => !isI b) (i1 rfl x1) hqs rfl (by simp) (Nat.le_of_ble_eq_true rfl) (fun v => rfl) fun D j b' c u' H2 hD hb' hc x2 du' => (eb_not (eb_B (ed_isI (ed_var rfl du')))).is (map_getB (f := fun b => !isI b) hb' hc).symm) (ed_lst es_nil) (sh_keep hks (by omega)) sh_nil)).is ?_) (fun z => ?_) fun z => ?_
            · rw [eqv_nil, keepBy_none (by rw [List.length_map]), eall]
              simp
            · rw [Bool.not_eq_true'] at z
              rw [z]
              exact rd_ret ed_bl
            · rw [Bool.not_eq_false'] at z
              rw [z, Bool.true_and]
              rw [eall] at z
              obtain ⟨j1, j2⟩ := Bool.and_eq_true_iff.mp z
              have z1 : isZ s1 = true := by rw [← num_I ns1]; exact j1
              have z2 : isZ s2 = true := by rw [← num_I ns2]; exact j2
              have e1 := isZ_int z1
              have e2 := isZ_int z2
              have hqs' : IsSeq s [.int (iv s1), .int (iv s2)] := by rw [← e1, ← e2]; exact hqs
              have w1 := (hks s1 (by simp)).z z1
              have w2 := (hks s2 (by simp)).z z2
              refine rd_set (ed_kept (i2 rfl x1) y) fun u3 H3 x3 l3 h3 => ?_
              · have x13 := x1.trans x3
                refine rd_ifr (eb_test (ed_lt (ed_ix (ed_call (es_1 (ed_var (i := 2) rfl h3)) ⟨_, rfl, rfl⟩) (.lst _) (ed_int (i := 0)) (i := 0) rfl) ed_int)) (fun q => ?_) fun q => ?_
                · have q' := of_decide_eq_true q
                  refine rd_ret (ed_bl.is ?_)
                  rw [hqs.e]
                  show _ = PyData.bool ((isZ s1 && isZ s2) && _)
                  rw [z1, z2, Bool.true_and, ← num0 y]
                  have f1 : decide (numQ r = 0) = false := decide_eq_false fun z => by rw [z] at q'; exact absurd q' (by decide)
                  have f2 : decide (0 < sgn (numQ r).num) = false := decide_eq_false fun z => by have := sgn_pos.mp z; omega
                  rw [f1, f2, Bool.false_and, Bool.and_false]
                  split <;> rfl
                · have q' := of_decide_eq_false q
                  have h0 : 0 ≤ (numQ r).num := by omega
                  refine rd_set (e := .list [numD (numQ p1), numD (numQ p2)]) (ed_lc (es := [numD (numQ p1), numD (numQ p2)]) (i0 rfl x13) hqp rfl (by simp) (fun v => rfl) fun D j b' c u' H4 hD hb' hc x4 du' => ?_) fun u4 H4 x4 l4 h4 => ?_
                  · match j, hb', hc with
                    | 0, hb', hc => cases hb'; cases hc; exact ed_kept (ed_var rfl du') np1
                    | 1, hb', hc => cases hb'; cases hc; exact ed_kept (ed_var rfl du') np2
                    | j + 2, hb', hc => cases hb'
                  · have h3 := h3.up x4
                    have x14 := x13.trans x4
                    have bi : ∀ {i : Int}, i.natAbs < 2 ^ 900 → Bd 900 (i : Rat) := fun {i} hi => ⟨by rw [Rat.num_intCast]; exact hi, by rw [Rat.den_intCast]; exact Nat.one_lt_two_pow (by decide)⟩
                    have eA : IsSeq s [numD ((iv s1 : Int) : Rat), numD ((iv s2 : Int) : Rat)] := by rw [numD_int, numD_int]; exact hqs'
                    have cf := ed_call (K := K) (E := E0) (es_3 (ed_var (m := m) (i := 3) (σ := [some v, o, some u3, some u4, .none]) rfl h4) (i1 rfl x14) (ed_var (i := 2) rfl h3)) (R := RlawForm) ⟨numQ p1, numQ p2, ((iv s1 : Int) : Rat), ((iv s2 : Int) : Rat), numQ r, s, num_bd (hkp p1 (by simp)) np1, num_bd (hkp p2 (by simp)) np2, bi w1, bi w2, num_bd wr y, h0, eA, rfl, rfl⟩
                    obtain ⟨fa, fb, fx, fy, fs, ef⟩ := form_pl (numQ p1) (numQ p2) ((iv s1 : Int) : Rat) ((iv s2 : Int) : Rat) (numQ r)
                    refine rd_ret ((ed_eq cf (e := plD (numQ p1) (numQ p2) (iv s1) (iv s2) (numQ r)) (ed_tup (es_3 (ed_tupC (ed_var (i := 3) rfl h4) (.lst _)) (ed_tupC (i1 rfl x14) hqs') (ed_var (i := 2) rfl h3))) (by rw [ef]; exact sh_pl _ _ _ _ _) (sh_pl _ _ _ _ _)).is ?_)
                    rw [form_whole h0, hqs.e]
                    show _ = PyData.bool ((isZ s1 && isZ s2) && _)
                    rw [z1, z2, Bool.true_and, ← num0 y]
                    rfl
      · refine rd_ifr (b := true) ((eb_or (eb_not (eb_B (ed_isS (ed_var rfl h)))) fun _ => eb_or (b := true) (eb_test (ed_ne (ed_len (ed_var rfl h) hq) ed_int sh_int sh_int)) fun y => ?_).is ?_) (fun _ => rd_ret (ed_bl.is (by rw [isPl, plB_len hl]))) fun y => nomatch y
        · rw [eqv_int] at y
          simp only [Bool.not_eq_false', beq_iff_eq] at y
          omega
        · rw [Bool.or_true, Bool.or_true]⟩
end
end Pc

set_option Elab.async false
set_option linter.all false
set_option maxRecDepth 100000
set_option maxHeartbeats 4000000
/-! PcX: the program's errors: made, raised, out of a def. -/
namespace Pc
open PySem PySem.Spec PyProof.Rows L2
open Evl (Ex)
section
variable {X : Cx} {e : Expr} {es : List Expr} {ta : TA} {p1 p2 pos : Pos} {CC : Addr}
/-- C.__init__(self, ..), C of the program's own, its __init__ that of ValueError -/
theorem pe_ceinit {pl : Sem Bool} (hg : Gl X "CurveError") (hm : X.mg "CurveError" = some (.ref CC)) (r : ClX.CRead X.K CC (.type "type"))
    (vV : PySem.W.findCls X.K (.ref CC) (.type "type") "__init__" = some (.val (.builtin "ValueError.__init__"))) (ha : PA X (e :: es) ta)
    (hc : eval (.Call (.Attribute (.Name "CurveError" p1) "__init__" p2) (e :: es) [] pos) X.env = (do
      let o ← eval (.Name "CurveError" p1) X.env
      standAt p2.atName
      let (g, fst) ← holding [o] (getMethod o "__init__" pl)
      callWith pos g fst (backTo pos (starEach (e :: es) X.env)) (backToKw pos (keywordEach [] X.env))) := by rfl)
    (he : starEach (e :: es) X.env = (false, eval e X.env) :: starEach es X.env := by rfl) (hpl : (backTo pos (starEach es X.env)).any (·.1) = false := by rfl) :
    PE X (.Call (.Attribute (.Name "CurveError" p1) "__init__" p2) (e :: es) [] pos) (tVeI X.K ta) := by
  refine ⟨fun pins s σ H Q I h => PySem.W.methodCall_KW (ld_glob I hg hm ?_ (by decide)) hc⟩
  refine PySem.W.method_cls I.kIn r.ga (PySem.W.cls_value I.kIn r.rd vV (by decide +kernel) ?_)
  show wpAny _ _ (callWith pos (Value.builtin "ValueError.__init__") [] (backTo pos (starEach (e :: es) X.env)) []) _ _ _
  refine PyProof.Rows.callWith_method1 (thn (ha.run pos pins _ σ H _ (I.tok _) h) fun us s1 got => ?_) he hpl
  obtain ⟨vs, H1, I1, r1, a, C, ws, rfl, hl, T, ea, q⟩ := got
  cases r1 with
  | @cons _ u0 _ ur ra rw' =>
    obtain rfl : u0 = Value.ref a := ra
    exact oinit_ok T I1 ea (by rw [← Paired.length rw', sizeLine_eq]; omega) fun s' J => ⟨.non, H1, J, rfl, q⟩
end
/-! ### where the errors stand -/
abbrev s_iBadNumber : Stmt := inClass (topS 3) 0
abbrev s_iBadPoint : Stmt := inClass (topS 4) 0
abbrev s_iBadPlace : Stmt := inClass (topS 5) 0
abbrev n_init : List Str := ["self", "part"]
theorem sc_iBadNumber : FnScope n_init n_init (defScope s_iBadNumber) := ⟨rfl, rfl, rfl, by decide +kernel, rfl, by decide +kernel, by decide +kernel⟩
theorem sc_iBadPoint : FnScope n_init n_init (defScope s_iBadPoint) := ⟨rfl, rfl, rfl, by decide +kernel, rfl, by decide +kernel, by decide +kernel⟩
theorem sc_iBadPlace : FnScope n_init n_init (defScope s_iBadPlace) := ⟨rfl, rfl, rfl, by decide +kernel, rfl, by decide +kernel, by decide +kernel⟩
/-- an error's class at C, its __init__ at f -/
structure Err (K : PySem.W.Frag) (mg : Str → Option Value) (x qual : Str) (st : Stmt) (C f : Addr) (fd : FuncData) : Prop where
  ox : OexC K C
  ini : PySem.W.findIn K (.ref C) "__init__" = some (some (.ref f))
  ty : PySem.W.typeIn K (.ref f) = some (.type "function")
  fn : Fun K "__init__" qual st f fd
  no : PySem.W.findIn K (.ref C) "part" = some none
  gl : mg x = some (.ref C)
structure Ae where
  i1 : Addr
  d1 : FuncData
  i2 : Addr
  d2 : FuncData
  i3 : Addr
  d3 : FuncData
/-- the errors' facts -/
structure Exs (K : PySem.W.Frag) (mg : Str → Option Value) (a : Ad) (x : Ae) : Prop where
  num : Err K mg "BadNumber" "BadNumber.__init__" s_iBadNumber a.BadNumber x.i1 x.d1
  pt : Err K mg "BadPoint" "BadPoint.__init__" s_iBadPoint a.BadPoint x.i2 x.d2
  pl : Err K mg "BadPlace" "BadPlace.__init__" s_iBadPlace a.BadPlace x.i3 x.d3
  rd : ClX.CRead K a.CurveError (.type "type")
  ce : PySem.W.findCls K (.ref a.CurveError) (.type "type") "__init__" = some (.val (.builtin "ValueError.__init__"))
  gl : mg "CurveError" = some (.ref a.CurveError)
/-- __init__(self, part) -/
def spInit (K : PySem.W.Frag) (C : Addr) : Sp := fun vs H Q _ => ∃ (a : Addr) (y : V), vs = [.ref a, y] ∧ OexC K C ∧ PySem.W.findIn K (.ref C) "part" = some none ∧ H a = some (exo a C none) ∧
  ∀ dx, H dx = none → dx ≠ a → Q .non (upd (upd H dx (exd dx [("part", y)])) a (exo a C (some dx)))
section
variable {P : Program} {w : World} {K : PySem.W.Frag} {mg : Str → Option Value} {base : Heap} {a : Ad} {x : Ae}
theorem init_rd {C : Addr} {lit : Str} {vs : List V} {H : Hp} {Q : VK} {E : XK} (h : spInit K C vs H Q E) :
    (tSeq (tDrop (tVeI K (tCons (tVar 0) (tCons (tC (.str lit)) tNil)))) (tOst K "part" (tVar 0) (tVar 1))) { nx := fun _ H' => Q .non H', rt := Q } (start n_init vs) H := by
  obtain ⟨b, y, rfl, ox, no, hb, q⟩ := h
  exact ⟨.ref b, rfl, b, C, [.str lit], rfl, Nat.le_of_ble_eq_true rfl, ox, hb, y, rfl, .ref b, rfl, b, C, rfl, ox, no, .inl ⟨hb, fun dx h1 h2 => q dx h1 h2⟩⟩
theorem ok_iBadNumber (T : Exs K mg a x) {C : Addr} : FnOk P w K mg base CX0 1 x.i1 x.d1 n_init (spInit K C) :=
  T.num.fn.ok sc_iBadNumber (fun vs H Q E h => by obtain ⟨b, y, rfl, _⟩ := h; rfl) fun cdv A outer s H vs Q E hr h => ⟨_, pss_cons (ps_expr (pe_ceinit rfl T.gl T.rd T.ce (pa_cons (pv 0) (pa_cons pe_str pa_nil)))) (pss_one (ps_ost (pv 0) (pv 1))), init_rd h⟩
theorem ok_iBadPoint (T : Exs K mg a x) {C : Addr} : FnOk P w K mg base CX0 1 x.i2 x.d2 n_init (spInit K C) :=
  T.pt.fn.ok sc_iBadPoint (fun vs H Q E h => by obtain ⟨b, y, rfl, _⟩ := h; rfl) fun cdv A outer s H vs Q E hr h => ⟨_, pss_cons (ps_expr (pe_ceinit rfl T.gl T.rd T.ce (pa_cons (pv 0) (pa_cons pe_str pa_nil)))) (pss_one (ps_ost (pv 0) (pv 1))), init_rd h⟩
theorem ok_iBadPlace (T : Exs K mg a x) {C : Addr} : FnOk P w K mg base CX0 1 x.i3 x.d3 n_init (spInit K C) :=
  T.pl.fn.ok sc_iBadPlace (fun vs H Q E h => by obtain ⟨b, y, rfl, _⟩ := h; rfl) fun cdv A outer s H vs Q E hr h => ⟨_, pss_cons (ps_expr (pe_ceinit rfl T.gl T.rd T.ce (pa_cons (pv 0) (pa_cons pe_str pa_nil)))) (pss_one (ps_ost (pv 0) (pv 1))), init_rd h⟩
theorem Err.binds {y q : Str} {st : Stmt} {C f : Addr} {fd : FuncData} (T : Err K mg y q st C f fd) (h : ∀ (kV doc pm : Value) (an : Option Addr) (cdv ct : Value) (us : List Value), us.length = n_init.length → bindArgs (PySem.W.fnOf "__init__" q (defArgs st) (defBody st) (defScope st) .none kV doc pm an cdv ct) ⟨us, []⟩ = pure (n_init.zip us)) : Binds K fd n_init [] := T.fn.binds h
theorem Exs.b_num (T : Exs K mg a x) : Binds K x.d1 n_init [] := T.num.binds fun _ _ _ _ _ _ us hl => match us, hl with | [_, _], _ => rfl
theorem Exs.b_pt (T : Exs K mg a x) : Binds K x.d2 n_init [] := T.pt.binds fun _ _ _ _ _ _ us hl => match us, hl with | [_, _], _ => rfl
theorem Exs.b_pl (T : Exs K mg a x) : Binds K x.d3 n_init [] := T.pl.binds fun _ _ _ _ _ _ us hl => match us, hl with | [_, _], _ => rfl
/-! ### outcomes -/
inductive Out where
  | ret (d : PyData)
  | exc (C : Addr) (s : Str)
/-- what is wanted of an outcome -/
def OQ (K : PySem.W.Frag) (m : List Addr) (H : Hp) (Q : VK) (E : XK) : Out → Prop
  | .ret d => ∀ v H2, Ex H H2 → Dv K (off m H2) v d → Q v H2
  | .exc C s => ∀ dx H2, Ex H H2 → H dx = none → H2 dx = some (.xd [("part", .str s)]) → E (.ref C) (some dx) H2
def RX (K : PySem.W.Frag) (m : List Addr) (E : XK) (t : TS) (σ : L2.St) (H : Hp) (o : Out) : Prop :=
  ∀ H1, Xo m H H1 → Lv m H1 → ∀ D : Ends, OQ K m H1 D.rt E o → t D σ H1
def spX (K : PySem.W.Frag) (R : List PyData → Out → Prop) : Sp := fun vs H Q E => ∃ (m : List Addr) (ds : List PyData) (o : Out), Lv m H ∧ DvAll K (off m H) vs ds ∧ R ds o ∧ OQ K m H Q E o
theorem OQ.more {m : List Addr} {H H1 : Hp} {Q : VK} {E : XK} {o : Out} (h : OQ K m H Q E o) (x : Ex H H1) : OQ K m H1 Q E o := by
  cases o with
  | ret d => exact fun v H2 x2 dv => h v H2 (x.trans x2) dv
  | exc C s => exact fun dx H2 x2 n e => h dx H2 (x.trans x2) (Evl.fresh_back x n) e
section
variable {m : List Addr} {te ta : TE} {tt : TT} {s : TA} {σ : L2.St} {H : Hp} {d e : PyData} {t u : TS} {E : XK} {o : Out}
theorem rx_of (h : RD K m t σ H d) : RX K m E t σ H (.ret d) := fun H1 x l D q => h H1 x l D q
theorem rx_set {i : Nat} (h : ED K m te σ H e) (hu : ∀ v H1, Xo m H H1 → Lv m H1 → Dv K (off m H1) v e → RX K m E u (σ.set i (some v)) H1 o) : RX K m E (tSeq (tAsg te (gName i)) u) σ H o := fun H1 x l D q =>
  h H1 x l _ fun v H2 x2 dv => hu v H2 (x.trans (.of x2)) (l.ex x2) dv H2 .refl (l.ex x2) D (q.more x2)
theorem rx_ifr {b : Bool} (h : EB m tt σ H b) (h1 : b = true → RX K m E t σ H o) (h2 : b = false → RX K m E u σ H o) : RX K m E (tSeq (tIfS tt t tNext) u) σ H o := fun H1 x l D q => h H1 x l _ fun H2 x2 => by
  cases b with
  | true => exact h1 rfl H2 (x.trans (.of x2)) (l.ex x2) _ (q.more x2)
  | false => exact h2 rfl H2 (x.trans (.of x2)) (l.ex x2) D (q.more x2)
/-- name = f(..), f may raise -/
theorem rx_setC {R : List PyData → Out → Prop} {ds : List PyData} {i : Nat} {o1 : Out} (h : ES K m s σ H ds) (hr : R ds o1) (he : ∀ C z, o1 = .exc C z → o = .exc C z)
    (hu : ∀ d v H1, o1 = .ret d → Xo m H H1 → Lv m H1 → Dv K (off m H1) v d → RX K m E u (σ.set i (some v)) H1 o) : RX K m E (tSeq (tAsg (tCall (spX K R) [] E s) (gName i)) u) σ H o := fun H1 x l D q =>
  h H1 x l _ fun vs H2 x2 dv => ⟨m, ds, o1, l.ex x2, by rw [List.append_nil]; exact dv, hr, by
    cases o1 with
    | ret d => exact fun v H3 x3 dw => hu d v H3 rfl ((x.trans (.of x2)).trans (.of x3)) ((l.ex x2).ex x3) dw H3 .refl ((l.ex x2).ex x3) D (q.more (x2.trans x3))
    | exc C z =>
      rw [he C z rfl] at q
      exact fun dx H3 x3 n e => q dx H3 (x2.trans x3) (Evl.fresh_back x2 n) e⟩
/-- return f(..), f may raise -/
theorem rx_retC {R : List PyData → Out → Prop} {ds : List PyData} (h : ES K m s σ H ds) (hr : R ds o) : RX K m E (tRet (tCall (spX K R) [] E s)) σ H o := fun H1 x l D q =>
  h H1 x l _ fun vs H2 x2 dv => ⟨m, ds, o, l.ex x2, by rw [List.append_nil]; exact dv, hr, q.more x2⟩
/-- raise C(part) -/
theorem rx_raise {C : Addr} {z : Str} (ox : OexC K C) (no : PySem.W.findIn K (.ref C) "part" = some none) (h : ED K m te σ H (.str z)) :
    RX K m E (fun (_ : Ends) σ H => tMkO C (spInit K C) [] (tCons te tNil) σ H fun cls d H' => E cls d H') σ H (.exc C z) := fun H1 x l D q =>
  h H1 x l _ fun v H2 x2 dv => by
    obtain rfl := dv.s
    refine ⟨Nat.le_of_ble_eq_true rfl, fun b hb => ⟨b, .str z, rfl, ox, no, upd_same, fun dx h1 h2 => ⟨rfl, dx, [("part", .str z)], upd_same, by rw [upd_ne h2, upd_same], ?_, ?_⟩⟩⟩
    · rw [upd_ne h2] at h1
      exact h1
    · rw [upd_ne h2] at h1
      refine q dx _ (fun c u hc => ?_) (Evl.fresh_back x2 h1) upd_same
      have hc2 := x2 c u hc
      have n1 : c ≠ dx := ne_of_none hc2 h1
      have n2 : c ≠ b := ne_of_none hc2 hb
      rw [upd_ne n1, del_ne n2, upd_ne n2, upd_ne n1, upd_ne n2]
      exact hc2
end
theorem okX {qual y : Str} {st : Stmt} {f : Addr} {fd : FuncData} {N ps : List Str} {k : Nat} {R : List PyData → Out → Prop} (F : Fun K y qual st f fd) (S : FnScope N ps (defScope st)) (len : ∀ ds o, R ds o → ds.length = ps.length)
    (body : ∀ (cdv : Value) (A : Around) (outer : List Env) (s : Shared) (H : Hp) (E : XK), Room k (A.deeper (envOfC qual (defScope st) s.heap.objs.size f cdv)) →
      ∃ t, PSs (cxOf (L2.CX P w) P w K mg base N qual (defScope st) f cdv A outer s H E) (defBody st) t ∧ ∀ m vs ds o, Lv m H → DvAll K (off m H) vs ds → R ds o → RX K m E t (start N vs) H o) :
    FnOk P w K mg base (L2.CX P w) (k + 1) f fd ps (spX K R) := F.okX S (fun vs H Q E ⟨m, ds, o, l, dv, r, _⟩ => by rw [dv.length, len ds o r]) fun cdv A outer s H vs Q E hr ⟨m, ds, o, l, dv, r, q⟩ => by
  obtain ⟨t, h1, h2⟩ := body cdv A outer s H E hr
  exact ⟨t, h1, h2 m vs ds o l dv r H .refl l _ q⟩
end
end Pc

set_option Elab.async false
set_option linter.all false
set_option maxRecDepth 100000
set_option maxHeartbeats 4000000
/-! PcD6: the program's defs that raise: need_point, need_place, place_of, as_point. -/
namespace Pc
open PySem PySem.Spec PyProof.Rows L2
open Evl (Ex)
theorem pt_parts {z : PyData} (hz : isPt z = true) : ∃ g g', IsSeq z [g, g'] ∧ isNum g = true ∧ isNum g' = true := by
  have hl2 : (sqD z).length = 2 := by
    by_cases q : (sqD z).length = 2
    · exact q
    · rw [isPt, ptB_len q] at hz
      cases hz
  have hSz : isS z = true := by
    cases q : isS z
    · rw [sqD_no q] at hl2
      cases hl2
    · rfl
  obtain ⟨g, g', hg⟩ := len2 hl2
  rw [isPt, hg] at hz
  obtain ⟨h1, h2⟩ := Bool.and_eq_true_iff.mp (show (isNum g && isNum g') = true from hz)
  exact ⟨g, g', by rw [← hg]; exact seq_of hSz, h1, h2⟩
/-- a point's data as it is kept -/
def ptD (x : PyData) : PyData := .tuple ((sqD x).map kp)
theorem ptD_of {z g g' : PyData} (h : IsSeq z [g, g']) (h1 : isNum g = true) (h2 : isNum g' = true) : ptD z = .tuple [numD (numQ g), numD (numQ g')] := by
  rw [ptD, h.e, List.map_cons, List.map_cons, List.map_nil, kp_num h1, kp_num h2]
section
variable {P : Program} {w : World} {K : PySem.W.Frag} {mg : Str → Option Value} {base : Heap} {a : Ad} {x : Ae}
def RneedPoint (a : Ad) (ds : List PyData) (o : Out) : Prop := ∃ (z : PyData) (s : Str), ds = [z, .str s] ∧ o = if isPt z = true then .ret (ptD z) else .exc a.BadPoint s
theorem ok_need_point (T : Txt K mg a) (T2 : Exs K mg a x) : FnOk P w K mg base (L2.CX P w) 5 a.need_point a.d_need_point p_need_point (spX K (RneedPoint a)) :=
  okX T.f_need_point.fn sc_need_point (by rintro _ _ ⟨z, s, rfl, rfl⟩; rfl) fun cdv A outer s H E hr => ⟨_, (pss_cons (ps_if (pt_not (pt_val (pe_call (ok_is_point T) (hr.mono (by decide)) rfl T.f_is_point.gl T.f_is_point.fn.kp T.b_is_point .nil pass0 (pa_cons (pv 0) pa_nil)))) (pss_one (ps_raise rfl (takes_of rfl rfl rfl rfl) (pmk_oex T2.pt.ox T2.pt.ini T2.pt.ty (ok_iBadPoint T2 (C := a.BadPoint)) (hr.mono (by decide)) T2.b_pt .nil pass0 rfl T2.pt.gl (pa_cons (pv 1) pa_nil)))) pss_nil)
      (pss_one (ps_ret (pe_call (ok_kept_row T) (hr.mono (by decide)) rfl T.f_kept_row.gl T.f_kept_row.fn.kp T.b_kept_row .nil pass0 (pa_cons (pv 0) pa_nil))))), fun m vs ds o l dv r => by
    obtain ⟨z, s, rfl, rfl⟩ := r
    obtain ⟨v, v1, rfl, h, h1⟩ := dv.two
    refine rx_ifr (eb_not (eb_B (ed_call (es_1 (ed_var rfl h)) ⟨z, rfl, rfl⟩))) (fun y => ?_) fun y => ?_
    · rw [Bool.not_eq_true'] at y
      rw [if_neg (by rw [y]; exact Bool.false_ne_true)]
      exact rx_raise T2.pt.ox T2.pt.no (ed_var rfl h1)
    · rw [Bool.not_eq_false'] at y
      rw [if_pos y]
      obtain ⟨g, g', hg, _, _⟩ := pt_parts y
      exact rx_of (rd_ret (ed_call (es_1 (ed_var rfl h)) ⟨z, [g, g'], rfl, hg, by simp, by rw [ptD, hg.e]⟩))⟩
/-- a place's data as it is kept -/
def plK (x : PyData) : PyData := match sqD x with
  | [p, s, r] => .tuple [ptD p, .tuple (sqD s), kp r]
  | _ => .none
theorem pl_is {z : PyData} (hz : isPl z = true) : ∃ p s r, IsSeq z [p, s, r] ∧ isPt p = true ∧ isS s = true ∧ isNum r = true := by
  have hl : (sqD z).length = 3 := by
    by_cases q : (sqD z).length = 3
    · exact q
    · rw [isPl, plB_len q] at hz
      cases hz
  have hSz : isS z = true := by
    cases q : isS z
    · rw [sqD_no q] at hl
      cases hl
    · rfl
  obtain ⟨p, s, r, hx⟩ := len3 hl
  have hq := seq_of hSz
  rw [isPl, hx] at hz
  have h : ((isPt p && isNum r) && asB (sqD s) r) = true := hz
  obtain ⟨h1, h2⟩ := Bool.and_eq_true_iff.mp h
  obtain ⟨h3, h4⟩ := Bool.and_eq_true_iff.mp h1
  refine ⟨p, s, r, by rw [← hx]; exact hq, h3, ?_, h4⟩
  cases q : isS s
  · rw [sqD_no q] at h2
    cases h2
  · rfl
def RneedPlace (a : Ad) (ds : List PyData) (o : Out) : Prop := ∃ (z : PyData) (s : Str), ds = [z, .str s] ∧ Ask z ∧ o = if isPl z = true then .ret (plK z) else .exc a.BadPlace s
theorem ok_need_place (T : Txt K mg a) (T2 : Exs K mg a x) : FnOk P w K mg base (L2.CX P w) 6 a.need_place a.d_need_place p_need_place (spX K (RneedPlace a)) :=
  okX T.f_need_place.fn sc_need_place (by rintro _ _ ⟨z, s, rfl, _, rfl⟩; rfl) fun cdv A outer s H E hr => ⟨_, (pss_cons (ps_if (pt_not (pt_val (pe_call (ok_is_place T) (hr.mono (by decide)) rfl T.f_is_place.gl T.f_is_place.fn.kp T.b_is_place .nil pass0 (pa_cons (pv 0) pa_nil)))) (pss_one (ps_raise rfl (takes_of rfl rfl rfl rfl) (pmk_oex T2.pl.ox T2.pl.ini T2.pl.ty (ok_iBadPlace T2 (C := a.BadPlace)) (hr.mono (by decide)) T2.b_pl .nil pass0 rfl T2.pl.gl (pa_cons (pv 1) pa_nil)))) pss_nil)
      (pss_one (ps_ret (pe_call (ok_kept_place T) (hr.mono (by decide)) rfl T.f_kept_place.gl T.f_kept_place.fn.kp T.b_kept_place .nil pass0 (pa_cons (pv 0) pa_nil))))), fun m vs ds o l dv r => by
    obtain ⟨z, s, rfl, hA, rfl⟩ := r
    obtain ⟨v, v1, rfl, h, h1⟩ := dv.two
    refine rx_ifr (eb_not (eb_B (ed_call (es_1 (ed_var rfl h)) ⟨z, rfl, hA, rfl⟩))) (fun y => ?_) fun y => ?_
    · rw [Bool.not_eq_true'] at y
      rw [if_neg (by rw [y]; exact Bool.false_ne_true)]
      exact rx_raise T2.pl.ox T2.pl.no (ed_var rfl h1)
    · rw [Bool.not_eq_false'] at y
      rw [if_pos y]
      obtain ⟨p, s', r, hq, hp, hs, _⟩ := pl_is y
      obtain ⟨g, g', hg, _, _⟩ := pt_parts hp
      exact rx_of (rd_ret (ed_call (es_1 (ed_var rfl h)) ⟨z, p, s', r, [g, g'], sqD s', rfl, hq, hg, by simp, seq_of hs, by rw [plK, hq.e]; show PyData.tuple [ptD p, _, _] = _; rw [ptD, hg.e]⟩))⟩
/-- what place_of does -/
def formQ (p s r : PyData) : PyData := match sqD p, sqD s with
  | [p1, p2], [s1, s2] => formD (numQ p1) (numQ p2) (numQ s1) (numQ s2) (numQ r)
  | _, _ => .none
def plOut (a : Ad) (p s r : PyData) : Out :=
  if isPt p = true then if isPt s = true then if (!isNum r || decide (sgn (numQ r).num < 0)) = true then .exc a.BadNumber "root" else .ret (formQ p s r) else .exc a.BadPoint "aside" else .exc a.BadPoint "point"
def RplaceOf (a : Ad) (ds : List PyData) (o : Out) : Prop := ∃ (n : Nat) (p s r : PyData), Wf n p ∧ Wf n s ∧ Wf n r ∧ ds = [p, s, r] ∧ o = plOut a p s r
theorem ok_place_of (T : Txt K mg a) (T2 : Exs K mg a x) : FnOk P w K mg base (L2.CX P w) 6 a.place_of a.d_place_of p_place_of (spX K (RplaceOf a)) :=
  okX T.f_place_of.fn sc_place_of (by rintro _ _ ⟨n, p, s, r, _, _, _, rfl, rfl⟩; rfl) fun cdv A outer s H E hr => ⟨_, (pss_cons (ps_set (i := 3) sc_place_of.nd rfl (Or.inl rfl) (pe_call (ok_need_point T T2) (hr.mono (by decide)) rfl T.f_need_point.gl T.f_need_point.fn.kp T.b_need_point .nil (passes_call (takes_of rfl rfl rfl rfl) (fun _ _ _ _ h => h)) (pa_cons (pv 0) (pa_cons pe_str pa_nil))))
      (pss_cons (ps_set (i := 4) sc_place_of.nd rfl (Or.inl rfl) (pe_call (ok_need_point T T2) (hr.mono (by decide)) rfl T.f_need_point.gl T.f_need_point.fn.kp T.b_need_point .nil (passes_call (takes_of rfl rfl rfl rfl) (fun _ _ _ _ h => h)) (pa_cons (pv 1) (pa_cons pe_str pa_nil))))
      (pss_cons (ps_if (PW.pt (pw_or (pt_not (pt_val (pe_call (ok_is_number T) (hr.mono (by decide)) rfl T.f_is_number.gl T.f_is_number.fn.kp T.b_is_number .nil pass0 (pa_cons (pv 2) pa_nil)))) (pw_or1 (pt_cmpR op_lt (pe_call (ok_sign_in T) (hr.mono (by decide)) rfl T.f_sign_in.gl T.f_sign_in.fn.kp T.b_sign_in .nil pass0 (pa_cons (pe_call (ok_kept T) (hr.mono (by decide)) rfl T.f_kept.gl T.f_kept.fn.kp T.b_kept .nil pass0 (pa_cons (pv 2) pa_nil)) pa_nil)) pe_int (nomark _))))) (pss_one (ps_raise rfl (takes_of rfl rfl rfl rfl) (pmk_oex T2.num.ox T2.num.ini T2.num.ty (ok_iBadNumber T2 (C := a.BadNumber)) (hr.mono (by decide)) T2.b_num .nil pass0 rfl T2.num.gl (pa_cons pe_str pa_nil)))) pss_nil)
      (pss_one (ps_ret (pe_call (ok_placed T) (hr.mono (by decide)) rfl T.f_placed.gl T.f_placed.fn.kp T.b_placed .nil pass0 (pa_cons (pv 3) (pa_cons (pv 4) (pa_cons (pe_call (ok_kept T) (hr.mono (by decide)) rfl T.f_kept.gl T.f_kept.fn.kp T.b_kept .nil pass0 (pa_cons (pv 2) pa_nil)) pa_nil))))))))), fun m vs ds o l dv r => by
    obtain ⟨n, p, s, r, wp, ws, wr, rfl, rfl⟩ := r
    obtain ⟨v, v1, v2, rfl, h, h1, h2⟩ := dv.three
    unfold plOut
    refine rx_setC (es_2 (ed_var rfl h) ed_str) ⟨p, _, rfl, rfl⟩ (fun C z e => ?_) fun d u H1 e x1 l1 du => ?_
    · by_cases hp : isPt p = true
      · rw [if_pos hp] at e
        cases e
      · rw [if_neg hp] at e ⊢
        exact e
    by_cases hp : isPt p = true
    · rw [if_pos hp] at e ⊢
      cases e
      have h1 := h1.up x1
      have h2 := h2.up x1
      refine rx_setC (es_2 (ed_var rfl h1) ed_str) ⟨s, _, rfl, rfl⟩ (fun C z e => ?_) fun d u2 H2 e x2 l2 du2 => ?_
      · by_cases hs : isPt s = true
        · rw [if_pos hs] at e
          cases e
        · rw [if_neg hs] at e ⊢
          exact e
      by_cases hs : isPt s = true
      · rw [if_pos hs] at e ⊢
        cases e
        have h2 := h2.up x2
        have du := du.up x2
        refine rx_ifr (b := (!isNum r || decide (sgn (numQ r).num < 0))) (eb_or (eb_not (eb_B (ed_call (es_1 (ed_var rfl h2)) ⟨r, rfl, rfl⟩))) fun y => ?_) (fun y => ?_) fun y => ?_
        · rw [Bool.not_eq_false'] at y
          exact eb_test (ed_lt (ed_call (es_1 ((ed_call (es_1 (ed_var rfl h2)) ⟨r, rfl, rfl⟩).is (kp_num y))) ⟨_, rfl, rfl⟩) ed_int)
        · rw [if_pos y]
          exact rx_raise T2.num.ox T2.num.no ed_str
        · rw [if_neg (by rw [y]; exact Bool.false_ne_true)]
          obtain ⟨y1, y2⟩ := Bool.or_eq_false_iff.mp y
          rw [Bool.not_eq_false'] at y1
          have h0 : 0 ≤ (numQ r).num := by
            have := of_decide_eq_false y2
            rcases Int.lt_or_le (numQ r).num 0 with q | q
            · exact absurd (by unfold sgn; rw [decide_eq_false (by omega), decide_eq_true q]; decide) this
            · exact q
          obtain ⟨p1, p2, qp, np1, np2⟩ := pt_parts hp
          obtain ⟨s1, s2, qs, ns1, ns2⟩ := pt_parts hs
          obtain ⟨k, rfl, kp'⟩ := wp.seq qp
          obtain ⟨_, e', ks⟩ := ws.seq qs
          rw [ptD_of qp np1 np2] at du
          rw [ptD_of qs ns1 ns2] at du2
          refine rx_of (rd_ret (ed_call (es_3 (ed_var rfl du) (ed_var rfl du2) ((ed_call (es_1 (ed_var rfl h2)) ⟨r, rfl, rfl⟩).is (kp_num y1))) ⟨_, _, _, _, _, num_bd (kp' p1 (by simp)) np1, num_bd (kp' p2 (by simp)) np2, num_bd (ks s1 (by simp)) ns1, num_bd (ks s2 (by simp)) ns2, num_bd wr y1, h0, rfl, ?_⟩))
          rw [formQ, qp.e, qs.e]
      · rw [if_neg hs] at e
        cases e
    · rw [if_neg hp] at e
      cases e⟩
/-- what as_point does -/
def apD (z : PyData) : PyData := match sqD z with
  | [p, _, r] => if numQ r = 0 then ptD p else .none
  | _ => .none
def RasPoint (a : Ad) (ds : List PyData) (o : Out) : Prop := ∃ (z : PyData), ds = [z] ∧ Ask z ∧ o = if isPl z = true then .ret (apD z) else .exc a.BadPlace "place"
theorem ok_as_point (T : Txt K mg a) (T2 : Exs K mg a x) : FnOk P w K mg base (L2.CX P w) 7 a.as_point a.d_as_point p_as_point (spX K (RasPoint a)) :=
  okX T.f_as_point.fn sc_as_point (by rintro _ _ ⟨z, rfl, _, rfl⟩; rfl) fun cdv A outer s H E hr => ⟨_, (pss_cons (ps_set (i := 1) sc_as_point.nd rfl (Or.inl rfl) (pe_call (ok_need_place T T2) (hr.mono (by decide)) rfl T.f_need_place.gl T.f_need_place.fn.kp T.b_need_place .nil (passes_call (takes_of rfl rfl rfl rfl) (fun _ _ _ _ h => h)) (pa_cons (pv 0) (pa_cons pe_str pa_nil))))
      (pss_one (ps_ret (pe_ifExp (pt_cmpR (r := rEqD K) (op_eqD hr.units) (pe_ix (r := rIx K) ix_seq (pv 1) pe_int (fun _ _ => rfl)) pe_int (nomark _)) (pe_ix (r := rIx K) ix_seq (pv 1) pe_int (fun _ _ => rfl)) pe_non)))), fun m vs ds o l dv r => by
    obtain ⟨z, rfl, hA, rfl⟩ := r
    obtain ⟨v, rfl, h⟩ := dv.one
    refine rx_setC (es_2 (ed_var rfl h) ed_str) ⟨z, _, rfl, hA, rfl⟩ (fun C z' e => ?_) fun d u H1 e x1 l1 du => ?_
    · by_cases hz : isPl z = true
      · rw [if_pos hz] at e
        cases e
      · rw [if_neg hz] at e ⊢
        exact e
    by_cases hz : isPl z = true
    · rw [if_pos hz] at e ⊢
      cases e
      obtain ⟨p, s, r, hq, hp, hs, hr'⟩ := pl_is hz
      have e1 : plK z = .tuple [ptD p, .tuple (sqD s), numD (numQ r)] := by rw [plK, hq.e, ← kp_num hr']
      have e2 : apD z = if numQ r = 0 then ptD p else .none := by rw [apD, hq.e]
      rw [e1] at du
      rw [e2]
      refine rx_of (rd_ret (ed_if ((eb_test (ed_eq (ed_ix (ed_var rfl du) (.tup _) (ed_int (i := 2)) (i := 2) rfl) ed_int (sh_num _) sh_int)).is (eqv_0 _)) (fun q => ?_) fun q => ?_))
      · rw [if_pos (of_decide_eq_true q)]
        exact ed_ix (ed_var rfl du) (.tup _) (ed_int (i := 0)) (i := 0) rfl
      · rw [if_neg (of_decide_eq_false q)]
        exact ed_non
    · rw [if_neg hz] at e
      cases e⟩
end
end Pc

set_option Elab.async false
set_option linter.all false
set_option maxRecDepth 100000
set_option maxHeartbeats 4000000
/-! PcE: drawing. The moor is one list that changes; what is drawn is data that holds whatever is drawn. -/
namespace Pc
open PySem PySem.Spec PyProof.Rows L2
open Evl (Ex)
/-- * of factors of together less than a hundred million bits -/
def CMulX (i j : Int) : Prop := i.natAbs.log2 + j.natAbs.log2 < 100000000
theorem CMulX.ok {i j : Int} (h : CMulX i j) : IntMulOk i j := by
  have h1 := bits_le i
  have h2 := bits_le j
  have h3 : i.natAbs.log2 + j.natAbs.log2 < 100000000 := h
  have e : bitsLine = 134217728 := by decide
  unfold IntMulOk
  intro z
  rw [Bool.and_eq_true] at z
  have z2 := z.2
  unfold Builtin.Int.intTooBig at z2
  have z3 := of_decide_eq_true z2
  rw [e] at z3
  omega
theorem op_mulX {X : Cx} : OpR X (binaryOp .Mult) (rI CMulX fun i j => .int (i * j)) := opI fun _ _ _ _ _ _ _ hc q => mul_int q hc.ok
theorem ed_mulX {K : PySem.W.Frag} {m : List Addr} {ta tb : TE} {σ : L2.St} {H : Hp} {i j : Int} (ha : ED K m ta σ H (.int i)) (hb : ED K m tb σ H (.int j)) (h : CMulX i j) : ED K m (tOp (rI CMulX fun i j => .int (i * j)) ta tb) σ H (.int (i * j)) := ed_I ha hb h fun _ => .int _
/-- a script's whole numbers -/
def Sc (ns : List Int) : Prop := ns.length ≤ 63 ∧ ∀ z ∈ ns, Builtin.Int.intBits z ≤ 1048576
structure MoorAt (K : PySem.W.Frag) (mo : Addr) (H : Hp) (c : Addr) (ns : List Int) (t l : Int) : Prop where
  at_ : H mo = some (.lst [.ref c, .int t, .int l])
  sq : SqL K (off [mo] H) c (ns.map .int)
def Moor (K : PySem.W.Frag) (mo : Addr) (H : Hp) (n : Nat) : Prop := ∃ c ns t l, MoorAt K mo H c ns t l ∧ Sc ns ∧ 0 ≤ t ∧ t ≤ (n : Int)
section
variable {K : PySem.W.Frag} {mo : Addr} {H H' : Hp} {n k l j : Nat}
theorem Moor.lv (h : Moor K mo H n) : Lv [mo] H := fun a ha => by
  obtain ⟨_, _, _, _, h1, _⟩ := h
  rw [List.mem_singleton.mp ha]
  exact ⟨_, h1.at_⟩
theorem MoorAt.ex {c : Addr} {ns : List Int} {t l : Int} (h : MoorAt K mo H c ns t l) (e : Ex H H') : MoorAt K mo H' c ns t l := ⟨e _ _ h.at_, Evl.ex_l (Xo.of e) h.sq⟩
theorem Moor.ex (h : Moor K mo H n) (e : Ex H H') : Moor K mo H' n := let ⟨c, ns, t, l, h1, h2⟩ := h; ⟨c, ns, t, l, h1.ex e, h2⟩
theorem Moor.mono (h : Moor K mo H n) (e : n ≤ k) : Moor K mo H k := let ⟨c, ns, t, l, h1, h2, h3, h4⟩ := h; ⟨c, ns, t, l, h1, h2, h3, by omega⟩
theorem all_ints {H : Hp} : ∀ ns : List Int, DvAll K H (ns.map .int) (ns.map .int)
  | [] => .nil
  | i :: ns => .cons (.int i) (all_ints ns)
theorem MoorAt.dv {c : Addr} {ns : List Int} {t l : Int} (h : MoorAt K mo H c ns t l) : Dv K (off [] H) (.ref mo) (.list [.list (ns.map .int), .int t, .int l]) := by
  have e : off [] H = H := funext fun a => off_at (fun z => nomatch z)
  rw [e]
  exact .lst (Evl.sq_of h.at_) (.cons (.lst (Evl.ex_l off_le h.sq) (all_ints ns)) (.cons (.int _) (.cons (.int _) .nil)))
theorem Xo.none (x : Xo [] H H') : Ex H H' := by
  have e : ∀ H : Hp, off [] H = H := fun H => funext fun a => off_at (fun z => nomatch z)
  unfold Xo at x
  rw [e, e] at x
  exact x
/-! ### what is drawn -/
def EM (K : PySem.W.Frag) (mo : Addr) (te : TE) (σ : L2.St) (H : Hp) (n k : Nat) (P : PyData → Prop) : Prop :=
  ∀ H1, Xo [mo] H H1 → Moor K mo H1 n → ∀ Q : VK, (∀ v d H2, Xo [mo] H1 H2 → Moor K mo H2 k → Dv K (off [mo] H2) v d → P d → Q v H2) → te σ H1 Q
def EBM (K : PySem.W.Frag) (mo : Addr) (tt : TT) (σ : L2.St) (H : Hp) (n k : Nat) : Prop :=
  ∀ H1, Xo [mo] H H1 → Moor K mo H1 n → ∀ Q : Bool → Hp → Prop, (∀ b H2, Xo [mo] H1 H2 → Moor K mo H2 k → Q b H2) → tt σ H1 Q
def ESM (K : PySem.W.Frag) (mo : Addr) (ta : TA) (σ : L2.St) (H : Hp) (n k : Nat) (P : List PyData → Prop) : Prop :=
  ∀ H1, Xo [mo] H H1 → Moor K mo H1 n → ∀ Q : List V → Hp → Prop, (∀ vs ds H2, Xo [mo] H1 H2 → Moor K mo H2 k → DvAll K (off [mo] H2) vs ds → P ds → Q vs H2) → ta σ H1 Q
def RM (K : PySem.W.Frag) (mo : Addr) (t : TS) (σ : L2.St) (H : Hp) (n k : Nat) (P : PyData → Prop) : Prop :=
  ∀ H1, Xo [mo] H H1 → Moor K mo H1 n → ∀ D : Ends, (∀ v d H2, Xo [mo] H1 H2 → Moor K mo H2 k → Dv K (off [mo] H2) v d → P d → D.rt v H2) → t D σ H1
def NM (K : PySem.W.Frag) (mo : Addr) (t : TS) (σ : L2.St) (H : Hp) (n k : Nat) (P : L2.St → Hp → Prop) : Prop :=
  ∀ H1, Xo [mo] H H1 → Moor K mo H1 n → ∀ D : Ends, (∀ σ' H2, Xo [mo] H1 H2 → Moor K mo H2 k → P σ' H2 → D.nx σ' H2) → t D σ H1
variable {te ta tb tc : TE} {tt : TT} {σ : L2.St} {d e f : PyData} {t u : TS} {s : TA} {P P' R : PyData → Prop} {S : List PyData → Prop} {W W' : L2.St → Hp → Prop}
theorem em_of (h : ED K [mo] te σ H d) (p : P d) : EM K mo te σ H n n P := fun H1 x M Q q => h H1 x M.lv Q fun v H2 x2 dv => q v d H2 (.of x2) (M.ex x2) dv p
theorem EM.weak (h : EM K mo te σ H n k P) (e : k ≤ l) (w : ∀ d, P d → P' d) : EM K mo te σ H n l P' := fun H1 x M Q q => h H1 x M Q fun v d H2 x2 M2 dv p => q v d H2 x2 (M2.mono e) dv (w d p)
theorem EM.from (h : EM K mo te σ H n k P) (x : Xo [mo] H H') : EM K mo te σ H' n k P := fun H1 x1 => h H1 (x.trans x1)
theorem em_op {r : R2} (ha : EM K mo ta σ H n k P) (hb : EM K mo tb σ H k l P')
    (hr : ∀ d e, P d → P' e → ∀ x y H1, Dv K (off [mo] H1) x d → Dv K (off [mo] H1) y e → ∃ f, R f ∧ ED K [mo] (tOp r (tC x) (tC y)) σ H1 f) : EM K mo (tOp r ta tb) σ H n l R := fun H1 x M Q q =>
  ha H1 x M _ fun v d H2 x2 M2 dv p => hb H2 (x.trans x2) M2 _ fun w e H3 x3 M3 dw p' => by
    obtain ⟨f, hf, h⟩ := hr d e p p' v w H3 (dv.up x3) dw
    exact h H3 .refl M3.lv Q fun z H4 x4 dz => q z f H4 ((x2.trans x3).trans (.of x4)) (M3.ex x4) dz hf
theorem em_if {b : Bool} (h : EB [mo] tt σ H b) (h1 : b = true → EM K mo ta σ H n k P) (h2 : b = false → EM K mo tb σ H n k P) : EM K mo (tIf tt ta tb) σ H n k P := fun H1 x M Q q => h H1 x M.lv _ fun H2 x2 => by
  cases b with
  | true => exact h1 rfl H2 (x.trans (.of x2)) (M.ex x2) Q fun w d H3 x3 => q w d H3 ((Xo.of x2).trans x3)
  | false => exact h2 rfl H2 (x.trans (.of x2)) (M.ex x2) Q fun w d H3 x3 => q w d H3 ((Xo.of x2).trans x3)
theorem em_ifM (h : EBM K mo tt σ H n k) (h1 : EM K mo ta σ H k l P) (h2 : EM K mo tb σ H k l P) : EM K mo (tIf tt ta tb) σ H n l P := fun H1 x M Q q => h H1 x M _ fun b H2 x2 M2 => by
  cases b with
  | true => exact h1 H2 (x.trans x2) M2 Q fun w d H3 x3 => q w d H3 (x2.trans x3)
  | false => exact h2 H2 (x.trans x2) M2 Q fun w d H3 x3 => q w d H3 (x2.trans x3)
theorem ebm_test (h : EM K mo te σ H n k fun d => ∃ b, d = .bool b) : EBM K mo (tTest te) σ H n k := fun H1 x M Q q => h H1 x M _ fun v d H2 x2 M2 dv p => by
  obtain ⟨b, rfl⟩ := p
  exact ⟨b, dv.b, q b H2 x2 M2⟩
theorem esm_nil : ESM K mo tNil σ H n n (· = []) := fun H1 x M Q q => q [] [] H1 .refl M .nil rfl
theorem esm_cons (h : EM K mo te σ H n k P) (hs : ESM K mo s σ H k l S) : ESM K mo (tCons te s) σ H n l fun ds => ∃ d es, ds = d :: es ∧ P d ∧ S es := fun H1 x M Q q =>
  h H1 x M _ fun v d H2 x2 M2 dv p => hs H2 (x.trans x2) M2 _ fun vs es H3 x3 M3 dw ps => q _ (d :: es) H3 (x2.trans x3) M3 (.cons (dv.up x3) dw) ⟨d, es, rfl, p, ps⟩
theorem ESM.weak {S' : List PyData → Prop} (h : ESM K mo s σ H n k S) (e : k ≤ l) (w : ∀ d, S d → S' d) : ESM K mo s σ H n l S' := fun H1 x M Q q => h H1 x M Q fun v d H2 x2 M2 dv p => q v d H2 x2 (M2.mono e) dv (w d p)
theorem esm_1 (h : EM K mo te σ H n k P) : ESM K mo (tCons te tNil) σ H n k fun ds => ∃ d, ds = [d] ∧ P d := (esm_cons h esm_nil).weak (Nat.le_refl _) fun _ ⟨d, _, h1, h2, h3⟩ => ⟨d, by rw [h1, h3], h2⟩
theorem esm_2 (h : EM K mo ta σ H n k P) (h' : EM K mo tb σ H k l P') : ESM K mo (tCons ta (tCons tb tNil)) σ H n l fun ds => ∃ d e, ds = [d, e] ∧ P d ∧ P' e := (esm_cons h (esm_1 h')).weak (Nat.le_refl _) fun _ ⟨d, _, h1, h2, e, h3, h4⟩ => ⟨d, e, by rw [h1, h3], h2, h4⟩
theorem esm_3 (h : EM K mo ta σ H n k P) (h' : EM K mo tb σ H k l P') (h'' : EM K mo tc σ H l j R) : ESM K mo (tCons ta (tCons tb (tCons tc tNil))) σ H n j fun ds => ∃ d e f, ds = [d, e, f] ∧ P d ∧ P' e ∧ R f := (esm_cons h (esm_2 h' h'')).weak (Nat.le_refl _) fun _ ⟨d, _, h1, h2, e, f, h3, h4⟩ => ⟨d, e, f, by rw [h1, h3], h2, h4⟩
theorem em_tup {z : Nat} (h : ESM K mo s σ H n k S) (hz : ∀ ds, S ds → ds.length ≤ 100000) : EM K mo (tTup s) σ H n k fun d => ∃ ds, d = .tuple ds ∧ S ds := fun H1 x M Q q =>
  h H1 x M _ fun vs ds H2 x2 M2 dv p => ⟨by rw [dv.length]; exact Evl.sz_of (hz _ p), fun p' hp => by
    have x3 : Ex H2 (upd H2 p' (.tup vs)) := Ex.new hp
    exact q _ (.tuple ds) _ (x2.trans (.of x3)) (M2.ex x3) (.tup (Evl.st_of (off_new M2.lv hp)) (dv.up (Xo.of x3))) ⟨ds, rfl, p⟩⟩
theorem em_lst (h : ESM K mo s σ H n k S) (hz : ∀ ds, S ds → ds.length ≤ 100000) : EM K mo (tLst s) σ H n k fun d => ∃ ds, d = .list ds ∧ S ds := fun H1 x M Q q =>
  h H1 x M _ fun vs ds H2 x2 M2 dv p => ⟨by rw [dv.length]; exact Evl.sz_of (hz _ p), fun p' hp => by
    have x3 : Ex H2 (upd H2 p' (.lst vs)) := Ex.new hp
    exact q _ (.list ds) _ (x2.trans (.of x3)) (M2.ex x3) (.lst (Evl.sq_of (off_new M2.lv hp)) (dv.up (Xo.of x3))) ⟨ds, rfl, p⟩⟩
theorem em_call {C : List PyData → PyData → Prop} {E : XK} (h : ESM K mo s σ H n k S) (hr : ∀ ds, S ds → ∃ d, C ds d ∧ P d) : EM K mo (tCall (spD K C) [] E s) σ H n k P := fun H1 x M Q q =>
  h H1 x M _ fun vs ds H2 x2 M2 dv p => by
    obtain ⟨d, c, pd⟩ := hr ds p
    exact ⟨[mo], ds, d, M2.lv, by rw [List.append_nil]; exact dv, c, fun v H3 x3 dw => q v d H3 (x2.trans (.of x3)) (M2.ex x3) dw pd⟩
/-- the def draws: with the moor ahead of its arguments -/
def spM (K : PySem.W.Frag) (c : Nat) (A : List PyData → Prop) (C : List PyData → PyData → Prop) : Sp := fun vs H Q _ => ∃ (mo : Addr) (us : List V) (ds : List PyData) (n : Nat), vs = .ref mo :: us ∧ n + c < 5000 ∧ Moor K mo H n ∧ DvAll K (off [mo] H) us ds ∧ A ds ∧
  ∀ v d H', Xo [mo] H H' → Moor K mo H' (n + c) → Dv K (off [mo] H') v d → C ds d → Q v H'
theorem em_draw {c i : Nat} {A : List PyData → Prop} {C : List PyData → PyData → Prop} {E : XK} (hv : σ[i]? = some (some (.ref mo))) (h : ESM K mo s σ H n k S) (hk : k + c < 5000) (hr : ∀ ds, S ds → A ds ∧ ∀ d, C ds d → P d) : EM K mo (tCall (spM K c A C) [] E (tCons (tVar i) s)) σ H n (k + c) P := fun H1 x M Q q =>
  ⟨_, hv, h H1 x M _ fun vs ds H2 x2 M2 dv p => ⟨mo, vs, ds, k, by rw [List.append_nil], hk, M2, dv, (hr ds p).1, fun v d H3 x3 M3 dw cd => q v d H3 (x2.trans x3) M3 dw ((hr ds p).2 d cd)⟩⟩
/-! ### statements -/
theorem rm_ret (h : EM K mo te σ H n k P) : RM K mo (tRet te) σ H n k P := fun H1 x M D q => h H1 x M _ q
theorem rm_set {i : Nat} (h : EM K mo te σ H n k P) (hu : ∀ v d H1, P d → Xo [mo] H H1 → Dv K (off [mo] H1) v d → RM K mo u (σ.set i (some v)) H1 k l P') : RM K mo (tSeq (tAsg te (gName i)) u) σ H n l P' := fun H1 x M D q =>
  h H1 x M _ fun v d H2 x2 M2 dv p => hu v d H2 p (x.trans x2) dv H2 .refl M2 D fun w e H3 x3 => q w e H3 (x2.trans x3)
theorem rm_par {i j : Nat} (h : ESM K mo s σ H n k fun ds => ∃ d e, ds = [d, e] ∧ P d ∧ P' e) (hu : ∀ v w d e H1, P d → P' e → Xo [mo] H H1 → Dv K (off [mo] H1) v d → Dv K (off [mo] H1) w e → RM K mo u ((σ.set i (some v)).set j (some w)) H1 k l R) : RM K mo (tSeq (tPar i j s) u) σ H n l R := fun H1 x M D q =>
  h H1 x M _ fun vs ds H2 x2 M2 dv p => by
    obtain ⟨d, e, rfl, p1, p2⟩ := p
    obtain ⟨v, w, rfl, dv, dw⟩ := dv.two
    exact ⟨v, w, rfl, hu v w d e H2 p1 p2 (x.trans x2) dv dw H2 .refl M2 D fun w e H3 x3 => q w e H3 (x2.trans x3)⟩
theorem rm_seq3 {i j m : Nat} {f g d' : PyData} (h : ED K [mo] te σ H e) (hq : IsSeq e [f, g, d'])
    (hu : ∀ v w y H1, Xo [mo] H H1 → Dv K (off [mo] H1) v f → Dv K (off [mo] H1) w g → Dv K (off [mo] H1) y d' → RM K mo u (((σ.set i (some v)).set j (some w)).set m (some y)) H1 n k R) :
    RM K mo (tSeq (tAsg te (gSeq K 3 (gCons (gName i) (gCons (gName j) (gCons (gName m) gNil))))) u) σ H n k R := fun H1 x M D q =>
  h H1 x M.lv _ fun v H2 x2 dv => by
    obtain ⟨a, xs, rfl, hs, hv⟩ := dv.q hq
    obtain ⟨v, w, y, rfl, dv, dw, dy⟩ := hv.three
    exact ⟨a, _, rfl, hs.imp (Evl.ex_l off_le) (Evl.ex_t off_le), rfl, v, [w, y], rfl, w, [y], rfl, y, [], rfl, rfl, hu v w y H2 (x.trans (.of x2)) dv dw dy H2 .refl (M.ex x2) D fun z d H3 x3 => q z d H3 ((Xo.of x2).trans x3)⟩
theorem rm_ifr {b : Bool} (h : EB [mo] tt σ H b) (h1 : b = true → RM K mo t σ H n k P) (h2 : b = false → RM K mo u σ H n k P) : RM K mo (tSeq (tIfS tt t tNext) u) σ H n k P := fun H1 x M D q => h H1 x M.lv _ fun H2 x2 => by
  cases b with
  | true => exact h1 rfl H2 (x.trans (.of x2)) (M.ex x2) _ fun w d H3 x3 => q w d H3 ((Xo.of x2).trans x3)
  | false => exact h2 rfl H2 (x.trans (.of x2)) (M.ex x2) D fun w d H3 x3 => q w d H3 ((Xo.of x2).trans x3)
theorem RM.weak (h : RM K mo t σ H n k P) (e : k ≤ l) (w : ∀ d, P d → P' d) : RM K mo t σ H n l P' := fun H1 x M D q => h H1 x M D fun v d H2 x2 M2 dv p => q v d H2 x2 (M2.mono e) dv (w d p)
theorem RM.more (h : RM K mo t σ H n k P) (e : k ≤ l) : RM K mo t σ H n l P := h.weak e fun _ p => p
/-! ### inside the drawing itself: the heap that stands -/
def RH (K : PySem.W.Frag) (mo : Addr) (t : TS) (σ : L2.St) (H : Hp) (k : Nat) (P : PyData → Prop) : Prop :=
  ∀ D : Ends, (∀ v d H2, Xo [mo] H H2 → Moor K mo H2 k → Dv K (off [mo] H2) v d → P d → D.rt v H2) → t D σ H
theorem rh_lv {H : Hp} : Lv [] H := fun _ h => nomatch h
theorem rh_ret {i : Int} (M : Moor K mo H k) (h : ED K [] te σ H (.int i)) (p : P (.int i)) : RH K mo (tRet te) σ H k P := fun D q =>
  h H .refl rh_lv _ fun v H2 x2 dv => q v _ H2 (.of x2) (M.ex x2) (by rw [dv.i]; exact .int _) p
theorem rh_set {i : Nat} {z : Int} (h : ED K [] te σ H (.int z)) (hu : ∀ H1, Ex H H1 → RH K mo u (σ.set i (some (.int z))) H1 k P) : RH K mo (tSeq (tAsg te (gName i)) u) σ H k P := fun D q =>
  h H .refl rh_lv _ fun v H2 x2 dv => by
    rw [dv.i]
    exact hu H2 x2 D fun w d H3 x3 => q w d H3 ((Xo.of x2).trans x3)
theorem rh_ifr {b : Bool} (h : EB [] tt σ H b) (h1 : b = true → ∀ H1, Ex H H1 → RH K mo t σ H1 k P) (h2 : b = false → ∀ H1, Ex H H1 → RH K mo u σ H1 k P) : RH K mo (tSeq (tIfS tt t tNext) u) σ H k P := fun D q => h H .refl rh_lv _ fun H2 x2 => by
  cases b with
  | true => exact h1 rfl H2 x2 _ fun w d H3 x3 => q w d H3 ((Xo.of x2).trans x3)
  | false => exact h2 rfl H2 x2 D fun w d H3 x3 => q w d H3 ((Xo.of x2).trans x3)
/-- if test: name = an int; the rest -/
theorem rh_ifs {b : Bool} {i : Nat} {z z' : Int} (h : EB [] tt σ H b) (h1 : b = true → ED K [] te σ H (.int z)) (h0 : σ[i]? = some (some (.int z')))
    (hu : ∀ H1, Ex H H1 → RH K mo u (σ.set i (some (.int (if b then z else z')))) H1 k P) : RH K mo (tSeq (tIfS tt (tAsg te (gName i)) tNext) u) σ H k P := fun D q => h H .refl rh_lv _ fun H2 x2 => by
  cases b with
  | true =>
    refine h1 rfl H2 (.of x2) rh_lv _ fun v H3 x3 dv => ?_
    rw [dv.i]
    exact hu H3 (x2.trans x3) D fun w d H4 x4 => q w d H4 ((Xo.of (x2.trans x3)).trans x4)
  | false =>
    have e : σ.set i (some (V.int z')) = σ := by
      obtain ⟨hi, e⟩ := List.getElem?_eq_some_iff.mp h0
      rw [← e]
      exact List.set_getElem_self hi
    have := hu H2 x2
    rw [if_neg Bool.false_ne_true, e] at this
    exact this D fun w d H4 x4 => q w d H4 ((Xo.of x2).trans x4)
/-- moor[1] = z -/
theorem rh_put1 {a : Nat} {c : Addr} {ns : List Int} {t0 l0 z : Int} (M : MoorAt K mo H c ns t0 l0) (hv : σ[a]? = some (some (.ref mo))) (h : ED K [] te σ H (.int z))
    (hu : ∀ H1, MoorAt K mo H1 c ns z l0 → RH K mo u σ H1 k P) : RH K mo (tSeq (tAsg te (gSub (tVar a) (tC (.int 1)) rSetL)) u) σ H k P := fun D q =>
  h H .refl rh_lv _ fun v H2 x2 dv => by
    rw [dv.i]
    have M2 := M.ex x2
    refine ⟨_, hv, mo, _, 1, 1, rfl, rfl, M2.at_, rfl, hu _ ⟨upd_same, by rw [off_upd (List.mem_singleton.mpr rfl)]; exact M2.sq⟩ D fun w d H4 x4 => q w d H4 (Xo.trans (.of x2) (Xo.trans ?_ x4))⟩
    unfold Xo
    rw [off_upd (List.mem_singleton.mpr rfl)]
    exact Ex.refl _
theorem rh_put2 {a : Nat} {c : Addr} {ns : List Int} {t0 l0 z : Int} (M : MoorAt K mo H c ns t0 l0) (hv : σ[a]? = some (some (.ref mo))) (h : ED K [] te σ H (.int z))
    (hu : ∀ H1, MoorAt K mo H1 c ns t0 z → RH K mo u σ H1 k P) : RH K mo (tSeq (tAsg te (gSub (tVar a) (tC (.int 2)) rSetL)) u) σ H k P := fun D q =>
  h H .refl rh_lv _ fun v H2 x2 dv => by
    rw [dv.i]
    have M2 := M.ex x2
    refine ⟨_, hv, mo, _, 2, 2, rfl, rfl, M2.at_, rfl, hu _ ⟨upd_same, by rw [off_upd (List.mem_singleton.mpr rfl)]; exact M2.sq⟩ D fun w d H4 x4 => q w d H4 (Xo.trans (.of x2) (Xo.trans ?_ x4))⟩
    unfold Xo
    rw [off_upd (List.mem_singleton.mpr rfl)]
    exact Ex.refl _
/-! ### statements that run on -/
theorem nm_set {i : Nat} (h : EM K mo te σ H n k P) (hu : ∀ v d H1, P d → Xo [mo] H H1 → Dv K (off [mo] H1) v d → W (σ.set i (some v)) H1) : NM K mo (tAsg te (gName i)) σ H n k W := fun H1 x M D q =>
  h H1 x M _ fun v d H2 x2 M2 dv p => q _ H2 x2 M2 (hu v d H2 p (x.trans x2) dv)
theorem nm_par {i j : Nat} (h : ESM K mo s σ H n k fun ds => ∃ d e, ds = [d, e] ∧ P d ∧ P' e) (hu : ∀ v w d e H1, P d → P' e → Xo [mo] H H1 → Dv K (off [mo] H1) v d → Dv K (off [mo] H1) w e → W ((σ.set i (some v)).set j (some w)) H1) : NM K mo (tPar i j s) σ H n k W := fun H1 x M D q =>
  h H1 x M _ fun vs ds H2 x2 M2 dv p => by
    obtain ⟨d, e, rfl, p1, p2⟩ := p
    obtain ⟨v, w, rfl, dv, dw⟩ := dv.two
    exact ⟨v, w, rfl, q _ H2 x2 M2 (hu v w d e H2 p1 p2 (x.trans x2) dv dw)⟩
theorem nm_par3 {i j m : Nat} (h : ESM K mo s σ H n k fun ds => ∃ d e f, ds = [d, e, f] ∧ P d ∧ P' e ∧ R f) (hu : ∀ v w y d e f H1, P d → P' e → R f → Xo [mo] H H1 → Dv K (off [mo] H1) v d → Dv K (off [mo] H1) w e → Dv K (off [mo] H1) y f → W (((σ.set i (some v)).set j (some w)).set m (some y)) H1) : NM K mo (tPar3 i j m s) σ H n k W := fun H1 x M D q =>
  h H1 x M _ fun vs ds H2 x2 M2 dv p => by
    obtain ⟨d, e, f, rfl, p1, p2, p3⟩ := p
    obtain ⟨v, w, y, rfl, dv, dw, dy⟩ := dv.three
    exact ⟨v, w, y, rfl, q _ H2 x2 M2 (hu v w y d e f H2 p1 p2 p3 (x.trans x2) dv dw dy)⟩
theorem nm_seq (h : NM K mo t σ H n k fun σ1 H1 => NM K mo u σ1 H1 k l W) : NM K mo (tSeq t u) σ H n l W := fun H1 x M D q =>
  h H1 x M _ fun σ1 H2 x2 M2 hu => hu H2 .refl M2 D fun σ2 H3 x3 => q σ2 H3 (x2.trans x3)
theorem rm_seq (h : NM K mo t σ H n k fun σ1 H1 => RM K mo u σ1 H1 k l P) : RM K mo (tSeq t u) σ H n l P := fun H1 x M D q =>
  h H1 x M _ fun σ1 H2 x2 M2 hu => hu H2 .refl M2 D fun v d H3 x3 => q v d H3 (x2.trans x3)
/-- if a test that fails: .. -/
theorem nm_no (h : EB [mo] tt σ H false) (hu : ∀ H1, Xo [mo] H H1 → W σ H1) : NM K mo (tIfS tt t tNext) σ H n n W := fun H1 x M D q => h H1 x M.lv _ fun H2 x2 => q σ H2 (.of x2) (M.ex x2) (hu H2 (x.trans (.of x2)))
theorem NM.more (h : NM K mo t σ H n k W) (e : k ≤ l) : NM K mo t σ H n l W := fun H1 x M D q => h H1 x M D fun v H2 x2 M2 p => q v H2 x2 (M2.mono e) p
theorem NM.weak (h : NM K mo t σ H n k W) (w : ∀ σ' H', Xo [mo] H H' → W σ' H' → W' σ' H') : NM K mo t σ H n k W' := fun H1 x M D q => h H1 x M D fun v H2 x2 M2 p => q v H2 x2 M2 (w _ _ (x.trans x2) p)
/-- for name in range(z): body. J: what holds ahead of turn i -/
theorem nm_range {i z c : Nat} {tb : TS} (J : Nat → L2.St → Hp → Prop) (h : ED K [mo] te σ H (.int (z : Int))) (hz : z < 2 ^ 60) (h0 : ∀ H1, Xo [mo] H H1 → J 0 σ H1)
    (hs : ∀ k σ1 H1, k < z → Xo [mo] H H1 → J k σ1 H1 → NM K mo tb (σ1.set i (some (.int (k : Int)))) H1 (n + c * k) (n + c * (k + 1)) (J (k + 1))) :
    NM K mo (tFor (iRng1 (tCons te tNil)) (gName i) tb) σ H n (n + c * z) (J z) := fun H1 x M D q =>
  h H1 x M.lv _ fun v H2 x2 dv => by
    refine ⟨(z : Int), by rw [dv.i], by omega, by omega, ?_⟩
    rw [Int.toNat_natCast]
    refine for_range (fun k σ1 H3 => Xo [mo] H1 H3 ∧ Moor K mo H3 (n + c * k) ∧ J k σ1 H3) ⟨.of x2, M.ex x2, h0 H2 (x.trans (.of x2))⟩ (fun k σ1 H3 hk ⟨x3, M3, hj⟩ => ?_) fun σ1 H3 ⟨x3, M3, hj⟩ => q σ1 H3 x3 M3 hj
    have e : ((0 : Int) + (k : Int)) = (k : Int) := by omega
    rw [e]
    exact hs k σ1 H3 hk (x.trans x3) hj H3 .refl M3 _ fun σ2 H4 x4 M4 hj => ⟨x3.trans x4, M4, hj⟩
end
/-- a def that draws -/
theorem okM {P : Program} {w : World} {K : PySem.W.Frag} {mg : Str → Option Value} {base : Heap} {x qual : Str} {st : Stmt} {f : Addr} {fd : FuncData} {N ps : List Str} {k c : Nat} {A : List PyData → Prop} {C : List PyData → PyData → Prop} (F : Fun K x qual st f fd) (S : FnScope N ps (defScope st))
    (len : ∀ ds, A ds → ds.length + 1 = ps.length)
    (body : ∀ (cdv : Value) (A' : Around) (outer : List Env) (s : Shared) (H : Hp) (E : XK), Room k (A'.deeper (envOfC qual (defScope st) s.heap.objs.size f cdv)) →
      ∃ t, PSs (cxOf CX0 P w K mg base N qual (defScope st) f cdv A' outer s H E).nox (defBody st) t ∧ ∀ mo us ds n, n + c < 5000 → Moor K mo H n → DvAll K (off [mo] H) us ds → A ds → RM K mo t (start N (.ref mo :: us)) H n (n + c) (C ds)) :
    FnOk P w K mg base CX0 (k + 1) f fd ps (spM K c A C) := F.ok S (fun vs H Q E ⟨mo, us, ds, n, h, _, _, dv, r, _⟩ => by rw [h, List.length_cons, dv.length, len ds r]) fun cdv A' outer s H vs Q E hr ⟨mo, us, ds, n, h, hn, M, dv, r, q⟩ => by
  obtain ⟨t, h1, h2⟩ := body cdv A' outer s H E hr
  rw [h]
  exact ⟨t, h1, h2 mo us ds n hn M dv r H .refl M _ q⟩
end Pc

set_option Elab.async false
set_option linter.all false
set_option maxRecDepth 100000
set_option maxHeartbeats 4000000
/-! PcD7: the law's moor and what draws from it. -/
namespace Pc
open PySem PySem.Spec PyProof.Rows L2
open Evl (Ex)
section
variable {K : PySem.W.Frag} {mo : Addr} {σ : L2.St} {H : Hp} {te : TE} {t : TS} {P : PyData → Prop} {n k : Nat} {m : List Addr}
theorem rm_rh (h : ∀ H1, Xo [mo] H H1 → Moor K mo H1 n → RH K mo t σ H1 k P) : RM K mo t σ H n k P := fun H1 x M D q => h H1 x M D q
theorem DvAll.take {H : Hp} : ∀ {vs : List V} {ds : List PyData} (j : Nat), DvAll K H vs ds → DvAll K H (vs.take j) (ds.take j)
  | _, _, 0, _ => .nil
  | _, _, j + 1, .nil => .nil
  | _, _, j + 1, .cons h hs => .cons h (DvAll.take j hs)
theorem ed_mo {i j : Nat} {d : PyData} {c : Addr} {ns : List Int} {u l : Int} (M : MoorAt K mo H c ns u l) (hv : σ[j]? = some (some (.ref mo))) (hi : [PyData.list (ns.map .int), .int u, .int l][i]? = some d) : ED K [] (tOp (rIx K) (tVar j) (tC (.int (i : Int)))) σ H d :=
  ed_ix (ed_var hv M.dv) (.lst _) ed_int hi
theorem ed_slice {ds : List PyData} {j : Nat} (h : ED K m te σ H (.list ds)) : ED K m (tSl (rSlL K) te tNoPart (tPart (tC (.int (j : Int))))) σ H (.list (ds.take j)) := fun H1 x l Q q =>
  h H1 x l _ fun v H2 x2 dv => by
    obtain ⟨a, xs, rfl, hs, hv⟩ := dv.l
    refine ⟨(j : Int), rfl, a, xs, rfl, Evl.ex_l off_le hs, fun p hp => ?_⟩
    have x3 : Ex H2 (upd H2 p (.lst (cutV xs none (some (j : Int))))) := Ex.new hp
    refine q _ _ (x2.trans x3) (.lst (Evl.sq_of (off_new (l.ex x2) hp)) ?_)
    have e : cutV xs none (some (j : Int)) = xs.take j := by
      unfold cutV
      rw [HT.sIx_none, HT.sIx_nat, List.drop_zero, Nat.sub_zero]
      rw [List.take_eq_take_iff]
      omega
    rw [e] at x3 ⊢
    exact (hv.take j).up (Xo.of x3)
theorem ints_eq {H : Hp} : ∀ {ns : List Int} {vs : List V}, DvAll K H vs (ns.map .int) → vs = ns.map V.int
  | [], _, h => by cases h; rfl
  | i :: ns, _, h => by
    cases h with
    | cons h hs => rw [h.i, ints_eq hs]; rfl
end
theorem cx {a b : Nat} {i j : Int} (hi : i.natAbs < 2 ^ a) (hj : j.natAbs < 2 ^ b) (ha : 0 < a) (hb : 0 < b) (h : a + b ≤ 10000000) : CMulX i j := by
  have x := PySem.Flt.log2_lt_of ha hi
  have y := PySem.Flt.log2_lt_of hb hj
  unfold CMulX
  omega
theorem bits_lt {z : Int} {b : Nat} (h : Builtin.Int.intBits z ≤ b) : z.natAbs < 2 ^ b := by
  have e : Builtin.Int.intBits z = Builtin.Int.intBits (z.natAbs : Int) := by
    unfold Builtin.Int.intBits
    rw [Int.natAbs_natCast]
    have e : (z == 0) = (((z.natAbs : Nat) : Int) == 0) := by
      rw [Bool.eq_iff_iff]
      simp
    rw [e]
  have := bits_gt z.natAbs
  rw [← e] at this
  exact Nat.lt_of_lt_of_le this (Nat.pow_le_pow_right (by decide) h)
theorem pow_up {a b n : Nat} (h : n < 2 ^ a) (e : a ≤ b) : n < 2 ^ b := Nat.lt_of_lt_of_le h (Nat.pow_le_pow_right (by decide) e)
theorem two_step {i j : Int} {a : Nat} (hi : i.natAbs < 2 ^ a) (hj : j.natAbs < 2 ^ a) : (i + j).natAbs < 2 ^ (a + 1) := abs_add_lt hi hj
section
variable {P : Program} {w : World} {K : PySem.W.Frag} {mg : Str → Option Value} {base : Heap} {a : Ad}
def spMoor (K : PySem.W.Frag) : Sp := fun vs H Q _ => ∃ (p : Addr) (ns : List Int), vs = [.ref p] ∧ SqL K H p (ns.map .int) ∧ Sc ns ∧ ∀ mo H', Ex H H' → H mo = none → Moor K mo H' 0 → Q (.ref mo) H'
theorem moor_of {K : PySem.W.Frag} {s : TA} {σ : L2.St} {H : Hp} {ns : List Int} {Q : VK} (es : ES K [] s σ H [.list ((ns.map PyData.int).take 60), .int 0, .int 0]) (hn : Sc ns) (q : ∀ mo H', Ex H H' → H mo = none → Moor K mo H' 0 → Q (.ref mo) H') : tLst s σ H Q := by
    have lv : Lv [] H := rh_lv
    have sc : Sc (ns.take 60) := ⟨by rw [List.length_take]; have := hn.1; omega, fun z hz => hn.2 z (List.mem_of_mem_take hz)⟩
    refine es H .refl lv _ fun vs H2 x2 dv => ⟨by rw [dv.length]; exact Evl.sz_of (by simp), fun mo hmo => ?_⟩
    obtain ⟨v, v1, v2, rfl, d0, d1, d2⟩ := dv.three
    obtain rfl := d1.i
    obtain rfl := d2.i
    obtain ⟨c, xs, rfl, hc, hx⟩ := d0.l
    rw [← List.map_take] at hx
    obtain rfl := ints_eq hx
    refine q _ _ (x2.trans (Ex.new hmo)) (Evl.fresh_back x2 hmo) ⟨c, ns.take 60, 0, 0, ⟨upd_same, ?_⟩, sc, by omega, by omega⟩
    rw [off_upd (List.mem_singleton.mpr rfl), off_free hmo]
    exact hc
theorem ok_law_moor (T : Txt K mg a) : FnOk P w K mg base CX0 1 a.law_moor a.d_law_moor p_law_moor (spMoor K) :=
  T.f_law_moor.fn.ok sc_law_moor (by rintro _ _ _ _ ⟨p, ns, rfl, _⟩; rfl) fun cdv A outer s H vs Q E hr h => by
    obtain ⟨p, ns, rfl, hs, hn, q⟩ := h
    refine ⟨_, (pss_one (ps_ret (pe_lst (pa_cons (pe_lc (own := [("_law_cell", 1)]) (g := (gName 1)) (tt := tYes) rfl sc_law_moor.nd (pi_seq (pe_slice sl_list (pv 0) po_none (po_some pe_int))) (blkOk_by (own := [("_law_cell", 1)]) (N := n_law_moor) (sc := defScope s_law_moor) (by decide +kernel)) (fun _ _ _ _ _ => (pg_name (i := 1) sc_law_moor.nd rfl (Or.inl rfl))) (fun _ _ _ _ _ => pts_nil) (fun _ _ _ _ _ => (pe_callTy cr_int rfl T.b_int (by decide +kernel) (pa_cons (pv 1) pa_nil)))) (pa_cons pe_int (pa_cons pe_int pa_nil)))))), ?_⟩
    have lv : Lv [] H := rh_lv
    have e0 : ∀ H : Hp, off [] H = H := fun H => funext fun a => off_at (fun z => nomatch z)
    have dv : Dv K (off [] H) (.ref p) (.list (ns.map .int)) := by
      rw [e0]
      exact .lst hs (all_ints ns)
    have sc : Sc (ns.take 60) := ⟨by rw [List.length_take]; omega, fun z hz => hn.2 z (List.mem_of_mem_take hz)⟩
    exact moor_of (es_3
      (ed_lc (es := (ns.map PyData.int).take 60) (ed_slice (j := 60) (ed_var rfl dv)) (.lst _) rfl (by rw [List.length_take, List.length_map]; have := hn.1; omega) (fun v => rfl) fun D j b c v H1 hD hb hc x dv => by
        rw [hb] at hc
        cases hc
        have hb' := List.mem_of_getElem? hb
        obtain ⟨i, _, rfl⟩ := List.mem_map.mp (List.mem_of_mem_take hb')
        exact ed_intI (ed_var rfl dv)) ed_int ed_int) hn q
def Aheath (ds : List PyData) : Prop := ∃ z : Int, ds = [.int z] ∧ 1 ≤ z ∧ z.natAbs < 2 ^ 100
def Rheath (ds : List PyData) (d : PyData) : Prop := ∃ z r : Int, ds = [.int z] ∧ d = .int r ∧ 0 ≤ r ∧ r < z
theorem ok_law_heath (T : Txt K mg a) : FnOk P w K mg base CX0 1 a.law_heath a.d_law_heath p_law_heath (spM K 1 Aheath Rheath) :=
  okM T.f_law_heath.fn sc_law_heath (by rintro _ ⟨z, rfl, _⟩; rfl) fun cdv A outer s H E hr => ⟨_, (pss_cons (ps_if (pt_cmpR op_gt (pe_ix (r := rIx K) ix_seq (pv 0) pe_int (fun _ _ => rfl)) pe_int (nomark _)) (pss_cons (ps_set (i := 5) sc_law_heath.nd rfl (Or.inl rfl) (pe_callTy cr_int rfl T.b_int (by decide +kernel) (pa_cons (pe_ix (r := rIx K) ix_seq (pv 0) pe_int (fun _ _ => rfl)) pa_nil)))
      (pss_cons (ps_asg (pe_op op_fdivW (pv 5) (pv 1)) (pg_sub (pv 0) pe_int set_list))
      (pss_one (ps_ret (pe_op op_mod (pe_callTy cr_int rfl T.b_int (by decide +kernel) (pa_cons (pv 5) pa_nil)) (pv 1)))))) pss_nil)
      (pss_cons (ps_set (i := 2) sc_law_heath.nd rfl (Or.inl rfl) (pe_ix (r := rIx K) ix_seq (pv 0) pe_int (fun _ _ => rfl)))
      (pss_cons (ps_asg (pe_op op_add (pv 2) pe_int) (pg_sub (pv 0) pe_int set_list))
      (pss_cons (ps_set (i := 3) sc_law_heath.nd rfl (Or.inl rfl) (pe_op op_add (pe_op op_mulX pe_int (pv 2)) pe_int))
      (pss_cons (ps_if (pt_cmpR (r := rNeD K) (op_neD hr.units) (pe_ix (r := rIx K) ix_seq (pv 0) pe_int (fun _ _ => rfl)) (pe_lst pa_nil) (nomark _)) (pss_one (ps_set (i := 3) sc_law_heath.nd rfl (Or.inl rfl) (pe_ix (r := rIx K) ix_seq (pe_ix (r := rIx K) ix_seq (pv 0) pe_int (fun _ _ => rfl)) (pe_op op_mod (pe_callTy cr_int rfl T.b_int (by decide +kernel) (pa_cons (pv 2) pa_nil)) (pe_callB (r := rLenQ K) cr_len rfl T.b_len (by decide +kernel) (pa_cons (pe_ix (r := rIx K) ix_seq (pv 0) pe_int (fun _ _ => rfl)) pa_nil))) (fun _ _ => rfl)))) pss_nil)
      (pss_cons (ps_if (PW.pt (pw_and (pt_cmpR op_lt (pv 2) (pe_callB (r := rLenQ K) cr_len rfl T.b_len (by decide +kernel) (pa_cons (pe_ix (r := rIx K) ix_seq (pv 0) pe_int (fun _ _ => rfl)) pa_nil)) (nomark _)) (pw_and1 (pt_cmpR op_ge (pe_callB cr_abs rfl T.b_abs (by decide +kernel) (pa_cons (pv 3) pa_nil)) (pe_op op_powW pe_int pe_int) (nomark _))))) (pss_cons (ps_set (i := 5) sc_law_heath.nd rfl (Or.inl rfl) (pe_op op_add (pe_op op_mulX pe_int (pe_op op_sub (pe_callB cr_abs rfl T.b_abs (by decide +kernel) (pa_cons (pe_callTy cr_int rfl T.b_int (by decide +kernel) (pa_cons (pv 3) pa_nil)) pa_nil)) (pe_op op_powW pe_int pe_int))) (pe_callTy cr_int rfl T.b_int (by decide +kernel) (pa_cons (pe_cmpR op_lt (pv 3) pe_int (nomark _)) pa_nil))))
      (pss_cons (ps_asg (pe_op op_fdivW (pv 5) (pv 1)) (pg_sub (pv 0) pe_int set_list))
      (pss_one (ps_ret (pe_op op_mod (pe_callTy cr_int rfl T.b_int (by decide +kernel) (pa_cons (pv 5) pa_nil)) (pv 1)))))) pss_nil)
      (pss_cons (ps_set (i := 4) sc_law_heath.nd rfl (Or.inl rfl) (pe_op op_mod (pe_callTy cr_int rfl T.b_int (by decide +kernel) (pa_cons (pe_op op_powW (pe_op op_add (pe_op op_add (pe_op op_mod (pe_callTy cr_int rfl T.b_int (by decide +kernel) (pa_cons (pv 3) pa_nil)) pe_int) (pe_op op_mulX pe_int (pv 2))) pe_int) pe_int) pa_nil)) pe_int))
      (pss_cons (ps_set (i := 4) sc_law_heath.nd rfl (Or.inl rfl) (pe_op op_mod (pe_callTy cr_int rfl T.b_int (by decide +kernel) (pa_cons (pe_op op_powW (pe_op op_add (pe_op op_add (pe_op op_mulX (pv 4) (pe_op op_add (pe_op op_mulX pe_int (pv 2)) pe_int)) (pe_op op_mulX (pe_op op_mulX pe_int (pv 2)) (pv 2))) pe_int) pe_int) pa_nil)) pe_int))
      (pss_one (ps_ret (pe_op op_mod (pe_callTy cr_int rfl T.b_int (by decide +kernel) (pa_cons (pe_op op_fdivW (pv 4) pe_int) pa_nil)) (pv 1)))))))))))), fun mo us ds n hn M dv r => by
    obtain ⟨z, rfl, z1, z2⟩ := r
    obtain ⟨v, rfl, dz⟩ := dv.one
    obtain rfl := dz.i
    refine rm_rh fun H1 x M => ?_
    obtain ⟨c, ns, u, l, M, sc, u0, u1⟩ := M
    have fin : ∀ i : Int, Rheath [.int z] (.int (i % z)) := fun i => ⟨z, _, rfl, rfl, Int.emod_nonneg _ (by omega), Int.emod_lt_of_pos _ (by omega)⟩
    have zd : ∀ i : Int, CDivW i z := fun i => wide_div (by omega) z2 (by decide) (by decide)
    have up : u.natAbs < 2 ^ 13 := by omega
    refine rh_ifr (eb_test (ed_gt (ed_mo M rfl (i := 2) rfl) ed_int)) (fun _ H2 e2 => ?_) fun _ H2 e2 => ?_
    · have M := M.ex e2
      refine rh_set (ed_intI (ed_mo M rfl (i := 2) rfl)) fun H3 e3 => ?_
      have M := M.ex e3
      refine rh_put2 M rfl (ed_div (ed_var rfl (.int _)) (ed_var rfl (.int _)) (zd _)) fun H4 M => ?_
      exact rh_ret ⟨c, ns, u, _, M, sc, u0, by omega⟩ (ed_mod (ed_intI (ed_var rfl (.int _))) (ed_var rfl (.int _)) (by omega)) (fin _)
    have M := M.ex e2
    refine rh_set (ed_mo M rfl (i := 1) rfl) fun H3 e3 => ?_
    have M := M.ex e3
    refine rh_put1 M rfl (ed_add (ed_var rfl (.int _)) ed_int) fun H4 M => ?_
    refine rh_set (ed_add (ed_mulX ed_int (ed_var rfl (.int _)) (cx (a := 17) (b := 13) (by decide) up (by decide) (by decide) (by decide))) ed_int) fun H5 e5 => ?_
    have M := M.ex e5
    have shn : SeqAt.shaped (.list (ns.map .int)) = true := by
      have h := lay_all (n := 0) (xs := ns.map PyData.int) fun x hx => by
        obtain ⟨i, _, rfl⟩ := List.mem_map.mp hx
        simp [PyData.canLay0, PyData.depth]
      have h2 : PyData.depthAll (ns.map PyData.int) = 0 := by omega
      simp [SeqAt.shaped, PyData.canLay0, PyData.depth, h.1, h2]
    obtain ⟨z', hz'⟩ : ∃ z' : Int, z' = 115357 * u + 9365 := ⟨_, rfl⟩
    rw [← hz']
    refine rh_ifs (b := !PyData.eqv (.list (ns.map .int)) (.list [])) (z := ns.getD (u.toNat % ns.length) 0) (z' := z') (eb_test (ed_ne (ed_mo M rfl (i := 0) rfl) (ed_lst es_nil) shn sh_nil)) (fun hb => ?_) rfl fun H6 e6 => ?_
    · rw [eqv_nil, Bool.not_eq_true', List.isEmpty_eq_false_iff] at hb
      have hp : 0 < ns.length := by
        rcases Nat.eq_zero_or_pos ns.length with q | q
        · rw [List.eq_nil_of_length_eq_zero q] at hb
          exact absurd rfl hb
        · exact q
      have hlt : u.toNat % ns.length < ns.length := Nat.mod_lt _ hp
      refine ed_ix (ed_mo M rfl (i := 0) rfl) (.lst _) (i := u.toNat % ns.length) ((ed_mod (ed_intI (ed_var rfl (.int _))) (ed_len (ed_mo M rfl (i := 0) rfl) (.lst _)) (by rw [List.length_map]; omega)).is (by
        rw [List.length_map, Int.natCast_emod, Int.toNat_of_nonneg u0])) (by
        rw [List.getElem?_map, List.getElem?_eq_getElem hlt, List.getD_eq_getElem?_getD, List.getElem?_eq_getElem hlt]
        rfl)
    have M := M.ex e6
    generalize hcell : (if (!PyData.eqv (.list (ns.map .int)) (.list [])) = true then ns.getD (u.toNat % ns.length) 0 else z') = cell
    have hc : ∃ B, B ≤ 1100000 ∧ 100 ≤ B ∧ cell.natAbs < 2 ^ B := by
      rw [← hcell]
      split
      · refine ⟨1048576, by decide, by decide, ?_⟩
        rw [List.getD_eq_getElem?_getD]
        cases q : ns[u.toNat % ns.length]? with
        | none => exact Nat.two_pow_pos _
        | some y => exact bits_lt (sc.2 y (List.mem_of_getElem? q))
      · refine ⟨100, by decide, by decide, ?_⟩
        have : z'.natAbs < 2 ^ 40 := by omega
        exact pow_up this (by decide)
    obtain ⟨B, hB, hB2, hc⟩ := hc
    refine rh_ifr (eb_and (eb_test (ed_lt (ed_var rfl (.int _)) (ed_len (ed_mo M rfl (i := 0) rfl) (.lst _)))) fun _ => eb_test (K := K) (ed_ge (ed_abs (ed_var rfl (.int _))) (ed_powW ed_int ed_int ⟨by decide +kernel, by decide, by decide⟩))) (fun _ H7 e7 => ?_) fun _ H7 e7 => ?_
    · have M := M.ex e7
      refine rh_set (ed_add (ed_mulX ed_int (ed_sub (ed_abs (ed_intI (ed_var rfl (.int _)))) (ed_powW ed_int ed_int ⟨by decide +kernel, by decide, by decide⟩)) ?_) (ed_intB (ed_lt (ed_var rfl (.int _)) ed_int))) fun H8 e8 => ?_
      · have q : ((cell.natAbs : Int) - 10 ^ (18 : Int).toNat).natAbs < 2 ^ (B + 1) := by
          have e : (10 : Int) ^ (18 : Int).toNat = 1000000000000000000 := by decide
          have q1 : (1000000000000000000 : Nat) < 2 ^ B := pow_up (a := 100) (by decide) hB2
          rw [e, Nat.pow_succ]
          omega
        exact cx (a := 2) (b := B + 1) (by decide) q (by decide) (by omega) (by omega)
      have M := M.ex e8
      refine rh_put2 M rfl (ed_div (ed_var rfl (.int _)) (ed_var rfl (.int _)) (zd _)) fun H9 M => ?_
      exact rh_ret ⟨c, ns, u + 1, _, M, sc, by omega, by omega⟩ (ed_mod (ed_intI (ed_var rfl (.int _))) (ed_var rfl (.int _)) (by omega)) (fin _)
    have M := M.ex e7
    have c1 : CMulX 115357 u := cx (a := 17) (b := 13) (by decide) up (by decide) (by decide) (by decide)
    refine rh_set (ed_mod (ed_intI (ed_powW (ed_add (ed_add (ed_mod (ed_intI (ed_var rfl (.int _))) ed_int (by decide)) (ed_mulX ed_int (ed_var rfl (.int _)) c1)) ed_int) ed_int ⟨?_, by decide, by decide⟩)) ed_int (by decide)) fun H8 e8 => ?_
    · have : (cell % 2147483579 + 115357 * u + 9365).natAbs < 2 ^ 40 := by omega
      exact pow_up this (by decide)
    have M := M.ex e8
    generalize hmx : (cell % 2147483579 + 115357 * u + 9365) ^ (5 : Int).toNat % 2147483647 = mx
    have hm0 : 0 ≤ mx := by rw [← hmx]; exact Int.emod_nonneg _ (by decide)
    have hm1 : mx < 2147483647 := by rw [← hmx]; exact Int.emod_lt_of_pos _ (by decide)
    have mxb : mx.natAbs < 2 ^ 31 := by omega
    have q1 : (2 * u + 6153).natAbs < 2 ^ 15 := by omega
    have q2 : (117643 * u).natAbs < 2 ^ 31 := by omega
    refine rh_set (ed_mod (ed_intI (ed_powW (ed_add (ed_add (ed_mulX (ed_var rfl (.int _)) (ed_add (ed_mulX ed_int (ed_var rfl (.int _)) (cx (a := 2) (b := 13) (by decide) up (by decide) (by decide) (by decide))) ed_int) (cx mxb q1 (by decide) (by decide) (by decide)))
      (ed_mulX (ed_mulX ed_int (ed_var rfl (.int _)) (cx (a := 17) (b := 13) (by decide) up (by decide) (by decide) (by decide))) (ed_var rfl (.int _)) (cx q2 up (by decide) (by decide) (by decide)))) ed_int) ed_int ⟨?_, by decide, by decide⟩)) ed_int (by decide)) fun H9 e9 => ?_
    · have r1 : (mx * (2 * u + 6153)).natAbs < 2 ^ 46 := abs_mul_lt mxb q1
      have r2 : (117643 * u * u).natAbs < 2 ^ 44 := abs_mul_lt q2 up
      have : (mx * (2 * u + 6153) + 117643 * u * u + 9365).natAbs < 2 ^ 50 := by omega
      exact pow_up this (by decide)
    have M := M.ex e9
    exact rh_ret ⟨c, ns, u + 1, _, M, sc, by omega, by omega⟩ (ed_mod (ed_intI (ed_div (ed_var rfl (.int _)) ed_int ⟨by decide, by decide +kernel⟩)) (ed_var rfl (.int _)) (by omega)) (fin _)⟩
end
end Pc

set_option Elab.async false
set_option linter.all false
set_option maxRecDepth 100000
set_option maxHeartbeats 4000000
/-! PcD8: what the law draws: an item, small numbers, roots, bent places. -/
namespace Pc
open PySem PySem.Spec PyProof.Rows L2
open Evl (Ex)
theorem ed_p10 {K : PySem.W.Frag} {m : List Addr} {σ : L2.St} {H : Hp} {j z : Int} (h0 : 0 ≤ j) (h1 : j ≤ 100) (hz : (10 : Int) ^ j.toNat = z) : ED K m (tOp (rI CPowW fun i j => .int (i ^ j.toNat)) (tC (.int 10)) (tC (.int j))) σ H (.int z) :=
  (ed_powW ed_int ed_int ⟨pow_up (a := 10) (by decide) (by decide), h0, h1⟩).is (by rw [hz])
/-- an int of a range -/
def Pi (lo hi : Int) (d : PyData) : Prop := ∃ r : Int, d = .int r ∧ lo ≤ r ∧ r ≤ hi
/-- a number -/
def Nu (k : Nat) (pos : Bool) (d : PyData) : Prop := ∃ q : Rat, d = numD q ∧ Bd k q ∧ (pos = true → 0 ≤ q.num)
theorem Nu.mono {j k : Nat} {b : Bool} {d : PyData} (h : Nu j b d) (e : j ≤ k) : Nu k b d := let ⟨q, h1, h2, h3⟩ := h; ⟨q, h1, h2.mono e, h3⟩
theorem pi_nu {lo hi : Int} {d : PyData} {k : Nat} {b : Bool} (h : Pi lo hi d) (hk : ∀ i, lo ≤ i → i ≤ hi → i.natAbs < 2 ^ k) (h1 : 0 < k) (h0 : b = true → 0 ≤ lo) : Nu k b d := by
  obtain ⟨r, rfl, a1, a2⟩ := h
  refine ⟨(r : Rat), (numD_int r).symm, ⟨hk r a1 a2, ?_⟩, fun z => ?_⟩
  · show (1 : Nat) < 2 ^ k
    exact Nat.one_lt_two_pow (by omega)
  · have := h0 z
    show 0 ≤ r
    omega
theorem fr_nn {i : Int} {u : Nat} (hu : u ≠ 0) (h : 0 ≤ i) : 0 ≤ (fr i u).num := by
  rw [fr_num hu]
  exact Int.ediv_nonneg h (by omega)
theorem mul_nn {p q : Rat} (h : 0 ≤ p.num) (h' : 0 ≤ q.num) : 0 ≤ (p * q).num := Rat.num_nonneg.mpr (Rat.mul_nonneg (Rat.num_nonneg.mp h) (Rat.num_nonneg.mp h'))
/-- Wf of data told in full -/
def wfB : Nat → PyData → Bool
  | _, .none => true
  | _, .bool _ => true
  | _, .int i => decide (i.natAbs < 1000)
  | _, .str x => PyData.strOk x
  | n + 1, .list xs => xs.attach.all fun ⟨x, _⟩ => wfB n x
  | n + 1, .tuple xs => xs.attach.all fun ⟨x, _⟩ => wfB n x
  | _, _ => false
theorem lt900 {n : Nat} (h : n < 2 ^ 880) : n < 2 ^ 900 := pow_up h (by decide)
theorem wfB_wf : ∀ {n : Nat} {d : PyData}, wfB n d = true → Wf n d
  | n, .none, _ => by cases n <;> trivial
  | n, .bool _, _ => by cases n <;> trivial
  | n, .int i, h => by
    have h' : i.natAbs < 1000 := by cases n <;> exact of_decide_eq_true h
    have : i.natAbs < 2 ^ 900 := pow_up (a := 10) (Nat.lt_trans h' (by decide)) (by decide)
    cases n <;> exact this
  | n, .str x, h => by cases n <;> exact h
  | 0, .list _, h => nomatch h
  | 0, .tuple _, h => nomatch h
  | 0, .dict _, h => nomatch h
  | n + 1, .dict _, h => nomatch h
  | n + 1, .list xs, h => fun x hx => wfB_wf (by
    rw [wfB, List.all_eq_true] at h
    exact h ⟨x, hx⟩ (List.mem_attach _ _))
  | n + 1, .tuple xs, h => fun x hx => wfB_wf (by
    rw [wfB, List.all_eq_true] at h
    exact h ⟨x, hx⟩ (List.mem_attach _ _))
theorem wf_num {n k : Nat} {q : Rat} (h : Bd k q) (hk : k ≤ 900) : Wf (n + 1) (numD q) := by
  have h1 := pow_up h.1 hk
  have h2 := pow_up h.2 hk
  unfold numD
  split
  · exact h1
  · intro x hx
    rcases List.mem_cons.mp hx with rfl | hx
    · cases n <;> exact h1
    · rcases List.mem_singleton.mp hx with rfl
      have : (q.den : Int).natAbs < 2 ^ 900 := by rw [Int.natAbs_natCast]; exact h2
      cases n <;> exact this
theorem wf_int {n : Nat} {i : Int} (h : i.natAbs < 2 ^ 900) : Wf n (.int i) := by cases n <;> exact h
theorem wf_t2 {n : Nat} {d e : PyData} (h1 : Wf n d) (h2 : Wf n e) : Wf (n + 1) (.tuple [d, e]) := fun x hx => by
  rcases List.mem_cons.mp hx with rfl | hx
  · exact h1
  · rcases List.mem_singleton.mp hx with rfl
    exact h2
theorem wf_t3 {n : Nat} {d e f : PyData} (h1 : Wf n d) (h2 : Wf n e) (h3 : Wf n f) : Wf (n + 1) (.tuple [d, e, f]) := fun x hx => by
  rcases List.mem_cons.mp hx with rfl | hx
  · exact h1
  · exact wf_t2 h2 h3 x hx
theorem wf_t4 {n : Nat} {d e f g : PyData} (h1 : Wf n d) (h2 : Wf n e) (h3 : Wf n f) (h4 : Wf n g) : Wf (n + 1) (.tuple [d, e, f, g]) := fun x hx => by
  rcases List.mem_cons.mp hx with rfl | hx
  · exact h1
  · exact wf_t3 h2 h3 h4 x hx
theorem wf_l2 {n : Nat} {d e : PyData} (h1 : Wf n d) (h2 : Wf n e) : Wf (n + 1) (.list [d, e]) := wf_t2 h1 h2
theorem wf_l3 {n : Nat} {d e f : PyData} (h1 : Wf n d) (h2 : Wf n e) (h3 : Wf n f) : Wf (n + 1) (.list [d, e, f]) := wf_t3 h1 h2 h3
theorem ask_of {n : Nat} {d : PyData} (h : Wf n d) (hn : n ≤ 60 := by decide) : Ask d := .inl ⟨n, hn, h⟩
section
variable {K : PySem.W.Frag} {mo : Addr} {σ : L2.St} {H : Hp} {te ta tb : TE} {P : PyData → Prop} {n k l i : Nat}
theorem em_heath {E : XK} {z : Int} (hv : σ[i]? = some (some (.ref mo))) (h : ED K [mo] te σ H (.int z)) (z1 : 1 ≤ z) (z2 : z.natAbs < 2 ^ 100) (hn : n + 1 < 5000) : EM K mo (tCall (spM K 1 Aheath Rheath) [] E (tCons (tVar i) (tCons te tNil))) σ H n (n + 1) (Pi 0 (z - 1)) :=
  em_draw hv (esm_1 (P := fun d => d = .int z) (em_of h rfl)) (by omega) fun ds ⟨d, h1, h2⟩ => by
    subst h2 h1
    exact ⟨⟨z, rfl, z1, z2⟩, fun d ⟨z', r, e1, e2, e3, e4⟩ => by
      cases e1
      exact ⟨r, e2, e3, by omega⟩⟩
theorem em_intP {z : Int} : EM K mo (tC (.int z)) σ H n n (Pi z z) := em_of ed_int ⟨z, rfl, Int.le_refl _, Int.le_refl _⟩
theorem em_intA {z : Int} (h : ED K [mo] te σ H (.int z)) : EM K mo te σ H n n (Pi z z) := em_of h ⟨z, rfl, Int.le_refl _, Int.le_refl _⟩
theorem em_addP {a b c d : Int} (h : EM K mo ta σ H n k (Pi a b)) (h' : EM K mo tb σ H k l (Pi c d)) : EM K mo (tOp (rI0 fun i j => .int (i + j)) ta tb) σ H n l (Pi (a + c) (b + d)) := em_op h h' fun x y ⟨i, e1, a1, a2⟩ ⟨j, e2, b1, b2⟩ v w H1 dv dw => by
  subst e1 e2
  exact ⟨.int (i + j), ⟨i + j, rfl, by omega, by omega⟩, ed_add (ed_c dv) (ed_c dw)⟩
theorem em_subP {a b c d : Int} (h : EM K mo ta σ H n k (Pi a b)) (h' : EM K mo tb σ H k l (Pi c d)) : EM K mo (tOp (rI0 fun i j => .int (i - j)) ta tb) σ H n l (Pi (a - d) (b - c)) := em_op h h' fun x y ⟨i, e1, a1, a2⟩ ⟨j, e2, b1, b2⟩ v w H1 dv dw => by
  subst e1 e2
  exact ⟨.int (i - j), ⟨i - j, rfl, by omega, by omega⟩, ed_sub (ed_c dv) (ed_c dw)⟩
theorem em_low {E : XK} {a b a' c : Int} {j : Nat} (h : EM K mo ta σ H n k (Pi a b)) (h' : EM K mo tb σ H k l (Pi a' c)) (ha' : 1 ≤ a') (hi : ∀ i, a ≤ i → i ≤ b → i.natAbs < 2 ^ j) (hc : ∀ i : Int, 1 ≤ i → i ≤ c → i.natAbs < 2 ^ j) (hj : j ≤ 8000) (pos : Bool) (hp : pos = true → 0 ≤ a) :
    EM K mo (tCall (spD K Rlowest) [] E (tCons ta (tCons tb tNil))) σ H n l (Nu j pos) := em_call (esm_2 h h') fun ds ⟨x, y, e, ⟨i, e1, a1, a2⟩, ⟨u, e2, b1, b2⟩⟩ => by
  subst e1 e2 e
  obtain ⟨u, rfl⟩ : ∃ n : Nat, u = (n : Int) := ⟨u.toNat, by omega⟩
  have hu : u < 2 ^ j := by have := hc _ (Int.le_trans ha' b1) b2; rwa [Int.natAbs_natCast] at this
  have hi := hi i a1 a2
  exact ⟨_, ⟨i, u, by omega, lt8000 hi hj, lt8000 hu hj, rfl, rfl⟩, fr i u, rfl, fr_bd (by omega) hi hu, fun z => fr_nn (by omega) (by have := hp z; omega)⟩
theorem em_timesP {E : XK} {j j' : Nat} {b : Bool} (h : EM K mo ta σ H n k (Nu j b)) (h' : EM K mo tb σ H k l (Nu j' b)) (hj : j ≤ 3900) (hj' : j' ≤ 3900) :
    EM K mo (tCall (spD K Rproduct) [] E (tCons ta (tCons tb tNil))) σ H n l (Nu (j + j') b) := em_call (esm_2 h h') fun ds ⟨x, y, e, ⟨p, e1, a1, a2⟩, ⟨q, e2, b1, b2⟩⟩ => by
  subst e1 e2 e
  exact ⟨_, ⟨p, q, a1.mono hj, b1.mono hj', rfl, rfl⟩, p * q, rfl, a1.mul b1, fun z => mul_nn (a2 z) (b2 z)⟩
def Apick (ds : List PyData) : Prop := ∃ xs : List PyData, ds = [.list xs] ∧ xs ≠ [] ∧ xs.length ≤ 1000
def Rpick (ds : List PyData) (d : PyData) : Prop := ∃ xs : List PyData, ds = [.list xs] ∧ d ∈ xs
theorem em_pick {E : XK} {xs : List PyData} (hv : σ[i]? = some (some (.ref mo))) (h : ED K [mo] te σ H (.list xs)) (hx : xs ≠ []) (hl : xs.length ≤ 1000) (hn : n + 1 < 5000) (hp : ∀ d ∈ xs, P d) : EM K mo (tCall (spM K 1 Apick Rpick) [] E (tCons (tVar i) (tCons te tNil))) σ H n (n + 1) P :=
  em_draw hv (esm_1 (P := fun d => d = .list xs) (em_of h rfl)) (by omega) fun ds ⟨d, h1, h2⟩ => by
    subst h2 h1
    exact ⟨⟨xs, rfl, hx, hl⟩, fun d ⟨z', e1, e2⟩ => by
      cases e1
      exact hp d e2⟩
/-- a pick of a list that is drawn too -/
theorem em_pickM {E : XK} {S : List PyData → Prop} (hv : σ[i]? = some (some (.ref mo))) (h : EM K mo te σ H n k fun d => ∃ xs, d = .list xs ∧ S xs) (hn : k + 1 < 5000) (hs : ∀ xs, S xs → xs ≠ [] ∧ xs.length ≤ 1000 ∧ ∀ d ∈ xs, P d) : EM K mo (tCall (spM K 1 Apick Rpick) [] E (tCons (tVar i) (tCons te tNil))) σ H n (k + 1) P :=
  em_draw hv (esm_1 h) (by omega) fun ds ⟨d, h1, xs, h2, h3⟩ => by
    subst h2 h1
    exact ⟨⟨xs, rfl, (hs xs h3).1, (hs xs h3).2.1⟩, fun d ⟨z', e1, e2⟩ => by
      cases e1
      exact (hs xs h3).2.2 d e2⟩
end
section
variable {P : Program} {w : World} {K : PySem.W.Frag} {mg : Str → Option Value} {base : Heap} {a : Ad}
theorem ok_law_pick (T : Txt K mg a) : FnOk P w K mg base CX0 2 a.law_pick a.d_law_pick p_law_pick (spM K 1 Apick Rpick) :=
  okM T.f_law_pick.fn sc_law_pick (by rintro _ ⟨z, rfl, _⟩; rfl) fun cdv A outer s H E hr => ⟨_, (pss_one (ps_ret (pe_ix (r := rIx K) ix_seq (pv 1) (pe_call (ok_law_heath T) (hr.mono (by decide)) rfl T.f_law_heath.gl T.f_law_heath.fn.kp T.b_law_heath .nil pass0 (pa_cons (pv 0) (pa_cons (pe_callB (r := rLenQ K) cr_len rfl T.b_len (by decide +kernel) (pa_cons (pv 1) pa_nil)) pa_nil))) (fun _ _ => rfl)))), fun mo us ds n hn M dv r => by
    obtain ⟨xs, rfl, x1, x2⟩ := r
    obtain ⟨v, rfl, dx⟩ := dv.one
    have hp : 0 < xs.length := List.length_pos_iff.mpr x1
    refine rm_ret (em_op (P := fun d => d = .list xs) (em_of (ed_var rfl dx) rfl) (em_draw rfl (esm_1 (P := fun d => d = .int (xs.length : Int)) (em_of (ed_len (ed_var rfl dx) (.lst _)) rfl)) hn (P := Pi 0 (xs.length - 1)) fun ds ⟨d, h1, h2⟩ => ?_) fun d e hd ⟨r, he, r1, r2⟩ x y H1 dx dy => ?_)
    · subst h2 h1
      exact ⟨⟨_, rfl, by omega, by rw [Int.natAbs_natCast]; exact pow_up (a := 10) (by omega) (by decide)⟩, fun d ⟨z', r, e1, e2, e3, e4⟩ => by
        cases e1
        exact ⟨r, e2, e3, by omega⟩⟩
    · subst hd he
      obtain ⟨r, rfl⟩ : ∃ n : Nat, r = (n : Int) := ⟨r.toNat, by omega⟩
      have hr : r < xs.length := by omega
      exact ⟨xs[r], ⟨xs, rfl, List.getElem_mem hr⟩, ed_ix (ed_c dx) (.lst _) (ed_c dy) (List.getElem?_eq_getElem hr)⟩⟩
def Rsmall (ds : List PyData) (d : PyData) : Prop := Nu 45 false d
theorem lt45 {i : Int} (h : i.natAbs < 10000000000000) : i.natAbs < 2 ^ 45 := by omega
theorem ok_law_small (T : Txt K mg a) : FnOk P w K mg base CX0 2 a.law_small a.d_law_small p_law_small (spM K 4 (· = []) Rsmall) :=
  okM T.f_law_small.fn sc_law_small (by rintro _ rfl; rfl) fun cdv A outer s H E hr => ⟨_, (pss_cons (ps_set (i := 1) sc_law_small.nd rfl (Or.inl rfl) (pe_call (ok_law_heath T) (hr.mono (by decide)) rfl T.f_law_heath.gl T.f_law_heath.fn.kp T.b_law_heath .nil pass0 (pa_cons (pv 0) (pa_cons pe_int pa_nil))))
      (pss_cons (ps_if (pt_cmpR (r := rEqD K) (op_eqD hr.units) (pv 1) pe_int (nomark _)) (pss_one (ps_ret (pe_ifExp (pt_cmpR (r := rEqD K) (op_eqD hr.units) (pe_call (ok_law_heath T) (hr.mono (by decide)) rfl T.f_law_heath.gl T.f_law_heath.fn.kp T.b_law_heath .nil pass0 (pa_cons (pv 0) (pa_cons pe_int pa_nil))) pe_int (nomark _)) (pe_call (ok_law_lowest T) (hr.mono (by decide)) rfl T.f_law_lowest.gl T.f_law_lowest.fn.kp T.b_law_lowest .nil pass0 (pa_cons (pe_op op_add (pe_op op_powW pe_int pe_int) (pe_call (ok_law_heath T) (hr.mono (by decide)) rfl T.f_law_heath.gl T.f_law_heath.fn.kp T.b_law_heath .nil pass0 (pa_cons (pv 0) (pa_cons (pe_op op_powW pe_int pe_int) pa_nil)))) (pa_cons (pe_op op_add pe_int (pe_call (ok_law_heath T) (hr.mono (by decide)) rfl T.f_law_heath.gl T.f_law_heath.fn.kp T.b_law_heath .nil pass0 (pa_cons (pv 0) (pa_cons (pe_op op_powW pe_int pe_int) pa_nil)))) pa_nil))) pe_int))) pss_nil)
      (pss_one (ps_ret (pe_call (ok_law_lowest T) (hr.mono (by decide)) rfl T.f_law_lowest.gl T.f_law_lowest.fn.kp T.b_law_lowest .nil pass0 (pa_cons (pe_op op_sub (pe_call (ok_law_heath T) (hr.mono (by decide)) rfl T.f_law_heath.gl T.f_law_heath.fn.kp T.b_law_heath .nil pass0 (pa_cons (pv 0) (pa_cons pe_int pa_nil))) pe_int) (pa_cons (pe_ifExp (pt_cmpR op_lt (pv 1) pe_int (nomark _)) pe_int (pe_op op_add pe_int (pe_call (ok_law_heath T) (hr.mono (by decide)) rfl T.f_law_heath.gl T.f_law_heath.fn.kp T.b_law_heath .nil pass0 (pa_cons (pv 0) (pa_cons pe_int pa_nil))))) pa_nil))))))), fun mo us ds n hn M dv r => by
    subst r
    cases dv
    refine (rm_set (em_heath rfl ed_int (by decide) (by decide) (by omega)) fun v d H1 p x dv => ?_)
    obtain ⟨r, rfl, r1, r2⟩ := p
    obtain rfl := dv.i
    refine rm_ifr (eb_test (ed_eq (ed_var rfl (.int _)) ed_int sh_int sh_int)) (fun _ => ?_) fun _ => ?_
    · have g2 : ∀ σ, EM K mo (tC (.int 0)) σ H1 (n + 1 + 1) (n + 1 + 1 + 1 + 1) (Nu 45 false) := fun σ => (em_of ed_int (P := Pi 0 0) ⟨0, rfl, by decide, by decide⟩).weak (by omega) fun d p => pi_nu p (fun i h1 h2 => lt45 (by omega)) (by decide) fun z => nomatch z
      refine rm_ret (em_ifM (ebm_test (em_op (em_heath rfl ed_int (by decide) (by decide) (by omega)) em_intP fun d e ⟨i, e1, _, _⟩ ⟨j, e2, _, _⟩ x y H2 dx dy => ?_)) (em_low (em_addP (em_intA (ed_p10 (j := 12) (z := 1000000000000) (by decide) (by decide) (by decide +kernel))) (em_heath rfl (ed_p10 (j := 6) (z := 1000000) (by decide) (by decide) (by decide +kernel)) (by decide) (by decide) (by omega)))
        (em_addP em_intP (em_heath rfl (ed_p10 (j := 4) (z := 10000) (by decide) (by decide) (by decide +kernel)) (by decide) (by decide) (by omega))) (by decide) (fun i h1 h2 => lt45 (by omega)) (fun i h1 h2 => lt45 (by omega)) (by decide) false (fun z => nomatch z)) (g2 _))
      subst e1 e2
      exact ⟨_, ⟨_, rfl⟩, ed_eq (ed_c dx) (ed_c dy) sh_int sh_int⟩
    · have g2 : ∀ σ, EM K mo (tC (.int 1)) σ H1 (n + 1 + 1) (n + 1 + 1 + 1) (Pi (1 + 0) (1 + (7 - 1))) := fun σ => em_intP.weak (by omega) fun d ⟨r, e, h1, h2⟩ => ⟨r, e, by omega, by omega⟩
      refine RM.more (rm_ret (em_low (em_subP (em_heath rfl ed_int (by decide) (by decide) (by omega)) em_intP) (em_if (eb_test (K := K) (ed_lt (ed_var rfl (.int _)) ed_int)) (fun _ => g2 _) fun _ => em_addP em_intP (em_heath rfl ed_int (by decide) (by decide) (by omega))) (by decide) (fun i h1 h2 => lt45 (by omega)) (fun i h1 h2 => lt45 (by omega)) (by decide) false (fun z => nomatch z))) (by omega)⟩
def RrootDrawn (ds : List PyData) (d : PyData) : Prop := Nu 110 true d
theorem lt40 {i : Int} (h : i.natAbs < 1000000) : i.natAbs < 2 ^ 40 := by omega
theorem lt110 {i : Int} (h : i.natAbs < 1000000) : i.natAbs < 2 ^ 110 := pow_up (a := 40) (lt40 h) (by decide)
theorem lo40 {K : PySem.W.Frag} {mo : Addr} {σ : L2.St} {H : Hp} {ta tb : TE} {n k l : Nat} {E : XK} {a b a' c : Int} (h : EM K mo ta σ H n k (Pi a b)) (h' : EM K mo tb σ H k l (Pi a' c)) (ha' : 1 ≤ a') (ha : 0 ≤ a) (hb : b < 1000000) (hc : c < 1000000) :
    EM K mo (tCall (spD K Rlowest) [] E (tCons ta (tCons tb tNil))) σ H n l (Nu 40 true) := em_low h h' ha' (fun i h1 h2 => lt40 (by omega)) (fun i h1 h2 => lt40 (by omega)) (by decide) true (fun _ => ha)
theorem em_nu {K : PySem.W.Frag} {mo : Addr} {σ : L2.St} {H : Hp} {te : TE} {n k : Nat} {j j' : Nat} {b : Bool} (h : EM K mo te σ H n k (Nu j b)) (e : j ≤ j') : EM K mo te σ H n k (Nu j' b) := h.weak (Nat.le_refl _) fun _ p => p.mono e
theorem ok_law_root_drawn (T : Txt K mg a) : FnOk P w K mg base CX0 3 a.law_root_drawn a.d_law_root_drawn p_law_root_drawn (spM K 4 (· = []) RrootDrawn) :=
  okM T.f_law_root_drawn.fn sc_law_root_drawn (by rintro _ rfl; rfl) fun cdv A outer s H E hr => ⟨_, (pss_cons (ps_par (i := 1) (j := 2) (by rfl) sc_law_root_drawn.nd rfl rfl (by decide) rfl rfl (pa_cons (pe_call (ok_law_heath T) (hr.mono (by decide)) rfl T.f_law_heath.gl T.f_law_heath.fn.kp T.b_law_heath .nil pass0 (pa_cons (pv 0) (pa_cons pe_int pa_nil))) (pa_cons (pe_op op_add pe_int (pe_call (ok_law_heath T) (hr.mono (by decide)) rfl T.f_law_heath.gl T.f_law_heath.fn.kp T.b_law_heath .nil pass0 (pa_cons (pv 0) (pa_cons pe_int pa_nil)))) pa_nil)) (by rfl))
      (pss_cons (ps_if (pt_cmpR (r := rEqD K) (op_eqD hr.units) (pv 1) pe_int (nomark _)) (pss_one (ps_ret (pe_call (ok_law_pick T) (hr.mono (by decide)) rfl T.f_law_pick.gl T.f_law_pick.fn.kp T.b_law_pick .nil pass0 (pa_cons (pv 0) (pa_cons (pe_lst (pa_cons pe_int (pa_cons pe_int (pa_cons pe_int (pa_cons pe_int (pa_cons pe_int (pa_cons pe_int pa_nil))))))) pa_nil))))) pss_nil)
      (pss_cons (ps_if (pt_cmpR (r := rEqD K) (op_eqD hr.units) (pv 1) pe_int (nomark _)) (pss_one (ps_ret (pe_call (ok_law_times T) (hr.mono (by decide)) rfl T.f_law_times.gl T.f_law_times.fn.kp T.b_law_times .nil pass0 (pa_cons (pe_call (ok_law_lowest T) (hr.mono (by decide)) rfl T.f_law_lowest.gl T.f_law_lowest.fn.kp T.b_law_lowest .nil pass0 (pa_cons (pv 2) (pa_cons (pe_op op_add pe_int (pe_call (ok_law_heath T) (hr.mono (by decide)) rfl T.f_law_heath.gl T.f_law_heath.fn.kp T.b_law_heath .nil pass0 (pa_cons (pv 0) (pa_cons pe_int pa_nil)))) pa_nil))) (pa_cons (pe_call (ok_law_lowest T) (hr.mono (by decide)) rfl T.f_law_lowest.gl T.f_law_lowest.fn.kp T.b_law_lowest .nil pass0 (pa_cons (pv 2) (pa_cons (pe_op op_add pe_int (pe_call (ok_law_heath T) (hr.mono (by decide)) rfl T.f_law_heath.gl T.f_law_heath.fn.kp T.b_law_heath .nil pass0 (pa_cons (pv 0) (pa_cons pe_int pa_nil)))) pa_nil))) pa_nil))))) pss_nil)
      (pss_cons (ps_if (pt_cmpR (r := rEqD K) (op_eqD hr.units) (pv 1) pe_int (nomark _)) (pss_cons (ps_set (i := 3) sc_law_root_drawn.nd rfl (Or.inl rfl) (pe_call (ok_law_lowest T) (hr.mono (by decide)) rfl T.f_law_lowest.gl T.f_law_lowest.fn.kp T.b_law_lowest .nil pass0 (pa_cons (pv 2) (pa_cons (pe_op op_add pe_int (pe_call (ok_law_heath T) (hr.mono (by decide)) rfl T.f_law_heath.gl T.f_law_heath.fn.kp T.b_law_heath .nil pass0 (pa_cons (pv 0) (pa_cons pe_int pa_nil)))) pa_nil))))
      (pss_one (ps_ret (pe_call (ok_law_times T) (hr.mono (by decide)) rfl T.f_law_times.gl T.f_law_times.fn.kp T.b_law_times .nil pass0 (pa_cons (pv 3) (pa_cons (pv 3) pa_nil)))))) pss_nil)
      (pss_cons (ps_if (pt_cmpR (r := rEqD K) (op_eqD hr.units) (pv 1) pe_int (nomark _)) (pss_one (ps_ret (pe_op op_sub (pe_op op_add (pe_op op_powW (pe_op op_add (pe_op op_powW pe_int pe_int) (pv 2)) pe_int) (pe_call (ok_law_heath T) (hr.mono (by decide)) rfl T.f_law_heath.gl T.f_law_heath.fn.kp T.b_law_heath .nil pass0 (pa_cons (pv 0) (pa_cons pe_int pa_nil)))) pe_int))) pss_nil)
      (pss_one (ps_ret (pe_call (ok_law_lowest T) (hr.mono (by decide)) rfl T.f_law_lowest.gl T.f_law_lowest.fn.kp T.b_law_lowest .nil pass0 (pa_cons (pv 2) (pa_cons (pe_op op_add pe_int (pe_call (ok_law_heath T) (hr.mono (by decide)) rfl T.f_law_heath.gl T.f_law_heath.fn.kp T.b_law_heath .nil pass0 (pa_cons (pv 0) (pa_cons pe_int pa_nil)))) pa_nil)))))))))), fun mo us ds n hn M dv r => by
    subst r
    cases dv
    refine rm_par (esm_2 (em_heath rfl ed_int (by decide) (by decide) (by omega)) (em_addP em_intP (em_heath rfl ed_int (by decide) (by decide) (by omega)))) fun v u d e H1 p p' x dv du => ?_
    obtain ⟨r, rfl, r1, r2⟩ := p
    obtain ⟨r', rfl, r1', r2'⟩ := p'
    obtain rfl := dv.i
    obtain rfl := du.i
    have hs : EM K mo (tVar 2) (((start n_law_root_drawn [.ref mo]).set 1 (some (.int r))).set 2 (some (.int r'))) H1 (n + 1 + 1) (n + 1 + 1) (Pi 1 30) := em_of (ed_var rfl (.int _)) ⟨r', rfl, by omega, by omega⟩
    refine rm_ifr (eb_test (ed_eq (ed_var rfl (.int _)) ed_int sh_int sh_int)) (fun _ => ?_) fun _ => ?_
    · refine RM.more (rm_ret (em_pick (xs := [.int 0, .int 1, .int 2, .int 3, .int 8, .int 12]) rfl (ed_lst (es_cons ed_int (es_cons ed_int (es_cons ed_int (es_cons ed_int (es_cons ed_int (es_cons ed_int es_nil))))))) (by simp) (by simp) (by omega) fun d hd => ?_)) (l := n + 4) (by omega)
      refine pi_nu (lo := 0) (hi := 12) ?_ (fun i h1 h2 => lt110 (by omega)) (by decide) (fun _ => by decide)
      simp only [List.mem_cons, List.not_mem_nil, or_false] at hd
      rcases hd with rfl | rfl | rfl | rfl | rfl | rfl <;> exact ⟨_, rfl, by decide, by decide⟩
    refine rm_ifr (eb_test (ed_eq (ed_var rfl (.int _)) ed_int sh_int sh_int)) (fun _ => ?_) fun _ => ?_
    · exact RM.more (rm_ret (em_nu (em_timesP (lo40 hs (em_addP em_intP (em_heath rfl ed_int (by decide) (by decide) (by omega))) (by decide) (by decide) (by decide) (by decide))
        (lo40 (em_of (ed_var rfl (.int _)) ⟨r', rfl, (by omega : (1 : Int) ≤ r'), (by omega : r' ≤ 30)⟩) (em_addP em_intP (em_heath rfl ed_int (by decide) (by decide) (by omega))) (by decide) (by decide) (by decide) (by decide)) (by decide) (by decide)) (by decide))) (l := n + 4) (by omega)
    refine rm_ifr (eb_test (ed_eq (ed_var rfl (.int _)) ed_int sh_int sh_int)) (fun _ => ?_) fun _ => ?_
    · refine rm_set (lo40 hs (em_addP em_intP (em_heath rfl ed_int (by decide) (by decide) (by omega))) (by decide) (by decide) (by decide) (by decide)) fun v d H2 p x2 dv => ?_
      exact RM.more (rm_ret (em_nu (em_timesP (em_of (ed_var rfl dv) p) (em_of (ed_var rfl dv) p) (by decide) (by decide)) (by decide))) (l := n + 4) (by omega)
    refine rm_ifr (eb_test (ed_eq (ed_var rfl (.int _)) ed_int sh_int sh_int)) (fun _ => ?_) fun _ => ?_
    · have e2 : ∀ z : Int, z ^ (2 : Int).toNat = z * z := fun z => by show z ^ 2 = z * z; rw [Int.pow_succ, Int.pow_succ, Int.pow_zero, Int.one_mul]
      have q1 : (1000000000000000 + r').natAbs < 2 ^ 50 := by omega
      have q2 : ((1000000000000000 + r') * (1000000000000000 + r')).natAbs < 2 ^ 100 := abs_mul_lt q1 q1
      have q3 : 1 ≤ (1000000000000000 + r') * (1000000000000000 + r') := by
        have := Int.mul_le_mul (show (1 : Int) ≤ 1000000000000000 + r' by omega) (show (1 : Int) ≤ 1000000000000000 + r' by omega) (by decide) (by omega)
        omega
      refine RM.more (rm_ret ((em_subP (em_addP (em_intA (ed_powW (ed_add (ed_p10 (j := 15) (z := 1000000000000000) (by decide) (by decide) (by decide +kernel)) (ed_var rfl (.int r'))) ed_int ⟨pow_up q1 (by decide), by decide, by decide⟩)) (em_heath rfl ed_int (by decide) (by decide) (by omega))) em_intP).weak (Nat.le_refl _) fun d p => ?_)) (l := n + 4) (by omega)
      rw [e2] at p
      refine pi_nu p (fun i h1 h2 => ?_) (by decide) fun _ => by omega
      have b : ∀ (u v B : Nat), u < B → v ≤ u + 2 → 4 ≤ B → v < B + B := fun u v B _ _ _ => by omega
      have h3 : i.natAbs < 2 ^ 100 + 2 ^ 100 := b _ _ _ q2 (by omega) (Nat.pow_le_pow_right (n := 2) (i := 2) (by decide) (by decide))
      rw [← Nat.two_mul, ← Nat.pow_succ'] at h3
      exact pow_up h3 (by decide)
    exact RM.more (rm_ret (em_nu (lo40 hs (em_addP em_intP (em_heath rfl ed_int (by decide) (by decide) (by omega))) (by decide) (by decide) (by decide) (by decide)) (by decide))) (l := n + 4) (by omega)⟩
structure Fit (a b : Rat) (x y : Int) (r : Rat) : Prop where
  a : Bd 850 a
  b : Bd 850 b
  x : x.natAbs < 2 ^ 850
  y : y.natAbs < 2 ^ 850
  r : Bd 850 r
def Abent (ds : List PyData) : Prop := ∃ a b x y r, Fit a b x y r ∧ ds = [plD a b x y r]
theorem up900 {i : Int} (h : i.natAbs < 2 ^ 850) : i.natAbs < 2 ^ 900 := pow_up h (by decide)
theorem up2 {i : Int} (h : i.natAbs < 2 ^ 850) : (2 * i).natAbs < 2 ^ 900 := pow_up (abs_mul_lt (a := 2) (b := 850) (by decide) h) (by decide)
theorem ok_law_bent (T : Txt K mg a) : FnOk P w K mg base CX0 3 a.law_bent a.d_law_bent p_law_bent (spM K 2 Abent fun _ d => Ask d) :=
  okM T.f_law_bent.fn sc_law_bent (by rintro _ ⟨_, _, _, _, _, _, rfl⟩; rfl) fun cdv A outer s H E hr => ⟨_, (pss_cons (ps_asg (pv 1) (pg_seq rfl (pgs_cons (pg_name (i := 3) sc_law_bent.nd rfl (Or.inl rfl)) (pgs_cons (pg_name (i := 4) sc_law_bent.nd rfl (Or.inl rfl)) (pgs_cons (pg_name (i := 5) sc_law_bent.nd rfl (Or.inl rfl)) pgs_nil)))))
      (pss_cons (ps_set (i := 2) sc_law_bent.nd rfl (Or.inl rfl) (pe_call (ok_law_heath T) (hr.mono (by decide)) rfl T.f_law_heath.gl T.f_law_heath.fn.kp T.b_law_heath .nil pass0 (pa_cons (pv 0) (pa_cons pe_int pa_nil))))
      (pss_cons (ps_if (pt_cmpR (r := rEqD K) (op_eqD hr.units) (pv 2) pe_int (nomark _)) (pss_one (ps_ret (pe_tup (pa_cons (pv 3) (pa_cons (pe_tup (pa_cons (pe_op op_mulW pe_int (pe_ix (r := rIx K) ix_seq (pv 4) pe_int (fun _ _ => rfl))) (pa_cons (pe_op op_mulW pe_int (pe_ix (r := rIx K) ix_seq (pv 4) pe_int (fun _ _ => rfl))) pa_nil))) (pa_cons (pv 5) pa_nil)))))) pss_nil)
      (pss_cons (ps_if (pt_cmpR (r := rEqD K) (op_eqD hr.units) (pv 2) pe_int (nomark _)) (pss_one (ps_ret (pe_tup (pa_cons (pv 3) (pa_cons (pv 4) (pa_cons (pe_call (ok_law_pick T) (hr.mono (by decide)) rfl T.f_law_pick.gl T.f_law_pick.fn.kp T.b_law_pick .nil pass0 (pa_cons (pv 0) (pa_cons (pe_lst (pa_cons pe_int (pa_cons pe_int (pa_cons pe_int (pa_cons (pe_tup (pa_cons pe_int (pa_cons pe_int pa_nil))) (pa_cons (pe_un un_neg pe_int) (pa_cons pe_bl (pa_cons pe_non (pa_cons (pe_tup (pa_cons pe_int (pa_cons pe_int pa_nil))) (pa_cons pe_int (pa_cons pe_int (pa_cons pe_str (pa_cons (pe_tup (pa_cons (pe_un un_neg pe_int) (pa_cons pe_int pa_nil))) pa_nil))))))))))))) pa_nil))) pa_nil)))))) pss_nil)
      (pss_cons (ps_if (pt_cmpR (r := rEqD K) (op_eqD hr.units) (pv 2) pe_int (nomark _)) (pss_one (ps_ret (pe_tup (pa_cons (pv 3) (pa_cons (pe_call (ok_law_pick T) (hr.mono (by decide)) rfl T.f_law_pick.gl T.f_law_pick.fn.kp T.b_law_pick .nil pass0 (pa_cons (pv 0) (pa_cons (pe_lst (pa_cons (pe_tup (pa_cons pe_int (pa_cons pe_int pa_nil))) (pa_cons (pe_tup (pa_cons pe_int (pa_cons pe_int pa_nil))) (pa_cons (pe_tup (pa_cons pe_int (pa_cons (pe_un un_neg pe_int) pa_nil))) (pa_cons (pe_tup (pa_cons pe_bl (pa_cons pe_int pa_nil))) (pa_cons (pe_tup (pa_cons (pe_tup (pa_cons pe_int (pa_cons pe_int pa_nil))) (pa_cons pe_int pa_nil))) (pa_cons (pe_tup (pa_cons pe_int (pa_cons pe_int pa_nil))) (pa_cons pe_int (pa_cons (pe_tup (pa_cons pe_int pa_nil)) (pa_cons (pe_tup (pa_cons pe_int (pa_cons pe_int (pa_cons pe_int pa_nil)))) (pa_cons pe_non pa_nil))))))))))) pa_nil))) (pa_cons (pv 5) pa_nil)))))) pss_nil)
      (pss_cons (ps_if (pt_cmpR (r := rEqD K) (op_eqD hr.units) (pv 2) pe_int (nomark _)) (pss_one (ps_ret (pe_tup (pa_cons (pe_call (ok_law_pick T) (hr.mono (by decide)) rfl T.f_law_pick.gl T.f_law_pick.fn.kp T.b_law_pick .nil pass0 (pa_cons (pv 0) (pa_cons (pe_lst (pa_cons pe_int (pa_cons (pe_tup (pa_cons pe_int pa_nil)) (pa_cons (pe_tup (pa_cons pe_int (pa_cons pe_non pa_nil))) (pa_cons (pe_tup (pa_cons (pe_tup (pa_cons pe_int (pa_cons pe_int pa_nil))) (pa_cons pe_int pa_nil))) (pa_cons (pe_tup (pa_cons pe_int (pa_cons pe_int (pa_cons pe_int pa_nil)))) (pa_cons pe_str (pa_cons (pe_lst (pa_cons pe_int (pa_cons (pe_tup (pa_cons pe_int (pa_cons pe_int pa_nil))) pa_nil))) pa_nil)))))))) pa_nil))) (pa_cons (pv 4) (pa_cons (pv 5) pa_nil)))))) pss_nil)
      (pss_cons (ps_if (pt_cmpR (r := rEqD K) (op_eqD hr.units) (pv 2) pe_int (nomark _)) (pss_one (ps_ret (pe_call (ok_law_pick T) (hr.mono (by decide)) rfl T.f_law_pick.gl T.f_law_pick.fn.kp T.b_law_pick .nil pass0 (pa_cons (pv 0) (pa_cons (pe_lst (pa_cons pe_non (pa_cons pe_int (pa_cons (pe_tup pa_nil) (pa_cons (pe_tup (pa_cons (pv 3) (pa_cons (pv 4) pa_nil))) (pa_cons (pe_tup (pa_cons (pv 3) (pa_cons (pv 4) (pa_cons (pv 5) (pa_cons pe_int pa_nil))))) (pa_cons pe_str (pa_cons (pe_lst (pa_cons (pv 3) (pa_cons (pv 4) (pa_cons (pv 5) pa_nil)))) (pa_cons pe_dnewK (pa_cons pe_bl pa_nil)))))))))) pa_nil))))) pss_nil)
      (pss_cons (ps_if (pt_cmpR (r := rEqD K) (op_eqD hr.units) (pv 2) pe_int (nomark _)) (pss_one (ps_ret (pe_lst (pa_cons (pe_callTy (r := rLstC K) cr_lst rfl T.b_list (by decide +kernel) (pa_cons (pv 3) pa_nil)) (pa_cons (pe_callTy (r := rLstC K) cr_lst rfl T.b_list (by decide +kernel) (pa_cons (pv 4) pa_nil)) (pa_cons (pv 5) pa_nil)))))) pss_nil)
      (pss_one (ps_ret (pe_ifExp (pt_cmpR (r := rEqD K) (op_eqD hr.units) (pv 2) pe_int (nomark _)) (pe_tup (pa_cons (pv 3) (pa_cons (pe_tup (pa_cons (pe_un un_neg (pe_ix (r := rIx K) ix_seq (pv 4) pe_int (fun _ _ => rfl))) (pa_cons (pe_un un_neg (pe_ix (r := rIx K) ix_seq (pv 4) pe_int (fun _ _ => rfl))) pa_nil))) (pa_cons (pv 5) pa_nil)))) (pv 1)))))))))))), fun mo us ds n hn M dv r => by
    obtain ⟨p, q, x, y, r, F, rfl⟩ := r
    obtain ⟨v, rfl, dv'⟩ := dv.one
    clear dv
    have dv := dv'
    have wp : Wf 2 (.tuple [numD p, numD q]) := wf_t2 (wf_num F.a (by decide)) (wf_num F.b (by decide))
    have ws : Wf 2 (.tuple [.int x, .int y]) := wf_t2 (wf_int (up900 F.x)) (wf_int (up900 F.y))
    have wr : ∀ n, Wf (n + 1) (numD r) := fun n => wf_num F.r (by decide)
    refine rm_seq3 (ed_var rfl dv) (.tup _) fun v1 v2 v3 H1 x1 d1 d2 d3 => ?_
    refine rm_set (em_heath rfl ed_int (by decide) (by decide) (by omega)) fun v4 d H2 p4 x2 d4 => ?_
    obtain ⟨i, rfl, i1, i2⟩ := p4
    obtain rfl := d4.i
    have d1 := d1.up x2
    have d2 := d2.up x2
    have d3 := d3.up x2
    have dv := dv.up (x1.trans x2)
    refine rm_ifr (eb_test (ed_eq (ed_var rfl (.int _)) ed_int sh_int sh_int)) (fun _ => ?_) fun _ => ?_
    · refine RM.more (rm_ret (em_of (ed_tup (es_3 (ed_var rfl d1) (ed_tup (es_2 (ed_mul ed_int (ed_ix (ed_var rfl d2) (.tup _) (ed_int (i := 0)) (i := 0) rfl) ?_) (ed_mul ed_int (ed_ix (ed_var rfl d2) (.tup _) (ed_int (i := 1)) (i := 1) rfl) ?_))) (ed_var rfl d3))) (ask_of (n := 3) (wf_t3 wp (wf_t2 (wf_int (up2 F.x)) (wf_int (up2 F.y))) (wr 1))))) (by omega)
      · exact wide_mul (a := 2) (b := 850) (by decide) F.x (by decide) (by decide) (by decide)
      · exact wide_mul (a := 2) (b := 850) (by decide) F.y (by decide) (by decide) (by decide)
    refine rm_ifr (eb_test (ed_eq (ed_var rfl (.int _)) ed_int sh_int sh_int)) (fun _ => ?_) fun _ => ?_
    · refine rm_ret ((em_tup (z := 0) (esm_3 (em_of (ed_var rfl d1) (P := fun d => d = _) rfl) (em_of (ed_var rfl d2) (P := fun d => d = _) rfl) (em_pick (P := Wf 2) (xs := [.int 0, .int 1, .int 4, .tuple [.int 9, .int 4], .int (-2), .bool true, .none, .tuple [.int 4, .int 2], .int 2, .int 3, .str "2", .tuple [.int (-1), .int 2]]) rfl ?_ (by simp) (by simp) (by omega) ?_)) ?_).weak (by omega) ?_)
      · exact ed_lst (es_cons ed_int (es_cons ed_int (es_cons ed_int (es_cons (ed_tup (es_2 ed_int ed_int)) (es_cons (ed_neg ed_int) (es_cons ed_bl (es_cons ed_non (es_cons (ed_tup (es_2 ed_int ed_int)) (es_cons ed_int (es_cons ed_int (es_cons ed_str (es_cons (ed_tup (es_2 (ed_neg ed_int) ed_int)) es_nil))))))))))))
      · have : ([.int 0, .int 1, .int 4, .tuple [.int 9, .int 4], .int (-2), .bool true, .none, .tuple [.int 4, .int 2], .int 2, .int 3, .str "2", .tuple [.int (-1), .int 2]] : List PyData).all (wfB 2) = true := by decide +kernel
        exact fun d hd => wfB_wf (List.all_eq_true.mp this d hd)
      · rintro _ ⟨_, _, _, rfl, _⟩
        simp
      · rintro _ ⟨_, rfl, _, _, z, rfl, rfl, rfl, h⟩
        exact ask_of (n := 3) (wf_t3 wp ws h)
    refine rm_ifr (eb_test (ed_eq (ed_var rfl (.int _)) ed_int sh_int sh_int)) (fun _ => ?_) fun _ => ?_
    · refine rm_ret ((em_tup (z := 0) (esm_3 (em_of (ed_var rfl d1) (P := fun d => d = _) rfl) (em_pick (P := Wf 2) (xs := [.tuple [.int 0, .int 0], .tuple [.int 1, .int 0], .tuple [.int 0, .int (-1)], .tuple [.bool true, .int 0], .tuple [.tuple [.int 1, .int 2], .int 1], .tuple [.int 3, .int 6], .int 0, .tuple [.int 1], .tuple [.int 1, .int 2, .int 3], .none]) rfl ?_ (by simp) (by simp) (by omega) ?_) (em_of (ed_var rfl d3) (P := fun d => d = _) rfl)) ?_).weak (by omega) ?_)
      · exact ed_lst (es_cons (ed_tup (es_2 ed_int ed_int)) (es_cons (ed_tup (es_2 ed_int ed_int)) (es_cons (ed_tup (es_2 ed_int (ed_neg ed_int))) (es_cons (ed_tup (es_2 ed_bl ed_int)) (es_cons (ed_tup (es_2 (ed_tup (es_2 ed_int ed_int)) ed_int)) (es_cons (ed_tup (es_2 ed_int ed_int)) (es_cons ed_int (es_cons (ed_tup (es_1 ed_int)) (es_cons (ed_tup (es_3 ed_int ed_int ed_int)) (es_cons ed_non es_nil))))))))))
      · have : ([.tuple [.int 0, .int 0], .tuple [.int 1, .int 0], .tuple [.int 0, .int (-1)], .tuple [.bool true, .int 0], .tuple [.tuple [.int 1, .int 2], .int 1], .tuple [.int 3, .int 6], .int 0, .tuple [.int 1], .tuple [.int 1, .int 2, .int 3], .none] : List PyData).all (wfB 2) = true := by decide +kernel
        exact fun d hd => wfB_wf (List.all_eq_true.mp this d hd)
      · rintro _ ⟨_, _, _, rfl, _⟩
        simp
      · rintro _ ⟨_, rfl, _, z, _, rfl, rfl, h, rfl⟩
        exact ask_of (n := 3) (wf_t3 wp h (wr 1))
    refine rm_ifr (eb_test (ed_eq (ed_var rfl (.int _)) ed_int sh_int sh_int)) (fun _ => ?_) fun _ => ?_
    · refine rm_ret ((em_tup (z := 0) (esm_3 (em_pick (P := Wf 2) (xs := [.int 0, .tuple [.int 0], .tuple [.int 0, .none], .tuple [.tuple [.int 2, .int 4], .int 0], .tuple [.int 1, .int 2, .int 3], .str "00", .list [.int 0, .tuple [.int 1, .int 2]]]) rfl ?_ (by simp) (by simp) (by omega) ?_) (em_of (ed_var rfl d2) (P := fun d => d = _) rfl) (em_of (ed_var rfl d3) (P := fun d => d = _) rfl)) ?_).weak (by omega) ?_)
      · exact ed_lst (es_cons ed_int (es_cons (ed_tup (es_1 ed_int)) (es_cons (ed_tup (es_2 ed_int ed_non)) (es_cons (ed_tup (es_2 (ed_tup (es_2 ed_int ed_int)) ed_int)) (es_cons (ed_tup (es_3 ed_int ed_int ed_int)) (es_cons ed_str (es_cons (ed_lst (es_2 ed_int (ed_tup (es_2 ed_int ed_int)))) es_nil)))))))
      · have : ([.int 0, .tuple [.int 0], .tuple [.int 0, .none], .tuple [.tuple [.int 2, .int 4], .int 0], .tuple [.int 1, .int 2, .int 3], .str "00", .list [.int 0, .tuple [.int 1, .int 2]]] : List PyData).all (wfB 2) = true := by decide +kernel
        exact fun d hd => wfB_wf (List.all_eq_true.mp this d hd)
      · rintro _ ⟨_, _, _, rfl, _⟩
        simp
      · rintro _ ⟨_, rfl, z, _, _, rfl, h, rfl, rfl⟩
        exact ask_of (n := 3) (wf_t3 h ws (wr 1))
    refine rm_ifr (eb_test (ed_eq (ed_var rfl (.int _)) ed_int sh_int sh_int)) (fun _ => ?_) fun _ => ?_
    · refine RM.more (rm_ret (em_pick (P := Ask) (xs := [.none, .int 5, .tuple [], .tuple [.tuple [numD p, numD q], .tuple [.int x, .int y]], .tuple [.tuple [numD p, numD q], .tuple [.int x, .int y], numD r, .int 0], .str "place", .list [.tuple [numD p, numD q], .tuple [.int x, .int y], numD r], .dict [], .bool true]) rfl ?_ (by simp) (by simp) (by omega) ?_)) (by omega)
      · exact ed_lst (es_cons ed_non (es_cons ed_int (es_cons (ed_tup es_nil) (es_cons (ed_tup (es_2 (ed_var rfl d1) (ed_var rfl d2))) (es_cons (ed_tup (es_cons (ed_var rfl d1) (es_3 (ed_var rfl d2) (ed_var rfl d3) ed_int))) (es_cons ed_str (es_cons (ed_lst (es_3 (ed_var rfl d1) (ed_var rfl d2) (ed_var rfl d3))) (es_cons ed_dic (es_cons ed_bl es_nil)))))))))
      · intro d hd
        simp only [List.mem_cons, List.not_mem_nil, or_false] at hd
        rcases hd with rfl | rfl | rfl | rfl | rfl | rfl | rfl | rfl | rfl
        · exact .inr rfl
        · exact .inr rfl
        · exact ask_of (n := 1) fun x hx => nomatch hx
        · exact ask_of (n := 3) (wf_t2 wp ws)
        · exact ask_of (n := 3) (wf_t4 wp ws (wr 1) (wf_int (by decide)))
        · exact .inr rfl
        · exact ask_of (n := 3) (wf_l3 wp ws (wr 1))
        · exact .inr rfl
        · exact .inr rfl
    refine rm_ifr (eb_test (ed_eq (ed_var rfl (.int _)) ed_int sh_int sh_int)) (fun _ => ?_) fun _ => ?_
    · exact RM.more (rm_ret (em_of (ed_lst (es_3 (ed_lstC (ed_var rfl d1) (.tup _)) (ed_lstC (ed_var rfl d2) (.tup _)) (ed_var rfl d3))) (ask_of (n := 3) (wf_l3 (d := .list _) (e := .list _) wp ws (wr 1))))) (by omega)
    refine RM.more (rm_ret (em_if (eb_test (ed_eq (ed_var rfl (.int _)) ed_int sh_int sh_int)) (fun _ => em_of (ed_tup (es_3 (ed_var rfl d1) (ed_tup (es_2 (ed_neg (ed_ix (ed_var rfl d2) (.tup _) (ed_int (i := 0)) (i := 0) rfl)) (ed_neg (ed_ix (ed_var rfl d2) (.tup _) (ed_int (i := 1)) (i := 1) rfl)))) (ed_var rfl d3))) (ask_of (n := 3) (wf_t3 wp (wf_t2 (wf_int (by rw [Int.natAbs_neg]; exact up900 F.x)) (wf_int (by rw [Int.natAbs_neg]; exact up900 F.y))) (wr 1)))) fun _ => em_of (ed_var rfl dv) (ask_of (n := 3) (wf_t3 wp ws (wr 1))))) (by omega)⟩
end
end Pc

set_option Elab.async false
set_option linter.all false
set_option maxRecDepth 100000
set_option maxHeartbeats 4000000
/-! PcK: repr of data, calls by keywords alone, calls that may raise and do not. -/
namespace Pc
open PySem PySem.Spec PyProof.Rows L2
open Evl (Ex)
/-- data that repr shows -/
structure Shw (d : PyData) : Prop where
  sh : d.showable = true
  nd : d.hasDict = false
  dp : d.depth ≤ 20
  ln : d.shown.length ≤ sizeLine
def rRepr (K : PySem.W.Frag) : List V → Hp → VK → Prop := fun xs H Q => (xs = [.non] ∧ Q (.str "None") H) ∨ ∃ (a : Addr) (d : PyData), xs = [.ref a] ∧ Dp K H (.ref a) d ∧ Shw d ∧ Q (.str d.shown) H
theorem cr_repr {X : Cx} (hg : X.A.guards = some []) (hu : X.A.units + 64 < cLine) : CallR X (.builtin "repr") (rRepr X.K) := by
  intro pins s σ H xs us Q I r h
  rcases h with ⟨rfl, q⟩ | ⟨a, d, rfl, hd, S, q⟩
  · obtain ⟨u, rfl, hu'⟩ := vals1 r
    cases hu'
    exact PySem.P.repr_of_none ⟨.str _, H, I.tok _, ⟨_, rfl⟩, q⟩
  · obtain ⟨u, rfl, hu'⟩ := vals1 r
    obtain rfl : u = Value.ref a := hu'
    obtain ⟨as, rd⟩ := Dp.reads I d (.ref a) (.ref a) hd rfl
    exact repr_of_reads' rd S.sh (PyData.noDict_hsm S.nd) hg (by have := S.dp; omega) (fun _ _ e => e) (fun h' u tk hk => ⟨.str _, H, I.kept hk, ⟨_, rfl⟩, q⟩) S.ln
section
variable {X : Cx} {CX : CXT} {k : Nat} {f : Addr} {fd : FuncData} {ps ks : List Str} {sp : Sp} {g : List Value → List Value → List Value} {gV : List V → List V → List V} {E : XK} {kws : List Keyword} {tk : TA} {p pos : Pos} {x : Str}
/-- f(k = v, ..) -/
theorem pe_callK0 (F : FnOk X.prog X.w X.K X.mg X.base CX k f fd ps sp) (hr : Room k X.A) (hg : Gl X x) (hm : X.mg x = some (.ref f)) (hk : PySem.W.keepIn X.K (.ref f) = true) (hb : KBinds X.K fd ps ks g gV) (hx : Passes CX X E)
    (hkw : PK X kws tk) (hall : (backToKw pos (keywordEach kws X.env)).all (·.1.isSome) = true := by rfl) (hks : (backToKw pos (keywordEach kws X.env)).filterMap (·.1) = ks := by rfl) (hdb : (x == ("__debug__" : Str)) = false := by decide)
    (hpl : ((backTo pos (starEach [] X.env)).any (·.1) || (backToKw pos (keywordEach kws X.env)).any (·.1.isNone)) = false := by rfl) :
    PE X (.Call (.Name x p) [] kws pos) (fun σ H Q => tk σ H fun zs H1 => sp (gV [] zs) H1 Q E) := by
  refine ⟨fun pins s σ H Q I h => wpAny_Call_Name_kw (ld_glob I hg hm ?_ hdb)⟩
  refine PySem.W.callWith_KW0 (h₀ := X.base) I.ok.mod.kin hk hall (thn (hkw.run pos pins s σ H _ I h) fun ws s1 ⟨zs, H1, I1, rz, q1⟩ => ⟨I1.kIn, ?_⟩) hpl
  rw [hks]
  exact run_fnk (us := []) (vs := []) F hr hb hx I1 .nil rz q1
end
section
variable {K : PySem.W.Frag} {mg : Str → Option Value} {a : Ad}
/-- one parameter, by its name -/
def g1 {α : Type} (us ws : List α) : List α := us ++ ws
theorem kb_is_place (T : Txt K mg a) : KBinds K a.d_is_place p_is_place ["value"] g1 g1 := by
  have F := T.f_is_place.fn
  generalize a.d_is_place = fd at F
  obtain ⟨oc, od, kV, doc, pm, an, cdv, ct, osl, rfl, lk, hcd⟩ := F.ex
  refine ⟨fun s us ws _ h => ?_, fun {vs us zs ws} h1 h2 => h1.append h2⟩
  match us, ws, h with
  | [], [w], _ => exact BindsTo.of_eq rfl
  | [u], [], _ => exact BindsTo.of_eq rfl
theorem kb_as_point (T : Txt K mg a) : KBinds K a.d_as_point p_as_point ["place"] g1 g1 := by
  have F := T.f_as_point.fn
  generalize a.d_as_point = fd at F
  obtain ⟨oc, od, kV, doc, pm, an, cdv, ct, osl, rfl, lk, hcd⟩ := F.ex
  refine ⟨fun s us ws _ h => ?_, fun {vs us zs ws} h1 h2 => h1.append h2⟩
  match us, ws, h with
  | [], [w], _ => exact BindsTo.of_eq rfl
  | [u], [], _ => exact BindsTo.of_eq rfl
/-- root, point, aside, by their names -/
def g3 {α : Type} (us ws : List α) : List α := match us, ws with
  | [], [r, p, s] => [p, s, r]
  | _, _ => []
theorem kb_place_of (T : Txt K mg a) : KBinds K a.d_place_of p_place_of ["root", "point", "aside"] g3 g3 := by
  have F := T.f_place_of.fn
  generalize a.d_place_of = fd at F
  obtain ⟨oc, od, kV, doc, pm, an, cdv, ct, osl, rfl, lk, hcd⟩ := F.ex
  refine ⟨fun s us ws _ h => ?_, fun {vs us zs ws} h1 h2 => ?_⟩
  · match us, ws, h with
    | [], [r, p, s'], _ => exact BindsTo.of_eq rfl
  · cases h1 with
    | nil =>
      match zs, ws, h2 with
      | [], _, .nil => exact .nil
      | [_], _, .cons _ .nil => exact .nil
      | [_, _], _, .cons _ (.cons _ .nil) => exact .nil
      | [_, _, _], _, .cons h1 (.cons h2 (.cons h3 .nil)) => exact .cons h2 (.cons h3 (.cons h1 .nil))
      | _ :: _ :: _ :: _ :: _, _, .cons _ (.cons _ (.cons _ (.cons _ _))) => exact .nil
    | cons => exact .nil
end
section
variable {K : PySem.W.Frag} {m : List Addr} {te ta tb : TE} {σ : L2.St} {H : Hp} {d e : PyData} {s : TA} {E : XK}
theorem ed_repr (h : ED K m te σ H d) (S : Shw d) (hs : isS d = true ∨ d = .none) : ED K m (tCB (rRepr K) (tCons te tNil)) σ H (.str d.shown) := ed_cb (es_1 h) fun vs H1 _ l dw Q q => by
  obtain ⟨v, rfl, dv⟩ := dw.one
  rcases hs with hs | rfl
  · obtain ⟨ds, hq⟩ := isS_seq hs
    obtain ⟨a, xs, rfl, _, _⟩ := dv.q hq
    exact .inr ⟨a, d, rfl, Dv.dp d _ S.nd (dv.up off_le), S, q _ H1 (Ex.refl _) (.str _)⟩
  · rw [dv.n]
    exact .inl ⟨rfl, q _ H1 (Ex.refl _) (.str _)⟩
theorem ed_neS {x y : Str} (ha : ED K m ta σ H (.str x)) (hb : ED K m tb σ H (.str y)) : ED K m (tOp rNe ta tb) σ H (.bool (!decide (x = y))) := ed_op ha hb fun v w H1 _ _ hx hy Q q => by
  rw [hx.s, hy.s]
  refine ⟨rfl, ?_⟩
  have e : decide (V.str x = V.str y) = decide (x = y) := by
    by_cases h : x = y
    · rw [h, decide_eq_true rfl, decide_eq_true rfl]
    · rw [decide_eq_false h, decide_eq_false (fun z => h (V.str.inj z))]
  rw [e]
  exact q _ H1 (Ex.refl _) (.bl _)
/-- f(..), f may raise and does not -/
theorem ed_callX {R : List PyData → Out → Prop} {ds : List PyData} (h : ES K m s σ H ds) (hr : R ds (.ret d)) : ED K m (tCall (spX K R) [] E s) σ H d := fun H1 x l Q q =>
  h H1 x l _ fun vs H2 x2 dv => ⟨m, ds, .ret d, l.ex x2, by rw [List.append_nil]; exact dv, hr, fun v H3 x3 dw => q v H3 (x2.trans x3) dw⟩
theorem ed_kw1 {R : List PyData → PyData → Prop} {ds : List PyData} (h : ES K m s σ H ds) (hr : R ds d) : ED K m (fun σ H Q => s σ H fun zs H1 => spD K R (g1 [] zs) H1 Q E) σ H d := fun H1 x l Q q =>
  h H1 x l _ fun vs H2 x2 dv => ⟨m, ds, d, l.ex x2, dv, hr, fun v H3 x3 dw => q v H3 (x2.trans x3) dw⟩
theorem ed_kw1X {R : List PyData → Out → Prop} {ds : List PyData} (h : ES K m s σ H ds) (hr : R ds (.ret d)) : ED K m (fun σ H Q => s σ H fun zs H1 => spX K R (g1 [] zs) H1 Q E) σ H d := fun H1 x l Q q =>
  h H1 x l _ fun vs H2 x2 dv => ⟨m, ds, .ret d, l.ex x2, dv, hr, fun v H3 x3 dw => q v H3 (x2.trans x3) dw⟩
theorem ed_kw3X {R : List PyData → Out → Prop} {p q r : PyData} (h : ES K m s σ H [r, p, q]) (hr : R [p, q, r] (.ret d)) : ED K m (fun σ H Q => s σ H fun zs H1 => spX K R (g3 [] zs) H1 Q E) σ H d := fun H1 x l Q qq =>
  h H1 x l _ fun vs H2 x2 dv => by
    obtain ⟨v1, v2, v3, rfl, d1, d2, d3⟩ := dv.three
    exact ⟨m, [p, q, r], .ret d, l.ex x2, .cons d2 (.cons d3 (.cons d1 .nil)), hr, fun v H3 x3 dw => qq v H3 (x2.trans x3) dw⟩
end
end Pc

set_option Elab.async false
set_option linter.all false
set_option maxRecDepth 100000
set_option maxHeartbeats 4000000
/-! PcN: the plain law of places. -/
namespace Pc
open PySem PySem.Spec PyProof.Rows L2
theorem nat_ne {n : Nat} (h : n ≠ 0) : (n : Rat) ≠ 0 := fun z => h (Rat.natCast_inj.mp (show (n : Rat) = ((0 : Nat) : Rat) from z))
theorem den_ne (q : Rat) : (q.den : Rat) ≠ 0 := nat_ne q.den_nz
theorem q_den (q : Rat) : q * (q.den : Rat) = (q.num : Rat) := by
  have h := fr_eq q.num q.den
  rw [fr_self] at h
  have hd := den_ne q
  grind
theorem toNat_rat {i : Int} (h : 0 ≤ i) : ((i.toNat : Nat) : Rat) = (i : Rat) := by
  rw [← Rat.intCast_natCast, Int.toNat_of_nonneg h]
theorem num_ne {f : Rat} (h : f ≠ 0) : f.num ≠ 0 := fun z => h (Rat.num_eq_zero.mp z)
/-- a pair of coprime ints and a positive factor: told by their products -/
theorem uni {f g : Rat} {x y x' y' : Int} (f0 : 0 ≤ f.num) (f1 : f ≠ 0) (g0 : 0 ≤ g.num) (g1 : g ≠ 0) (h1 : f * (x : Rat) = g * (x' : Rat)) (h2 : f * (y : Rat) = g * (y' : Rat)) (c1 : Int.gcd x y = 1) (c2 : Int.gcd x' y' = 1) : f = g ∧ x = x' ∧ y = y' := by
  have nf := num_ne f1
  have ng := num_ne g1
  have ef := q_den f
  have eg := q_den g
  have df := den_ne f
  have dg := den_ne g
  have mul : ∀ {z z' : Int}, f * (z : Rat) = g * (z' : Rat) → (((f.num.toNat * g.den : Nat) : Int)) * z = ((g.num.toNat * f.den : Nat) : Int) * z' := fun {z z'} h => by
    apply Rat.intCast_inj.mp
    rw [Rat.intCast_mul, Rat.intCast_mul, Rat.intCast_natCast, Rat.intCast_natCast, Rat.natCast_mul, Rat.natCast_mul, toNat_rat f0, toNat_rat g0, ← ef, ← eg]
    grind
  have m1 := mul h1
  have m2 := mul h2
  have q1 : Int.gcd (((f.num.toNat * g.den : Nat) : Int) * x) (((f.num.toNat * g.den : Nat) : Int) * y) = f.num.toNat * g.den := by rw [Int.gcd_mul_left, c1, Nat.mul_one, Int.natAbs_natCast]
  have q2 : Int.gcd (((g.num.toNat * f.den : Nat) : Int) * x') (((g.num.toNat * f.den : Nat) : Int) * y') = g.num.toNat * f.den := by rw [Int.gcd_mul_left, c2, Nat.mul_one, Int.natAbs_natCast]
  have pq : f.num.toNat * g.den = g.num.toNat * f.den := by rw [← q1, ← q2, m1, m2]
  have e : f = g := by
    have h : ((f.num.toNat * g.den : Nat) : Rat) = ((g.num.toNat * f.den : Nat) : Rat) := by rw [pq]
    rw [Rat.natCast_mul, Rat.natCast_mul, toNat_rat f0, toNat_rat g0, ← ef, ← eg] at h
    grind
  subst e
  refine ⟨rfl, Rat.intCast_inj.mp ?_, Rat.intCast_inj.mp ?_⟩ <;> grind
/-! ### roots -/
theorem root_sq {q w : Rat} (h0 : 0 ≤ q.num) (h : rootQ q = some w) : w * w = q ∧ 0 ≤ w.num := by
  unfold rootQ at h
  split at h
  · rename_i hc
    have e := Option.some.inj h
    have hd : sq q.den ≠ 0 := fun z => q.den_nz (by rw [← hc.2, z])
    refine ⟨?_, by rw [← e]; exact fr_nn hd (by omega)⟩
    have hn : ((q.num.natAbs : Nat) : Rat) = (q.num : Rat) := by rw [← Rat.intCast_natCast, Int.natAbs_of_nonneg h0]
    have e1 : ((sq q.num.natAbs : Nat) : Rat) * ((sq q.num.natAbs : Nat) : Rat) = (q.num : Rat) := by rw [← Rat.natCast_mul, hc.1, hn]
    have e2 : ((sq q.den : Nat) : Rat) * ((sq q.den : Nat) : Rat) = (q.den : Rat) := by rw [← Rat.natCast_mul, hc.2]
    have e3 := q_den q
    have hd' := nat_ne hd
    have hq := den_ne q
    rw [← e, fr_eq, Rat.intCast_natCast]
    grind
  · cases h
theorem sq_sq (n : Nat) : sq (n * n) = n := (sq_one (Nat.le_refl _) (by
  rw [Nat.add_mul, Nat.mul_add]
  omega)).symm
theorem root_of {q w : Rat} (h : w * w = q) : ∃ v, rootQ q = some v := by
  have hz := Nat.mul_ne_zero w.den_nz w.den_nz
  have hg : Int.gcd (w.num * w.num) ((w.den * w.den : Nat) : Int) = 1 := by
    have hr : Nat.Coprime w.num.natAbs w.den := w.reduced
    have : Nat.Coprime (w.num.natAbs * w.num.natAbs) (w.den * w.den) := Nat.Coprime.mul_left (Nat.Coprime.mul_right hr hr) (Nat.Coprime.mul_right hr hr)
    unfold Int.gcd
    rw [Int.natAbs_mul, Int.natAbs_natCast]
    exact this
  have e1 : q.num.natAbs = w.num.natAbs * w.num.natAbs := by rw [← h, ← fr_mul, fr_num hz, hg, ← Int.natAbs_mul]; simp
  have e2 : q.den = w.den * w.den := by rw [← h, ← fr_mul, fr_den hz, hg, Nat.div_one]
  unfold rootQ
  rw [e1, e2, sq_sq, sq_sq]
  exact ⟨_, if_pos ⟨rfl, rfl⟩⟩
theorem root_uni {w v : Rat} (hw : 0 ≤ w.num) (hv : 0 ≤ v.num) (h : w * w = v * v) : w = v := by
  have hw := Rat.num_nonneg.mp hw
  have hv := Rat.num_nonneg.mp hv
  rcases Rat.mul_eq_zero.mp (show (w - v) * (w + v) = 0 by grind) with z | z <;> grind
theorem root_scale {r b w : Rat} (r0 : 0 ≤ r.num) (b0 : 0 ≤ b.num) (b1 : b ≠ 0) (h : rootQ r = some w) : rootQ (r * (b * b)) = some (w * b) := by
  obtain ⟨h1, h2⟩ := root_sq r0 h
  obtain ⟨v, hv⟩ := root_of (q := r * (b * b)) (w := w * b) (by rw [← h1]; grind)
  obtain ⟨h3, h4⟩ := root_sq (mul_nn r0 (mul_nn b0 b0)) hv
  rw [hv, root_uni h4 (mul_nn h2 b0) (by rw [h3, ← h1]; grind)]
theorem root_none {r b : Rat} (r0 : 0 ≤ r.num) (b0 : 0 ≤ b.num) (b1 : b ≠ 0) (h : rootQ r = none) : rootQ (r * (b * b)) = none := by
  cases hw : rootQ (r * (b * b)) with
  | none => rfl
  | some v =>
    obtain ⟨h3, h4⟩ := root_sq (mul_nn r0 (mul_nn b0 b0)) hw
    obtain ⟨w, e⟩ := root_of (q := r) (w := v / b) (by grind)
    rw [h] at e
    cases e
/-! ### the form -/
theorem div_mul_of {X g : Int} (h : g ∣ X) : X / g * g = X := Int.ediv_mul_cancel h
/-- the second part of the form -/
structure Cut (c e : Rat) (f : Rat) (x y : Int) : Prop where
  f0 : 0 ≤ f.num
  f1 : f ≠ 0
  c1 : f * (x : Rat) = c
  e1 : f * (y : Rat) = e
  g1 : Int.gcd x y = 1
theorem cut_of {c e : Rat} (h : ¬ (c = 0 ∧ e = 0)) : Cut c e (fac (gcdS c e) c e) (c.num * e.den / (gcdS c e : Nat)) (e.num * c.den / (gcdS c e : Nat)) := by
  have hg := gcd_ne h
  have hG : ((gcdS c e : Nat) : Rat) ≠ 0 := nat_ne (Nat.ne_of_gt hg)
  have hdd : c.den * e.den ≠ 0 := Nat.mul_ne_zero c.den_nz e.den_nz
  have dc := den_ne c
  have de := den_ne e
  have qc := q_den c
  have qe := q_den e
  have x1 : ((c.num * e.den / ((gcdS c e : Nat) : Int) : Int) : Rat) * ((gcdS c e : Nat) : Rat) = (c.num : Rat) * (e.den : Rat) := by
    rw [← Rat.intCast_natCast, ← Rat.intCast_mul, div_mul_of (Int.gcd_dvd_left ..), Rat.intCast_mul, Rat.intCast_natCast]
  have y1 : ((e.num * c.den / ((gcdS c e : Nat) : Int) : Int) : Rat) * ((gcdS c e : Nat) : Rat) = (e.num : Rat) * (c.den : Rat) := by
    rw [← Rat.intCast_natCast, ← Rat.intCast_mul, div_mul_of (Int.gcd_dvd_right ..), Rat.intCast_mul, Rat.intCast_natCast]
  have ef : fac (gcdS c e) c e = ((gcdS c e : Nat) : Rat) / ((c.den : Rat) * (e.den : Rat)) := by
    unfold fac
    rw [fr_eq, Rat.intCast_natCast, Rat.natCast_mul]
  refine ⟨fr_nn hdd (by omega), fun z => ?_, ?_, ?_, ?_⟩
  · rw [ef] at z
    grind
  · rw [ef]
    grind
  · rw [ef]
    grind
  · show Int.gcd (c.num * e.den / ((Int.gcd (c.num * e.den) (e.num * c.den) : Nat) : Int)) (e.num * c.den / ((Int.gcd (c.num * e.den) (e.num * c.den) : Nat) : Int)) = 1
    exact Int.gcd_ediv_gcd_ediv_gcd hg
/-- what the form is, by a cut -/
theorem form_cut {a b c e r f : Rat} {x y : Int} (hr : r ≠ 0) (hn : ¬ (c = 0 ∧ e = 0)) (h : rootQ r = none) (C : Cut c e f x y) : formD a b c e r = plD a b x y (r * (f * f)) := by
  unfold formD
  rw [if_neg (fun z => z.elim hr hn), h]
  have C2 := cut_of hn
  obtain ⟨e1, e2, e3⟩ := uni C2.f0 C2.f1 C.f0 C.f1 (by rw [C2.c1, C.c1]) (by rw [C2.e1, C.e1]) C2.g1 C.g1
  show plD a b _ _ (r * (fac (gcdS c e) c e * fac (gcdS c e) c e)) = _
  rw [← e1, ← e2, ← e3]
theorem sq_nn (q : Rat) : 0 ≤ (q * q).num := by
  rw [← fr_mul]
  refine fr_nn (Nat.mul_ne_zero q.den_nz q.den_nz) ?_
  rcases Int.le_total 0 q.num with h | h
  · exact Int.mul_nonneg h h
  · exact Int.mul_nonneg_of_nonpos_of_nonpos h h
/-- a spot told by another aside and another root has the same form -/
theorem form_scale {a b c e r k : Rat} (r0 : 0 ≤ r.num) (k0 : 0 ≤ k.num) (k1 : k ≠ 0) : formD a b (c * k⁻¹) (e * k⁻¹) (r * (k * k)) = formD a b c e r := by
  have ki : k⁻¹ ≠ 0 := fun z => by grind
  have z1 : ∀ c : Rat, c * k⁻¹ = 0 ↔ c = 0 := fun c => ⟨fun h => by grind, fun h => by grind⟩
  have z2 : r * (k * k) = 0 ↔ r = 0 := ⟨fun h => by grind, fun h => by grind⟩
  by_cases hd : r = 0 ∨ (c = 0 ∧ e = 0)
  · unfold formD
    rw [if_pos hd, if_pos (by rw [z1, z1, z2]; exact hd)]
  · have hr : r ≠ 0 := fun z => hd (.inl z)
    have hn : ¬ (c = 0 ∧ e = 0) := fun z => hd (.inr z)
    cases hw : rootQ r with
    | some w =>
      unfold formD
      rw [if_neg hd, if_neg (by rw [z1, z1, z2]; exact hd), hw, root_scale r0 k0 k1 hw]
      show plD _ _ 0 0 0 = plD _ _ 0 0 0
      congr 1 <;> grind
    | none =>
      have C := cut_of hn
      have i0 : 0 ≤ (k⁻¹).num := by
        rw [show k⁻¹ = k * (k⁻¹ * k⁻¹) by grind]
        exact mul_nn k0 (sq_nn _)
      rw [form_cut hr hn hw C, form_cut (fun z => hr (z2.mp z)) (by rw [z1, z1]; exact hn) (root_none r0 k0 k1 hw) (f := fac (gcdS c e) c e * k⁻¹) (x := c.num * e.den / (gcdS c e : Nat)) (y := e.num * c.den / (gcdS c e : Nat))
        ⟨mul_nn C.f0 i0, fun z => by have := C.f1; grind, by have := C.c1; grind, by have := C.e1; grind, C.g1⟩]
      congr 1
      grind
/-- the parts of a whole place -/
def Whole (x y : Int) (s : Rat) : Prop := (x = 0 ∧ y = 0 ∧ s = 0) ∨ (¬ (x = 0 ∧ y = 0) ∧ Int.gcd x y = 1 ∧ 0 < s.num ∧ rootQ s = none)
theorem form_is {a b c e r : Rat} (r0 : 0 ≤ r.num) : ∃ a' b' x y s, formD a b c e r = plD a' b' x y s ∧ Whole x y s ∧ 0 ≤ s.num := by
  by_cases hd : r = 0 ∨ (c = 0 ∧ e = 0)
  · exact ⟨a, b, 0, 0, 0, by unfold formD; rw [if_pos hd], .inl ⟨rfl, rfl, rfl⟩, Int.le_refl _⟩
  · have hr : r ≠ 0 := fun z => hd (.inl z)
    have hn : ¬ (c = 0 ∧ e = 0) := fun z => hd (.inr z)
    cases hw : rootQ r with
    | some w => exact ⟨_, _, 0, 0, 0, by unfold formD; rw [if_neg hd, hw], .inl ⟨rfl, rfl, rfl⟩, Int.le_refl _⟩
    | none =>
      have C := cut_of hn
      have s0 := mul_nn r0 (mul_nn C.f0 C.f0)
      refine ⟨_, _, _, _, _, form_cut hr hn hw C, .inr ⟨fun z => hn ⟨?_, ?_⟩, C.g1, rat_pos s0 (fun z => ?_), root_none r0 C.f0 C.f1 hw⟩, s0⟩
      · rw [← C.c1, z.1]
        exact Rat.mul_zero _
      · rw [← C.e1, z.2]
        exact Rat.mul_zero _
      · have := C.f1
        grind
theorem whole_eqv {a b s : Rat} {x y : Int} (h : Whole x y s) (s0 : 0 ≤ s.num) : PyData.eqv (formD a b (x : Rat) (y : Rat) s) (plD a b x y s) = true := by
  rw [form_whole s0]
  rcases h with ⟨rfl, rfl, rfl⟩ | ⟨h1, h2, h3, h4⟩
  · rfl
  · rw [if_neg h1, h2, h4]
    simp [sgn_pos.mpr h3]
theorem whole_form {a b s : Rat} {x y : Int} (h : Whole x y s) (s0 : 0 ≤ s.num) : formD a b (x : Rat) (y : Rat) s = plD a b x y s := by
  have e := whole_eqv (a := a) (b := b) h s0
  obtain ⟨a', b', x', y', s', hf⟩ := form_pl a b (x : Rat) (y : Rat) s
  rw [hf] at e ⊢
  rw [eqv_pl] at e
  obtain ⟨⟨⟨rfl, rfl⟩, rfl, rfl⟩, rfl⟩ := of_decide_eq_true e
  rfl
/-! ### the data of it -/
theorem num_ok (q : Rat) : isNum (numD q) = true ∧ numQ (numD q) = q := by
  by_cases h : q.den = 1
  · rw [numD_i h]
    refine ⟨rfl, ?_⟩
    show ((q.num : Int) : Rat) = q
    have := q_den q
    rw [h] at this
    rw [← this]
    exact Rat.mul_one q
  · have hn : numD q = .tuple [.int q.num, .int (q.den : Int)] := numD_p h
    have h2 : 2 ≤ q.den := by have := q.den_nz; omega
    rw [hn]
    refine ⟨?_, ?_⟩
    · show (false || ((true && (true && decide (2 ≤ (q.den : Int)))) && decide (Int.gcd q.num (q.den : Int) = 1))) = true
      have g : Int.gcd q.num (q.den : Int) = 1 := q.reduced
      rw [g]
      simp
      omega
    · show fr q.num ((q.den : Int)).toNat = q
      rw [Int.toNat_natCast, fr_self]
theorem pt_ok {z : PyData} {a b : Rat} (h : IsSeq z [numD a, numD b]) : isPt z = true ∧ ptD z = .tuple [numD a, numD b] := by
  have h1 : isPt z = true := by
    unfold isPt
    rw [h.e]
    show (isNum (numD a) && isNum (numD b)) = true
    rw [(num_ok a).1, (num_ok b).1]
    rfl
  exact ⟨h1, by rw [ptD_of h (num_ok a).1 (num_ok b).1, (num_ok a).2, (num_ok b).2]⟩
theorem sgn_nn {i : Int} (h : 0 ≤ i) : decide (sgn i < 0) = false := by
  unfold sgn
  by_cases q : 0 < i
  · have : ¬ i < 0 := by omega
    simp [q, this]
  · have : ¬ i < 0 := by omega
    simp [q, this]
theorem out_form (A : Ad) {P S : PyData} {a b c e r : Rat} (hP : IsSeq P [numD a, numD b]) (hS : IsSeq S [numD c, numD e]) (r0 : 0 ≤ r.num) : plOut A P S (numD r) = .ret (formD a b c e r) := by
  unfold plOut
  rw [if_pos (pt_ok hP).1, if_pos (pt_ok hS).1, (num_ok r).1, (num_ok r).2, sgn_nn r0, if_neg (by decide)]
  unfold formQ
  rw [hP.e, hS.e]
  show Out.ret (formD (numQ (numD a)) (numQ (numD b)) (numQ (numD c)) (numQ (numD e)) (numQ (numD r))) = _
  rw [(num_ok a).2, (num_ok b).2, (num_ok c).2, (num_ok e).2, (num_ok r).2]
theorem out_again (A : Ad) {a b s : Rat} {x y : Int} (h : Whole x y s) (s0 : 0 ≤ s.num) : plOut A (.tuple [numD a, numD b]) (.tuple [.int x, .int y]) (numD s) = .ret (plD a b x y s) := by
  rw [← whole_form h s0]
  exact out_form A (.tup _) (by rw [numD_int, numD_int]; exact .tup _) s0
theorem pl_ok {z : PyData} {a b s : Rat} {x y : Int} (hz : IsSeq z [.tuple [numD a, numD b], .tuple [.int x, .int y], numD s]) (h : Whole x y s) : isPl z = true := by
  unfold isPl
  rw [hz.e]
  show ((isPt (.tuple [numD a, numD b]) && isNum (numD s)) && ((true && true) && (if x = 0 ∧ y = 0 then isZ (numD s) && (iv (numD s) == 0) else (Int.gcd x y == 1 && (decide (0 < sgn (numQ (numD s)).num) && (rootQ (numQ (numD s))).isNone))))) = true
  rw [(pt_ok (.tup _)).1, (num_ok s).1, (num_ok s).2]
  rcases h with ⟨rfl, rfl, rfl⟩ | ⟨h1, h2, h3, h4⟩
  · rfl
  · rw [if_neg h1, h2, h4, decide_eq_true (sgn_pos.mpr h3)]
    rfl
theorem ap_ok {z : PyData} {a b s : Rat} {x y : Int} (hz : IsSeq z [.tuple [numD a, numD b], .tuple [.int x, .int y], numD s]) : apD z = if s = 0 then .tuple [numD a, numD b] else .none := by
  unfold apD
  rw [hz.e]
  show (if numQ (numD s) = 0 then ptD (.tuple [numD a, numD b]) else .none) = _
  rw [(num_ok s).2, (pt_ok (.tup _)).2]
theorem bd0 {k : Nat} (hk : 0 < k) : Bd k 0 := ⟨Nat.two_pow_pos _, Nat.one_lt_two_pow (by omega)⟩
theorem div_lt {k : Nat} {x : Int} {g : Nat} (h : x.natAbs < 2 ^ k) (hd : (g : Int) ∣ x) : (x / (g : Int)).natAbs < 2 ^ k := by
  rw [Int.natAbs_ediv_of_dvd hd]
  exact Nat.lt_of_le_of_lt (Nat.div_le_self _ _) h
theorem form_fit {a b c e r : Rat} (ha : Bd 60 a) (hb : Bd 60 b) (hc : Bd 60 c) (he : Bd 60 e) (hr : Bd 130 r) (r0 : 0 ≤ r.num) : ∃ a' b' x y s, formD a b c e r = plD a' b' x y s ∧ Whole x y s ∧ 0 ≤ s.num ∧ Fit a' b' x y s := by
  obtain ⟨a', b', x, y, s, h1, h2, h3⟩ := form_is (a := a) (b := b) (c := c) (e := e) r0
  refine ⟨a', b', x, y, s, h1, h2, h3, ?_⟩
  have inj : ∀ {a1 b1 s1 : Rat} {x1 y1 : Int}, formD a b c e r = plD a1 b1 x1 y1 s1 → Fit a1 b1 x1 y1 s1 → Fit a' b' x y s := fun {a1 b1 s1 x1 y1} e F => by
    rw [h1] at e
    unfold plD at e
    injection e with e
    injection e with e1 e
    injection e with e2 e
    injection e with e3 _
    injection e1 with e1
    injection e1 with p1 e1
    injection e1 with p2 _
    injection e2 with e2
    injection e2 with p3 e2
    injection e2 with p4 _
    injection p3 with p3
    injection p4 with p4
    rw [numD_inj p1, numD_inj p2, p3, p4, numD_inj e3]
    exact F
  by_cases hd : r = 0 ∨ (c = 0 ∧ e = 0)
  · exact inj (by unfold formD; rw [if_pos hd]) ⟨ha.mono (by decide), hb.mono (by decide), Nat.two_pow_pos _, Nat.two_pow_pos _, bd0 (by decide)⟩
  · have hn : ¬ (c = 0 ∧ e = 0) := fun z => hd (.inr z)
    cases hw : rootQ r with
    | some w =>
      have bw := rootQ_bd hr hw
      exact inj (by unfold formD; rw [if_neg hd, hw]) ⟨(ha.add (hc.mul bw)).mono (by decide), (hb.add (he.mul bw)).mono (by decide), Nat.two_pow_pos _, Nat.two_pow_pos _, bd0 (by decide)⟩
    | none =>
      have bx := hc.x he
      have by' := he.x hc
      have bg := gcd_lt bx by'
      have bf : Bd (60 + 60) (fac (gcdS c e) c e) := fr_bd (Nat.mul_ne_zero c.den_nz e.den_nz) (by rw [Int.natAbs_natCast]; exact bg) (mul_lt hc.2 he.2)
      refine inj (form_cut (fun z => hd (.inl z)) hn hw (cut_of hn)) ⟨ha.mono (by decide), hb.mono (by decide), pow_up (div_lt bx (Int.gcd_dvd_left ..)) (by decide), pow_up (div_lt by' (Int.gcd_dvd_right ..)) (by decide), (hr.mul (bf.mul bf)).mono (by decide)⟩
theorem fit_wf {a b s : Rat} {x y : Int} (F : Fit a b x y s) : Wf 3 (plD a b x y s) := wf_t3 (wf_t2 (wf_num F.a (by decide)) (wf_num F.b (by decide))) (wf_t2 (wf_int (up900 F.x)) (wf_int (up900 F.y))) (wf_num F.r (by decide))
/-! ### shown -/
structure Sm (n W : Nat) (d : PyData) : Prop where
  sh : d.showable = true
  nd : d.hasDict = false
  dp : d.depth ≤ n
  lf : PyData.leavesShort 900 d = true
  wt : d.weight ≤ W
theorem Sm.mono {n W n' W' : Nat} {d : PyData} (h : Sm n W d) (e : n ≤ n') (e' : W ≤ W') : Sm n' W' d := ⟨h.sh, h.nd, Nat.le_trans h.dp e, h.lf, Nat.le_trans h.wt e'⟩
theorem sm_int {i : Int} (h : i.natAbs < 2 ^ 850) : Sm 0 851 (.int i) := by
  have l := PySem.Flt.log2_lt_of (by decide) h
  refine ⟨by simp only [PyData.showable]; exact decide_eq_true (by omega), by simp only [PyData.hasDict], by simp only [PyData.depth]; omega, ?_, ?_⟩
  · simp only [PyData.leavesShort, PyData.shown]
    refine decide_eq_true ?_
    have e := int_text_length_le (a := i) (k := 850) (by decide) l
    show (Str.ofString (toString i)).length ≤ 900
    rw [PySem.ofString_length]
    omega
  · simp only [PyData.weight]
    split <;> omega
theorem sm_bool {b : Bool} : Sm 0 0 (.bool b) := ⟨by simp only [PyData.showable], by simp only [PyData.hasDict], by simp only [PyData.depth]; omega, by simp only [PyData.leavesShort], by simp only [PyData.weight]; omega⟩
theorem sm_none : Sm 0 0 .none := ⟨by simp only [PyData.showable], by simp only [PyData.hasDict], by simp only [PyData.depth]; omega, by simp only [PyData.leavesShort], by simp only [PyData.weight]; omega⟩
theorem sm_t2 {n W V : Nat} {d e : PyData} (h : Sm n W d) (h' : Sm n V e) : Sm (n + 1) (W + V + 2) (.tuple [d, e]) := by
  obtain ⟨a1, a2, a3, a4, a5⟩ := h
  obtain ⟨b1, b2, b3, b4, b5⟩ := h'
  refine ⟨by simp only [PyData.showable, PyData.showableAll, a1, b1, Bool.and_self], by simp only [PyData.hasDict, PyData.hasDictAll, a2, b2, Bool.or_self], ?_, by simp only [PyData.leavesShort, PyData.leavesShortAll, a4, b4, Bool.and_self], ?_⟩
  · simp only [PyData.depth, PyData.depthAll]
    omega
  · simp only [PyData.weight, PyData.weightAll]
    omega
theorem sm_l2 {n W V : Nat} {d e : PyData} (h : Sm n W d) (h' : Sm n V e) : Sm (n + 1) (W + V + 2) (.list [d, e]) := by
  obtain ⟨a1, a2, a3, a4, a5⟩ := h
  obtain ⟨b1, b2, b3, b4, b5⟩ := h'
  refine ⟨by simp only [PyData.showable, PyData.showableAll, a1, b1, Bool.and_self], by simp only [PyData.hasDict, PyData.hasDictAll, a2, b2, Bool.or_self], ?_, by simp only [PyData.leavesShort, PyData.leavesShortAll, a4, b4, Bool.and_self], ?_⟩
  · simp only [PyData.depth, PyData.depthAll]
    omega
  · simp only [PyData.weight, PyData.weightAll]
    omega
theorem sm_t3 {n W V U : Nat} {d e f : PyData} (h : Sm n W d) (h' : Sm n V e) (h'' : Sm n U f) : Sm (n + 1) (W + V + U + 3) (.tuple [d, e, f]) := by
  obtain ⟨a1, a2, a3, a4, a5⟩ := h
  obtain ⟨b1, b2, b3, b4, b5⟩ := h'
  obtain ⟨c1, c2, c3, c4, c5⟩ := h''
  refine ⟨by simp only [PyData.showable, PyData.showableAll, a1, b1, c1, Bool.and_self], by simp only [PyData.hasDict, PyData.hasDictAll, a2, b2, c2, Bool.or_self], ?_, by simp only [PyData.leavesShort, PyData.leavesShortAll, a4, b4, c4, Bool.and_self], ?_⟩
  · simp only [PyData.depth, PyData.depthAll]
    omega
  · simp only [PyData.weight, PyData.weightAll]
    omega
theorem sm_num {q : Rat} (h : Bd 850 q) : Sm 1 1704 (numD q) := by
  unfold numD
  split
  · exact (sm_int h.1).mono (by decide) (by decide)
  · exact sm_t2 (sm_int h.1) (sm_int h.d)
theorem Sm.shw {n W : Nat} {d : PyData} (h : Sm n W d) (hn : n ≤ 20 := by decide) (hW : W ≤ 10000 := by decide) : Shw d := by
  refine ⟨h.sh, h.nd, Nat.le_trans h.dp hn, Nat.le_trans (PyData.shown_le 900 (by decide) d h.lf) ?_⟩
  have e : sizeLine = 16777216 := by decide
  have := h.wt
  rw [e]
  omega
theorem shw_pl {a b s : Rat} {x y : Int} (F : Fit a b x y s) : Shw (plD a b x y s) := (sm_t3 (sm_t2 (sm_num F.a) (sm_num F.b)) ((sm_t2 (sm_int F.x) (sm_int F.y)).mono (n' := 2) (by decide) (Nat.le_refl _)) ((sm_num F.r).mono (n' := 2) (by decide) (Nat.le_refl _))).shw
theorem shw_bb {b c : Bool} : Shw (.list [.bool b, .bool c]) := (sm_l2 sm_bool sm_bool).shw
theorem shw_ap {a b s : Rat} {x y : Int} (F : Fit a b x y s) : Shw (if s = 0 then .tuple [numD a, numD b] else .none) := by
  split
  · exact (sm_t2 (sm_num F.a) (sm_num F.b)).shw
  · exact sm_none.shw
end Pc

set_option Elab.async false
set_option linter.all false
set_option maxRecDepth 100000
set_option maxHeartbeats 4000000
/-! PcH: a caught error kept as a value: it is tracked from the moment it is caught. -/
namespace Pc
open PySem PySem.Spec PyProof.Rows L2
/-- an error of the class C at a, its dict at dx -/
def ErO (C a dx : Addr) : HO := .ext fun h => ∃ (oe : Obj) (vs : Array Value), h.get? a = some oe ∧ Zc (.ref C) (some dx) oe ∧ oe.data = .fields vs
section
variable {X : Cx} {pins : List (Addr × Obj)} {σ : L2.St} {H : Hp} {s : Shared}
/-- what is new since the entry, and was not tracked, is tracked from now on -/
theorem inv_track {a : Addr} {o : HO} (I : Inv X pins σ H s) (n0 : X.s_0.heap.get? a = none) (hn : H a = none) (nL : a ≠ X.env.locals) (nc : ∀ x c, X.env.cells.lookup x = some c → c ≠ a) (np : ∀ p ∈ X.pn ++ pins, p.1 ≠ a)
    (new : ObjOk X.prog X.w (upd H a o) s.heap a o) : Inv X pins σ (upd H a o) s := by
  have old : ∀ b u, X.s_0.heap.get? b = some u → b ≠ a := fun b u e z => by
    rw [z, n0] at e
    cases e
  have tr : ∀ b u, H b = some u → b ≠ a := fun b u e => ne_of_none e hn
  refine ⟨I.ok, I.os, I.bare, ⟨I.base.keep, I.base.slot, fun b u e n x => ?_, I.base.there, fun b xs e => ?_, fun b u xs e => ?_, fun b ps e => ?_⟩, I.loc, I.cell, ?_, fun x c e => ?_, fun p hp => ?_, ?_, I.len⟩
  · rw [upd_ne (old b u e)]
    exact I.base.free b u e n x
  · have q := I.base.tups b xs e
    rwa [upd_ne (tr b _ q)]
  · have q := I.base.frzs b u xs e
    rwa [upd_ne (tr b _ q)]
  · obtain ⟨m, q⟩ := I.base.tbls b ps e
    exact ⟨m, by rwa [upd_ne (tr b _ q)]⟩
  · rw [upd_ne nL.symm]
    exact I.free
  · rw [upd_ne (nc x c e)]
    exact I.freeC x c e
  · obtain ⟨h1, h2, h3⟩ := I.pin p hp
    exact ⟨h1, by rw [upd_ne (np p hp)]; exact h2, h3⟩
  · intro b u e
    by_cases hb : b = a
    · rw [hb, upd_same] at e
      cases e
      rw [hb]
      exact new
    · rw [upd_ne hb] at e
      exact (I.hok b u e).stay (fun c v _ q => q) (fun c q => by rw [upd_ne (tr c _ q)]; exact q) fun c xs q => by rw [upd_ne (tr c _ q)]; exact q
theorem erO_ok {P : Program} {w : World} {H : Hp} {h : Heap} {a C dx : Addr} {oe : Obj} {vs : Array Value} (e : h.get? a = some oe) (z : Zc (.ref C) (some dx) oe) (d : oe.data = .fields vs) : ObjOk P w H h a (ErO C a dx) :=
  ⟨⟨oe, vs, e, z, d⟩, ⟨oe, e⟩, fun _ _ ⟨o, v, q, r⟩ k => ⟨o, v, k o q, r⟩⟩
theorem inv_suiteT (I : Inv X pins σ H s) (a : Addr) : Inv (X.suite a (X.pn ++ pins)) [] σ H s :=
  ⟨I.ok.suite _ _, I.os, I.bare, I.base, I.loc, I.cell, I.free, I.freeC, fun p hp => I.pin p (by rwa [List.append_nil] at hp), I.hok, I.len⟩
theorem inv_outT {a : Addr} (I : Inv (X.suite a (X.pn ++ pins)) [] σ H s) (ok : X.Ok) : Inv X pins σ H s :=
  ⟨ok, I.os, I.bare, I.base, I.loc, I.cell, I.free, I.freeC, fun p hp => I.pin p (by rw [List.append_nil]; exact hp), I.hok, I.len⟩
end
/-- what 'except x as n: suite' wishes of an error that it takes -/
def wT (K : PySem.W.Frag) (c : Value) (i : Nat) (ts : Addr → TS) (D : Ends) : WX := fun cls d σ H =>
  ∃ C dx, cls = .ref C ∧ d = some dx ∧ PySem.W.exmOne K cls c = some true ∧ ∀ a, H a = none → ts a { nx := fun σ' H' => D.nx (σ'.set i none) H', rt := fun _ _ => False, bk := fun _ _ => False, ct := fun _ _ => False } (σ.set i (some (.ref a))) (upd H a (ErO C a dx))
section
variable {X : Cx} {x n : Str} {c : Value} {i : Nat} {body suite : List Stmt} {b₀ : Stmt} {np pos pos' : Pos} {tb : WX → TS} {ts : Addr → TS}
theorem ps_tryT (hs : X.stack = X.env :: X.outer) (hf : X.env.frame = some X.env.locals) (hex : X.ex = []) (hN : X.N.Nodup) (hi : X.N[i]? = some n) (hln : X.env.kindOf n = some .local) (hc : Names X x c)
    (hb : ∀ (W : WX) (pn : List (Addr × Obj)) (xe : Value → Shared → Prop), Takes (X.tr pn xe) W → PassesOwn (model X.prog X.w) X.A X.env xe → PSs (X.tr pn xe) body (tb W))
    (hsu : ∀ (a : Addr) (pn : List (Addr × Obj)), PSs (X.suite a pn) (b₀ :: suite) (ts a)) :
    PS X (.Try body [.ExceptHandler (some (.Name x np)) (some n) (b₀ :: suite) pos'] [] [] pos) (fun D σ H => tb (wT X.K c i ts D) D σ H) := by
  refine ⟨fun pins s σ H D I h => ?_⟩
  have ok := I.ok
  have fr0 : X.A.frames = some (X.env :: X.outer) := by rw [ok.frames, hs]
  have caught : ∀ u s', XE (X.tr (X.pn ++ pins) (fun _ _ => True)) (wT X.K c i ts D) u s' → wpAny (model X.prog X.w) X.A (noteFrame u X.env) (fun _ s₂ => wpAny (model X.prog X.w) X.A (setFlight u none)
      (fun _ s₃ => wpAny (model X.prog X.w) X.A (handleBy u X.env [.ExceptHandler (some (.Name x np)) (some n) (b₀ :: suite) pos']) (SP X pins D) X.xe s₃) X.xe s₂) X.xe s' := by
    rintro u s' ⟨a, B, sI, ps', σ', H', cls, d, rfl, J', nb, up, sky, na, os, ag, C, dx, rfl, rfl, hm, yes⟩
    have J : Inv X pins σ' H' sI := ⟨ok, J'.os, J'.bare, J'.base, J'.loc, J'.cell, J'.free, J'.freeC, fun p hp => J'.pin p (List.mem_append_left _ hp), J'.hok, J'.len⟩
    have sky2 : Sky B (X.env :: X.outer) a (Zc (.ref C) (some dx)) X.env.locals s'.heap := by rw [← hs]; exact sky
    refine Sky.land Zc.steady fr0 hf sky2 fun h3 fl up3 => ?_
    have J3 := (J.landed nb fl.1 (up.trans up3) os ag : Inv X pins σ' H' { s' with heap := h3 })
    obtain ⟨o3, v3, e3, z3, d3⟩ := fl.there
    have out : a ∉ frs (X.env :: X.outer) := fun hm => by
      obtain ⟨_, o', e', hnf⟩ := fl.2.2.1.mem hm
      rw [e3] at e'
      cases e'
      exact hnf _ d3
    have notL : a ≠ X.env.locals := fun z => out (List.mem_filterMap.mpr ⟨X.env, List.mem_cons_self, by rw [hf, z]⟩)
    have LT : PySem.W.Looks (model X.prog X.w) h3 (typeOf (.ref a)) (.ref C) := fun A Q E s k q => wpAny_typeOf_ref (k _ _ e3) (by rw [z3.1]; exact q)
    have LM := PySem.W.exm_one (M := model X.prog X.w) J3.kIn LT hm
    refine wpAny_handleBy_cons (codeAny_handlers_test ?_) (fun z => by cases z)
    have test : ∀ {Q E : Value → Shared → Prop}, Q c { s' with heap := h3 } → wpAny (model X.prog X.w) (X.A.mark (some (.ref a))) (eval (.Name x np) X.env) Q E { s' with heap := h3 } := fun {Q E} q => by
      obtain ⟨hg, hdbg, y | ⟨y1, y2, y3⟩⟩ := hc
      · exact ld_glob (X := X.suite a (X.pn ++ pins)) (inv_suiteT J3 a) hg y q hdbg
      · exact ld_blt (X := X.suite a (X.pn ++ pins)) (inv_suiteT J3 a) hg y1 y2 q y3 hdbg
    refine test (LM.here (codeAny_handlers_suite_as (HandSPX.lands_againZ fl fun h4 fl4 up4 => ?_)))
    have J4 := (J.landed nb fl4.1 ((up.trans up3).trans up4) os ag : Inv X pins σ' H' { s' with heap := h4 })
    obtain ⟨o4, v4, e4, z4, d4⟩ := fl4.there
    have Bn : B.get? a = none := by
      have q := fl4.2.1
      exact q
    have sn : sI.heap.get? a = none := by
      cases q : sI.heap.get? a with
      | none => rfl
      | some o =>
        have z := nb a o q (by rw [hs]; exact out)
        rw [Bn] at z
        cases z
    have n0 : X.s_0.heap.get? a = none := by
      cases q : X.s_0.heap.get? a with
      | none => rfl
      | some o =>
        obtain ⟨o', z⟩ := J.base.there a o q (by rw [hex]; exact fun z => nomatch z)
        rw [sn] at z
        cases z
    have J5 : Inv X pins σ' (upd H' a (ErO C a dx)) { s' with heap := h4 } := inv_track J4 n0 na notL (fun y c' e z => by
      obtain ⟨v, o, ho, _⟩ := J.cell y c' e
      rw [z, sn] at ho
      cases ho) (fun p hp z => by
      have q := (J.pin p hp).1
      rw [z, sn] at q
      cases q) (erO_ok e4 z4 d4)
    refine store_ok (X := X.suite a (X.pn ++ pins)) (v := .ref a) (inv_suiteT J5 a) hN hi (.inl hln) rfl (fun s5 S5 => ?_) (.inr hln)
    refine wpAny_mono ((hsu a (X.pn ++ pins)).run [] s5 _ _ _ S5 (yes a na)) (fun f s6 r6 => ?_) (fun _ _ z => z.elim)
    cases f with
    | next =>
      obtain ⟨σ6, H6, S6, q6⟩ := r6
      exact gone_ok (inv_outT S6 ok) hN hi hln fun s7 J7 => ⟨_, _, J7, q6⟩
    | brk => exact (let ⟨_, _, _, z⟩ := r6; z : False).elim
    | cont => exact (let ⟨_, _, _, z⟩ := r6; z : False).elim
    | ret u => exact (let ⟨_, _, _, _, _, z⟩ := r6; z : False).elim
  refine wpAny_Try_except (wpAny_mono ((hb _ (X.pn ++ pins) _ (fun u s' xx => caught u s' ?_) PassesOwn.looking).run [] s σ H D (I.toTry _) h) (fun f s1 r => ?_) fun e s1 he => he)
  · obtain ⟨a, B, sI, ps', σ', H', cls, d, e1, J', r⟩ := xx
    exact ⟨a, B, sI, ps', σ', H', cls, d, e1, ⟨J'.ok.ofTry.toTry _ _, J'.os, J'.bare, J'.base, J'.loc, J'.cell, J'.free, J'.freeC, J'.pin, J'.hok, J'.len⟩, r⟩
  · have back : ∀ {xe : Value → Shared → Prop} {σ' : L2.St} {H' : Hp}, Inv (X.tr (X.pn ++ pins) xe) [] σ' H' s1 → Inv X pins σ' H' s1 := fun J => J.ofTry ok
    cases f with
    | next => exact let ⟨σ', H', J', q⟩ := r; wpAny_execs_nil ⟨σ', H', back J', q⟩
    | brk => exact let ⟨σ', H', J', q⟩ := r; ⟨σ', H', back J', q⟩
    | cont => exact let ⟨σ', H', J', q⟩ := r; ⟨σ', H', back J', q⟩
    | ret u => exact let ⟨v, σ', H', J', r', q⟩ := r; ⟨v, σ', H', back J', r', q⟩
end
/-! ### isinstance and the field -/
/-- isinstance(e, c), e a tracked error -/
def rIsT (K : PySem.W.Frag) : List V → Hp → VK → Prop := fun xs H Q => ∃ (a C dx : Addr) (fs : List (Str × V)) (c : V) (cv : Value) (b : Bool), xs = [.ref a, c] ∧ ExcC K C ∧ H a = some (ErO C a dx) ∧ H dx = some (.xd fs) ∧ (∀ u, RelV c u → u = cv) ∧ PySem.W.kitOne K (.ref C) cv = some b ∧ Q (.bl b) H
theorem inst_of {X : Cx} {pins : List (Addr × Obj)} {σ : L2.St} {H : Hp} {s : Shared} {a C dx : Addr} {fs : List (Str × V)} (I : Inv X pins σ H s) (ha : H a = some (ErO C a dx)) (hd : H dx = some (.xd fs)) :
    ∃ ox od, PySem.W.InstAt s.heap a ox C (some od) ∧ ∀ f v, fs.lookup f = some v → ∃ u, RelV v u ∧ PySem.W.lookIn f od = some (some u) := by
  obtain ⟨⟨oe, vs, h1, h2, h3⟩, _, _⟩ := I.hok a _ ha
  have hx : ObjOk X.prog X.w H s.heap dx (.xd fs) := I.hok dx _ hd
  obtain ⟨mA, hns, hr⟩ := hx
  obtain ⟨od, ho, hl⟩ := lookIn_ns hns
  refine ⟨oe, od, ⟨h1, h2.1, by unfold PySem.W.notCls; rw [h3] <;> rfl, by rw [h2.2]; exact ho⟩, fun f v e => ?_⟩
  obtain ⟨u, hu, ru⟩ := RelO.some_of (v := v) (o := mA f) (by rw [← e]; exact hr f)
  exact ⟨u, ru, by rw [hl, hu]⟩
theorem call_isT {X : Cx} : CallR X (.builtin "isinstance") (rIsT X.K) := by
  intro pins s σ H xs us Q I r h
  obtain ⟨a, C, dx, fs, c, cv, b, rfl, T, ha, hd, hcv, e, q⟩ := h
  obtain ⟨u1, u2, rfl, r1, r2⟩ := vals2 r
  obtain rfl := hcv _ r2
  cases (show u1 = Value.ref a from r1)
  obtain ⟨ox, od, J, _⟩ := inst_of I ha hd
  exact PySem.W.kia_one (PySem.W.kitx_exc (by obtain ⟨cd, hc, _⟩ := PySem.W.any_some T.hd; rw [hc]; rfl) T.hg T.hk T.hs T.ha T.hn T.ht T.hm) I.kIn J e (fun z => nomatch z) fun tk => ⟨.bl b, H, I.tok tk, rfl, q⟩
/-- e.f, e a tracked error -/
def tEf (K : PySem.W.Frag) (f : Str) (te : TE) : TE := fun σ H Q => te σ H fun x H1 => ∃ (a C dx : Addr) (fs : List (Str × V)) (v : V), x = .ref a ∧ XfC K C ∧ PySem.W.findIn K (.ref C) f = some none ∧ H1 a = some (ErO C a dx) ∧ H1 dx = some (.xd fs) ∧ fs.lookup f = some v ∧ Q v H1
theorem pe_ef {X : Cx} {e : Expr} {te : TE} {pos : Pos} {n : Str} (he : PE X e te) (hb : attributeBase e n X.env (eval e X.env) = eval e X.env := by rfl) : PE X (.Attribute e n pos) (tEf X.K n te) := by
  refine ⟨fun pins s σ H Q I h => attr_of hb (thn (he.run pins s σ H _ I h) fun u s1 hh => ?_)⟩
  obtain ⟨x, H1, I1, rx, a, C, dx, fs, v, rfl, T, no, ha, hd, l, q⟩ := hh
  cases (show u = Value.ref a from rx)
  obtain ⟨ox, od, J, lk⟩ := inst_of I1 ha hd
  obtain ⟨w', ru, hl⟩ := lk n v l
  exact HandSPX.exc_get I1.kIn J T.ga T.gg T.exC (PySem.W.findObj_own T.hdC no rfl hl) (handed_of ru) ⟨v, H1, I1.tok _, ru, q⟩
end Pc

set_option Elab.async false
set_option linter.all false
set_option maxRecDepth 100000
set_option maxHeartbeats 4000000
/-! PcL: a lambda (with or without defaults) made in a def, handed on, called two defs deeper. -/
namespace Pc
open PySem PySem.Spec PyProof.Rows L2
open LamX (CodeO TabS TabB ExtN lamEnv lamCx)
/-- what a lambda looks like where it stands -/
def LamAt (h : Heap) (H : Hp) (f : Addr) (q : Str) (params : Arguments) (body : Expr) (scope : Scope) (cl : List (Str × Addr)) (dvs : List Value) (c' : Addr) : Prop :=
  ∃ (dV doc pm ctv : Value) (o : Obj), H f = none ∧ h.get? f = some o ∧ o.data = .func (PySem.W.kdv_fn "<lambda>" q params (.expr body) scope cl dV doc pm (.ref c') ctv) ∧
    ((dvs = [] ∧ dV = .none) ∨ ∃ t : Addr, dV = .ref t ∧ H t = none ∧ h.get? t = some (PySem.W.kdv_tup dvs))
section
variable {X : Cx} {pins : List (Addr × Obj)} {σ : L2.St} {H : Hp} {s : Shared}
theorem lam_tail {c P : Addr} {params : Arguments} {body : Expr} {scope : Scope} {pos : Pos} {dV : Value} {E Q : Value → Shared → Prop} (I : Inv X pins σ H s) (TB : TabB X.base X.mg c P) (hcode : X.env.code = .ref c)
    (hT : TabS H P (X.env.qual ++ "<lambda>")) (hfree : ∀ y ∈ scope.names, y.2 = .free → ∃ c, X.env.cells.lookup y.1 = some c)
    (h : ∀ (f c' : Addr) (pm doc ctv : Value) (H1 : Hp) (s' : Shared), Inv X pins σ H1 s' → (∀ b o, b ≠ P → s.heap.get? b = some o → s'.heap.get? b = some o) → Xo [P] H H1 → (∀ b, H b = none → b < s.heap.objs.size → H1 b = none) → s.heap.objs.size ≤ f → TabS H1 P (X.env.qual ++ "<lambda>") →
      s'.heap.get? f = some { cls := .type "function", data := .func (PySem.W.kdv_fn "<lambda>" (X.env.qual ++ "<lambda>") params (.expr body) scope (cloFrom X.env.cells scope.names []) dV doc pm (.ref c') ctv) } → H1 f = none → H1 c' = some (CodeO c' (X.env.qual ++ "<lambda>")) → Q (.ref f) s') :
    wpAny (model X.prog X.w) X.A (makeTail "<lambda>" (X.env.qual ++ "<lambda>") params (.expr body) scope X.env dV .none none pos pos.line) Q E s := by
  obtain ⟨ps, hP, ht, ha⟩ := hT
  have bP := TB.bm.keeps I.bk
  have cP := TB.code.keeps I.bk
  have gl := I.mod.glob.keeps I.bk
  have at_P : s.heap.get? P = some { cls := .none, data := .fields ps } := I.hok P _ hP
  cases hc : codeAmong pos ps.toList with
  | none =>
    refine PySem.W.kdv_makeTail (mg := X.mg) (c := c) (P := P) (ps := ps) (closure_ok hfree) I.ok.glob gl hcode cP at_P ht hc TB.gP bP fun c' ctv doc h' tk hx hge hlt hrec htb => ?_
    obtain ⟨_, oc, vs, t, e2, hoc, hd, hv⟩ := hrec
    cases e2
    have hsz : s.heap.objs.size ≤ h'.objs.size := Nat.le_trans hge (Nat.le_of_lt hlt)
    have nC : H c' = none := I.hok.fresh hge
    have I1 := LamX.inv_table (t' := tk) (more := #[rawInt pos.line, rawInt pos.col, .ref c']) (h' := h'.push { cls := .type "function", data := .func (PySem.W.kdv_fn "<lambda>" (X.env.qual ++ "<lambda>") params (.expr body) scope (cloFrom X.env.cells scope.names []) dV doc ((X.mg "__name__").getD .none) (.ref c') ctv) }) I hP
      (fun b o hb e => Heap.get?_push_of_some _ (hx b o hb e)) (Heap.get?_push_of_some _ htb) hge ⟨oc, vs, t, Heap.get?_push_of_some _ hoc, hd, hv⟩
    have same : ∀ b, b ≠ P → b ≠ c' → upd (upd H P (.tbl (ps ++ #[rawInt pos.line, rawInt pos.col, .ref c']))) c' (CodeO c' (X.env.qual ++ "<lambda>")) b = H b := fun b h1 h2 => by rw [upd_ne h2, upd_ne h1]
    have hE : ExtN H (upd (upd H P (.tbl (ps ++ #[rawInt pos.line, rawInt pos.col, .ref c']))) c' (CodeO c' (X.env.qual ++ "<lambda>"))) := fun b o e n => by
      rw [same b (fun z => n ps (Option.some.inj (e.symm.trans (by rw [z]; exact hP)))) (ne_of_none e nC)]
      exact e
    have eL : (ps ++ #[rawInt pos.line, rawInt pos.col, .ref c']).toList = ps.toList ++ [rawInt pos.line, rawInt pos.col, .ref c'] := by simp
    have nP : ∀ b, H b = none → b ≠ P := fun b e z => by
      rw [z, hP] at e
      cases e
    refine h h'.objs.size c' _ doc ctv _ _ I1 (fun b o hb e => Heap.get?_push_of_some _ (hx b o hb e)) (fun b o e => by
      by_cases hb : b ∈ [P]
      · rw [off_self hb] at e
        cases e
      · rw [off_at hb] at e ⊢
        rw [same b (fun z => hb (List.mem_singleton.mpr z)) (ne_of_none e nC)]
        exact e) (fun b e n => by rw [same b (nP b e) (Nat.ne_of_lt (Nat.lt_of_lt_of_le n hge))]; exact e) hsz ?_ (Heap.get?_push_size _ rfl) ?_ upd_same
    · refine ⟨_, by rw [upd_ne (ne_of_none hP nC), upd_same], by rw [eL]; exact PySem.TriplesOk_snoc _ _ _ _ ht, fun p' cv hcv => ?_⟩
      rw [eL] at hcv
      rcases LamX.among_app _ ht hcv with z | z
      · obtain ⟨c0, e1, e2⟩ := ha p' cv z
        exact ⟨c0, e1, hE _ _ e2 LamX.codeO_ne⟩
      · exact ⟨c', z, upd_same⟩
    · have q := I.hok.fresh hsz
      rw [same _ (nP _ q) (Nat.ne_of_gt hlt)]
      exact q
  | some cv =>
    obtain ⟨c', rfl, hco⟩ := ha pos cv hc
    refine PySem.W.kdv_makeTailHit (mg := X.mg) (c := c) (P := P) (ps := ps) (closure_ok hfree) I.ok.glob gl hcode cP at_P ht hc bP fun ctv doc h' tk hx hsz => ?_
    exact h h'.objs.size c' _ doc ctv H _ (I.kept (t' := tk) fun b o e => Heap.get?_push_of_some _ (hx b o e)) (fun b o _ e => Heap.get?_push_of_some _ (hx b o e)) Xo.refl (fun b e _ => e) hsz ⟨ps, hP, ht, ha⟩ (Heap.get?_push_size _ rfl) (I.hok.fresh hsz) hco
/-- what is known behind the making: f the lambda, c' its code object -/
def Made (X : Cx) (pins : List (Addr × Obj)) (σ : L2.St) (H : Hp) (P : Addr) (params : Arguments) (body : Expr) (scope : Scope) (dn : List Int) (Q : Value → Shared → Prop) : Prop :=
  ∀ (f c' : Addr) (H1 : Hp) (s' : Shared) (dvs : List Value), Inv X pins σ H1 s' → Xo [P] H H1 → TabS H1 P (X.env.qual ++ "<lambda>") → IntsAre dvs dn → LamAt s'.heap H1 f (X.env.qual ++ "<lambda>") params body scope (cloFrom X.env.cells scope.names []) dvs c' → H1 c' = some (CodeO c' (X.env.qual ++ "<lambda>")) → Q (.ref f) s'
theorem lam_make0 {c P : Addr} {params : Arguments} {body : Expr} {scope : Scope} {pos : Pos} {E Q : Value → Shared → Prop} (I : Inv X pins σ H s) (TB : TabB X.base X.mg c P) (hcode : X.env.code = .ref c)
    (hT : TabS H P (X.env.qual ++ "<lambda>")) (hfree : ∀ y ∈ scope.names, y.2 = .free → ∃ c, X.env.cells.lookup y.1 = some c) (hdef : defaultsOf params X.env = ([], []))
    (h : Made X pins σ H P params body scope [] Q) : wpAny (model X.prog X.w) X.A (eval (.Lambda params body scope pos) X.env) Q E s := by
  refine PySem.W.kla_eval hdef ?_
  rw [makeFunction_eq]
  simp only [List.zip_nil_right, List.filterMap_nil, List.isEmpty_nil, if_true, pure_bind]
  exact lam_tail I TB hcode hT hfree fun f c' pm doc ctv H1 s' J _ x _ _ T at_ n co => h f c' H1 s' [] J x T .nil ⟨_, doc, pm, ctv, _, n, at_, rfl, .inl ⟨rfl, rfl⟩⟩ co
theorem lam_make1 {c P : Addr} {params : Arguments} {body : Expr} {scope : Scope} {pos p1 : Pos} {i : Int} {j : Nat} {E Q : Value → Shared → Prop} (I : Inv X pins σ H s) (TB : TabB X.base X.mg c P) (hcode : X.env.code = .ref c)
    (hT : TabS H P (X.env.qual ++ "<lambda>")) (hfree : ∀ y ∈ scope.names, y.2 = .free → ∃ c, X.env.cells.lookup y.1 = some c) (hd : params.defaults = [.Constant (.int i) j p1]) (hk : params.kw_defaults = [])
    (h : Made X pins σ H P params body scope [i] Q) : wpAny (model X.prog X.w) X.A (eval (.Lambda params body scope pos) X.env) Q E s := by
  refine PySem.W.kdv_lam (by rw [hd]; rfl) hk ?_
  rw [hd]
  refine PySem.W.kdv_all1 (wpAny_Constant_int (PySem.W.kdv_all0 ?_))
  rw [makeFunction_eq]
  simp only [List.zip_nil_right, List.filterMap_nil, List.isEmpty_nil, if_true, pure_bind, List.isEmpty_cons, Bool.false_eq_true, if_false]
  refine wpAny_bind (wpAny_newTextTuple ?_)
  have I2 := I.kept (t' := s.toks + 1) (h' := s.heap.push (PySem.W.kdv_tup [.int i s.toks])) fun b o e => Heap.get?_push_of_some _ e
  refine lam_tail I2 TB hcode hT hfree fun f c' pm doc ctv H1 s' J kp x nn _ T at_ n co => ?_
  have ht : (s.heap.push (PySem.W.kdv_tup [.int i s.toks])).get? s.heap.objs.size = some (PySem.W.kdv_tup [.int i s.toks]) := Heap.get?_push_size _ rfl
  have nt : H s.heap.objs.size = none := I.hok.fresh (Nat.le_refl _)
  have nP : s.heap.objs.size ≠ P := fun z => by
    obtain ⟨ps, hP, _⟩ := hT
    rw [z, hP] at nt
    cases nt
  exact h f c' H1 s' _ J x T (.cons i s.toks .nil) ⟨_, doc, pm, ctv, _, n, at_, rfl, .inr ⟨_, rfl, nn _ nt (Heap.lt_size ht), kp _ _ nP ht⟩⟩ co
/-! ### calling it -/
/-- no cell of its own; its own names are not the maker's -/
structure LamD (sc scope : Scope) (N : List Str) : Prop where
  kind : scope.kind = .function
  co : scope.isCoroutine = false
  gen : scope.isGenerator = false
  own : ∀ y ∈ scope.names, y.2 ≠ .cell ∧ (y.2 = .local → y.1 ∉ N)
  free : ∀ y ∈ scope.names, y.2 = .free → sc.names.lookup y.1 = some .cell
def lamDB (sc scope : Scope) (N : List Str) : Bool :=
  decide (scope.kind = .function) && !scope.isCoroutine && !scope.isGenerator && scope.names.all fun y => !decide (y.2 = .cell) && (!decide (y.2 = .local) || !N.contains y.1) && (!decide (y.2 = .free) || decide (sc.names.lookup y.1 = some .cell))
theorem lamD_by {sc scope : Scope} {N : List Str} (h : lamDB sc scope N = true) : LamD sc scope N := by
  unfold lamDB at h
  simp only [Bool.and_eq_true, Bool.or_eq_true, Bool.not_eq_true', decide_eq_true_eq, decide_eq_false_iff_not, List.all_eq_true] at h
  obtain ⟨⟨⟨h1, h2⟩, h3⟩, h4⟩ := h
  refine ⟨h1, h2, h3, fun y hy => ⟨(h4 y hy).1.1, fun e => ?_⟩, fun y hy e => ?_⟩
  · rcases (h4 y hy).1.2 with z | z
    · exact absurd e z
    · simpa using z
  · rcases (h4 y hy).2 with z | z
    · exact absurd e z
    · exact z
theorem LamD.has {scope : Scope} (L : LamD X.env.scope scope X.N) (ok : X.Ok) : ∀ y ∈ scope.names, y.2 = .free → ∃ c, X.env.cells.lookup y.1 = some c := fun y hy e => ok.has _ (.inl (L.free y hy e))
theorem lam_enter {A : Around} {outer : List Env} {E : XK} {scope : Scope} {f c' : Addr} {h₁ : Heap} {tk : Nat} {FS : List Addr} {HZ : Hp} {s1 : Shared} {binds : List (Str × Value)} (I : Inv X pins σ H s) (L : LamD X.env.scope scope X.N) (e0 : Env0 X.prog X.w X.K X.mg X.base A outer s1 HZ)
    (hd : A.handled = none) (un : Un FS [] H HZ s.heap s1.heap) (hns : h₁.Ns s1.heap.objs.size fun y => binds.reverse.lookup y) (kp : ∀ b o, s1.heap.get? b = some o → h₁.get? b = some o) :
    Inv (lamCx X A outer s1 HZ E scope f c') [] σ HZ { s1 with heap := h₁, toks := tk } := by
  have hfree := L.has I.ok
  have cm : ∀ {y c}, (cloFrom X.env.cells scope.names []).lookup y = some c → X.env.cells.lookup y = some c := fun {y c} e => by
    rcases cloFrom_mem (PySem.mem_of_lookup e) with hm | ⟨h1, h2⟩
    · cases hm
    · obtain ⟨c1, hc⟩ := hfree _ h1 rfl
      rw [show c = c1 from h2.trans (by rw [show X.env.cells.lookup y = some c1 from hc] <;> rfl)]
      exact hc
  have cellK : ∀ {c : Addr} {v : Option Value}, H c = none → s.heap.IsCell c v → h₁.IsCell c v := fun {c v} n ⟨o, ho, hd⟩ => let ⟨sl, q⟩ := un.any ho n (fun z => nomatch z); ⟨_, kp _ _ q, hd⟩
  have isFree : ∀ {y}, (lamCx X A outer s1 HZ E scope f c').env.scope.names.lookup y = some .cell ∨ (lamCx X A outer s1 HZ E scope f c').env.scope.names.lookup y = some .free → scope.names.lookup y = some .free := fun {y} h => by
    rcases h with h | h
    · exact absurd rfl (L.own _ (PySem.mem_of_lookup h)).1
    · exact h
  have look : ∀ {y}, scope.names.lookup y = some .free → ∃ c, (cloFrom X.env.cells scope.names []).lookup y = some c := fun {y} hl => mem_lookup (cloFrom_has (cells := X.env.cells) (acc := []) (show (y, NameKind.free) ∈ scope.names from PySem.mem_of_lookup hl))
  have noA : ∀ b : Addr, b ∉ (lamCx X A outer s1 HZ E scope f c').ex := fun b z => nomatch (show b ∈ ([] : List Addr) from z)
  have ok : (lamCx X A outer s1 HZ E scope f c').Ok := ⟨e0.mod, L.kind, rfl, rfl, Nat.le_refl _, fun y z c e1 e2 => I.ok.inj y z c (cm e1) (cm e2), fun y hy => look (isFree hy), fun y c z _ => (nomatch (show false = true from z)), fun _ => hd, Around.frames_deeper e0.frames, .inr ⟨rfl, rfl⟩,
    fun b z => absurd z (noA b), e0.bs, e0.bsz, fun b _ _ => noA b, fun b z => absurd z (noA b), e0.funs, e0.frf⟩
  refine ⟨ok, rfl, e0.bare, Un.kept kp, ⟨_, hns, fun i y v e1 e2 e3 => ?_⟩, fun y c e => ?_, e0.hok.fresh (Nat.le_refl _), fun y c e => ?_, fun q hq => (nomatch (show q ∈ ([] : List (Addr × Obj)) from hq)), e0.hok.kept kp, I.len⟩
  · have e4 : Vis scope y := e3
    rcases e4 with k | k
    · exact absurd (List.mem_of_getElem? e1) ((L.own _ (PySem.mem_of_lookup k)).2 rfl)
    · have k := isFree k
      obtain ⟨m, hn, hl⟩ := I.loc
      have kc : X.env.scope.names.lookup y = some .cell := L.free _ (PySem.mem_of_lookup k) rfl
      obtain ⟨w', r, q⟩ := hl i y v e1 e2 (.inr (.inl kc))
      obtain ⟨c2, h2⟩ := look k
      refine ⟨w', r, .inr ⟨.inr k, c2, h2, ?_⟩⟩
      rcases q with ⟨k', _⟩ | ⟨_, c3, e', z⟩
      · have k' : X.env.scope.names.lookup y = some .local := k'
        rw [kc] at k'
        cases k'
      · rw [cm h2] at e'
        cases e'
        exact cellK (I.freeC y _ (cm h2)) z
  · obtain ⟨w', z⟩ := I.cell y c (cm e)
    exact ⟨w', cellK (I.freeC y c (cm e)) z⟩
  · obtain ⟨v, o, ho, hd⟩ := I.cell y c (cm e)
    exact un.free c o ho (I.freeC y c (cm e)) (fun z => nomatch z)
/-- f may be called without arguments, whenever what stood still stands; tl: what its body reads -/
structure Thunk (P : Program) (w : World) (K : PySem.W.Frag) (mg : Str → Option Value) (base : Heap) (q : Str) (k : Nat) (f c' : Addr) (tl : XK → Hp → VK → Prop) (H : Hp) (s : Shared) : Prop where
  fn : H f = none ∧ ∃ (o : Obj) (fd : FuncData), s.heap.get? f = some o ∧ o.data = .func fd
  run : ∀ (A : Around) (outer : List Env) (FS : List Addr) (HZ : Hp) (sZ : Shared) (Q : VK) (E : XK), Room (k + 1) A → Env0 P w K mg base A outer sZ HZ → Un FS [] H HZ s.heap sZ.heap → HZ c' = some (CodeO c' q) → tl E HZ Q →
    codeAny (model P w) A (.call (.ref f) ⟨[], []⟩) (CR (L2.CX P w) outer P w HZ sZ Q E) sZ
theorem thunk_of {q : Str} {k : Nat} {f c' : Addr} {params : Arguments} {body : Expr} {scope : Scope} {dvs : List Value} {tb : XK → TE} {bn : List (Str × Value)} (I : Inv X pins σ H s) (L : LamD X.env.scope scope X.N) (hl : LamAt s.heap H f q params body scope (cloFrom X.env.cells scope.names []) dvs c') (hq : q = X.env.qual ++ "<lambda>")
    (hb0 : ∀ doc pm cv ctv, dvs = [] → bindArgs (PySem.W.kdv_fn "<lambda>" q params (.expr body) scope (cloFrom X.env.cells scope.names []) .none doc pm cv ctv) ⟨[], []⟩ = pure bn)
    (hb1 : ∀ (doc pm cv ctv : Value) (t : Addr), ∃ kk, bindArgs (PySem.W.kdv_fn "<lambda>" q params (.expr body) scope (cloFrom X.env.cells scope.names []) (.ref t) doc pm cv ctv) ⟨[], []⟩ = seqItems? (.ref t) >>= kk ∧ kk (some dvs.toArray) = pure bn)
    (hloc : ∀ y ∈ bn, scope.names.lookup y.1 = some .local)
    (hbody : ∀ (A : Around) (outer : List Env) (s : Shared) (H : Hp) (E : XK), Room k (A.deeper (lamEnv X scope s.heap.objs.size f c')) → PE (lamCx X A outer s H E scope f c') body (tb E)) {tl : XK → Hp → VK → Prop} (htl : ∀ E HZ Q, tl E HZ Q → tb E σ HZ Q) :
    Thunk X.prog X.w X.K X.mg X.base q k f c' tl H s := by
  obtain ⟨dV, doc, pm, ctv, o, nf, ho, hd, hdv⟩ := hl
  refine ⟨⟨nf, o, _, ho, hd⟩, fun A outer FS HZ sZ Q E hr e0 un hc ht => ?_⟩
  obtain ⟨sl, ho1⟩ := un.any ho nf (fun z => nomatch z)
  obtain ⟨⟨oc, vs, t, hoc, hdc, hvc⟩, _, _⟩ := e0.hok c' _ hc
  have bt : BindsTo sZ (PySem.W.kdv_fn "<lambda>" q params (.expr body) scope (cloFrom X.env.cells scope.names []) dV doc pm (.ref c') ctv) ⟨[], []⟩ bn := by
    rcases hdv with ⟨d1, rfl⟩ | ⟨t, rfl, nt, ht⟩
    · exact BindsTo.of_eq (hb0 _ _ _ _ d1)
    · obtain ⟨sl2, ht2⟩ := un.any ht nt (fun z => nomatch z)
      obtain ⟨kk, k1, k2⟩ := hb1 doc pm (.ref c') ctv t
      exact BindsTo.of_defaults (T := t) rfl ht2 rfl k1 k2
  refine PySem.W.kla_callFunE hr.depth ho1 hd L.co L.gen rfl ⟨c', oc, vs, t, rfl, hoc, hdc, hvc⟩ (bt _ _ _ _ ?_)
  subst hq
  refine wpAny_newFunctionEnv (fun y hy => (L.own y hy).1) hloc (fun h₁ hns hsb => ⟨(e0.mod.nolimit.keeps fun b o e => (e0.bs b o e).1).fresh _ hsb, ?_⟩) L.kind
  have kp : ∀ b o, sZ.heap.get? b = some o → h₁.get? b = some o := fun b o e => hsb.extBut b o (Nat.ne_of_lt (Heap.lt_size e)) (Heap.get?_push_of_some _ e)
  have J := lam_enter (E := E) (f := f) (c' := c') (tk := sZ.toks + bn.length) I L e0 hr.hd un hns kp
  refine PySem.W.kla_codeExpr (wpAny_mono ((hbody A outer sZ HZ E (hr.deeper _)).run [] _ _ HZ Q J (htl _ _ _ ht)) (fun v s' hq => ?_) fun e s' hq => hq)
  obtain ⟨w', H', J', rv, q⟩ := hq
  exact ⟨w', H', J'.os, J'.bare, J'.base, J'.hok, rv, q⟩
end
end Pc

set_option Elab.async false
set_option linter.all false
set_option maxRecDepth 100000
set_option maxHeartbeats 4000000
/-! PcS: what is heard of a lambda, and what is said of it. -/
namespace Pc
open PySem PySem.Spec PyProof.Rows L2
open LamX (CodeO)
open Evl (Ex)
theorem un_join {f1 f2 : List Addr} {H H1 H2 : Hp} {h h1 h2 : Heap} (a : Un f1 [] H H1 h h1) (b : Un f2 [] H1 H2 h1 h2) : Un (f1 ++ f2) [] H H2 h h2 where
  keep := fun c ob q n hc hx => b.keep c ob (a.keep c ob q n (fun z => hc (List.mem_append_left _ z)) hx) (a.free c ob q n hx) (fun z => hc (List.mem_append_right _ z)) hx
  slot := fun c ob q n hc hx => by
    obtain ⟨sl, e1⟩ := a.any q n hx
    obtain ⟨sl', e2⟩ := b.any e1 (a.free c ob q n hx) hx
    exact ⟨sl', e2⟩
  free := fun c ob q n hx => by
    obtain ⟨o', e1⟩ := a.there c ob q hx
    exact b.free c o' e1 (a.free c ob q n hx) hx
  there := fun c ob q hx => by
    obtain ⟨o', e1⟩ := a.there c ob q hx
    exact b.there c o' e1 hx
  tups := fun c xs q => b.tups c xs (a.tups c xs q)
  frzs := fun c o u q => b.frzs c o u (a.frzs c o u q)
  tbls := fun c ps q => by
    obtain ⟨m1, e1⟩ := a.tbls c ps q
    obtain ⟨m2, e2⟩ := b.tbls c _ e1
    exact ⟨m1 ++ m2, by rw [e2, Array.append_assoc]⟩
section
variable {Z : Cx} {q : Str} {k i : Nat} {f c' : Addr} {tl : XK → Hp → VK → Prop} {H : Hp} {s : Shared} {W : WX} {FS : List Addr} {x : Str} {p1 p2 : Pos}
/-- ask() -/
theorem pe_ask (Th : Thunk Z.prog Z.w Z.K Z.mg Z.base q k f c' tl H s) (un : Un FS [] H Z.H_0 s.heap Z.s_0.heap) (hex : Z.ex = []) (tk : Takes Z W) (hr : Room (k + 1) Z.A) (hN : Z.N[i]? = some x) (hv : Vis Z.env.scope x)
    (hd : (x == ("__debug__" : Str)) = false := by decide) (hcd : (x == ("__classdict__" : Str)) = false := by decide) :
    PE Z (.Call (.Name x p1) [] [] p2) (fun σZ HZ Q => σZ[i]? = some (some (.ref f)) ∧ HZ c' = some (CodeO c' q) ∧ tl (fun cls d H' => W cls d σZ H') HZ Q) := by
  refine ⟨fun pins sZ σZ HZ Q IZ ⟨hs, hc, ht⟩ => ?_⟩
  refine wpAny_Call_Name_kw (thn ((pe_var (pos := p1) (i := i) hN hv hd hcd).run pins sZ σZ HZ (fun v H1 => v = .ref f ∧ H1 = HZ) IZ ⟨.ref f, hs, rfl, rfl⟩) fun u s1 ⟨v, H1, I1, r1, q1⟩ => ?_)
  obtain ⟨rfl, rfl⟩ := q1
  obtain rfl : u = Value.ref f := r1
  have un2 : Un (FS ++ Z.fs) [] H H1 s.heap s1.heap := un_join un (by have := I1.base; rwa [hex] at this)
  obtain ⟨nf, ⟨oc, od, dt, sl⟩, fd, ho, hd2⟩ := Th.fn
  obtain ⟨sl2, ho2⟩ := un2.any ho nf (fun z => nomatch z)
  have hd3 : dt = .func fd := hd2
  subst hd3
  refine PySem.W.callWith_F0 ⟨_, _, _, _, ho2⟩ (wpAny_call (codeAny_mono (Th.run Z.A Z.stack _ H1 s1 Q (fun cls d H' => W cls d σZ H') hr I1.env0 un2 hc ht) fun r s' hq => ?_))
  cases r with
  | error e => exact tk _ _ (XE.of_call I1 (fun _ _ _ h => h) hq)
  | ok fl =>
    cases fl with
    | ret u => exact I1.after hq
    | next => exact False.elim hq
    | brk => exact False.elim hq
    | cont => exact False.elim hq
/-- g(e), what it does told of the very state -/
theorem pe_callS {g : Addr} {e : Expr} {te : TE} {R : V → Hp → VK → Prop} {p pos : Pos} (hg : Gl Z x) (hm : Z.mg x = some (.ref g)) (hk : PySem.W.keepIn Z.K (.ref g) = true) (he : PE Z e te)
    (run : ∀ (pins : List (Addr × Obj)) (σ : L2.St) (H1 : Hp) (s1 : Shared) (v : V) (u : Value) (Q : VK), Inv Z pins σ H1 s1 → RelV v u → R v H1 Q → codeAny (model Z.prog Z.w) Z.A (.call (.ref g) ⟨[u], []⟩) (CR C8.CX0 Z.stack Z.prog Z.w H1 s1 Q C8.E0) s1)
    (hs : starEach [e] Z.env = (false, eval e Z.env) :: starEach [] Z.env := by rfl) (hdb : (x == ("__debug__" : Str)) = false := by decide) :
    PE Z (.Call (.Name x p) [e] [] pos) (fun σ H Q => te σ H fun v H1 => R v H1 Q) := by
  refine ⟨fun pins s σ H Q I h => wpAny_Call_Name_kw (ld_glob I hg hm ?_ hdb)⟩
  refine PySem.W.callWith_K (h₀ := Z.base) I.ok.mod.kin hk ?_ hs (by rfl)
  rw [hs]
  show wpAny _ _ (spliced ((false, eval e Z.env) :: backTo pos (starEach [] Z.env))) _ _ s
  refine Calls.spliced_cons (thn (he.run pins s σ H _ I h) fun u s1 ⟨v, H1, I1, r1, q1⟩ => Calls.spliced_nil ⟨I1.kIn, ?_⟩)
  refine wpAny_call (codeAny_mono (run pins σ H1 s1 v u Q I1 r1 q1) fun r s2 hq => ?_)
  cases r with
  | error e => exact (show False from hq).elim
  | ok fl =>
    cases fl with
    | ret u => exact I1.after hq
    | next => exact False.elim hq
    | brk => exact False.elim hq
    | cont => exact False.elim hq
end
section
variable {P : Program} {w : World} {K : PySem.W.Frag} {mg : Str → Option Value} {base : Heap} {a : Ad} {q : Str} {k : Nat} {f c' : Addr} {tl : XK → Hp → VK → Prop} {H : Hp} {s : Shared}
/-- it raises C(z), wherever G stands -/
def Raz (G : Hp → Prop) (C : Addr) (z : Str) : XK → Hp → VK → Prop := fun E H _ => G H ∧ ∀ dx H2, Ex H H2 → H dx = none → H2 dx = some (.xd [("part", .str z)]) → E (.ref C) (some dx) H2
/-- what _law_heard makes of it -/
def Heard (C : Addr) (z : Str) (H : Hp) (Q : VK) : Prop := ∀ (er dx : Addr) (H2 : Hp), Ex H H2 → H2 er = some (ErO C er dx) → H2 dx = some (.xd [("part", .str z)]) → Q (.ref er) H2
theorem heard_run (T : Txt K mg a) {G : Hp → Prop} {C : Addr} {z : Str} (Th : Thunk P w K mg base q k f c' (Raz G C z) H s) (hm : PySem.W.exmOne K (.ref C) (.ref a.CurveError) = some true) {A : Around} {outer : List Env} {FS : List Addr} {HZ : Hp} {sZ : Shared} {Q : VK} (hr : Room (k + 2) A) (e0 : Env0 P w K mg base A outer sZ HZ) (un : Un FS [] H HZ s.heap sZ.heap)
    (hc : HZ c' = some (CodeO c' q)) (hG : G HZ) (h : Heard C z HZ Q) : codeAny (model P w) A (.call (.ref a.law_heard) ⟨[.ref f], []⟩) (CR C8.CX0 outer P w HZ sZ Q C8.E0) sZ := by
  have KX : K.In sZ.heap := e0.mod.kin.keeps fun b o e => (e0.bs b o e).1
  have F := T.f_law_heard.fn
  have hb := T.b_law_heard
  generalize a.d_law_heard = fd at F hb
  obtain ⟨oc, od, kV, doc, pm, an, cdv, ct, osl, rfl, lk, hcd⟩ := F.ex
  refine LamX.run_ofS (N := n_law_heard) (ps := p_law_heard) (us := [.ref f]) (vs := [.ref f]) lk hcd sc_law_heard hr e0 (by have := hb sZ [.ref f] KX rfl; exact this) (.cons rfl .nil) rfl fun hr' => ?_
  refine ⟨_, (pss_cons (ps_set (i := 1) sc_law_heard.nd rfl (Or.inl rfl) pe_non) (pss_cons (ps_tryT (i := 2) (c := .ref a.CurveError) rfl rfl rfl sc_law_heard.nd rfl rfl ⟨rfl, by decide, .inl T.g_CurveError⟩
    (fun W pn xe tk _ => pss_one (ps_expr (pe_ask (i := 0) Th un rfl tk hr' rfl (Or.inl rfl)))) (fun er pn => pss_one (ps_set (i := 1) sc_law_heard.nd rfl (Or.inl rfl) (pv 2)))) (pss_one (ps_ret (pv 1))))), ?_⟩
  refine ⟨rfl, hc, hG, fun dx H2 x2 n e => ⟨C, dx, rfl, rfl, hm, fun er ne => ⟨.ref er, rfl, .ref er, rfl, h er dx _ (x2.trans (Ex.new ne)) upd_same ?_⟩⟩⟩
  rw [upd_ne (ne_of_none e ne)]
  exact e
/-- isinstance of a tracked error, as data -/
theorem ed_isT {m : List Addr} {σ : L2.St} {H : Hp} {i : Nat} {er C dx : Addr} {fs : List (Str × V)} {D : Addr} {b : Bool} (hv : σ[i]? = some (some (.ref er))) (T : ExcC K C) (he : H er = some (ErO C er dx)) (hd : H dx = some (.xd fs)) (hm1 : er ∉ m) (hm2 : dx ∉ m) (hk : PySem.W.kitOne K (.ref C) (.ref D) = some b) :
    ED K m (tCB (rIsT K) (tCons (tVar i) (tCons (tC (.ref D)) tNil))) σ H (.bool b) := fun H1 x l Q q => by
  have e1 := x er _ (by rw [off_at hm1]; exact he)
  have e2 := x dx _ (by rw [off_at hm2]; exact hd)
  rw [off_at hm1] at e1
  rw [off_at hm2] at e2
  exact ⟨_, hv, er, C, dx, fs, .ref D, .ref D, b, rfl, T, e1, e2, fun u h => h, hk, q _ H1 (Ex.refl _) (.bl _)⟩
theorem ed_part {m : List Addr} {σ : L2.St} {H : Hp} {i : Nat} {er C dx : Addr} {z n : Str} (hv : σ[i]? = some (some (.ref er))) (T : XfC K C) (no : PySem.W.findIn K (.ref C) n = some none) (he : H er = some (ErO C er dx)) (hd : H dx = some (.xd [(n, .str z)])) (hm1 : er ∉ m) (hm2 : dx ∉ m) :
    ED K m (tEf K n (tVar i)) σ H (.str z) := fun H1 x l Q q => by
  have e1 := x er _ (by rw [off_at hm1]; exact he)
  have e2 := x dx _ (by rw [off_at hm2]; exact hd)
  rw [off_at hm1] at e1
  rw [off_at hm2] at e2
  refine ⟨_, hv, er, C, dx, _, .str z, rfl, T, no, e1, e2, ?_, q _ H1 (Ex.refl _) (.str _)⟩
  simp [List.lookup]
/-- [f(x, y) for x, y in pairs if test(x, y)] -/
theorem ed_lcP {m : List Addr} {σ : L2.St} {H : Hp} {tl' te : TE} {tt : TT} {ds es : List PyData} {bs : List Bool} {i j : Nat} {vs : List Nat} (h : ED K m tl' σ H (.list ds)) (hlen : bs.length = ds.length) (hlen2 : es.length = ds.length) (hz : ds.length ≤ 100000)
    (hw : ∀ v w, wipe (((wipe σ vs).set i (some v)).set j (some w)) vs = wipe σ vs)
    (he : ∀ (D : Addr) (n : Nat) (d c : PyData) (b : Bool), H D = none → ds[n]? = some d → bs[n]? = some b → es[n]? = some c → ∃ d1 d2, d = .tuple [d1, d2] ∧ ∀ (v w : V) (H1 : Hp), Xo (D :: m) H H1 → Dv K (off (D :: m) H1) v d1 → Dv K (off (D :: m) H1) w d2 →
      EB (D :: m) tt (((wipe σ vs).set i (some v)).set j (some w)) H1 b ∧ ED K (D :: m) te (((wipe σ vs).set i (some v)).set j (some w)) H1 c) :
    ED K m (tLc (iSeq K tl') (gTup K 2 (gCons (gName i) (gCons (gName j) gNil))) tt te vs) σ H (.list (keepBy es bs)) := fun H1 x l Q q =>
  h H1 x l _ fun v H2 x2 dv => by
    obtain ⟨p, xs, rfl, hs, ha⟩ := dv.l
    have l2 := l.ex x2
    have hs' : SqL K H2 p xs := Evl.ex_l off_le hs
    have turn : ∀ D, H2 D = none → ∀ (n : Nat) (y : V) (H3 : Hp), xs[n]? = some y → Grow K m H2 H3 D (keepBy (es.take n) (bs.take n)) →
        gTup K 2 (gCons (gName i) (gCons (gName j) gNil)) y (wipe σ vs) H3 fun σ2 H4 => wipe σ2 vs = wipe σ vs ∧ tt σ2 H4 fun b H5 => if b = true then te σ2 H5 fun z H6 => ∃ acc, H6 D = some (.lst acc) ∧ acc.length < sizeLine ∧ Grow K m H2 (upd H6 D (.lst (acc ++ [z]))) D (keepBy (es.take (n + 1)) (bs.take (n + 1)))
          else Grow K m H2 H5 D (keepBy (es.take (n + 1)) (bs.take (n + 1))) := fun D hD n y H3 hn g => by
      have hn' : n < ds.length := by rw [← ha.length]; exact (List.getElem?_eq_some_iff.mp hn).1
      obtain ⟨d, hd⟩ : ∃ d, ds[n]? = some d := ⟨_, List.getElem?_eq_getElem hn'⟩
      obtain ⟨b, hb⟩ : ∃ b, bs[n]? = some b := ⟨_, List.getElem?_eq_getElem (by omega)⟩
      obtain ⟨c, hc⟩ : ∃ c, es[n]? = some c := ⟨_, List.getElem?_eq_getElem (by omega)⟩
      obtain ⟨y', hy', dy⟩ := ha.get hd
      obtain rfl : y' = y := by rw [hn] at hy'; exact (Option.some.inj hy').symm
      have fr : off (D :: m) H2 = off m H2 := off_free hD
      have x3 : Xo (D :: m) H2 H3 := Xo.of g.ex
      have hDH2 : H D = none := by
        cases z : H D with
        | none => rfl
        | some o =>
          have z2 := (x.trans (.of x2)) D o (by rw [off_at (l2.ne hD)]; exact z)
          rw [off_at (l2.ne hD), hD] at z2
          cases z2
      have xx : Xo (D :: m) H H3 := by
        refine Xo.trans (fun b o hb => ?_) x3
        rw [off_free hDH2] at hb
        rw [fr]
        exact (x.trans (.of x2)) b o hb
      rw [← fr] at dy
      have dy3 := dy.up x3
      obtain ⟨d1, d2, rfl, hh⟩ := he D n d c b hDH2 hd hb hc
      obtain ⟨T, ys, rfl, hT, hy⟩ := dy3.t
      obtain ⟨v1, v2, rfl, dv1, dv2⟩ := hy.two
      obtain ⟨h1, h2⟩ := hh v1 v2 H3 xx dv1 dv2
      refine ⟨T, _, rfl, Evl.ex_t off_le hT, rfl, v1, [v2], rfl, v2, [], rfl, rfl, hw _ _, h1 H3 .refl (g.live l2) _ fun H4 x4 => ?_⟩
      rw [keepBy_take hc hb]
      cases b with
      | true =>
        rw [if_pos rfl]
        refine h2 H4 (.of x4) ((g.live l2).ex x4) _ fun z H5 x5 dz => ?_
        obtain ⟨acc, e1, e2, e3⟩ := (g.step x4).more hD x5 dz
        refine ⟨acc, e1, ?_, e3⟩
        have := keepBy_len (es.take n) (bs.take n)
        rw [List.length_take] at this
        exact Evl.sz_lt (by omega)
      | false =>
        rw [if_neg Bool.false_ne_true, if_neg Bool.false_ne_true, List.append_nil]
        exact g.step x4
    have fin : ∀ D, H2 D = none → ∀ H3, Grow K m H2 H3 D (keepBy (es.take xs.length) (bs.take xs.length)) → Q (.ref D) H3 := fun D hD H3 g => by
      rw [ha.length, ← hlen2, List.take_length, hlen2, ← hlen, List.take_length] at g
      exact q _ _ (x2.trans g.ex) (g.done l2 hD)
    exact ⟨p, rfl, .inl ⟨⟨xs, hs'⟩, fun D hD => lc_list (xs := xs) (fun n H3 => Grow K m H2 H3 D (keepBy (es.take n) (bs.take n))) (Grow.start hD) (fun n H3 _ g => Evl.ex_l g.ex hs') (fun n y H3 hn g => turn D hD n y H3 hn g) (fin D hD)⟩⟩
theorem eb_isNo {m : List Addr} {σ : L2.St} {H : Hp} {i : Nat} {er : Addr} (hv : σ[i]? = some (some (.ref er))) : EB m (tTest (tOp rIsN (tVar i) (tC .non))) σ H false := fun H1 x l Q q => ⟨_, hv, rfl, false, rfl, q H1 (Ex.refl _)⟩
/-- what is known of the error's class -/
structure Knd (K : PySem.W.Frag) (a : Ad) (C : Addr) (knd : Str) : Prop where
  ex : PySem.W.exmOne K (.ref C) (.ref a.CurveError) = some true
  ec : ExcC K C
  xf : XfC K C
  no : PySem.W.findIn K (.ref C) "part" = some none
  kd : ∃ b1 b2 b3, PySem.W.kitOne K (.ref C) (.ref a.BadPlace) = some b1 ∧ PySem.W.kitOne K (.ref C) (.ref a.BadPoint) = some b2 ∧ PySem.W.kitOne K (.ref C) (.ref a.BadNumber) = some b3 ∧ keepBy [.str "place", .str "point", .str "number"] [b1, b2, b3] = [.str knd]
theorem said_run (T : Txt K mg a) {G : Hp → Prop} {C : Addr} {z knd : Str} (Th : Thunk P w K mg base q k f c' (Raz G C z) H s) (Kd : Knd K a C knd) {A : Around} {outer : List Env} {FS : List Addr} {HZ : Hp} {sZ : Shared} {Q : VK} {m : List Addr} (hr0 : Room (k + 3) A)
    (e0 : Env0 P w K mg base A outer sZ HZ) (un : Un FS [] H HZ s.heap sZ.heap) (hc : HZ c' = some (CodeO c' q)) (hG : G HZ) (hm : ∀ b ∈ m, ∃ ps, HZ b = some (.tbl ps)) (h : ∀ v H2, Ex HZ H2 → Dv K (off m H2) v (.tuple [.str knd, .str z]) → Q v H2) :
    codeAny (model P w) A (.call (.ref a.law_said) ⟨[.ref f], []⟩) (CR C8.CX0 outer P w HZ sZ Q C8.E0) sZ := by
  have KX : K.In sZ.heap := e0.mod.kin.keeps fun b o e => (e0.bs b o e).1
  have F := T.f_law_said.fn
  have hb := T.b_law_said
  generalize a.d_law_said = fd at F hb
  obtain ⟨oc, od, kV, doc, pm, an, cdv, ct, osl, rfl, lk, hcd⟩ := F.ex
  refine LamX.run_ofS (N := n_law_said) (ps := p_law_said) (us := [.ref f]) (vs := [.ref f]) lk hcd sc_law_said hr0 e0 (by have := hb sZ [.ref f] KX rfl; exact this) (.cons rfl .nil) rfl fun hr => ?_
  have ph : ∀ {p1 p2 p3 : Pos}, PE (cxOf C8.CX0 P w K mg base n_law_said "_law_said" (defScope s_law_said) a.law_said cdv A outer sZ HZ C8.E0) (.Call (.Name "_law_heard" p1) [.Name "_law_ask" p2] [] p3)
      (fun σ H Q => tVar 0 σ H fun v H1 => v = .ref f ∧ H1 c' = some (CodeO c' q) ∧ G H1 ∧ Heard C z H1 Q) := fun {p1 p2 p3} =>
    pe_callS (R := fun v H1 Q => v = .ref f ∧ H1 c' = some (CodeO c' q) ∧ G H1 ∧ Heard C z H1 Q) rfl T.f_law_heard.gl T.f_law_heard.fn.kp (pv 0) fun pins σ H1 s1 v u Q I rv ⟨e, hc1, hG1, h1⟩ => by
      subst e
      obtain rfl : u = Value.ref f := rv
      exact heard_run T Th Kd.ex hr I.env0 (un_join un I.base) hc1 hG1 h1
  refine ⟨_, (pss_cons (ps_set (i := 1) sc_law_said.nd rfl (Or.inl rfl) ph)
      (pss_cons (ps_if (pt_cmpR op_isN' (pv 1) pe_non (nomark _)) (pss_one (ps_ret pe_non)) pss_nil)
      (pss_cons (ps_set (i := 2) sc_law_said.nd rfl (Or.inl rfl) (pe_lst (pa_cons (pe_tup (pa_cons pe_str (pa_cons (pe_callB (r := rIsT K) call_isT rfl T.b_isinstance (by decide +kernel) (pa_cons (pv 1) (pa_cons (pe_glob (v := .ref a.BadPlace) rfl T.g_BadPlace rfl) pa_nil))) pa_nil))) (pa_cons (pe_tup (pa_cons pe_str (pa_cons (pe_callB (r := rIsT K) call_isT rfl T.b_isinstance (by decide +kernel) (pa_cons (pv 1) (pa_cons (pe_glob (v := .ref a.BadPoint) rfl T.g_BadPoint rfl) pa_nil))) pa_nil))) (pa_cons (pe_tup (pa_cons pe_str (pa_cons (pe_callB (r := rIsT K) call_isT rfl T.b_isinstance (by decide +kernel) (pa_cons (pv 1) (pa_cons (pe_glob (v := .ref a.BadNumber) rfl T.g_BadNumber rfl) pa_nil))) pa_nil))) pa_nil)))))
      (pss_cons (ps_setLc (i := 3) (own := [("_law_word", 4), ("_law_is_so", 5)]) (g := (gTup _ 2 (gCons (gName 4) (gCons (gName 5) gNil)))) rfl sc_law_said.nd rfl rfl (sw_true rfl rfl rfl (by decide +kernel)) (pi_seq (pv 2)) (blkOk_by (own := [("_law_word", 4), ("_law_is_so", 5)]) (N := n_law_said) (sc := defScope s_law_said) (by decide +kernel)) (fun _ _ _ _ _ => (pg_tup rfl (pgs_cons (pg_name (i := 4) sc_law_said.nd rfl (Or.inl rfl)) (pgs_cons (pg_name (i := 5) sc_law_said.nd rfl (Or.inl rfl)) pgs_nil)))) (fun _ _ _ _ _ => pts_one (pt_val (pv 5))) (fun _ _ _ _ _ => (pv 4)))
      (pss_one (ps_ret (pe_ifExp (pt_cmpR (r := rEqD K) (op_eqD hr.units) (pe_callB (r := rLenQ K) cr_len rfl T.b_len (by decide +kernel) (pa_cons (pv 3) pa_nil)) pe_int (nomark _)) (pe_tup (pa_cons (pe_ix (r := rIx K) ix_seq (pv 3) pe_int (fun _ _ => rfl)) (pa_cons (pe_ef (pv 1)) pa_nil))) (pe_tup (pa_cons pe_str (pa_cons pe_str pa_nil)))))))))), ?_⟩
  refine ⟨.ref f, rfl, rfl, hc, hG, fun er dx H2 x2 e1 e2 => ?_⟩
  have n1 : er ∉ m := fun hb => by
    obtain ⟨ps, e⟩ := hm er hb
    rw [x2 _ _ e] at e1
    cases e1
  have n2 : dx ∉ m := fun hb => by
    obtain ⟨ps, e⟩ := hm dx hb
    rw [x2 _ _ e] at e2
    cases e2
  have lv : Lv m H2 := fun b hb => let ⟨ps, e⟩ := hm b hb; ⟨_, x2 _ _ e⟩
  obtain ⟨b1, b2, b3, k1, k2, k3, kk⟩ := Kd.kd
  refine (rd_ifr (eb_isNo rfl) (fun y => nomatch y) fun _ => rd_set (ed_lst (es_3 (ed_tup (es_2 ed_str (ed_isT rfl Kd.ec e1 e2 n1 n2 k1))) (ed_tup (es_2 ed_str (ed_isT rfl Kd.ec e1 e2 n1 n2 k2))) (ed_tup (es_2 ed_str (ed_isT rfl Kd.ec e1 e2 n1 n2 k3))))) fun v3 H3 x3 l3 d3 => ?_ : RD K m _ _ H2 (.tuple [.str knd, .str z])) H2 .refl lv _ fun v H3 x3 dv => h v H3 (x2.trans x3) dv
  have f1 := x3 er _ (by rw [off_at n1]; exact e1)
  have f2 := x3 dx _ (by rw [off_at n2]; exact e2)
  rw [off_at n1] at f1
  rw [off_at n2] at f2
  refine rd_set ((ed_lcP (es := [.str "place", .str "point", .str "number"]) (bs := [b1, b2, b3]) (ed_var rfl d3) rfl rfl (by simp) (fun v w => rfl) fun D n d c b hD h1 h2 h3 => ?_).is (by rw [kk])) fun v4 H4 x4 l4 d4 => ?_
  · match n with
    | 0 =>
      cases h1; cases h2; cases h3
      exact ⟨_, _, rfl, fun v w H1 x dv dw => ⟨eb_B (ed_var rfl dw), ed_var rfl dv⟩⟩
    | 1 =>
      cases h1; cases h2; cases h3
      exact ⟨_, _, rfl, fun v w H1 x dv dw => ⟨eb_B (ed_var rfl dw), ed_var rfl dv⟩⟩
    | 2 =>
      cases h1; cases h2; cases h3
      exact ⟨_, _, rfl, fun v w H1 x dv dw => ⟨eb_B (ed_var rfl dw), ed_var rfl dv⟩⟩
    | n + 3 => exact nomatch h1
  have g1 := x4 er _ (by rw [off_at n1]; exact f1)
  have g2 := x4 dx _ (by rw [off_at n2]; exact f2)
  rw [off_at n1] at g1
  rw [off_at n2] at g2
  refine rd_ret (ed_if ((eb_test (ed_eq (ed_len (ed_var rfl d4) (.lst _)) ed_int sh_int sh_int)).is (c := true) (by rw [eqv_int]; rfl)) (fun _ => ed_tup (es_2 (ed_ix (ed_var rfl d4) (.lst _) (ed_int (i := 0)) (i := 0) rfl) (ed_part rfl Kd.xf Kd.no g1 g2 n1 n2))) fun y => nomatch y)
end
end Pc

set_option Elab.async false
set_option linter.all false
set_option maxRecDepth 100000
set_option maxHeartbeats 4000000
/-! PcP: _law_said(lambda: ..), in the def that holds the lambda. -/
namespace Pc
open PySem PySem.Spec PyProof.Rows L2
open LamX (CodeO TabS TabB lamCx lamEnv)
open Evl (Ex)
/-- _law_said(lambda: f(..)), f a def that may raise: what it raises is told -/
def tSaid (K : PySem.W.Frag) (a : Ad) (P : Addr) (q : Str) (R : List PyData → Out → Prop) (s : TA) : TE := fun σ H Q => TabS H P q ∧ ∀ H1, Xo [P] H H1 → TabS H1 P q →
  ∃ C z knd ds, Knd K a C knd ∧ ES K [P] s σ H1 ds ∧ R ds (.exc C z) ∧ ∀ v H2, Xo [P] H1 H2 → TabS H2 P q → Dv K (off [P] H2) v (.tuple [.str knd, .str z]) → Q v H2
section
variable {X : Cx} {a : Ad}
theorem pe_said {P : Addr} {k : Nat} {params : Arguments} {body : Expr} {scope : Scope} {p lpos pos : Pos} {dn : List Int} {R : List PyData → Out → Prop} {ta : TA} (T : Txt X.K X.mg a) (hg : Gl X "_law_said") (L : LamD X.env.scope scope X.N)
    (hmk : ∀ (pins : List (Addr × Obj)) (σ : L2.St) (H : Hp) (s : Shared) (E Q : Value → Shared → Prop), Inv X pins σ H s → TabS H P (X.env.qual ++ "<lambda>") → Made X pins σ H P params body scope dn Q → wpAny (model X.prog X.w) X.A (eval (.Lambda params body scope lpos) X.env) Q E s)
    (hbn : ∀ (q : Str) (cl : List (Str × Addr)) (dvs : List Value), IntsAre dvs dn → ∃ bn : List (Str × Value), (∀ doc pm cv ctv, dvs = [] → bindArgs (PySem.W.kdv_fn "<lambda>" q params (.expr body) scope cl .none doc pm cv ctv) ⟨[], []⟩ = pure bn) ∧
      (∀ (doc pm cv ctv : Value) (t : Addr), ∃ kk, bindArgs (PySem.W.kdv_fn "<lambda>" q params (.expr body) scope cl (.ref t) doc pm cv ctv) ⟨[], []⟩ = seqItems? (.ref t) >>= kk ∧ kk (some dvs.toArray) = pure bn) ∧ ∀ y ∈ bn, scope.names.lookup y.1 = some .local)
    (hr : Room (k + 3) X.A)
    (hbody : ∀ (A : Around) (outer : List Env) (s : Shared) (H : Hp) (E : XK) (f c' : Addr), Room k (A.deeper (lamEnv X scope s.heap.objs.size f c')) → PE (lamCx X A outer s H E scope f c') body (tCall (spX X.K R) [] E ta))
    (hst : starEach [.Lambda params body scope lpos] X.env = (false, eval (.Lambda params body scope lpos) X.env) :: starEach [] X.env := by rfl) :
    PE X (.Call (.Name "_law_said" p) [.Lambda params body scope lpos] [] pos) (tSaid X.K a P (X.env.qual ++ "<lambda>") R ta) := by
  refine ⟨fun pins s σ H Q I ⟨hT, h⟩ => wpAny_Call_Name_kw (ld_glob I hg T.f_law_said.gl ?_ (by decide))⟩
  refine PySem.W.callWith_K (h₀ := X.base) I.ok.mod.kin T.f_law_said.fn.kp ?_ hst (by rfl)
  rw [hst]
  show wpAny _ _ (spliced ((false, eval (.Lambda params body scope lpos) X.env) :: backTo pos (starEach [] X.env))) _ _ s
  refine Calls.spliced_cons (hmk pins σ H s _ _ I hT fun f c' H1 s1 dvs I1 x1 T1 hdv hl hco => Calls.spliced_nil ⟨I1.kIn, ?_⟩)
  obtain ⟨C, z, knd, ds, Kd, es, hR, q⟩ := h H1 x1 T1
  obtain ⟨bn, b0, b1, bl⟩ := hbn _ (cloFrom X.env.cells scope.names []) dvs hdv
  obtain ⟨ps, hps, tr⟩ := id T1
  have lv1 : Lv [P] H1 := fun b hb => ⟨.tbl ps, by rw [List.mem_singleton.mp hb]; exact hps⟩
  have Th := thunk_of (k := k) (tl := Raz (fun HZ => Xo [P] H1 HZ ∧ Lv [P] HZ) C z) I1 L hl rfl b0 b1 bl (fun A outer s H E hr => hbody A outer s H E f c' hr) fun E HZ Q ⟨⟨xz, lz⟩, hz⟩ => by
    refine es HZ xz lz _ fun vs H2 x2 dv => ⟨[P], ds, .exc C z, lz.ex x2, by rw [List.append_nil]; exact dv, hR, fun dx H3 x3 n e => hz dx H3 (x2.trans x3) (Evl.fresh_back x2 n) e⟩
  have rc := said_run (m := [P]) (Q := Q) T Th Kd hr I1.env0 (FS := []) Un.refl hco ⟨.refl, lv1⟩ (fun b hb => ⟨ps, by rw [List.mem_singleton.mp hb]; exact hps⟩) fun v H2 x2 dv => q v H2 (.of x2) (T1.ext x2) dv
  refine wpAny_call (codeAny_mono rc fun r s2 hq => ?_)
  cases r with
  | error e => exact (show False from hq).elim
  | ok fl =>
    cases fl with
    | ret u => exact I1.after hq
    | next => exact False.elim hq
    | brk => exact False.elim hq
    | cont => exact False.elim hq
theorem pe_said0 {P c : Addr} {k : Nat} {params : Arguments} {body : Expr} {scope : Scope} {p lpos pos : Pos} {R : List PyData → Out → Prop} {ta : TA} (T : Txt X.K X.mg a) (hg : Gl X "_law_said") (L : lamDB X.env.scope scope X.N = true) (TB : TabB X.base X.mg c P) (hcode : X.env.code = .ref c)
    (hdef : defaultsOf params X.env = ([], []))
    (hb0 : ∀ (q : Str) (cl : List (Str × Addr)) (doc pm cv ctv : Value), bindArgs (PySem.W.kdv_fn "<lambda>" q params (.expr body) scope cl .none doc pm cv ctv) ⟨[], []⟩ = pure [])
    (hb1 : ∀ (q : Str) (cl : List (Str × Addr)) (doc pm cv ctv : Value) (t : Addr), ∃ kk, bindArgs (PySem.W.kdv_fn "<lambda>" q params (.expr body) scope cl (.ref t) doc pm cv ctv) ⟨[], []⟩ = seqItems? (.ref t) >>= kk ∧ kk (some #[]) = pure [])
    (hr : Room (k + 3) X.A)
    (hbody : ∀ (A : Around) (outer : List Env) (s : Shared) (H : Hp) (E : XK) (f c' : Addr), Room k (A.deeper (lamEnv X scope s.heap.objs.size f c')) → PE (lamCx X A outer s H E scope f c') body (tCall (spX X.K R) [] E ta))
    (hst : starEach [.Lambda params body scope lpos] X.env = (false, eval (.Lambda params body scope lpos) X.env) :: starEach [] X.env := by rfl) :
    PE X (.Call (.Name "_law_said" p) [.Lambda params body scope lpos] [] pos) (tSaid X.K a P (X.env.qual ++ "<lambda>") R ta) :=
  pe_said (dn := []) T hg (lamD_by L) (fun pins σ H s E Q I hT h => lam_make0 I TB hcode hT ((lamD_by L).has I.ok) hdef h)
    (fun q cl dvs hi => by
      cases hi
      exact ⟨[], fun doc pm cv ctv _ => hb0 q cl doc pm cv ctv, fun doc pm cv ctv t => hb1 q cl doc pm cv ctv t, fun _ h => nomatch h⟩) hr hbody hst
theorem pe_said1 {P c : Addr} {k : Nat} {params : Arguments} {body : Expr} {scope : Scope} {p lpos pos p1 : Pos} {i : Int} {j : Nat} {x1 : Str} {R : List PyData → Out → Prop} {ta : TA} (T : Txt X.K X.mg a) (hg : Gl X "_law_said") (L : lamDB X.env.scope scope X.N = true) (TB : TabB X.base X.mg c P) (hcode : X.env.code = .ref c)
    (hd : params.defaults = [.Constant (.int i) j p1]) (hk : params.kw_defaults = [])
    (hb1 : ∀ (q : Str) (cl : List (Str × Addr)) (doc pm cv ctv : Value) (t : Addr) (u : Value), ∃ kk, bindArgs (PySem.W.kdv_fn "<lambda>" q params (.expr body) scope cl (.ref t) doc pm cv ctv) ⟨[], []⟩ = seqItems? (.ref t) >>= kk ∧ kk (some #[u]) = pure [(x1, u)])
    (hx : scope.names.lookup x1 = some .local) (hr : Room (k + 3) X.A)
    (hbody : ∀ (A : Around) (outer : List Env) (s : Shared) (H : Hp) (E : XK) (f c' : Addr), Room k (A.deeper (lamEnv X scope s.heap.objs.size f c')) → PE (lamCx X A outer s H E scope f c') body (tCall (spX X.K R) [] E ta))
    (hst : starEach [.Lambda params body scope lpos] X.env = (false, eval (.Lambda params body scope lpos) X.env) :: starEach [] X.env := by rfl) :
    PE X (.Call (.Name "_law_said" p) [.Lambda params body scope lpos] [] pos) (tSaid X.K a P (X.env.qual ++ "<lambda>") R ta) :=
  pe_said (dn := [i]) T hg (lamD_by L) (fun pins σ H s E Q I hT h => lam_make1 I TB hcode hT ((lamD_by L).has I.ok) hd hk h)
    (fun q cl dvs hi => by
      cases hi with
      | cons n t r =>
        cases r
        exact ⟨[(x1, .int i t)], fun doc pm cv ctv z => (nomatch z), fun doc pm cv ctv t' => hb1 q cl doc pm cv ctv t' _, fun y hy => by rw [List.mem_singleton.mp hy]; exact hx⟩) hr hbody hst
end
end Pc

set_option Elab.async false
set_option linter.all false
set_option maxRecDepth 100000
set_option maxHeartbeats 8000000
/-! PcW: the law. -/
namespace Pc
open PySem PySem.Spec PyProof.Rows L2
open LamX (CodeO TabS TabB)
open Evl (Ex)
section
variable {P : Program} {w : World} {K : PySem.W.Frag} {mg : Str → Option Value} {base : Heap} {a : Ad} {x : Ae}
abbrev lawCx (P : Program) (w : World) (K : PySem.W.Frag) (mg : Str → Option Value) (base : Heap) (f c : Addr) (s : Shared) (H : Hp) (E : XK) : Cx := cxOf (L2.CX P w) P w K mg base n_law "law" (defScope s_law) f (.ref c) callerA [] s H E
theorem em_small {mo : Addr} {σ : L2.St} {H : Hp} {n i : Nat} {E : XK} (hv : σ[i]? = some (some (.ref mo))) (hn : n + 4 < 5000) : EM K mo (tCall (spM K 4 (· = []) Rsmall) [] E (tCons (tVar i) tNil)) σ H n (n + 4) (Nu 45 false) :=
  em_draw hv esm_nil hn fun ds e => ⟨e, fun d h => h⟩
theorem em_rdrawn {mo : Addr} {σ : L2.St} {H : Hp} {n i : Nat} {E : XK} (hv : σ[i]? = some (some (.ref mo))) (hn : n + 4 < 5000) : EM K mo (tCall (spM K 4 (· = []) RrootDrawn) [] E (tCons (tVar i) tNil)) σ H n (n + 4) (Nu 110 true) :=
  em_draw hv esm_nil hn fun ds e => ⟨e, fun d h => h⟩
theorem nu0 : Nu 45 false (.int 0) := ⟨0, rfl, bd0 (by decide), fun z => nomatch z⟩
/-- two numbers in a list -/
def L2n (d : PyData) : Prop := ∃ p q : Rat, d = .list [numD p, numD q] ∧ Bd 45 p ∧ Bd 45 q
theorem l2n_of {d : PyData} (h : ∃ ds, d = .list ds ∧ ∃ x y, ds = [x, y] ∧ Nu 45 false x ∧ Nu 45 false y) : L2n d := by
  obtain ⟨_, rfl, _, _, rfl, ⟨p, rfl, hp, _⟩, ⟨q, rfl, hq, _⟩⟩ := h
  exact ⟨p, q, rfl, hp, hq⟩
/-- a number above 0 -/
def NuP (d : PyData) : Prop := ∃ k : Rat, d = numD k ∧ Bd 10 k ∧ 0 ≤ k.num ∧ k ≠ 0
theorem em_by {mo : Addr} {σ : L2.St} {H : Hp} {n k l : Nat} {ta tb : TE} {E : XK} (h : EM K mo ta σ H n k (Pi 1 9)) (h' : EM K mo tb σ H k l (Pi 1 9)) : EM K mo (tCall (spD K Rlowest) [] E (tCons ta (tCons tb tNil))) σ H n l NuP := em_call (esm_2 h h') fun ds ⟨x, y, e, ⟨i, e1, a1, a2⟩, ⟨u, e2, b1, b2⟩⟩ => by
  subst e1 e2 e
  obtain ⟨u, rfl⟩ : ∃ n : Nat, u = (n : Int) := ⟨u.toNat, by omega⟩
  have hu : u ≠ 0 := by omega
  have hi : i.natAbs < 2 ^ 10 := by omega
  have hu2 : u < 2 ^ 10 := by omega
  refine ⟨_, ⟨i, u, hu, lt8000 hi (by decide), lt8000 hu2 (by decide), rfl, rfl⟩, fr i u, rfl, fr_bd hu hi hu2, fr_nn hu (by omega), fun z => ?_⟩
  rw [fr_eq] at z
  have d0 := nat_ne hu
  have i0 : (i : Rat) ≠ 0 := fun q => by
    have := Rat.intCast_eq_zero_iff.mp q
    omega
  grind
theorem inv_fr {k : Rat} (k0 : 0 ≤ k.num) (k1 : k ≠ 0) : fr (k.den : Int) k.num.toNat = k⁻¹ := by
  have e := q_den k
  have hd := den_ne k
  rw [fr_eq, Rat.intCast_natCast, toNat_rat k0, ← e]
  grind
theorem bd_inv {j : Nat} {k : Rat} (h : Bd j k) (k0 : 0 ≤ k.num) (k1 : k ≠ 0) : Bd j k⁻¹ := by
  have hn := num_ne k1
  rw [← inv_fr k0 k1]
  exact fr_bd (by omega) (by rw [Int.natAbs_natCast]; exact h.2) (by have := h.1; omega)
/-- the slots that never change -/
def Sl (l mo : Addr) (σ : L2.St) : Prop := ∃ b c d e f g h i j k m n o p q : Option V, σ = [some (.ref l), some (.ref mo), b, c, d, e, f, g, h, i, j, k, m, n, o, p, q]
/-- the slots, with the place that is due -/
def Sl2 (K : PySem.W.Frag) (l mo : Addr) (due : PyData) (σ : L2.St) (H : Hp) : Prop := ∃ (b c d e f g h i j k m n o q r : Option V) (v : V), Dv K (off [mo] H) v due ∧ r = some v ∧ σ = [some (.ref l), some (.ref mo), b, c, d, e, f, g, h, i, j, k, m, r, n, o, q]
theorem nm_tup3 {mo : Addr} {σ : L2.St} {H : Hp} {n k : Nat} {te : TE} {i j m : Nat} {P1 P2 P3 : PyData → Prop} {W : L2.St → Hp → Prop} (h : EM K mo te σ H n k fun d => ∃ ds, d = .tuple ds ∧ ∃ d e f, ds = [d, e, f] ∧ P1 d ∧ P2 e ∧ P3 f)
    (hu : ∀ v w y d e f H1, P1 d → P2 e → P3 f → Xo [mo] H H1 → Dv K (off [mo] H1) v d → Dv K (off [mo] H1) w e → Dv K (off [mo] H1) y f → W (((σ.set i (some v)).set j (some w)).set m (some y)) H1) : NM K mo (tAsg te (gTup K 3 (gCons (gName i) (gCons (gName j) (gCons (gName m) gNil))))) σ H n k W := fun H1 x M D q =>
  h H1 x M _ fun v d H2 x2 M2 dv p => by
    obtain ⟨_, rfl, d, e, f, rfl, p1, p2, p3⟩ := p
    obtain ⟨a, xs, rfl, hs, hv⟩ := dv.t
    obtain ⟨v, w, y, rfl, dv, dw, dy⟩ := hv.three
    exact ⟨a, _, rfl, Evl.ex_t off_le hs, rfl, v, [w, y], rfl, w, [y], rfl, y, [], rfl, rfl, q _ H2 x2 M2 (hu v w y d e f H2 p1 p2 p3 (x.trans x2) dv dw dy)⟩
/-! ### the last statements -/
def EA (K : PySem.W.Frag) (Pt : Addr) (q : Str) (s : TA) (σ : L2.St) (H : Hp) (ds : List PyData) : Prop :=
  ∀ H1, Xo [Pt] H H1 → TabS H1 Pt q → ∀ Q : List V → Hp → Prop, (∀ vs H2, Xo [Pt] H1 H2 → TabS H2 Pt q → DvAll K (off [Pt] H2) vs ds → Q vs H2) → s σ H1 Q
theorem ea_nil {Pt : Addr} {q : Str} {σ : L2.St} {H : Hp} : EA K Pt q tNil σ H [] := fun H1 x T Q h => h [] H1 .refl T .nil
theorem EA.run {Pt : Addr} {q : Str} {s : TA} {σ : L2.St} {H : Hp} {ds : List PyData} {Q : List V → Hp → Prop} (h : EA K Pt q s σ H ds) (T : TabS H Pt q) (hQ : ∀ vs H2, Xo [Pt] H H2 → TabS H2 Pt q → DvAll K (off [Pt] H2) vs ds → Q vs H2) : s σ H Q := h H .refl T Q hQ
theorem tail_run {s : TA} {u : TS} {D : Ends} {σ : L2.St} {H : Hp} (h : s σ H fun vs H1 => vs.length ≤ sizeLine ∧ ∀ p, H1 p = none → u D (σ.set 3 (some (.ref p))) (upd H1 p (.lst vs))) : tSeq (tAsg (tLst s) (gName 3)) u D σ H := h
theorem ea_said {Pt : Addr} {q : Str} {σ : L2.St} {H : Hp} {R : List PyData → Out → Prop} {s : TA} {ts : TA} {es ds : List PyData} {C : Addr} {z knd : Str} (Kd : Knd K a C knd) (hs : ES K [Pt] s σ H es) (hR : R es (.exc C z)) (ht : EA K Pt q ts σ H ds) :
    EA K Pt q (tCons (tSaid K a Pt q R s) ts) σ H (.tuple [.str knd, .str z] :: ds) := fun H1 x T Q h =>
  ⟨T, fun H2 x2 T2 => ⟨C, z, knd, es, Kd, hs.mono (x.trans x2), hR, fun v H3 x3 T3 dv => ht H3 ((x.trans x2).trans x3) T3 _ fun vs H4 x4 T4 dw => h _ H4 ((x2.trans x3).trans x4) T4 (.cons (dv.up x4) dw)⟩⟩
section
variable {H : Hp} {Pt : Addr} {ps : Array Value}
theorem sqL_down {p : Addr} {xs : List V} (hP : H Pt = some (.tbl ps)) (h : SqL K H p xs) : SqL K (off [Pt] H) p xs := by
  rcases h with (h | ⟨o, h⟩) | h
  · exact .inl (.inl (by rw [off_at (fun z => by rw [List.mem_singleton.mp z, hP] at h; cases h)]; exact h))
  · exact .inl (.inr ⟨o, by rw [off_at (fun z => by rw [List.mem_singleton.mp z, hP] at h; cases h)]; exact h⟩)
  · exact .inr h
theorem sqT_down {p : Addr} {xs : List V} (hP : H Pt = some (.tbl ps)) (h : SqT K H p xs) : SqT K (off [Pt] H) p xs := by
  rcases h with (h | ⟨o, h⟩) | h
  · exact .inl (.inl (by rw [off_at (fun z => by rw [List.mem_singleton.mp z, hP] at h; cases h)]; exact h))
  · exact .inl (.inr ⟨o, by rw [off_at (fun z => by rw [List.mem_singleton.mp z, hP] at h; cases h)]; exact h⟩)
  · exact .inr h
mutual
theorem Dv.down (hP : H Pt = some (.tbl ps)) : ∀ (d : PyData) (v : V), Dv K H v d → Dv K (off [Pt] H) v d
  | .none, _, h => by cases h; exact .non
  | .bool _, _, h => by cases h; exact .bl _
  | .int _, _, h => by cases h; exact .int _
  | .str _, _, h => by cases h; exact .str _
  | .list ds, _, h => by
    cases h with
    | lst h ha => exact .lst (sqL_down hP h) (DvAll.down hP ds _ ha)
  | .tuple ds, _, h => by
    cases h with
    | tup h ha => exact .tup (sqT_down hP h) (DvAll.down hP ds _ ha)
  | .dict _, _, h => by
    cases h with
    | dic h => exact .dic (by rw [off_at (fun z => by rw [List.mem_singleton.mp z, hP] at h; cases h)]; exact h)
theorem DvAll.down (hP : H Pt = some (.tbl ps)) : ∀ (ds : List PyData) (vs : List V), DvAll K H vs ds → DvAll K (off [Pt] H) vs ds
  | [], _, h => by cases h; exact .nil
  | d :: ds, _, h => by
    cases h with
    | cons h hs => exact .cons (Dv.down hP d _ h) (DvAll.down hP ds _ hs)
end
end
def POdd (d : PyData) : Prop := isPt d = false ∧ isPl d = false ∧ Wf 3 d
def PNone (d : PyData) : Prop := isPt d = false ∧ Wf 3 d
def PLow (d : PyData) : Prop := (!isNum d || decide (sgn (numQ d).num < 0)) = true ∧ Wf 3 d
abbrev odds : List PyData := [.none, .tuple [.int 0], .tuple [.int 0, .bool true], .int 5, .tuple [.tuple [.int 2, .int 4], .int 0]]
abbrev nones : List PyData := [.none, .tuple [.int 1, .int 2, .int 3], .str "00", .tuple [.int 0, .none]]
abbrev lows : List PyData := [.none, .int (-1), .tuple [.int (-1), .int 2], .bool true, .tuple [.int 4, .int 2], .str "1"]
theorem odd_ok : ∀ d ∈ odds, POdd d := by
  have h : odds.all (fun d => !isPt d && !isPl d && wfB 3 d) = true := by decide +kernel
  intro d hd
  have := List.all_eq_true.mp h d hd
  simp only [Bool.and_eq_true, Bool.not_eq_true'] at this
  exact ⟨this.1.1, this.1.2, wfB_wf this.2⟩
theorem none_ok : ∀ d ∈ nones, PNone d := by
  have h : nones.all (fun d => !isPt d && wfB 3 d) = true := by decide +kernel
  intro d hd
  have := List.all_eq_true.mp h d hd
  simp only [Bool.and_eq_true, Bool.not_eq_true'] at this
  exact ⟨this.1, wfB_wf this.2⟩
theorem low_ok : ∀ d ∈ lows, PLow d := by
  have h : lows.all (fun d => (!isNum d || decide (sgn (numQ d).num < 0)) && wfB 3 d) = true := by decide +kernel
  intro d hd
  have := List.all_eq_true.mp h d hd
  obtain ⟨h1, h2⟩ := Bool.and_eq_true_iff.mp this
  exact ⟨h1, wfB_wf h2⟩
abbrev told4 : PyData := .list [.tuple [.str "point", .str "point"], .tuple [.str "point", .str "aside"], .tuple [.str "number", .str "root"], .tuple [.str "place", .str "place"]]
theorem sh_told : SeqAt.shaped told4 = true := by decide +kernel
theorem eq_told : PyData.eqv told4 told4 = true := by simp [PyData.eqv, PyData.eqvAll]
theorem pt00 : isPt (.tuple [.int 0, .int 0]) = true := rfl
theorem law_run (T : Txt K mg a) (T2 : Exs K mg a x) (Kp : Knd K a a.BadPoint "point") (Kn : Knd K a a.BadNumber "number") (Kl : Knd K a a.BadPlace "place") {c Pt l : Addr} {ns : List Int} (TB : TabB base mg c Pt) (hco : a.d_law.code = .ref c) (hr0 : Room 12 callerA) {s : Shared} {H : Hp}
    (e0 : Env0 P w K mg base callerA [] s H) (hP : H Pt = some (.tbl #[])) (hS : SqL K H l (ns.map V.int)) (hn : Sc ns) :
    codeAny (model P w) callerA (.call (.ref a.law) ⟨[.ref l], []⟩) (CR (L2.CX P w) [] P w H s (fun v _ => v = .bl true) fun _ _ _ => False) s := by
  have KX : K.In s.heap := e0.mod.kin.keeps fun b o e => (e0.bs b o e).1
  have F := T.f_law.fn
  have hb := T.b_law
  generalize a.d_law = fd at F hb hco
  obtain ⟨oc, od, kV, doc, pm, an, cdv, ct, osl, rfl, lk, hcd⟩ := F.ex
  obtain rfl : cdv = .ref c := hco
  refine LamX.run_ofS (CX := L2.CX P w) (N := n_law) (ps := p_law) (us := [.ref l]) (vs := [.ref l]) lk hcd sc_law hr0 e0 (by have := hb s [.ref l] KX rfl; exact this) (.cons rfl .nil) rfl fun hr => ?_
  have hgd : (lawCx P w K mg base a.law c s H (fun _ _ _ => False)).A.guards = some [] := rfl
  have hcode : (lawCx P w K mg base a.law c s H (fun _ _ _ => False)).env.code = .ref c := rfl
  refine ⟨_, ((pss_cons (ps_set (i := 1) sc_law.nd rfl (Or.inl rfl) (pe_call (ok_law_moor T) (hr.mono (by decide)) rfl T.f_law_moor.gl T.f_law_moor.fn.kp T.b_law_moor .nil pass0 (pa_cons (pv 0) pa_nil)))
      (pss_cons (ps_for (passes_of rfl) rfl (pi_range1 rfl T.b_range (pa_cons pe_int pa_nil)) (pg_name (i := 2) sc_law.nd rfl (Or.inl rfl)) (pss_cons (ps_par3 (i := 10) (j := 11) (l := 12) (by rfl) sc_law.nd rfl rfl rfl (by decide) (by decide) (by decide) rfl rfl rfl (pa_cons (pe_lst (pa_cons (pe_call (ok_law_small T) (hr.mono (by decide)) rfl T.f_law_small.gl T.f_law_small.fn.kp T.b_law_small .nil pass0 (pa_cons (pv 1) pa_nil)) (pa_cons (pe_call (ok_law_small T) (hr.mono (by decide)) rfl T.f_law_small.gl T.f_law_small.fn.kp T.b_law_small .nil pass0 (pa_cons (pv 1) pa_nil)) pa_nil))) (pa_cons (pe_lst (pa_cons (pe_call (ok_law_small T) (hr.mono (by decide)) rfl T.f_law_small.gl T.f_law_small.fn.kp T.b_law_small .nil pass0 (pa_cons (pv 1) pa_nil)) (pa_cons (pe_call (ok_law_pick T) (hr.mono (by decide)) rfl T.f_law_pick.gl T.f_law_pick.fn.kp T.b_law_pick .nil pass0 (pa_cons (pv 1) (pa_cons (pe_lst (pa_cons pe_int (pa_cons (pe_call (ok_law_small T) (hr.mono (by decide)) rfl T.f_law_small.gl T.f_law_small.fn.kp T.b_law_small .nil pass0 (pa_cons (pv 1) pa_nil)) pa_nil))) pa_nil))) pa_nil))) (pa_cons (pe_call (ok_law_root_drawn T) (hr.mono (by decide)) rfl T.f_law_root_drawn.gl T.f_law_root_drawn.fn.kp T.b_law_root_drawn .nil pass0 (pa_cons (pv 1) pa_nil)) pa_nil))) (by rfl))
      (pss_cons (ps_par (i := 13) (j := 14) (by rfl) sc_law.nd rfl rfl (by decide) rfl rfl (pa_cons (pe_call (ok_law_form T) (hr.mono (by decide)) rfl T.f_law_form.gl T.f_law_form.fn.kp T.b_law_form .nil pass0 (pa_cons (pv 10) (pa_cons (pv 11) (pa_cons (pv 12) pa_nil)))) (pa_cons (pe_call (ok_place_of T T2) (hr.mono (by decide)) rfl T.f_place_of.gl T.f_place_of.fn.kp T.b_place_of .nil (passes_call (takes_of rfl rfl rfl rfl) (fun _ _ _ _ h => h)) (pa_cons (pv 10) (pa_cons (pv 11) (pa_cons (pv 12) pa_nil)))) pa_nil)) (by rfl))
      (pss_cons (ps_if (PW.pt (pw_or (pt_cmpR op_ne (pe_callB (r := rRepr K) (cr_repr hgd hr.units) rfl T.b_repr (by decide +kernel) (pa_cons (pv 14) pa_nil)) (pe_callB (r := rRepr K) (cr_repr hgd hr.units) rfl T.b_repr (by decide +kernel) (pa_cons (pv 13) pa_nil)) (nomark _)) (pw_or (pt_cmpR op_notBl (pe_call (ok_is_place T) (hr.mono (by decide)) rfl T.f_is_place.gl T.f_is_place.fn.kp T.b_is_place .nil pass0 (pa_cons (pv 14) pa_nil)) pe_bl (nomark _)) (pw_or1 (pt_cmpR (r := rNeD K) (op_neD hr.units) (pe_call (ok_place_of T T2) (hr.mono (by decide)) rfl T.f_place_of.gl T.f_place_of.fn.kp T.b_place_of .nil (passes_call (takes_of rfl rfl rfl rfl) (fun _ _ _ _ h => h)) (pa_cons (pe_ix (r := rIx K) ix_seq (pv 14) pe_int (fun _ _ => rfl)) (pa_cons (pe_ix (r := rIx K) ix_seq (pv 14) pe_int (fun _ _ => rfl)) (pa_cons (pe_ix (r := rIx K) ix_seq (pv 14) pe_int (fun _ _ => rfl)) pa_nil)))) (pv 14) (nomark _)))))) (pss_one (ps_ret pe_bl)) pss_nil)
      (pss_cons (ps_set (i := 4) sc_law.nd rfl (Or.inr rfl) (pe_call (ok_law_lowest T) (hr.mono (by decide)) rfl T.f_law_lowest.gl T.f_law_lowest.fn.kp T.b_law_lowest .nil pass0 (pa_cons (pe_op op_add pe_int (pe_call (ok_law_heath T) (hr.mono (by decide)) rfl T.f_law_heath.gl T.f_law_heath.fn.kp T.b_law_heath .nil pass0 (pa_cons (pv 1) (pa_cons pe_int pa_nil)))) (pa_cons (pe_op op_add pe_int (pe_call (ok_law_heath T) (hr.mono (by decide)) rfl T.f_law_heath.gl T.f_law_heath.fn.kp T.b_law_heath .nil pass0 (pa_cons (pv 1) (pa_cons pe_int pa_nil)))) pa_nil))))
      (pss_cons (ps_set (i := 5) sc_law.nd rfl (Or.inl rfl) (pe_callK0 (ok_place_of T T2) (hr.mono (by decide)) rfl T.f_place_of.gl T.f_place_of.fn.kp (kb_place_of T) (passes_call (takes_of rfl rfl rfl rfl) (fun _ _ _ _ h => h)) (pk_cons (pe_call (ok_law_times T) (hr.mono (by decide)) rfl T.f_law_times.gl T.f_law_times.fn.kp T.b_law_times .nil pass0 (pa_cons (pv 12) (pa_cons (pe_call (ok_law_times T) (hr.mono (by decide)) rfl T.f_law_times.gl T.f_law_times.fn.kp T.b_law_times .nil pass0 (pa_cons (pv 4) (pa_cons (pv 4) pa_nil))) pa_nil))) (pk_cons (pe_callTy (r := rTupC K) cr_tup rfl T.b_tuple (by decide +kernel) (pa_cons (pv 10) pa_nil)) (pk_cons (pe_callTy (r := rTupC K) cr_tup rfl T.b_tuple (by decide +kernel) (pa_cons (pe_lc (own := [("_law_each", 16)]) (g := (gName 16)) (tt := tYes) rfl sc_law.nd (pi_seq (pv 11)) (blkOk_by (own := [("_law_each", 16)]) (N := n_law) (sc := defScope s_law) (by decide +kernel)) (fun _ _ _ _ _ => (pg_name (i := 16) sc_law.nd rfl (Or.inl rfl))) (fun _ _ _ _ _ => pts_nil) (fun _ _ _ _ _ => (pe_call (ok_law_times T) (hr.mono (by decide)) rfl T.f_law_times.gl T.f_law_times.fn.kp T.b_law_times .nil pass0 (pa_cons (pv 16) (pa_cons (pe_call (ok_law_lowest T) (hr.mono (by decide)) rfl T.f_law_lowest.gl T.f_law_lowest.fn.kp T.b_law_lowest .nil pass0 (pa_cons (pe_ix (r := rIx K) ix_seq (pe_call (ok_law_halves T) (hr.mono (by decide)) rfl T.f_law_halves.gl T.f_law_halves.fn.kp T.b_law_halves .nil pass0 (pa_cons (pv 4) pa_nil)) pe_int (fun _ _ => rfl)) (pa_cons (pe_ix (r := rIx K) ix_seq (pe_call (ok_law_halves T) (hr.mono (by decide)) rfl T.f_law_halves.gl T.f_law_halves.fn.kp T.b_law_halves .nil pass0 (pa_cons (pv 4) pa_nil)) pe_int (fun _ _ => rfl)) pa_nil))) pa_nil))))) pa_nil)) pk_nil)))))
      (pss_cons (ps_if (PW.pt (pw_or (pt_cmpR (r := rNeD K) (op_neD hr.units) (pv 5) (pv 14) (nomark _)) (pw_or (pt_cmpR op_ne (pe_callB (r := rRepr K) (cr_repr hgd hr.units) rfl T.b_repr (by decide +kernel) (pa_cons (pe_call (ok_as_point T T2) (hr.mono (by decide)) rfl T.f_as_point.gl T.f_as_point.fn.kp T.b_as_point .nil (passes_call (takes_of rfl rfl rfl rfl) (fun _ _ _ _ h => h)) (pa_cons (pv 14) pa_nil)) pa_nil)) (pe_callB (r := rRepr K) (cr_repr hgd hr.units) rfl T.b_repr (by decide +kernel) (pa_cons (pe_ifExp (pt_cmpR (r := rEqD K) (op_eqD hr.units) (pe_ix (r := rIx K) ix_seq (pv 13) pe_int (fun _ _ => rfl)) pe_int (nomark _)) (pe_ix (r := rIx K) ix_seq (pv 13) pe_int (fun _ _ => rfl)) pe_non) pa_nil)) (nomark _)) (pw_or1 (pt_cmpR (r := rNeD K) (op_neD hr.units) (pe_callK0 (ok_as_point T T2) (hr.mono (by decide)) rfl T.f_as_point.gl T.f_as_point.fn.kp (kb_as_point T) (passes_call (takes_of rfl rfl rfl rfl) (fun _ _ _ _ h => h)) (pk_cons (pe_callTy (r := rLstC K) cr_lst rfl T.b_list (by decide +kernel) (pa_cons (pv 14) pa_nil)) pk_nil)) (pe_call (ok_as_point T T2) (hr.mono (by decide)) rfl T.f_as_point.gl T.f_as_point.fn.kp T.b_as_point .nil (passes_call (takes_of rfl rfl rfl rfl) (fun _ _ _ _ h => h)) (pa_cons (pv 14) pa_nil)) (nomark _)))))) (pss_one (ps_ret pe_bl)) pss_nil)
      (pss_one (ps_for (passes_of rfl) rfl (pi_range1 rfl T.b_range (pa_cons pe_int pa_nil)) (pg_name (i := 6) sc_law.nd rfl (Or.inl rfl)) (pss_cons (ps_set (i := 15) sc_law.nd rfl (Or.inl rfl) (pe_call (ok_law_bent T) (hr.mono (by decide)) rfl T.f_law_bent.gl T.f_law_bent.fn.kp T.b_law_bent .nil pass0 (pa_cons (pv 1) (pa_cons (pv 13) pa_nil))))
      (pss_one (ps_if (pt_cmpR op_ne (pe_callB (r := rRepr K) (cr_repr hgd hr.units) rfl T.b_repr (by decide +kernel) (pa_cons (pe_lst (pa_cons (pe_call (ok_is_place T) (hr.mono (by decide)) rfl T.f_is_place.gl T.f_is_place.fn.kp T.b_is_place .nil pass0 (pa_cons (pv 15) pa_nil)) (pa_cons (pe_callK0 (ok_is_place T) (hr.mono (by decide)) rfl T.f_is_place.gl T.f_is_place.fn.kp (kb_is_place T) pass0 (pk_cons (pv 15) pk_nil)) pa_nil))) pa_nil)) (pe_callB (r := rRepr K) (cr_repr hgd hr.units) rfl T.b_repr (by decide +kernel) (pa_cons (pe_lst (pa_cons (pe_call (ok_law_is_place T) (hr.mono (by decide)) rfl T.f_law_is_place.gl T.f_law_is_place.fn.kp T.b_law_is_place .nil pass0 (pa_cons (pv 15) pa_nil)) (pa_cons (pe_call (ok_law_is_place T) (hr.mono (by decide)) rfl T.f_law_is_place.gl T.f_law_is_place.fn.kp T.b_law_is_place .nil pass0 (pa_cons (pv 15) pa_nil)) pa_nil))) pa_nil)) (nomark _)) (pss_one (ps_ret pe_bl)) pss_nil))))))))))))
      (pss_cons (ps_asg (pe_tup (pa_cons (pe_call (ok_law_pick T) (hr.mono (by decide)) rfl T.f_law_pick.gl T.f_law_pick.fn.kp T.b_law_pick .nil pass0 (pa_cons (pv 1) (pa_cons (pe_lst (pa_cons pe_non (pa_cons (pe_tup (pa_cons pe_int pa_nil)) (pa_cons (pe_tup (pa_cons pe_int (pa_cons pe_bl pa_nil))) (pa_cons pe_int (pa_cons (pe_tup (pa_cons (pe_tup (pa_cons pe_int (pa_cons pe_int pa_nil))) (pa_cons pe_int pa_nil))) pa_nil)))))) pa_nil))) (pa_cons (pe_call (ok_law_pick T) (hr.mono (by decide)) rfl T.f_law_pick.gl T.f_law_pick.fn.kp T.b_law_pick .nil pass0 (pa_cons (pv 1) (pa_cons (pe_lst (pa_cons pe_non (pa_cons (pe_tup (pa_cons pe_int (pa_cons pe_int (pa_cons pe_int pa_nil)))) (pa_cons pe_str (pa_cons (pe_tup (pa_cons pe_int (pa_cons pe_non pa_nil))) pa_nil))))) pa_nil))) (pa_cons (pe_call (ok_law_pick T) (hr.mono (by decide)) rfl T.f_law_pick.gl T.f_law_pick.fn.kp T.b_law_pick .nil pass0 (pa_cons (pv 1) (pa_cons (pe_lst (pa_cons pe_non (pa_cons (pe_un un_neg pe_int) (pa_cons (pe_tup (pa_cons (pe_un un_neg pe_int) (pa_cons pe_int pa_nil))) (pa_cons pe_bl (pa_cons (pe_tup (pa_cons pe_int (pa_cons pe_int pa_nil))) (pa_cons pe_str pa_nil))))))) pa_nil))) pa_nil)))) (pg_tup rfl (pgs_cons (pg_name (i := 7) sc_law.nd rfl (Or.inr rfl)) (pgs_cons (pg_name (i := 8) sc_law.nd rfl (Or.inr rfl)) (pgs_cons (pg_name (i := 9) sc_law.nd rfl (Or.inr rfl)) pgs_nil)))))
      (pss_cons (ps_set (i := 3) sc_law.nd rfl (Or.inl rfl) (pe_lst (pa_cons (pe_said0 (k := 7) (R := RplaceOf a) T rfl (by show lamDB (defScope s_law) _ n_law = true; decide +kernel) TB hcode rfl (fun _ _ _ _ _ _ => rfl) (fun _ _ _ _ _ _ _ => ⟨_, rfl, rfl⟩) (hr.mono (by decide)) (fun _ _ _ _ _ _ _ hr => (pe_call (ok_place_of T T2) (hr.mono (by decide)) rfl T.f_place_of.gl T.f_place_of.fn.kp T.b_place_of .nil (passes_call (takes_of rfl rfl rfl rfl) (fun _ _ _ _ h => h)) (pa_cons (pv 7) (pa_cons (pv 8) (pa_cons (pv 9) pa_nil)))))) (pa_cons (pe_said1 (k := 7) (R := RplaceOf a) (x1 := "_law_x1") T rfl (by show lamDB (defScope s_law) _ n_law = true; decide +kernel) TB hcode rfl rfl (fun _ _ _ _ _ _ _ _ => ⟨_, rfl, rfl⟩) (by decide +kernel) (hr.mono (by decide)) (fun _ _ _ _ _ _ _ hr => (pe_call (ok_place_of T T2) (hr.mono (by decide)) rfl T.f_place_of.gl T.f_place_of.fn.kp T.b_place_of .nil (passes_call (takes_of rfl rfl rfl rfl) (fun _ _ _ _ h => h)) (pa_cons (pe_tup (pa_cons pe_int (pa_cons pe_int pa_nil))) (pa_cons (pv 8) (pa_cons (pv 9) pa_nil)))))) (pa_cons (pe_said1 (k := 7) (R := RplaceOf a) (x1 := "_law_x2") T rfl (by show lamDB (defScope s_law) _ n_law = true; decide +kernel) TB hcode rfl rfl (fun _ _ _ _ _ _ _ _ => ⟨_, rfl, rfl⟩) (by decide +kernel) (hr.mono (by decide)) (fun _ _ _ _ _ _ _ hr => (pe_call (ok_place_of T T2) (hr.mono (by decide)) rfl T.f_place_of.gl T.f_place_of.fn.kp T.b_place_of .nil (passes_call (takes_of rfl rfl rfl rfl) (fun _ _ _ _ h => h)) (pa_cons (pe_tup (pa_cons pe_int (pa_cons pe_int pa_nil))) (pa_cons (pe_tup (pa_cons pe_int (pa_cons pe_int pa_nil))) (pa_cons (pv 9) pa_nil)))))) (pa_cons (pe_said1 (k := 7) (R := RasPoint a) (x1 := "_law_x3") T rfl (by show lamDB (defScope s_law) _ n_law = true; decide +kernel) TB hcode rfl rfl (fun _ _ _ _ _ _ _ _ => ⟨_, rfl, rfl⟩) (by decide +kernel) (hr.mono (by decide)) (fun _ _ _ _ _ _ _ hr => (pe_call (ok_as_point T T2) (hr.mono (by decide)) rfl T.f_as_point.gl T.f_as_point.fn.kp T.b_as_point .nil (passes_call (takes_of rfl rfl rfl rfl) (fun _ _ _ _ h => h)) (pa_cons (pv 7) pa_nil)))) pa_nil))))))
      (pss_one (ps_ret (pe_cmpR (r := rEqD K) (op_eqD hr.units) (pv 3) (pe_lst (pa_cons (pe_tup (pa_cons pe_str (pa_cons pe_str pa_nil))) (pa_cons (pe_tup (pa_cons pe_str (pa_cons pe_str pa_nil))) (pa_cons (pe_tup (pa_cons pe_str (pa_cons pe_str pa_nil))) (pa_cons (pe_tup (pa_cons pe_str (pa_cons pe_str pa_nil))) pa_nil))))) (nomark _)))))))) : PSs (lawCx P w K mg base a.law c s H (fun _ _ _ => False)) (defBody s_law) _), ?_⟩
  refine ⟨.ref l, rfl, l, ns, rfl, hS, hn, fun mo H1 x1 hmo M => ?_⟩
  have nmP : Pt ∉ [mo] := fun z => by
    rw [List.mem_singleton.mp z, hmo] at hP
    cases hP
  have hP1 : off [mo] H1 Pt = some (.tbl #[]) := by
    rw [off_at nmP]
    exact x1 _ _ hP
  refine (nm_range (z := 4) (c := 40) (n := 0) (fun _ σ _ => Sl l mo σ) ed_int (by decide) (fun _ _ => ⟨_, _, _, _, _, _, _, _, _, _, _, _, _, _, _, rfl⟩) (fun k σ1 H2 hk x2 hJ => ?_)) H1 .refl M _ fun σ2 H2 x2 M2 hJ2 => ?_
  · obtain ⟨b1, b2, b3, b4, b5, b6, b7, b8, b9, b10, b11, b12, b13, b14, b15, rfl⟩ := hJ
    generalize hN : 0 + 40 * k = n0
    have hN2 : 0 + 40 * (k + 1) = n0 + 40 := by omega
    have hn0 : n0 ≤ 200 := by omega
    rw [hN2]
    clear hN hN2 hk
    refine NM.more (k := n0 + 31) ?_ (by omega)
    refine nm_seq (nm_par3 (P := L2n) (P' := L2n) (R := Nu 110 true) (esm_3 ((em_lst (esm_2 (em_small rfl (by omega)) (em_small rfl (by omega))) (by rintro _ ⟨_, _, rfl, _⟩; simp)).weak (Nat.le_refl _) fun _ p => l2n_of p)
      ((em_lst (esm_2 (em_small rfl (by omega)) (em_pickM rfl (em_lst (esm_2 (em_of ed_int nu0) (em_small rfl (by omega))) (by rintro _ ⟨_, _, rfl, _⟩; simp)) (by omega) (fun xs ⟨d, e, h, p1, p2⟩ => ⟨by rw [h]; simp, by rw [h]; simp, fun y hy => by
        rw [h] at hy
        rcases List.mem_cons.mp hy with rfl | hy
        · exact p1
        · rw [List.mem_singleton.mp hy]
          exact p2⟩))) (by rintro _ ⟨_, _, rfl, _⟩; simp)).weak (Nat.le_refl _) fun _ p => l2n_of p) (em_rdrawn rfl (by omega))) fun v1 v2 v3 d1 d2 d3 H3 p1 p2 p3 x3 dv1 dv2 dv3 => ?_)
    obtain ⟨p, q, rfl, hp, hq⟩ := p1
    obtain ⟨cc, ee, rfl, hcc, hee⟩ := p2
    obtain ⟨r, rfl, hrr, r0⟩ := p3
    have r0 := r0 rfl
    obtain ⟨a', b', xx, yy, ss, hf, hw, s0, Ft⟩ := form_fit (hp.mono (by decide : 45 ≤ 60)) (hq.mono (by decide : 45 ≤ 60)) (hcc.mono (by decide : 45 ≤ 60)) (hee.mono (by decide : 45 ≤ 60)) (hrr.mono (by decide : 110 ≤ 130)) r0
    have up45 : ∀ {k : Rat}, Bd 45 k → Bd 900 k := fun h => h.mono (by decide)
    have wf2 : ∀ {k : Rat}, Bd 45 k → ∀ n, Wf (n + 1) (numD k) := fun h n => wf_num h (by decide)
    have fm := out_form a (IsSeq.lst [numD p, numD q]) (IsSeq.lst [numD cc, numD ee]) r0
    rw [hf] at fm
    have sh4 := sh_pl a' b' xx yy ss
    have shw4 := shw_pl Ft
    have eq4 : PyData.eqv (plD a' b' xx yy ss) (plD a' b' xx yy ss) = true := by
      rw [eqv_pl]
      simp
    refine nm_seq (nm_par (P := fun d => d = plD a' b' xx yy ss) (P' := fun d => d = plD a' b' xx yy ss) (esm_2 (em_of (ed_call (es_3 (ed_var rfl dv1) (ed_var rfl dv2) (ed_var rfl dv3)) ⟨p, q, cc, ee, r, .list [numD cc, numD ee], up45 hp, up45 hq, up45 hcc, up45 hee, hrr.mono (by decide), r0, .lst _, rfl, hf.symm⟩) rfl)
      (em_of (ed_callX (es_3 (ed_var rfl dv1) (ed_var rfl dv2) (ed_var rfl dv3)) ⟨2, _, _, _, wf_l2 (wf2 hp 0) (wf2 hq 0), wf_l2 (wf2 hcc 0) (wf2 hee 0), wf_num hrr (by decide), rfl, fm.symm⟩) rfl)) fun v4 v5 d4 d5 H4 e4 e5 x4 dv4 dv5 => ?_)
    subst e4 e5
    have dv1 := dv1.up x4
    have dv2 := dv2.up x4
    have dv3 := dv3.up x4
    have pok : isPl (plD a' b' xx yy ss) = true := pl_ok (.tup _) hw
    have pokL : isPl (.list [.tuple [numD a', numD b'], .tuple [.int xx, .int yy], numD ss]) = true := pl_ok (.lst _) hw
    refine nm_seq (nm_no ((eb_or (eb_test (ed_neS (ed_repr (ed_var rfl dv5) shw4 (.inl rfl)) (ed_repr (ed_var rfl dv4) shw4 (.inl rfl)))) fun _ => eb_or (eb_test (K := K) (ed_notB (a := true) (ed_call (es_1 (ed_var rfl dv5)) ⟨_, rfl, ask_of (fit_wf Ft), by rw [pok]⟩) ed_bl)) fun _ =>
      eb_test (K := K) (ed_ne (ed_callX (es_3 (ed_ix (ed_var rfl dv5) (.tup _) (ed_int (i := 0)) (i := 0) rfl) (ed_ix (ed_var rfl dv5) (.tup _) (ed_int (i := 1)) (i := 1) rfl) (ed_ix (ed_var rfl dv5) (.tup _) (ed_int (i := 2)) (i := 2) rfl))
        ⟨2, _, _, _, wf_t2 (wf_num (n := 0) Ft.a (by decide)) (wf_num (n := 0) Ft.b (by decide)), wf_t2 (n := 1) (wf_int (up900 Ft.x)) (wf_int (up900 Ft.y)), wf_num Ft.r (by decide), rfl, (out_again a hw s0).symm⟩) (ed_var rfl dv5) sh4 sh4)).is (by rw [eq4]; simp)) fun H5 x5 => ?_)
    have dv1 := dv1.up x5
    have dv2 := dv2.up x5
    have dv3 := dv3.up x5
    have dv4 := dv4.up x5
    have dv5 := dv5.up x5
    refine nm_seq (nm_set (em_by ((em_addP em_intP (em_heath rfl ed_int (by decide) (by decide) (by omega))).weak (Nat.le_refl _) fun d ⟨z, e, h1, h2⟩ => ⟨z, e, by omega, by omega⟩) ((em_addP em_intP (em_heath rfl ed_int (by decide) (by decide) (by omega))).weak (Nat.le_refl _) fun d ⟨z, e, h1, h2⟩ => ⟨z, e, by omega, by omega⟩)) fun v6 d6 H6 p6 x6 dv6 => ?_)
    obtain ⟨k, rfl, hk, k0, k1⟩ := p6
    have dv1 := dv1.up x6
    have dv2 := dv2.up x6
    have dv3 := dv3.up x6
    have dv4 := dv4.up x6
    have dv5 := dv5.up x6
    have hki := bd_inv hk k0 k1
    have hkk := hrr.mul (hk.mul hk)
    have fo := out_form a (IsSeq.tup [numD p, numD q]) (IsSeq.tup [numD (cc * k⁻¹), numD (ee * k⁻¹)]) (mul_nn r0 (mul_nn k0 k0))
    rw [form_scale r0 k0 k1, hf] at fo
    refine nm_seq (nm_set (P := fun d => d = plD a' b' xx yy ss) (em_of (ed_kw3X (es_3 (ed_call (es_2 (ed_var rfl dv3) (ed_call (es_2 (ed_var rfl dv6) (ed_var rfl dv6)) ⟨k, k, hk.mono (by decide), hk.mono (by decide), rfl, rfl⟩)) ⟨r, k * k, hrr.mono (by decide), (hk.mul hk).mono (by decide), rfl, rfl⟩) (ed_tupC (ed_var rfl dv1) (.lst _))
      (ed_tupC (ed_lc (es := [numD (cc * k⁻¹), numD (ee * k⁻¹)]) (ed_var rfl dv2) (.lst _) rfl (by simp) (fun v => rfl) fun D j b c' v H7 hD hb hc' x7 dv7 => ?_) (.lst _)))
      ⟨2, _, _, _, wf_t2 (wf2 hp 0) (wf2 hq 0), wf_t2 (wf_num (n := 0) (hcc.mul hki) (by decide)) (wf_num (n := 0) (hee.mul hki) (by decide)), wf_num hkk (by decide), rfl, fo.symm⟩) rfl) fun v7 d7 H7 e7 x7 dv7 => ?_)
    · obtain ⟨z, hz, rfl, rfl⟩ : ∃ z : Rat, Bd 45 z ∧ b = numD z ∧ c' = numD (z * k⁻¹) := by
        match j with
        | 0 => exact ⟨cc, hcc, (Option.some.inj hb).symm, (Option.some.inj hc').symm⟩
        | 1 => exact ⟨ee, hee, (Option.some.inj hb).symm, (Option.some.inj hc').symm⟩
        | j + 2 => exact nomatch hb
      have dk : Dv K (off [D, mo] H7) v6 (numD k) := by
        have d0 : Dv K (off [D, mo] H6) v6 (numD k) := by
          rw [off_free hD]
          exact dv6
        exact d0.up x7
      have kz := num_ne k1
      exact ed_call (es_2 (ed_var rfl dv7) (ed_call (es_2 (ed_ix (ed_call (es_1 (ed_var rfl dk)) ⟨k, rfl, rfl⟩) (.lst _) (ed_int (i := 1)) (i := 1) rfl) ((ed_ix (ed_call (es_1 (ed_var rfl dk)) ⟨k, rfl, rfl⟩) (.lst _) (ed_int (i := 0)) (i := 0) rfl).is (show PyData.int k.num = .int ((k.num.toNat : Nat) : Int) by rw [Int.toNat_of_nonneg k0])))
        ⟨(k.den : Int), k.num.toNat, by omega, by rw [Int.natAbs_natCast]; exact lt8000 hk.2 (by decide), lt8000 (j := 10) (by have := hk.1; omega) (by decide), rfl, by rw [inv_fr k0 k1]⟩)) ⟨z, k⁻¹, hz.mono (by decide), hki.mono (by decide), rfl, rfl⟩
    subst e7
    have dv4 := dv4.up x7
    have dv5 := dv5.up x7
    have apT : apD (plD a' b' xx yy ss) = if ss = 0 then .tuple [numD a', numD b'] else .none := ap_ok (.tup _)
    have apL : apD (.list [.tuple [numD a', numD b'], .tuple [.int xx, .int yy], numD ss]) = if ss = 0 then .tuple [numD a', numD b'] else .none := ap_ok (.lst _)
    have shA := shw_ap Ft
    have hA : isS (if ss = 0 then .tuple [numD a', numD b'] else .none : PyData) = true ∨ (if ss = 0 then .tuple [numD a', numD b'] else .none : PyData) = .none := by
      by_cases z : ss = 0
      · rw [if_pos z]
        exact .inl rfl
      · rw [if_neg z]
        exact .inr rfl
    have shp : SeqAt.shaped (if ss = 0 then .tuple [numD a', numD b'] else .none : PyData) = true := by
      by_cases z : ss = 0
      · rw [if_pos z]
        exact sh_pt _ _
      · rw [if_neg z]
        simp [SeqAt.shaped, PyData.canLay0, PyData.depth]
    have eqA : PyData.eqv (if ss = 0 then .tuple [numD a', numD b'] else .none : PyData) (if ss = 0 then .tuple [numD a', numD b'] else .none : PyData) = true := by
      by_cases z : ss = 0
      · rw [if_pos z]
        simp [PyData.eqv, PyData.eqvAll, eqv_num]
      · rw [if_neg z]
        simp [PyData.eqv]
    have askT : Ask (plD a' b' xx yy ss) := ask_of (fit_wf Ft)
    have askL : Ask (.list [.tuple [numD a', numD b'], .tuple [.int xx, .int yy], numD ss]) := ask_of (n := 3) (wf_l3 (wf_t2 (wf_num Ft.a (by decide)) (wf_num Ft.b (by decide))) (wf_t2 (wf_int (up900 Ft.x)) (wf_int (up900 Ft.y))) (wf_num Ft.r (by decide)))
    have edT : ∀ {m : List Addr} {te : TE} {σ : L2.St} {H' : Hp} {E : XK}, ED K m te σ H' (plD a' b' xx yy ss) → ED K m (tCall (spX K (RasPoint a)) [] E (tCons te tNil)) σ H' (if ss = 0 then .tuple [numD a', numD b'] else .none) := fun h => ed_callX (es_1 h) ⟨_, rfl, askT, by rw [if_pos pok, apT]⟩
    refine nm_seq (nm_no ((eb_or (eb_test (ed_ne (ed_var rfl dv7) (ed_var rfl dv5) sh4 sh4)) fun _ => eb_or (eb_test (K := K) (ed_neS (ed_repr (edT (ed_var rfl dv5)) shA hA) (ed_repr (d := if ss = 0 then .tuple [numD a', numD b'] else .none) (ed_if (b := decide (ss = 0)) ((eb_test (ed_eq (ed_ix (ed_var rfl dv4) (.tup _) (ed_int (i := 2)) (i := 2) rfl) ed_int (sh_num _) sh_int)).is (eqv_0 _)) (fun z => ?_) fun z => ?_) shA hA))) fun _ =>
      eb_test (K := K) (ed_ne (ed_kw1X (es_1 (ed_lstC (ed_var rfl dv5) (.tup _))) ⟨_, rfl, askL, by rw [if_pos pokL, apL]⟩) (edT (ed_var rfl dv5)) shp shp)).is (by rw [eq4, eqA]; simp)) fun H8 x8 => ?_)
    · rw [if_pos (of_decide_eq_true z)]
      exact ed_ix (ed_var rfl dv4) (.tup _) (ed_int (i := 0)) (i := 0) rfl
    · rw [if_neg (of_decide_eq_false z)]
      exact ed_non
    have dv4 := dv4.up x8
    refine (NM.weak (nm_range (z := 4) (c := 2) (fun _ σ H' => Sl2 K l mo (plD a' b' xx yy ss) σ H') ed_int (by decide) (fun H' x' => ⟨_, _, _, _, _, _, _, _, _, _, _, _, _, _, _, _, dv4.up x', rfl, rfl⟩) (fun j σ3 H9 hj x9 hJ => ?_)) fun σ' H' x' hJ => ?_)
    · obtain ⟨c1, c2, c3, c4, c5, c6, c7, c8, c9, c10, c11, c12, c13, c14, _, v8, dv8, rfl, rfl⟩ := hJ
      rw [show ∀ N, N + 2 * (j + 1) = N + 2 * j + 2 from fun N => by omega]
      refine (nm_seq (nm_set (P := Ask) (em_draw rfl (esm_1 (P := fun d => d = plD a' b' xx yy ss) (em_of (ed_var rfl dv8) rfl)) (by omega) fun ds ⟨d, h1, h2⟩ => ?_) fun v9 d9 H10 p9 x10 dv9 => ?_))
      · subst h2 h1
        exact ⟨⟨a', b', xx, yy, ss, Ft, rfl⟩, fun d h => h⟩
      · have e1 : ∀ {m : List Addr} {σ : L2.St} {H' : Hp} {te : TE} {E : XK}, ED K m te σ H' d9 → ED K m (tCall (spD K RisPlace) [] E (tCons te tNil)) σ H' (.bool (isPl d9)) := fun h => ed_call (es_1 h) ⟨_, rfl, p9, rfl⟩
        have e2 : ∀ {m : List Addr} {σ : L2.St} {H' : Hp} {te : TE} {E : XK}, ED K m te σ H' d9 → ED K m (tCall (spD K RlawPlace) [] E (tCons te tNil)) σ H' (.bool (isPl d9)) := fun h => ed_call (es_1 h) ⟨_, rfl, p9, rfl⟩
        refine nm_no (EB.is (eb_test (K := K) (ed_neS (ed_repr (ed_lst (es_2 (e1 (ed_var rfl dv9)) (ed_kw1 (R := RisPlace) (d := .bool (isPl d9)) (es_1 (ed_var rfl dv9)) ⟨_, rfl, p9, rfl⟩))) shw_bb (.inl rfl)) (ed_repr (ed_lst (es_2 (e2 (ed_var rfl dv9)) (e2 (ed_var rfl dv9)))) shw_bb (.inl rfl)))) (by simp)) fun H11 x11 => ?_
        exact ⟨_, _, _, _, _, _, _, _, _, _, _, _, _, _, _, _, dv8.up (x10.trans x11), rfl, rfl⟩
    · obtain ⟨c1, c2, c3, c4, c5, c6, c7, c8, c9, c10, c11, c12, c13, c14, _, v8, dv8, rfl, rfl⟩ := hJ
      exact ⟨_, _, _, _, _, _, _, _, _, _, _, _, _, _, _, rfl⟩
  · obtain ⟨b1, b2, b3, b4, b5, b6, b7, b8, b9, b10, b11, b12, b13, b14, b15, rfl⟩ := hJ2
    refine (nm_tup3 (P1 := POdd) (P2 := PNone) (P3 := PLow) (W := fun σ' H' => ∃ v w y d e f, POdd d ∧ PNone e ∧ PLow f ∧ Dv K (off [mo] H') v d ∧ Dv K (off [mo] H') w e ∧ Dv K (off [mo] H') y f ∧ σ' = [some (.ref l), some (.ref mo), b1, b2, b3, b4, b5, some v, some w, some y, b9, b10, b11, b12, b13, b14, b15])
      (em_tup (z := 0) (esm_3 (em_pick (xs := odds) rfl (ed_lst (es_cons ed_non (es_cons (ed_tup (es_1 ed_int)) (es_cons (ed_tup (es_2 ed_int ed_bl)) (es_cons ed_int (es_cons (ed_tup (es_2 (ed_tup (es_2 ed_int ed_int)) ed_int)) es_nil)))))) (by simp) (by simp) (by omega) odd_ok)
        (em_pick (xs := nones) rfl (ed_lst (es_cons ed_non (es_cons (ed_tup (es_3 ed_int ed_int ed_int)) (es_cons ed_str (es_cons (ed_tup (es_2 ed_int ed_non)) es_nil))))) (by simp) (by simp) (by omega) none_ok)
        (em_pick (xs := lows) rfl (ed_lst (es_cons ed_non (es_cons (ed_neg ed_int) (es_cons (ed_tup (es_2 (ed_neg ed_int) ed_int)) (es_cons ed_bl (es_cons (ed_tup (es_2 ed_int ed_int)) (es_cons ed_str es_nil))))))) (by simp) (by simp) (by omega) low_ok)) (by rintro _ ⟨_, _, _, rfl, _⟩; simp))
      fun v w y d e f H1 p1 p2 p3 x dv dw dy => ⟨v, w, y, d, e, f, p1, p2, p3, dv, dw, dy, rfl⟩) H2 .refl M2 _ fun σ3 H3 x3 M3 hW => ?_
    obtain ⟨v, w, y, d, e, f, p1, p2, p3, dv, dw, dy, rfl⟩ := hW
    have hP3 : H3 Pt = some (.tbl #[]) := by
      have := (x2.trans x3) Pt _ hP1
      rwa [off_at nmP] at this
    have dv := Dv.down hP3 _ _ (dv.up off_le)
    have dw := Dv.down hP3 _ _ (dw.up off_le)
    have dy := Dv.down hP3 _ _ (dy.up off_le)
    have ed00 : ∀ {σ : L2.St}, ED K [Pt] (tTup (tCons (tC (.int 0)) (tCons (tC (.int 0)) tNil))) σ H3 (.tuple [.int 0, .int 0]) := ed_tup (es_2 ed_int ed_int)
    have wf00 : Wf 3 (.tuple [.int 0, .int 0]) := wf_t2 (wf_int (by decide)) (wf_int (by decide))
    dsimp only
    refine tail_run (EA.run (ea_said Kp (es_3 (ed_var rfl dv) (ed_var rfl dw) (ed_var rfl dy)) ⟨3, d, e, f, p1.2.2, p2.2, p3.2, rfl, by unfold plOut; rw [p1.1, if_neg (by decide)]⟩
      (ea_said Kp (es_3 ed00 (ed_var rfl dw) (ed_var rfl dy)) ⟨3, _, e, f, wf00, p2.2, p3.2, rfl, by unfold plOut; rw [pt00, p2.1, if_pos rfl, if_neg (by decide)]⟩
      (ea_said Kn (es_3 ed00 ed00 (ed_var rfl dy)) ⟨3, _, _, f, wf00, wf00, p3.2, rfl, by unfold plOut; rw [pt00, if_pos rfl, if_pos rfl, if_pos p3.1]⟩
      (ea_said Kl (es_1 (ed_var rfl dv)) ⟨d, rfl, ask_of p1.2.2, by rw [p1.2.1, if_neg (by decide)]⟩ ea_nil)))) (LamX.TabS.nil hP3) fun vs H4 x4 T4 dvs => ?_)
    have lv4 : Lv [Pt] H4 := fun b hb => by
      obtain ⟨ps, h, _⟩ := T4
      rw [List.mem_singleton.mp hb]
      exact ⟨_, h⟩
    refine ⟨by rw [dvs.length]; exact Evl.sz_of (by simp), fun p hp => ?_⟩
    have x5 : Ex H4 (upd H4 p (.lst vs)) := Ex.new hp
    have dl : Dv K (off [Pt] (upd H4 p (.lst vs))) (.ref p) told4 := .lst (Evl.sq_of (off_new lv4 hp)) (dvs.up (Xo.of x5))
    refine (rd_ret (ed_eq (ed_var rfl dl) (ed_lst (es_cons (ed_tup (es_2 ed_str ed_str)) (es_3 (ed_tup (es_2 ed_str ed_str)) (ed_tup (es_2 ed_str ed_str)) (ed_tup (es_2 ed_str ed_str))))) sh_told sh_told) : RD K [Pt] _ _ (upd H4 p (.lst vs)) _) _ .refl (lv4.ex x5) _ fun u H6 x6 du => ?_
    have := du.b
    rw [eq_told] at this
    exact this
end
end Pc

set_option Elab.async false
set_option linter.all false
set_option maxRecDepth 100000
set_option maxHeartbeats 4000000
/-! PcF: the end: the law called from outside. -/
namespace Pc
open PySem PySem.Spec PyProof.Rows L2
open LamX (TabB)
/-- what is tracked at the law's call: its table of code objects; the script, where it is not known -/
def atCall (K : PySem.W.Frag) (a Pt : Addr) (o : Obj) (ns : List Int) : Hp := fun b => if b = Pt then some (.tbl #[]) else if b = a then (if (K.lookup a).isSome then none else some (.frz o (.lst (ns.map V.int)))) else none
section
variable {P : Program} {w : World} {K : PySem.W.Frag} {mg mb : Str → Option Value} {ad : Ad} {x : Ae} {c Pt a : Addr} {vs : List Value} {ns : List Int} {s : Shared}
theorem end_call (T : Txt K mg ad) (T2 : Exs K mg ad x) (Kp : Knd K ad ad.BadPoint "point") (Kn : Knd K ad ad.BadNumber "number") (Kl : Knd K ad ad.BadPlace "place") (hco : ad.d_law.code = .ref c) (KX : K.In s.heap) (hns : s.heap.Ns mainGlobals mg) (hb : s.heap.Ns builtinsNs mb)
    (hbb : ∀ x : Str, x ≠ "__name__" → mb x = bootBuiltins x) (hlim : s.heap.NoLimit) (hg : s.gens = #[]) (tab : s.heap.get? Pt = some { cls := .none, data := .fields #[] }) (nT : K.lookup Pt = none) (C : PySem.W.CodeHd s.heap c Pt)
    (hbm : ∃ (bm : Addr) (ob : Obj), mg "__builtins__" = some (.ref bm) ∧ bm ≠ builtinsNs ∧ s.heap.get? bm = some ob ∧ ob.cls = .type "module" ∧ ob.dict = some builtinsNs ∧ ob.data = .plain)
    (scr : s.heap.get? a = some { cls := .type "list", data := .seq vs.toArray }) (hi : IntsAre vs ns) (hn : Sc ns) (hr : Room 12 callerA) :
    codeAny (model P w) callerA (.call (.ref ad.law) ⟨[.ref a], []⟩) (fun r s' => r = .ok (.ret (.bool true)) ∧ OldK s.heap s'.heap ∧ s'.os = s.os ∧ AllBare s'.gens) s := by
  have rv := vals_ints hi
  have aP : a ≠ Pt := fun z => by
    rw [z, tab] at scr
    cases scr
  obtain ⟨H, hH⟩ : ∃ H, H = atCall K a Pt { cls := .type "list", data := .seq vs.toArray } ns := ⟨_, rfl⟩
  have HP : H Pt = some (.tbl #[]) := by
    rw [hH]
    exact if_pos rfl
  have Hne : ∀ b, b ≠ Pt → b ≠ a → H b = none := fun b h1 h2 => by
    rw [hH]
    exact (if_neg h1).trans (if_neg h2)
  have HK : ∀ o, K.lookup a = some o → H a = none := fun o e => by
    rw [hH]
    refine (if_neg aP).trans ((if_pos rfl).trans ?_)
    rw [e]
    rfl
  have HN : K.lookup a = none → H a = some (.frz { cls := .type "list", data := .seq vs.toArray } (.lst (ns.map V.int))) := fun e => by
    rw [hH]
    refine (if_neg aP).trans ((if_pos rfl).trans ?_)
    rw [e]
    rfl
  have len : (ns.map V.int).length ≤ sizeLine := by
    rw [List.length_map]
    exact Nat.le_trans hn.1 (by decide)
  have look : ∀ b u, H b = some u → (b = Pt ∧ u = .tbl #[]) ∨ (b = a ∧ u = .frz { cls := .type "list", data := .seq vs.toArray } (.lst (ns.map V.int))) := fun b u e => by
    by_cases h1 : b = Pt
    · rw [h1, HP] at e
      exact .inl ⟨h1, (Option.some.inj e).symm⟩
    · by_cases h2 : b = a
      · rw [h2] at e
        cases hk : K.lookup a with
        | some o => rw [HK o hk] at e; cases e
        | none => rw [HN hk] at e; exact .inr ⟨h2, (Option.some.inj e).symm⟩
      · rw [Hne b h1 h2] at e
        cases e
  have hok : HOk P w H s.heap := fun b u e => by
    rcases look b u e with ⟨rfl, rfl⟩ | ⟨rfl, rfl⟩
    · exact tab
    · exact ⟨scr, len, vs, _, rv, scr⟩
  have free : ∀ {b o}, s.heap.get? b = some o → (∀ vs n, o.data ≠ .seq vs n) → o.data ≠ .fields #[] → (hidT s.heap H).get? b = some o := fun {b o} e h1 h2 => hidT_get e (Hne b (fun z => by
    rw [z, tab] at e
    cases e
    exact h2 rfl) fun z => by
    rw [z, scr] at e
    cases e
    exact h1 _ _ rfl)
  have space : ∀ {b m}, s.heap.Ns b m → (hidT s.heap H).Ns b m := fun {b m} ⟨o, es, ep, e, d, r⟩ => ⟨o, es, ep, free e (fun vs n z => by rw [d] at z; cases z) (fun z => by rw [d] at z; cases z), d, r⟩
  have KB : K.In (hidT s.heap H) := fun b o e => hidT_get (KX b o e) (by
    by_cases h1 : b = Pt
    · rw [h1, nT] at e
      cases e
    · by_cases h2 : b = a
      · rw [h2] at e ⊢
        exact HK o e
      · exact Hne b h1 h2)
  have TB : TabB (hidT s.heap H) mg c Pt := by
    refine ⟨?_, ?_, fun z => ?_⟩
    · obtain ⟨o, us, q1, q2, q3, q4, q5, q6, q7, e1, r1, r2, r3, rs⟩ := C
      refine ⟨o, us, q1, q2, q3, q4, q5, q6, q7, free e1 (fun vs n z => by rw [r2] at z; cases z) (fun z => ?_), r1, r2, r3, rs⟩
      rw [r2] at z
      cases z
      simp at r3
    · obtain ⟨bm, ob, k1, k2, k3, k4, k5, k6⟩ := hbm
      refine ⟨bm, ob, k1, k2, fun z => ?_, fun z => ?_, free k3 (fun vs n z => by rw [k6] at z; cases z) (fun z => by rw [k6] at z; cases z), k4, k5, k6⟩
      · obtain ⟨o, es, ep, e, hd, _⟩ := hns
        rw [z, e] at k3
        cases k3
        rw [hd] at k6
        cases k6
      · rw [z, tab] at k3
        cases k3
        cases k6
    · obtain ⟨o, es, ep, e, hd, _⟩ := hns
      rw [z, tab] at e
      cases e
      cases hd
  have HS : SqL K H a (ns.map V.int) := by
    cases hk : K.lookup a with
    | none => exact .inl (.inr ⟨_, HN hk⟩)
    | some o =>
      have e := KX a o hk
      rw [scr] at e
      cases e
      exact .inr ⟨_, vs.toArray, _, hk, rfl, rfl, rfl, by rw [List.size_toArray, hi.length]; rw [List.length_map] at len; exact len, by simpa using rv⟩
  have e0 : Env0 P w K mg (hidT s.heap H) callerA [] s H := ⟨rfl, ⟨KB, space hns, ⟨mb, space hb, hbb⟩, let ⟨mc, h1, h2⟩ := hlim; ⟨mc, space h1, h2⟩⟩, fun b o e => of_hidT e, Nat.le_of_eq (hidT_size _ _), trivial, fun b z => (nomatch (show b ∈ ([] : List Addr) from z)), hok, .of_eq hg⟩
  refine codeAny_mono (law_run T T2 Kp Kn Kl TB hco hr e0 HP HS hn) fun r s' h => ?_
  cases r with
  | error e => exact (let ⟨_, _, _, _, _, _, _, _, _, _, _, _, z⟩ := h; z : False).elim
  | ok fl =>
    cases fl with
    | next => exact h.elim
    | brk => exact h.elim
    | cont => exact h.elim
    | ret u =>
      obtain ⟨v, H', os, bare, un, hok', ru, rfl⟩ := h
      obtain rfl : u = Value.bool true := ru
      obtain ⟨more, hm⟩ := un.tbls Pt #[] HP
      have hm2 : s'.heap.get? Pt = some { cls := .none, data := .fields (#[] ++ more) } := hok' Pt _ hm
      have key : ∀ b o, b ≠ Pt → s.heap.get? b = some o → s'.heap.get? b = some o := fun b o nb e => by
        cases q : H b with
        | none => exact un.keep b o e q (fun z => nomatch (show b ∈ ([] : List Addr) from z)) (fun z => nomatch z)
        | some u =>
          rcases look b u q with ⟨z, _⟩ | ⟨rfl, rfl⟩
          · exact absurd z nb
          · obtain ⟨e2, _⟩ := hok' b _ (un.frzs b _ _ q)
            rw [scr] at e
            cases e
            exact e2
      refine ⟨rfl, ⟨fun b o e => ?_, fun b o e => ?_⟩, os, bare⟩
      · by_cases hb : b = Pt
        · rw [hb] at e ⊢
          rw [tab] at e
          cases e
          exact .inr (.inl ⟨(C.tab tab).isCodeTable, rfl, #[], more, rfl, hm2⟩)
        · exact .inl (key b o hb e)
      · by_cases hb : b = Pt
        · rw [hb]
          exact ⟨_, hm2⟩
        · exact ⟨o, key b o hb e⟩
end
/-- what is known at the head's heap -/
structure AtHead (K : PySem.W.Frag) (mg : Str → Option Value) (fa : Addr) (ad : Ad) (x : Ae) (c Pt : Addr) : Prop where
  T : Txt K mg ad
  T2 : Exs K mg ad x
  kp : Knd K ad ad.BadPoint "point"
  kn : Knd K ad ad.BadNumber "number"
  kl : Knd K ad ad.BadPlace "place"
  la : ad.law = fa
  co : ad.d_law.code = .ref c
  ti : PySem.W.tabIn K "law" = some (c, Pt)
  no : K.lookup Pt = none
theorem walk_end {l : PySem.W.OpenLaw} {q : Program} {loose : List Str} {XP : (Str → Option Value) → Heap → Prop} {YP : World → Heap → Prop} {d : DefRec} {K : Params → PySem.W.Frag} (hn : l.most = some 63) (hdf : d.params.defaults = []) (hr : Room 12 callerA)
    (hrec : ((recsOf q).find? fun e => e.name == ("law" : Str)).isSome = true) (hY : ∀ (w : World) (h : Heap), YP w h → (K w.params).In h)
    (F : ∀ (w : World) (mg : Str → Option Value) (fa : Addr) (h : Heap), (K w.params).In h → h.Ns mainGlobals mg → mg d.name = some (.ref fa) → ∃ (ad : Ad) (x : Ae) (c Pt : Addr), AtHead (K w.params) mg fa ad x c Pt) :
    PySem.W.WalkO q loose XP YP l.row.toRowW d [] (fun f vs => PySem.call f vs) := by
  refine Att.attach_callB hn hdf fun w s₀ s₁ mg mb fa o pm cd doc a vs ns G Y ho hd hcd hmg hobj hints hlen hbits hg => ?_
  have KX := hY w _ Y
  obtain ⟨ad, x, c, Pt, A⟩ := F w mg fa _ KX G.T.g hmg
  obtain ⟨dr, hdr⟩ := Option.isSome_iff_exists.mp hrec
  obtain ⟨cd', tb⟩ := PySem.W.tab_of G.T KX hdr A.ti
  have := end_call (P := l.prog) (w := w) (mb := mb) A.T A.T2 A.kp A.kn A.kl A.co KX G.T.g G.T.b G.T.builtins G.T.nolimit hg tb A.no cd' G.T.bmain hobj hints ⟨hlen, hbits⟩ hr
  rw [A.la] at this
  exact this
end Pc

set_option Elab.async false
set_option linter.all false
set_option maxRecDepth 100000
set_option maxHeartbeats 8000000
/-! PcG: what the top has left, fact by fact (printed by gen.py). -/
namespace Pc
open PySem PySem.Spec PyProof.Rows L2
theorem kit_same {K : PySem.W.Frag} {C : Addr} : PySem.W.kitOne K (.ref C) (.ref C) = some true := if_pos (beq_self_eq_true _)
theorem kit_own {K : PySem.W.Frag} {C D : Addr} {b : Bool} (ne : (Value.ref C == Value.ref D) = false) (hd : PySem.W.hasDictIn K D = true) (ty : PySem.W.typeIn K (.ref D) = some (.type "type")) (s : PySem.W.subIn K (.ref C) (.ref D) = some b) : PySem.W.kitOne K (.ref C) (.ref D) = some b := by
  obtain ⟨cd, hc, _⟩ := PySem.W.any_some hd
  have e2 : ((PySem.W.clsIn K D).isSome && PySem.W.typeIn K (.ref D) == some (.type "type")) = true := by rw [hc, ty] <;> rfl
  show (if (Value.ref C == Value.ref D) = true then some true else if ((PySem.W.clsIn K D).isSome && PySem.W.typeIn K (.ref D) == some (.type "type")) = true then PySem.W.subIn K (.ref C) (.ref D) else none) = some b
  rw [ne, if_neg Bool.false_ne_true, if_pos e2]
  exact s
theorem tab_mk {K : PySem.W.Frag} {x : Str} {f c P : Addr} {oc e : Value} {od dd : Option Addr} {fd : FuncData} {sl sl2 : Array (Option Value)} {vs : Array Value} (a : PySem.W.nsIn K mainGlobals x = some (some (.ref f))) (l : K.lookup f = some ⟨oc, od, .func fd, sl⟩) (hc : fd.code = .ref c)
    (lc : K.lookup c = some ⟨e, dd, .fields vs, sl2⟩) (hv : (vs[11]? : Option Value) = some (.ref P)) : PySem.W.tabIn K x = some (c, P) := by
  unfold PySem.W.tabIn
  rw [a]
  dsimp only
  rw [l]
  dsimp only
  rw [hc]
  dsimp only
  rw [lc]
  dsimp only
  rw [hv]

theorem all_mk {K : PySem.W.Frag} {h : Heap} {mg : Str → Option Value} {fa c Pt E N0 f0 f1 f2 f3 f4 f5 f6 f7 f8 f9 f10 f11 f12 f13 f14 f15 f16 f17 f18 f19 f20 f21 f22 f23 f24 f25 f26 f27 f28 f29 f30 f31 f32 f33 f34 f35 f36 f37 f38 f39 f40 f41 Cn Cp Cl gn gp gl : Addr} (X : K.In h) (G : h.Ns mainGlobals mg) (hfa : mg "law" = some (.ref fa))
    {od0 an0 : Option Addr} {sl0 : Array (Option Value)} {oc0 kV0 dc0 pm0 cd0 ct0 : Value}
    {od1 an1 : Option Addr} {sl1 : Array (Option Value)} {oc1 kV1 dc1 pm1 cd1 ct1 : Value}
    {od2 an2 : Option Addr} {sl2 : Array (Option Value)} {oc2 kV2 dc2 pm2 cd2 ct2 : Value}
    {od3 an3 : Option Addr} {sl3 : Array (Option Value)} {oc3 kV3 dc3 pm3 cd3 ct3 : Value}
    {od4 an4 : Option Addr} {sl4 : Array (Option Value)} {oc4 kV4 dc4 pm4 cd4 ct4 : Value}
    {od5 an5 : Option Addr} {sl5 : Array (Option Value)} {oc5 kV5 dc5 pm5 cd5 ct5 : Value}
    {od6 an6 : Option Addr} {sl6 : Array (Option Value)} {oc6 kV6 dc6 pm6 cd6 ct6 : Value}
    {od7 an7 : Option Addr} {sl7 : Array (Option Value)} {oc7 kV7 dc7 pm7 cd7 ct7 : Value}
    {od8 an8 : Option Addr} {sl8 : Array (Option Value)} {oc8 kV8 dc8 pm8 cd8 ct8 : Value}
    {od9 an9 : Option Addr} {sl9 : Array (Option Value)} {oc9 kV9 dc9 pm9 cd9 ct9 : Value}
    {od10 an10 : Option Addr} {sl10 : Array (Option Value)} {oc10 kV10 dc10 pm10 cd10 ct10 : Value}
    {od11 an11 : Option Addr} {sl11 : Array (Option Value)} {oc11 kV11 dc11 pm11 cd11 ct11 : Value}
    {od12 an12 : Option Addr} {sl12 : Array (Option Value)} {oc12 kV12 dc12 pm12 cd12 ct12 : Value}
    {od13 an13 : Option Addr} {sl13 : Array (Option Value)} {oc13 kV13 dc13 pm13 cd13 ct13 : Value}
    {od14 an14 : Option Addr} {sl14 : Array (Option Value)} {oc14 kV14 dc14 pm14 cd14 ct14 : Value}
    {od15 an15 : Option Addr} {sl15 : Array (Option Value)} {oc15 kV15 dc15 pm15 cd15 ct15 : Value}
    {od16 an16 : Option Addr} {sl16 : Array (Option Value)} {oc16 kV16 dc16 pm16 cd16 ct16 : Value}
    {od17 an17 : Option Addr} {sl17 : Array (Option Value)} {oc17 kV17 dc17 pm17 cd17 ct17 : Value}
    {od18 an18 : Option Addr} {sl18 : Array (Option Value)} {oc18 kV18 dc18 pm18 cd18 ct18 : Value}
    {od19 an19 : Option Addr} {sl19 : Array (Option Value)} {oc19 kV19 dc19 pm19 cd19 ct19 : Value}
    {od20 an20 : Option Addr} {sl20 : Array (Option Value)} {oc20 kV20 dc20 pm20 cd20 ct20 : Value}
    {od21 an21 : Option Addr} {sl21 : Array (Option Value)} {oc21 kV21 dc21 pm21 cd21 ct21 : Value}
    {od22 an22 : Option Addr} {sl22 : Array (Option Value)} {oc22 kV22 dc22 pm22 cd22 ct22 : Value}
    {od23 an23 : Option Addr} {sl23 : Array (Option Value)} {oc23 kV23 dc23 pm23 cd23 ct23 : Value}
    {od24 an24 : Option Addr} {sl24 : Array (Option Value)} {oc24 kV24 dc24 pm24 cd24 ct24 : Value}
    {od25 an25 : Option Addr} {sl25 : Array (Option Value)} {oc25 kV25 dc25 pm25 cd25 ct25 : Value}
    {od26 an26 : Option Addr} {sl26 : Array (Option Value)} {oc26 kV26 dc26 pm26 cd26 ct26 : Value}
    {od27 an27 : Option Addr} {sl27 : Array (Option Value)} {oc27 kV27 dc27 pm27 cd27 ct27 : Value}
    {od28 an28 : Option Addr} {sl28 : Array (Option Value)} {oc28 kV28 dc28 pm28 cd28 ct28 : Value}
    {od29 an29 : Option Addr} {sl29 : Array (Option Value)} {oc29 kV29 dc29 pm29 cd29 ct29 : Value}
    {od30 an30 : Option Addr} {sl30 : Array (Option Value)} {oc30 kV30 dc30 pm30 cd30 ct30 : Value}
    {od31 an31 : Option Addr} {sl31 : Array (Option Value)} {oc31 kV31 dc31 pm31 cd31 ct31 : Value}
    {od32 an32 : Option Addr} {sl32 : Array (Option Value)} {oc32 kV32 dc32 pm32 cd32 ct32 : Value}
    {od33 an33 : Option Addr} {sl33 : Array (Option Value)} {oc33 kV33 dc33 pm33 cd33 ct33 : Value}
    {od34 an34 : Option Addr} {sl34 : Array (Option Value)} {oc34 kV34 dc34 pm34 cd34 ct34 : Value}
    {od35 an35 : Option Addr} {sl35 : Array (Option Value)} {oc35 kV35 dc35 pm35 cd35 ct35 : Value}
    {od36 an36 : Option Addr} {sl36 : Array (Option Value)} {oc36 kV36 dc36 pm36 cd36 ct36 : Value}
    {od37 an37 : Option Addr} {sl37 : Array (Option Value)} {oc37 kV37 dc37 pm37 cd37 ct37 : Value}
    {od38 an38 : Option Addr} {sl38 : Array (Option Value)} {oc38 kV38 dc38 pm38 cd38 ct38 : Value}
    {od39 an39 : Option Addr} {sl39 : Array (Option Value)} {oc39 kV39 dc39 pm39 cd39 ct39 : Value}
    {od40 an40 : Option Addr} {sl40 : Array (Option Value)} {oc40 kV40 dc40 pm40 cd40 ct40 : Value}
    {od41 an41 : Option Addr} {sl41 : Array (Option Value)} {oc41 kV41 dc41 pm41 ct41 : Value}
    {nmn qn : Str} {Nn : Addr} {bsn : List Value} {snn : List Str} {subn : List Value} {abn : Bool} {coln : Option Bool} {ddn : Option Addr} {m0n m1n m2n m3n m5n : Option Value}
    {odn ann : Option Addr} {sln : Array (Option Value)} {ocn kVn dcn pmn cdn ctn : Value}
    {nmp qp : Str} {Np : Addr} {bsp : List Value} {snp : List Str} {subp : List Value} {abp : Bool} {colp : Option Bool} {ddp : Option Addr} {m0p m1p m2p m3p m5p : Option Value}
    {odp anp : Option Addr} {slp : Array (Option Value)} {ocp kVp dcp pmp cdp ctp : Value}
    {nml ql : Str} {Nl : Addr} {bsl : List Value} {snl : List Str} {subl : List Value} {abl : Bool} {coll : Option Bool} {ddl : Option Addr} {m0l m1l m2l m3l m5l : Option Value}
    {odl anl : Option Addr} {sll : Array (Option Value)} {ocl kVl dcl pml cdl ctl : Value}
    {odN : Option Addr} {nN : Nat} {slN : Array (Option Value)} {tN uN : Tok}
    {ocL : Value} {odL : Option Addr} {vsL : Array Value} {slL : Array (Option Value)}
    (a0 : PySem.W.nsIn K mainGlobals "is_integer" = some (some (.ref f0)))
    (l0 : K.lookup f0 = some ⟨oc0, od0, .func (PySem.W.fnOf "is_integer" "is_integer" (defArgs s_is_integer) (defBody s_is_integer) (defScope s_is_integer) .none kV0 dc0 pm0 an0 cd0 ct0), sl0⟩)
    (c0 : PySem.W.codeIn K (cd0) "is_integer" = true)
    (k0 : PySem.W.keepIn K (.ref f0) = true)
    (a1 : PySem.W.nsIn K mainGlobals "is_within" = some (some (.ref f1)))
    (l1 : K.lookup f1 = some ⟨oc1, od1, .func (PySem.W.fnOf "is_within" "is_within" (defArgs s_is_within) (defBody s_is_within) (defScope s_is_within) .none kV1 dc1 pm1 an1 cd1 ct1), sl1⟩)
    (c1 : PySem.W.codeIn K (cd1) "is_within" = true)
    (k1 : PySem.W.keepIn K (.ref f1) = true)
    (a2 : PySem.W.nsIn K mainGlobals "is_list" = some (some (.ref f2)))
    (l2 : K.lookup f2 = some ⟨oc2, od2, .func (PySem.W.fnOf "is_list" "is_list" (defArgs s_is_list) (defBody s_is_list) (defScope s_is_list) .none kV2 dc2 pm2 an2 cd2 ct2), sl2⟩)
    (c2 : PySem.W.codeIn K (cd2) "is_list" = true)
    (k2 : PySem.W.keepIn K (.ref f2) = true)
    (a3 : PySem.W.nsIn K mainGlobals "common" = some (some (.ref f3)))
    (l3 : K.lookup f3 = some ⟨oc3, od3, .func (PySem.W.fnOf "common" "common" (defArgs s_common) (defBody s_common) (defScope s_common) .none kV3 dc3 pm3 an3 cd3 ct3), sl3⟩)
    (c3 : PySem.W.codeIn K (cd3) "common" = true)
    (k3 : PySem.W.keepIn K (.ref f3) = true)
    (a4 : PySem.W.nsIn K mainGlobals "is_number" = some (some (.ref f4)))
    (l4 : K.lookup f4 = some ⟨oc4, od4, .func (PySem.W.fnOf "is_number" "is_number" (defArgs s_is_number) (defBody s_is_number) (defScope s_is_number) .none kV4 dc4 pm4 an4 cd4 ct4), sl4⟩)
    (c4 : PySem.W.codeIn K (cd4) "is_number" = true)
    (k4 : PySem.W.keepIn K (.ref f4) = true)
    (a5 : PySem.W.nsIn K mainGlobals "is_point" = some (some (.ref f5)))
    (l5 : K.lookup f5 = some ⟨oc5, od5, .func (PySem.W.fnOf "is_point" "is_point" (defArgs s_is_point) (defBody s_is_point) (defScope s_is_point) .none kV5 dc5 pm5 an5 cd5 ct5), sl5⟩)
    (c5 : PySem.W.codeIn K (cd5) "is_point" = true)
    (k5 : PySem.W.keepIn K (.ref f5) = true)
    (a6 : PySem.W.nsIn K mainGlobals "kept" = some (some (.ref f6)))
    (l6 : K.lookup f6 = some ⟨oc6, od6, .func (PySem.W.fnOf "kept" "kept" (defArgs s_kept) (defBody s_kept) (defScope s_kept) .none kV6 dc6 pm6 an6 cd6 ct6), sl6⟩)
    (c6 : PySem.W.codeIn K (cd6) "kept" = true)
    (k6 : PySem.W.keepIn K (.ref f6) = true)
    (a7 : PySem.W.nsIn K mainGlobals "kept_row" = some (some (.ref f7)))
    (l7 : K.lookup f7 = some ⟨oc7, od7, .func (PySem.W.fnOf "kept_row" "kept_row" (defArgs s_kept_row) (defBody s_kept_row) (defScope s_kept_row) .none kV7 dc7 pm7 an7 cd7 ct7), sl7⟩)
    (c7 : PySem.W.codeIn K (cd7) "kept_row" = true)
    (k7 : PySem.W.keepIn K (.ref f7) = true)
    (a8 : PySem.W.nsIn K mainGlobals "need_point" = some (some (.ref f8)))
    (l8 : K.lookup f8 = some ⟨oc8, od8, .func (PySem.W.fnOf "need_point" "need_point" (defArgs s_need_point) (defBody s_need_point) (defScope s_need_point) .none kV8 dc8 pm8 an8 cd8 ct8), sl8⟩)
    (c8 : PySem.W.codeIn K (cd8) "need_point" = true)
    (k8 : PySem.W.keepIn K (.ref f8) = true)
    (a9 : PySem.W.nsIn K mainGlobals "halves" = some (some (.ref f9)))
    (l9 : K.lookup f9 = some ⟨oc9, od9, .func (PySem.W.fnOf "halves" "halves" (defArgs s_halves) (defBody s_halves) (defScope s_halves) .none kV9 dc9 pm9 an9 cd9 ct9), sl9⟩)
    (c9 : PySem.W.codeIn K (cd9) "halves" = true)
    (k9 : PySem.W.keepIn K (.ref f9) = true)
    (a10 : PySem.W.nsIn K mainGlobals "lowest" = some (some (.ref f10)))
    (l10 : K.lookup f10 = some ⟨oc10, od10, .func (PySem.W.fnOf "lowest" "lowest" (defArgs s_lowest) (defBody s_lowest) (defScope s_lowest) .none kV10 dc10 pm10 an10 cd10 ct10), sl10⟩)
    (c10 : PySem.W.codeIn K (cd10) "lowest" = true)
    (k10 : PySem.W.keepIn K (.ref f10) = true)
    (a11 : PySem.W.nsIn K mainGlobals "added" = some (some (.ref f11)))
    (l11 : K.lookup f11 = some ⟨oc11, od11, .func (PySem.W.fnOf "added" "added" (defArgs s_added) (defBody s_added) (defScope s_added) .none kV11 dc11 pm11 an11 cd11 ct11), sl11⟩)
    (c11 : PySem.W.codeIn K (cd11) "added" = true)
    (k11 : PySem.W.keepIn K (.ref f11) = true)
    (a12 : PySem.W.nsIn K mainGlobals "product" = some (some (.ref f12)))
    (l12 : K.lookup f12 = some ⟨oc12, od12, .func (PySem.W.fnOf "product" "product" (defArgs s_product) (defBody s_product) (defScope s_product) .none kV12 dc12 pm12 an12 cd12 ct12), sl12⟩)
    (c12 : PySem.W.codeIn K (cd12) "product" = true)
    (k12 : PySem.W.keepIn K (.ref f12) = true)
    (a13 : PySem.W.nsIn K mainGlobals "sign_in" = some (some (.ref f13)))
    (l13 : K.lookup f13 = some ⟨oc13, od13, .func (PySem.W.fnOf "sign_in" "sign_in" (defArgs s_sign_in) (defBody s_sign_in) (defScope s_sign_in) .none kV13 dc13 pm13 an13 cd13 ct13), sl13⟩)
    (c13 : PySem.W.codeIn K (cd13) "sign_in" = true)
    (k13 : PySem.W.keepIn K (.ref f13) = true)
    (a14 : PySem.W.nsIn K mainGlobals "square" = some (some (.ref f14)))
    (l14 : K.lookup f14 = some ⟨oc14, od14, .func (PySem.W.fnOf "square" "square" (defArgs s_square) (defBody s_square) (defScope s_square) .none kV14 dc14 pm14 an14 cd14 ct14), sl14⟩)
    (c14 : PySem.W.codeIn K (cd14) "square" = true)
    (k14 : PySem.W.keepIn K (.ref f14) = true)
    (a15 : PySem.W.nsIn K mainGlobals "root_in" = some (some (.ref f15)))
    (l15 : K.lookup f15 = some ⟨oc15, od15, .func (PySem.W.fnOf "root_in" "root_in" (defArgs s_root_in) (defBody s_root_in) (defScope s_root_in) .none kV15 dc15 pm15 an15 cd15 ct15), sl15⟩)
    (c15 : PySem.W.codeIn K (cd15) "root_in" = true)
    (k15 : PySem.W.keepIn K (.ref f15) = true)
    (a16 : PySem.W.nsIn K mainGlobals "is_place" = some (some (.ref f16)))
    (l16 : K.lookup f16 = some ⟨oc16, od16, .func (PySem.W.fnOf "is_place" "is_place" (defArgs s_is_place) (defBody s_is_place) (defScope s_is_place) .none kV16 dc16 pm16 an16 cd16 ct16), sl16⟩)
    (c16 : PySem.W.codeIn K (cd16) "is_place" = true)
    (k16 : PySem.W.keepIn K (.ref f16) = true)
    (a17 : PySem.W.nsIn K mainGlobals "kept_place" = some (some (.ref f17)))
    (l17 : K.lookup f17 = some ⟨oc17, od17, .func (PySem.W.fnOf "kept_place" "kept_place" (defArgs s_kept_place) (defBody s_kept_place) (defScope s_kept_place) .none kV17 dc17 pm17 an17 cd17 ct17), sl17⟩)
    (c17 : PySem.W.codeIn K (cd17) "kept_place" = true)
    (k17 : PySem.W.keepIn K (.ref f17) = true)
    (a18 : PySem.W.nsIn K mainGlobals "need_place" = some (some (.ref f18)))
    (l18 : K.lookup f18 = some ⟨oc18, od18, .func (PySem.W.fnOf "need_place" "need_place" (defArgs s_need_place) (defBody s_need_place) (defScope s_need_place) .none kV18 dc18 pm18 an18 cd18 ct18), sl18⟩)
    (c18 : PySem.W.codeIn K (cd18) "need_place" = true)
    (k18 : PySem.W.keepIn K (.ref f18) = true)
    (a19 : PySem.W.nsIn K mainGlobals "shifted" = some (some (.ref f19)))
    (l19 : K.lookup f19 = some ⟨oc19, od19, .func (PySem.W.fnOf "shifted" "shifted" (defArgs s_shifted) (defBody s_shifted) (defScope s_shifted) .none kV19 dc19 pm19 an19 cd19 ct19), sl19⟩)
    (c19 : PySem.W.codeIn K (cd19) "shifted" = true)
    (k19 : PySem.W.keepIn K (.ref f19) = true)
    (a20 : PySem.W.nsIn K mainGlobals "grown" = some (some (.ref f20)))
    (l20 : K.lookup f20 = some ⟨oc20, od20, .func (PySem.W.fnOf "grown" "grown" (defArgs s_grown) (defBody s_grown) (defScope s_grown) .none kV20 dc20 pm20 an20 cd20 ct20), sl20⟩)
    (c20 : PySem.W.codeIn K (cd20) "grown" = true)
    (k20 : PySem.W.keepIn K (.ref f20) = true)
    (a21 : PySem.W.nsIn K mainGlobals "placed" = some (some (.ref f21)))
    (l21 : K.lookup f21 = some ⟨oc21, od21, .func (PySem.W.fnOf "placed" "placed" (defArgs s_placed) (defBody s_placed) (defScope s_placed) .none kV21 dc21 pm21 an21 cd21 ct21), sl21⟩)
    (c21 : PySem.W.codeIn K (cd21) "placed" = true)
    (k21 : PySem.W.keepIn K (.ref f21) = true)
    (a22 : PySem.W.nsIn K mainGlobals "place_of" = some (some (.ref f22)))
    (l22 : K.lookup f22 = some ⟨oc22, od22, .func (PySem.W.fnOf "place_of" "place_of" (defArgs s_place_of) (defBody s_place_of) (defScope s_place_of) .none kV22 dc22 pm22 an22 cd22 ct22), sl22⟩)
    (c22 : PySem.W.codeIn K (cd22) "place_of" = true)
    (k22 : PySem.W.keepIn K (.ref f22) = true)
    (a23 : PySem.W.nsIn K mainGlobals "as_point" = some (some (.ref f23)))
    (l23 : K.lookup f23 = some ⟨oc23, od23, .func (PySem.W.fnOf "as_point" "as_point" (defArgs s_as_point) (defBody s_as_point) (defScope s_as_point) .none kV23 dc23 pm23 an23 cd23 ct23), sl23⟩)
    (c23 : PySem.W.codeIn K (cd23) "as_point" = true)
    (k23 : PySem.W.keepIn K (.ref f23) = true)
    (a24 : PySem.W.nsIn K mainGlobals "_law_moor" = some (some (.ref f24)))
    (l24 : K.lookup f24 = some ⟨oc24, od24, .func (PySem.W.fnOf "_law_moor" "_law_moor" (defArgs s_law_moor) (defBody s_law_moor) (defScope s_law_moor) .none kV24 dc24 pm24 an24 cd24 ct24), sl24⟩)
    (c24 : PySem.W.codeIn K (cd24) "_law_moor" = true)
    (k24 : PySem.W.keepIn K (.ref f24) = true)
    (a25 : PySem.W.nsIn K mainGlobals "_law_heath" = some (some (.ref f25)))
    (l25 : K.lookup f25 = some ⟨oc25, od25, .func (PySem.W.fnOf "_law_heath" "_law_heath" (defArgs s_law_heath) (defBody s_law_heath) (defScope s_law_heath) .none kV25 dc25 pm25 an25 cd25 ct25), sl25⟩)
    (c25 : PySem.W.codeIn K (cd25) "_law_heath" = true)
    (k25 : PySem.W.keepIn K (.ref f25) = true)
    (a26 : PySem.W.nsIn K mainGlobals "_law_pick" = some (some (.ref f26)))
    (l26 : K.lookup f26 = some ⟨oc26, od26, .func (PySem.W.fnOf "_law_pick" "_law_pick" (defArgs s_law_pick) (defBody s_law_pick) (defScope s_law_pick) .none kV26 dc26 pm26 an26 cd26 ct26), sl26⟩)
    (c26 : PySem.W.codeIn K (cd26) "_law_pick" = true)
    (k26 : PySem.W.keepIn K (.ref f26) = true)
    (a27 : PySem.W.nsIn K mainGlobals "_law_lowest" = some (some (.ref f27)))
    (l27 : K.lookup f27 = some ⟨oc27, od27, .func (PySem.W.fnOf "_law_lowest" "_law_lowest" (defArgs s_law_lowest) (defBody s_law_lowest) (defScope s_law_lowest) .none kV27 dc27 pm27 an27 cd27 ct27), sl27⟩)
    (c27 : PySem.W.codeIn K (cd27) "_law_lowest" = true)
    (k27 : PySem.W.keepIn K (.ref f27) = true)
    (a28 : PySem.W.nsIn K mainGlobals "_law_halves" = some (some (.ref f28)))
    (l28 : K.lookup f28 = some ⟨oc28, od28, .func (PySem.W.fnOf "_law_halves" "_law_halves" (defArgs s_law_halves) (defBody s_law_halves) (defScope s_law_halves) .none kV28 dc28 pm28 an28 cd28 ct28), sl28⟩)
    (c28 : PySem.W.codeIn K (cd28) "_law_halves" = true)
    (k28 : PySem.W.keepIn K (.ref f28) = true)
    (a29 : PySem.W.nsIn K mainGlobals "_law_plus" = some (some (.ref f29)))
    (l29 : K.lookup f29 = some ⟨oc29, od29, .func (PySem.W.fnOf "_law_plus" "_law_plus" (defArgs s_law_plus) (defBody s_law_plus) (defScope s_law_plus) .none kV29 dc29 pm29 an29 cd29 ct29), sl29⟩)
    (c29 : PySem.W.codeIn K (cd29) "_law_plus" = true)
    (k29 : PySem.W.keepIn K (.ref f29) = true)
    (a30 : PySem.W.nsIn K mainGlobals "_law_times" = some (some (.ref f30)))
    (l30 : K.lookup f30 = some ⟨oc30, od30, .func (PySem.W.fnOf "_law_times" "_law_times" (defArgs s_law_times) (defBody s_law_times) (defScope s_law_times) .none kV30 dc30 pm30 an30 cd30 ct30), sl30⟩)
    (c30 : PySem.W.codeIn K (cd30) "_law_times" = true)
    (k30 : PySem.W.keepIn K (.ref f30) = true)
    (a31 : PySem.W.nsIn K mainGlobals "_law_whole_root" = some (some (.ref f31)))
    (l31 : K.lookup f31 = some ⟨oc31, od31, .func (PySem.W.fnOf "_law_whole_root" "_law_whole_root" (defArgs s_law_whole_root) (defBody s_law_whole_root) (defScope s_law_whole_root) .none kV31 dc31 pm31 an31 cd31 ct31), sl31⟩)
    (c31 : PySem.W.codeIn K (cd31) "_law_whole_root" = true)
    (k31 : PySem.W.keepIn K (.ref f31) = true)
    (a32 : PySem.W.nsIn K mainGlobals "_law_root" = some (some (.ref f32)))
    (l32 : K.lookup f32 = some ⟨oc32, od32, .func (PySem.W.fnOf "_law_root" "_law_root" (defArgs s_law_root) (defBody s_law_root) (defScope s_law_root) .none kV32 dc32 pm32 an32 cd32 ct32), sl32⟩)
    (c32 : PySem.W.codeIn K (cd32) "_law_root" = true)
    (k32 : PySem.W.keepIn K (.ref f32) = true)
    (a33 : PySem.W.nsIn K mainGlobals "_law_form" = some (some (.ref f33)))
    (l33 : K.lookup f33 = some ⟨oc33, od33, .func (PySem.W.fnOf "_law_form" "_law_form" (defArgs s_law_form) (defBody s_law_form) (defScope s_law_form) .none kV33 dc33 pm33 an33 cd33 ct33), sl33⟩)
    (c33 : PySem.W.codeIn K (cd33) "_law_form" = true)
    (k33 : PySem.W.keepIn K (.ref f33) = true)
    (a34 : PySem.W.nsIn K mainGlobals "_law_small" = some (some (.ref f34)))
    (l34 : K.lookup f34 = some ⟨oc34, od34, .func (PySem.W.fnOf "_law_small" "_law_small" (defArgs s_law_small) (defBody s_law_small) (defScope s_law_small) .none kV34 dc34 pm34 an34 cd34 ct34), sl34⟩)
    (c34 : PySem.W.codeIn K (cd34) "_law_small" = true)
    (k34 : PySem.W.keepIn K (.ref f34) = true)
    (a35 : PySem.W.nsIn K mainGlobals "_law_heard" = some (some (.ref f35)))
    (l35 : K.lookup f35 = some ⟨oc35, od35, .func (PySem.W.fnOf "_law_heard" "_law_heard" (defArgs s_law_heard) (defBody s_law_heard) (defScope s_law_heard) .none kV35 dc35 pm35 an35 cd35 ct35), sl35⟩)
    (c35 : PySem.W.codeIn K (cd35) "_law_heard" = true)
    (k35 : PySem.W.keepIn K (.ref f35) = true)
    (a36 : PySem.W.nsIn K mainGlobals "_law_said" = some (some (.ref f36)))
    (l36 : K.lookup f36 = some ⟨oc36, od36, .func (PySem.W.fnOf "_law_said" "_law_said" (defArgs s_law_said) (defBody s_law_said) (defScope s_law_said) .none kV36 dc36 pm36 an36 cd36 ct36), sl36⟩)
    (c36 : PySem.W.codeIn K (cd36) "_law_said" = true)
    (k36 : PySem.W.keepIn K (.ref f36) = true)
    (a37 : PySem.W.nsIn K mainGlobals "_law_root_drawn" = some (some (.ref f37)))
    (l37 : K.lookup f37 = some ⟨oc37, od37, .func (PySem.W.fnOf "_law_root_drawn" "_law_root_drawn" (defArgs s_law_root_drawn) (defBody s_law_root_drawn) (defScope s_law_root_drawn) .none kV37 dc37 pm37 an37 cd37 ct37), sl37⟩)
    (c37 : PySem.W.codeIn K (cd37) "_law_root_drawn" = true)
    (k37 : PySem.W.keepIn K (.ref f37) = true)
    (a38 : PySem.W.nsIn K mainGlobals "_law_is_number" = some (some (.ref f38)))
    (l38 : K.lookup f38 = some ⟨oc38, od38, .func (PySem.W.fnOf "_law_is_number" "_law_is_number" (defArgs s_law_is_number) (defBody s_law_is_number) (defScope s_law_is_number) .none kV38 dc38 pm38 an38 cd38 ct38), sl38⟩)
    (c38 : PySem.W.codeIn K (cd38) "_law_is_number" = true)
    (k38 : PySem.W.keepIn K (.ref f38) = true)
    (a39 : PySem.W.nsIn K mainGlobals "_law_is_place" = some (some (.ref f39)))
    (l39 : K.lookup f39 = some ⟨oc39, od39, .func (PySem.W.fnOf "_law_is_place" "_law_is_place" (defArgs s_law_is_place) (defBody s_law_is_place) (defScope s_law_is_place) .none kV39 dc39 pm39 an39 cd39 ct39), sl39⟩)
    (c39 : PySem.W.codeIn K (cd39) "_law_is_place" = true)
    (k39 : PySem.W.keepIn K (.ref f39) = true)
    (a40 : PySem.W.nsIn K mainGlobals "_law_bent" = some (some (.ref f40)))
    (l40 : K.lookup f40 = some ⟨oc40, od40, .func (PySem.W.fnOf "_law_bent" "_law_bent" (defArgs s_law_bent) (defBody s_law_bent) (defScope s_law_bent) .none kV40 dc40 pm40 an40 cd40 ct40), sl40⟩)
    (c40 : PySem.W.codeIn K (cd40) "_law_bent" = true)
    (k40 : PySem.W.keepIn K (.ref f40) = true)
    (a41 : PySem.W.nsIn K mainGlobals "law" = some (some (.ref f41)))
    (l41 : K.lookup f41 = some ⟨oc41, od41, .func (PySem.W.fnOf "law" "law" (defArgs s_law) (defBody s_law) (defScope s_law) .none kV41 dc41 pm41 an41 (.ref c) ct41), sl41⟩)
    (c41 : PySem.W.codeIn K (.ref c) "law" = true)
    (k41 : PySem.W.keepIn K (.ref f41) = true)
    (aE : PySem.W.nsIn K mainGlobals "CurveError" = some (some (.ref E)))
    (rdE : PySem.W.readsIn K E (.type "type") = true)
    (gaE : PySem.W.specialIn K (.ref E) "__getattribute__" = some (some (.builtin "type.__getattribute__")))
    (ceE : PySem.W.findCls K (.ref E) (.type "type") "__init__" = some (.val (.builtin "ValueError.__init__")))
    (sg : PySem.W.specialIn K (.builtin "object.__class__") "__get__" = some (some (.builtin "getset_descriptor.__get__")))
    (tk : PySem.W.takesIn K (.builtin "object.__class__") = some true)
    (aCn : PySem.W.nsIn K mainGlobals "BadNumber" = some (some (.ref Cn)))
    (xLn : K.lookup Cn = some (excClassObj nmn qn Cn Nn bsn [.ref E, .type "ValueError", .type "Exception", .type "BaseException", .type "object"] true snn subn abn coln ddn m0n m1n m2n m3n m5n "ValueError.__new__"))
    (san : PySem.W.findIn K (.ref Cn) "__setattr__" = some (some (.builtin "object.__setattr__")))
    (gan : PySem.W.findIn K (.ref Cn) "__getattribute__" = some (some (.builtin "BaseException.__getattribute__")))
    (ggn : PySem.W.findIn K (.ref Cn) "__getattr__" = some none)
    (non : PySem.W.findIn K (.ref Cn) "part" = some none)
    (can : PySem.W.findIn K (.ref Cn) "__class__" = some (some (.builtin "object.__class__")))
    (mon : PySem.W.mroIn K Cn (.type "object") = some true)
    (inn : PySem.W.findIn K (.ref Cn) "__init__" = some (some (.ref gn)))
    (tin : PySem.W.typeIn K (.ref gn) = some (.type "function"))
    (ln : K.lookup gn = some ⟨ocn, odn, .func (PySem.W.fnOf "__init__" "BadNumber.__init__" (defArgs s_iBadNumber) (defBody s_iBadNumber) (defScope s_iBadNumber) .none kVn dcn pmn ann cdn ctn), sln⟩)
    (cn : PySem.W.codeIn K (cdn) "BadNumber.__init__" = true)
    (kn : PySem.W.keepIn K (.ref gn) = true)
    (kcn : PySem.W.keepIn K (.ref Cn) = true)
    (exn : PySem.W.subIn K (.ref Cn) (.type "BaseException") = some true)
    (tyn : PySem.W.typeIn K (.ref Cn) = some (.type "type"))
    (hdn : PySem.W.hasDictIn K Cn = true)
    (emn : PySem.W.subIn K (.ref Cn) (.ref E) = some true)
    (aCp : PySem.W.nsIn K mainGlobals "BadPoint" = some (some (.ref Cp)))
    (xLp : K.lookup Cp = some (excClassObj nmp qp Cp Np bsp [.ref E, .type "ValueError", .type "Exception", .type "BaseException", .type "object"] true snp subp abp colp ddp m0p m1p m2p m3p m5p "ValueError.__new__"))
    (sap : PySem.W.findIn K (.ref Cp) "__setattr__" = some (some (.builtin "object.__setattr__")))
    (gap : PySem.W.findIn K (.ref Cp) "__getattribute__" = some (some (.builtin "BaseException.__getattribute__")))
    (ggp : PySem.W.findIn K (.ref Cp) "__getattr__" = some none)
    (nop : PySem.W.findIn K (.ref Cp) "part" = some none)
    (cap : PySem.W.findIn K (.ref Cp) "__class__" = some (some (.builtin "object.__class__")))
    (mop : PySem.W.mroIn K Cp (.type "object") = some true)
    (inp : PySem.W.findIn K (.ref Cp) "__init__" = some (some (.ref gp)))
    (tip : PySem.W.typeIn K (.ref gp) = some (.type "function"))
    (lp : K.lookup gp = some ⟨ocp, odp, .func (PySem.W.fnOf "__init__" "BadPoint.__init__" (defArgs s_iBadPoint) (defBody s_iBadPoint) (defScope s_iBadPoint) .none kVp dcp pmp anp cdp ctp), slp⟩)
    (cp : PySem.W.codeIn K (cdp) "BadPoint.__init__" = true)
    (kp : PySem.W.keepIn K (.ref gp) = true)
    (kcp : PySem.W.keepIn K (.ref Cp) = true)
    (exp : PySem.W.subIn K (.ref Cp) (.type "BaseException") = some true)
    (typ : PySem.W.typeIn K (.ref Cp) = some (.type "type"))
    (hdp : PySem.W.hasDictIn K Cp = true)
    (emp : PySem.W.subIn K (.ref Cp) (.ref E) = some true)
    (aCl : PySem.W.nsIn K mainGlobals "BadPlace" = some (some (.ref Cl)))
    (xLl : K.lookup Cl = some (excClassObj nml ql Cl Nl bsl [.ref E, .type "ValueError", .type "Exception", .type "BaseException", .type "object"] true snl subl abl coll ddl m0l m1l m2l m3l m5l "ValueError.__new__"))
    (sal : PySem.W.findIn K (.ref Cl) "__setattr__" = some (some (.builtin "object.__setattr__")))
    (gal : PySem.W.findIn K (.ref Cl) "__getattribute__" = some (some (.builtin "BaseException.__getattribute__")))
    (ggl : PySem.W.findIn K (.ref Cl) "__getattr__" = some none)
    (nol : PySem.W.findIn K (.ref Cl) "part" = some none)
    (cal : PySem.W.findIn K (.ref Cl) "__class__" = some (some (.builtin "object.__class__")))
    (mol : PySem.W.mroIn K Cl (.type "object") = some true)
    (inl : PySem.W.findIn K (.ref Cl) "__init__" = some (some (.ref gl)))
    (til : PySem.W.typeIn K (.ref gl) = some (.type "function"))
    (ll : K.lookup gl = some ⟨ocl, odl, .func (PySem.W.fnOf "__init__" "BadPlace.__init__" (defArgs s_iBadPlace) (defBody s_iBadPlace) (defScope s_iBadPlace) .none kVl dcl pml anl cdl ctl), sll⟩)
    (cl : PySem.W.codeIn K (cdl) "BadPlace.__init__" = true)
    (kl : PySem.W.keepIn K (.ref gl) = true)
    (kcl : PySem.W.keepIn K (.ref Cl) = true)
    (exl : PySem.W.subIn K (.ref Cl) (.type "BaseException") = some true)
    (tyl : PySem.W.typeIn K (.ref Cl) = some (.type "type"))
    (hdl : PySem.W.hasDictIn K Cl = true)
    (eml : PySem.W.subIn K (.ref Cl) (.ref E) = some true)
    (snp : PySem.W.subIn K (.ref Cn) (.ref Cp) = some false)
    (nenp : (Value.ref Cn == Value.ref Cp) = false)
    (snl : PySem.W.subIn K (.ref Cn) (.ref Cl) = some false)
    (nenl : (Value.ref Cn == Value.ref Cl) = false)
    (spn : PySem.W.subIn K (.ref Cp) (.ref Cn) = some false)
    (nepn : (Value.ref Cp == Value.ref Cn) = false)
    (spl : PySem.W.subIn K (.ref Cp) (.ref Cl) = some false)
    (nepl : (Value.ref Cp == Value.ref Cl) = false)
    (sln : PySem.W.subIn K (.ref Cl) (.ref Cn) = some false)
    (neln : (Value.ref Cl == Value.ref Cn) = false)
    (slp : PySem.W.subIn K (.ref Cl) (.ref Cp) = some false)
    (nelp : (Value.ref Cl == Value.ref Cp) = false)
    (exE : PySem.W.subIn K (.ref E) (.type "BaseException") = some true)
    (tyE : PySem.W.typeIn K (.ref E) = some (.type "type"))
    (hdE : PySem.W.hasDictIn K E = true)
    (z_abs : PySem.W.nsIn K mainGlobals "abs" = some none)
    (z_all : PySem.W.nsIn K mainGlobals "all" = some none)
    (z_bool : PySem.W.nsIn K mainGlobals "bool" = some none)
    (z_int : PySem.W.nsIn K mainGlobals "int" = some none)
    (z_isinstance : PySem.W.nsIn K mainGlobals "isinstance" = some none)
    (z_len : PySem.W.nsIn K mainGlobals "len" = some none)
    (z_list : PySem.W.nsIn K mainGlobals "list" = some none)
    (z_range : PySem.W.nsIn K mainGlobals "range" = some none)
    (z_repr : PySem.W.nsIn K mainGlobals "repr" = some none)
    (z_tuple : PySem.W.nsIn K mainGlobals "tuple" = some none)
    (z_zip : PySem.W.nsIn K mainGlobals "zip" = some none)
    (isq : PySem.W.nsIn K mainGlobals "isqrt" = some (some (.builtin "math.isqrt")))
    (aN : PySem.W.nsIn K mainGlobals "NONE" = some (some (.ref N0)))
    (lN : K.lookup N0 = some ⟨.type "tuple", odN, .seq #[.int 0 tN, .int 0 uN] nN, slN⟩)
    (lc : K.lookup c = some ⟨ocL, odL, .fields vsL, slL⟩)
    (vc : (vsL[11]? : Option Value) = some (.ref Pt))
    (nP : K.lookup Pt = none)
    : ∃ (ad : Ad) (x : Ae) (c Pt : Addr), AtHead K mg fa ad x c Pt := by
  have e := hfa.symm.trans (PySem.W.mg_of X G a41)
  cases e
  refine ⟨{ is_integer := f0, d_is_integer := PySem.W.fnOf "is_integer" "is_integer" (defArgs s_is_integer) (defBody s_is_integer) (defScope s_is_integer) .none kV0 dc0 pm0 an0 cd0 ct0, is_within := f1, d_is_within := PySem.W.fnOf "is_within" "is_within" (defArgs s_is_within) (defBody s_is_within) (defScope s_is_within) .none kV1 dc1 pm1 an1 cd1 ct1, is_list := f2, d_is_list := PySem.W.fnOf "is_list" "is_list" (defArgs s_is_list) (defBody s_is_list) (defScope s_is_list) .none kV2 dc2 pm2 an2 cd2 ct2, common := f3, d_common := PySem.W.fnOf "common" "common" (defArgs s_common) (defBody s_common) (defScope s_common) .none kV3 dc3 pm3 an3 cd3 ct3, is_number := f4, d_is_number := PySem.W.fnOf "is_number" "is_number" (defArgs s_is_number) (defBody s_is_number) (defScope s_is_number) .none kV4 dc4 pm4 an4 cd4 ct4, is_point := f5, d_is_point := PySem.W.fnOf "is_point" "is_point" (defArgs s_is_point) (defBody s_is_point) (defScope s_is_point) .none kV5 dc5 pm5 an5 cd5 ct5, kept := f6, d_kept := PySem.W.fnOf "kept" "kept" (defArgs s_kept) (defBody s_kept) (defScope s_kept) .none kV6 dc6 pm6 an6 cd6 ct6, kept_row := f7, d_kept_row := PySem.W.fnOf "kept_row" "kept_row" (defArgs s_kept_row) (defBody s_kept_row) (defScope s_kept_row) .none kV7 dc7 pm7 an7 cd7 ct7, need_point := f8, d_need_point := PySem.W.fnOf "need_point" "need_point" (defArgs s_need_point) (defBody s_need_point) (defScope s_need_point) .none kV8 dc8 pm8 an8 cd8 ct8, halves := f9, d_halves := PySem.W.fnOf "halves" "halves" (defArgs s_halves) (defBody s_halves) (defScope s_halves) .none kV9 dc9 pm9 an9 cd9 ct9, lowest := f10, d_lowest := PySem.W.fnOf "lowest" "lowest" (defArgs s_lowest) (defBody s_lowest) (defScope s_lowest) .none kV10 dc10 pm10 an10 cd10 ct10, added := f11, d_added := PySem.W.fnOf "added" "added" (defArgs s_added) (defBody s_added) (defScope s_added) .none kV11 dc11 pm11 an11 cd11 ct11, product := f12, d_product := PySem.W.fnOf "product" "product" (defArgs s_product) (defBody s_product) (defScope s_product) .none kV12 dc12 pm12 an12 cd12 ct12, sign_in := f13, d_sign_in := PySem.W.fnOf "sign_in" "sign_in" (defArgs s_sign_in) (defBody s_sign_in) (defScope s_sign_in) .none kV13 dc13 pm13 an13 cd13 ct13, square := f14, d_square := PySem.W.fnOf "square" "square" (defArgs s_square) (defBody s_square) (defScope s_square) .none kV14 dc14 pm14 an14 cd14 ct14, root_in := f15, d_root_in := PySem.W.fnOf "root_in" "root_in" (defArgs s_root_in) (defBody s_root_in) (defScope s_root_in) .none kV15 dc15 pm15 an15 cd15 ct15, is_place := f16, d_is_place := PySem.W.fnOf "is_place" "is_place" (defArgs s_is_place) (defBody s_is_place) (defScope s_is_place) .none kV16 dc16 pm16 an16 cd16 ct16, kept_place := f17, d_kept_place := PySem.W.fnOf "kept_place" "kept_place" (defArgs s_kept_place) (defBody s_kept_place) (defScope s_kept_place) .none kV17 dc17 pm17 an17 cd17 ct17, need_place := f18, d_need_place := PySem.W.fnOf "need_place" "need_place" (defArgs s_need_place) (defBody s_need_place) (defScope s_need_place) .none kV18 dc18 pm18 an18 cd18 ct18, shifted := f19, d_shifted := PySem.W.fnOf "shifted" "shifted" (defArgs s_shifted) (defBody s_shifted) (defScope s_shifted) .none kV19 dc19 pm19 an19 cd19 ct19, grown := f20, d_grown := PySem.W.fnOf "grown" "grown" (defArgs s_grown) (defBody s_grown) (defScope s_grown) .none kV20 dc20 pm20 an20 cd20 ct20, placed := f21, d_placed := PySem.W.fnOf "placed" "placed" (defArgs s_placed) (defBody s_placed) (defScope s_placed) .none kV21 dc21 pm21 an21 cd21 ct21, place_of := f22, d_place_of := PySem.W.fnOf "place_of" "place_of" (defArgs s_place_of) (defBody s_place_of) (defScope s_place_of) .none kV22 dc22 pm22 an22 cd22 ct22, as_point := f23, d_as_point := PySem.W.fnOf "as_point" "as_point" (defArgs s_as_point) (defBody s_as_point) (defScope s_as_point) .none kV23 dc23 pm23 an23 cd23 ct23, law_moor := f24, d_law_moor := PySem.W.fnOf "_law_moor" "_law_moor" (defArgs s_law_moor) (defBody s_law_moor) (defScope s_law_moor) .none kV24 dc24 pm24 an24 cd24 ct24, law_heath := f25, d_law_heath := PySem.W.fnOf "_law_heath" "_law_heath" (defArgs s_law_heath) (defBody s_law_heath) (defScope s_law_heath) .none kV25 dc25 pm25 an25 cd25 ct25, law_pick := f26, d_law_pick := PySem.W.fnOf "_law_pick" "_law_pick" (defArgs s_law_pick) (defBody s_law_pick) (defScope s_law_pick) .none kV26 dc26 pm26 an26 cd26 ct26, law_lowest := f27, d_law_lowest := PySem.W.fnOf "_law_lowest" "_law_lowest" (defArgs s_law_lowest) (defBody s_law_lowest) (defScope s_law_lowest) .none kV27 dc27 pm27 an27 cd27 ct27, law_halves := f28, d_law_halves := PySem.W.fnOf "_law_halves" "_law_halves" (defArgs s_law_halves) (defBody s_law_halves) (defScope s_law_halves) .none kV28 dc28 pm28 an28 cd28 ct28, law_plus := f29, d_law_plus := PySem.W.fnOf "_law_plus" "_law_plus" (defArgs s_law_plus) (defBody s_law_plus) (defScope s_law_plus) .none kV29 dc29 pm29 an29 cd29 ct29, law_times := f30, d_law_times := PySem.W.fnOf "_law_times" "_law_times" (defArgs s_law_times) (defBody s_law_times) (defScope s_law_times) .none kV30 dc30 pm30 an30 cd30 ct30, law_whole_root := f31, d_law_whole_root := PySem.W.fnOf "_law_whole_root" "_law_whole_root" (defArgs s_law_whole_root) (defBody s_law_whole_root) (defScope s_law_whole_root) .none kV31 dc31 pm31 an31 cd31 ct31, law_root := f32, d_law_root := PySem.W.fnOf "_law_root" "_law_root" (defArgs s_law_root) (defBody s_law_root) (defScope s_law_root) .none kV32 dc32 pm32 an32 cd32 ct32, law_form := f33, d_law_form := PySem.W.fnOf "_law_form" "_law_form" (defArgs s_law_form) (defBody s_law_form) (defScope s_law_form) .none kV33 dc33 pm33 an33 cd33 ct33, law_small := f34, d_law_small := PySem.W.fnOf "_law_small" "_law_small" (defArgs s_law_small) (defBody s_law_small) (defScope s_law_small) .none kV34 dc34 pm34 an34 cd34 ct34, law_heard := f35, d_law_heard := PySem.W.fnOf "_law_heard" "_law_heard" (defArgs s_law_heard) (defBody s_law_heard) (defScope s_law_heard) .none kV35 dc35 pm35 an35 cd35 ct35, law_said := f36, d_law_said := PySem.W.fnOf "_law_said" "_law_said" (defArgs s_law_said) (defBody s_law_said) (defScope s_law_said) .none kV36 dc36 pm36 an36 cd36 ct36, law_root_drawn := f37, d_law_root_drawn := PySem.W.fnOf "_law_root_drawn" "_law_root_drawn" (defArgs s_law_root_drawn) (defBody s_law_root_drawn) (defScope s_law_root_drawn) .none kV37 dc37 pm37 an37 cd37 ct37, law_is_number := f38, d_law_is_number := PySem.W.fnOf "_law_is_number" "_law_is_number" (defArgs s_law_is_number) (defBody s_law_is_number) (defScope s_law_is_number) .none kV38 dc38 pm38 an38 cd38 ct38, law_is_place := f39, d_law_is_place := PySem.W.fnOf "_law_is_place" "_law_is_place" (defArgs s_law_is_place) (defBody s_law_is_place) (defScope s_law_is_place) .none kV39 dc39 pm39 an39 cd39 ct39, law_bent := f40, d_law_bent := PySem.W.fnOf "_law_bent" "_law_bent" (defArgs s_law_bent) (defBody s_law_bent) (defScope s_law_bent) .none kV40 dc40 pm40 an40 cd40 ct40, law := fa, d_law := PySem.W.fnOf "law" "law" (defArgs s_law) (defBody s_law) (defScope s_law) .none kV41 dc41 pm41 an41 (.ref c) ct41, CurveError := E, BadNumber := Cn, BadPoint := Cp, BadPlace := Cl, NONE := N0 }, { i1 := gn, d1 := PySem.W.fnOf "__init__" "BadNumber.__init__" (defArgs s_iBadNumber) (defBody s_iBadNumber) (defScope s_iBadNumber) .none kVn dcn pmn ann cdn ctn, i2 := gp, d2 := PySem.W.fnOf "__init__" "BadPoint.__init__" (defArgs s_iBadPoint) (defBody s_iBadPoint) (defScope s_iBadPoint) .none kVp dcp pmp anp cdp ctp, i3 := gl, d3 := PySem.W.fnOf "__init__" "BadPlace.__init__" (defArgs s_iBadPlace) (defBody s_iBadPlace) (defScope s_iBadPlace) .none kVl dcl pml anl cdl ctl }, c, Pt, ?_⟩
  refine ⟨?T, ?T2, ?kp, ?kn, ?kl, rfl, rfl, tab_mk a41 l41 rfl lc vc, nP⟩
  case T =>
    exact { f_is_integer := ⟨fun_mk l0 c0 k0, PySem.W.mg_of X G a0⟩, f_is_within := ⟨fun_mk l1 c1 k1, PySem.W.mg_of X G a1⟩, f_is_list := ⟨fun_mk l2 c2 k2, PySem.W.mg_of X G a2⟩, f_common := ⟨fun_mk l3 c3 k3, PySem.W.mg_of X G a3⟩, f_is_number := ⟨fun_mk l4 c4 k4, PySem.W.mg_of X G a4⟩, f_is_point := ⟨fun_mk l5 c5 k5, PySem.W.mg_of X G a5⟩, f_kept := ⟨fun_mk l6 c6 k6, PySem.W.mg_of X G a6⟩, f_kept_row := ⟨fun_mk l7 c7 k7, PySem.W.mg_of X G a7⟩, f_need_point := ⟨fun_mk l8 c8 k8, PySem.W.mg_of X G a8⟩, f_halves := ⟨fun_mk l9 c9 k9, PySem.W.mg_of X G a9⟩, f_lowest := ⟨fun_mk l10 c10 k10, PySem.W.mg_of X G a10⟩, f_added := ⟨fun_mk l11 c11 k11, PySem.W.mg_of X G a11⟩, f_product := ⟨fun_mk l12 c12 k12, PySem.W.mg_of X G a12⟩, f_sign_in := ⟨fun_mk l13 c13 k13, PySem.W.mg_of X G a13⟩, f_square := ⟨fun_mk l14 c14 k14, PySem.W.mg_of X G a14⟩, f_root_in := ⟨fun_mk l15 c15 k15, PySem.W.mg_of X G a15⟩, f_is_place := ⟨fun_mk l16 c16 k16, PySem.W.mg_of X G a16⟩, f_kept_place := ⟨fun_mk l17 c17 k17, PySem.W.mg_of X G a17⟩, f_need_place := ⟨fun_mk l18 c18 k18, PySem.W.mg_of X G a18⟩, f_shifted := ⟨fun_mk l19 c19 k19, PySem.W.mg_of X G a19⟩, f_grown := ⟨fun_mk l20 c20 k20, PySem.W.mg_of X G a20⟩, f_placed := ⟨fun_mk l21 c21 k21, PySem.W.mg_of X G a21⟩, f_place_of := ⟨fun_mk l22 c22 k22, PySem.W.mg_of X G a22⟩, f_as_point := ⟨fun_mk l23 c23 k23, PySem.W.mg_of X G a23⟩, f_law_moor := ⟨fun_mk l24 c24 k24, PySem.W.mg_of X G a24⟩, f_law_heath := ⟨fun_mk l25 c25 k25, PySem.W.mg_of X G a25⟩, f_law_pick := ⟨fun_mk l26 c26 k26, PySem.W.mg_of X G a26⟩, f_law_lowest := ⟨fun_mk l27 c27 k27, PySem.W.mg_of X G a27⟩, f_law_halves := ⟨fun_mk l28 c28 k28, PySem.W.mg_of X G a28⟩, f_law_plus := ⟨fun_mk l29 c29 k29, PySem.W.mg_of X G a29⟩, f_law_times := ⟨fun_mk l30 c30 k30, PySem.W.mg_of X G a30⟩, f_law_whole_root := ⟨fun_mk l31 c31 k31, PySem.W.mg_of X G a31⟩, f_law_root := ⟨fun_mk l32 c32 k32, PySem.W.mg_of X G a32⟩, f_law_form := ⟨fun_mk l33 c33 k33, PySem.W.mg_of X G a33⟩, f_law_small := ⟨fun_mk l34 c34 k34, PySem.W.mg_of X G a34⟩, f_law_heard := ⟨fun_mk l35 c35 k35, PySem.W.mg_of X G a35⟩, f_law_said := ⟨fun_mk l36 c36 k36, PySem.W.mg_of X G a36⟩, f_law_root_drawn := ⟨fun_mk l37 c37 k37, PySem.W.mg_of X G a37⟩, f_law_is_number := ⟨fun_mk l38 c38 k38, PySem.W.mg_of X G a38⟩, f_law_is_place := ⟨fun_mk l39 c39 k39, PySem.W.mg_of X G a39⟩, f_law_bent := ⟨fun_mk l40 c40 k40, PySem.W.mg_of X G a40⟩, f_law := ⟨fun_mk l41 c41 k41, PySem.W.mg_of X G a41⟩, g_CurveError := PySem.W.mg_of X G aE, g_BadNumber := PySem.W.mg_of X G aCn, g_BadPoint := PySem.W.mg_of X G aCp, g_BadPlace := PySem.W.mg_of X G aCl, b_abs := PySem.W.mg_none_of X G z_abs, b_all := PySem.W.mg_none_of X G z_all, b_bool := PySem.W.mg_none_of X G z_bool, b_int := PySem.W.mg_none_of X G z_int, b_isinstance := PySem.W.mg_none_of X G z_isinstance, b_len := PySem.W.mg_none_of X G z_len, b_list := PySem.W.mg_none_of X G z_list, b_range := PySem.W.mg_none_of X G z_range, b_repr := PySem.W.mg_none_of X G z_repr, b_tuple := PySem.W.mg_none_of X G z_tuple, b_zip := PySem.W.mg_none_of X G z_zip, isqrt := PySem.W.mg_of X G isq, NONE := PySem.W.mg_of X G aN, noneT := .inr ⟨_, _, _, lN, rfl, rfl, Nat.le_of_ble_eq_true rfl, .cons ⟨_, rfl⟩ (.cons ⟨_, rfl⟩ .nil)⟩ }
  case T2 =>
    exact { num := ⟨⟨⟨_, _, _, _, _, _, _, _, _, _, _, _, _, _, _, xLn, rfl⟩, san, exn, tyn, kcn⟩, inn, tin, fun_mk ln cn kn, non, PySem.W.mg_of X G aCn⟩, pt := ⟨⟨⟨_, _, _, _, _, _, _, _, _, _, _, _, _, _, _, xLp, rfl⟩, sap, exp, typ, kcp⟩, inp, tip, fun_mk lp cp kp, nop, PySem.W.mg_of X G aCp⟩, pl := ⟨⟨⟨_, _, _, _, _, _, _, _, _, _, _, _, _, _, _, xLl, rfl⟩, sal, exl, tyl, kcl⟩, inl, til, fun_mk ll cl kl, nol, PySem.W.mg_of X G aCl⟩, rd := ⟨rdE, gaE⟩, ce := ceE, gl := PySem.W.mg_of X G aE }
  case kp => exact ⟨PySem.W.exm_ref exE hdE tyE emp, ⟨gap, ggp, exp, hdp, cap, sg, tk, mop⟩, ⟨gap, ggp, exp, hdp⟩, nop, ⟨_, _, _, kit_own nepl hdl tyl spl, kit_same, kit_own nepn hdn tyn spn, rfl⟩⟩
  case kn => exact ⟨PySem.W.exm_ref exE hdE tyE emn, ⟨gan, ggn, exn, hdn, can, sg, tk, mon⟩, ⟨gan, ggn, exn, hdn⟩, non, ⟨_, _, _, kit_own nenl hdl tyl snl, kit_own nenp hdp typ snp, kit_same, rfl⟩⟩
  case kl => exact ⟨PySem.W.exm_ref exE hdE tyE eml, ⟨gal, ggl, exl, hdl, cal, sg, tk, mol⟩, ⟨gal, ggl, exl, hdl⟩, nol, ⟨_, _, _, kit_same, kit_own nelp hdp typ slp, kit_own neln hdn tyn sln, rfl⟩⟩
end Pc
open PySem PySem.W PyProof.Rows
set_option maxRecDepth 100000 in
set_option maxHeartbeats 0 in
theorem PySem.Challenge.cw_typedcurve_k26_whole_places_have_one_for_holds : PySem.Challenge.rw_typedcurve_k26_whole_places_have_one_for.Holds := by
  w_on; o_law; k_head; (case hw => w_witness2)
  k_fill
  refine Pc.walk_end (l := PySem.Challenge.rw_typedcurve_k26_whole_places_have_one_for) rfl rfl ⟨rfl, by decide, by decide⟩ ?hrec (fun w h Y => PySem.W.km_in_of Y) ?F
  case hrec => first | rfl | decide +kernel
  case F =>
    intro w mg fa h KX G hmg
    refine' Pc.all_mk KX G hmg ?a0 ?l0 ?c0 ?k0 ?a1 ?l1 ?c1 ?k1 ?a2 ?l2 ?c2 ?k2 ?a3 ?l3 ?c3 ?k3 ?a4 ?l4 ?c4 ?k4 ?a5 ?l5 ?c5 ?k5 ?a6 ?l6 ?c6 ?k6 ?a7 ?l7 ?c7 ?k7 ?a8 ?l8 ?c8 ?k8 ?a9 ?l9 ?c9 ?k9 ?a10 ?l10 ?c10 ?k10 ?a11 ?l11 ?c11 ?k11 ?a12 ?l12 ?c12 ?k12 ?a13 ?l13 ?c13 ?k13 ?a14 ?l14 ?c14 ?k14 ?a15 ?l15 ?c15 ?k15 ?a16 ?l16 ?c16 ?k16 ?a17 ?l17 ?c17 ?k17 ?a18 ?l18 ?c18 ?k18 ?a19 ?l19 ?c19 ?k19 ?a20 ?l20 ?c20 ?k20 ?a21 ?l21 ?c21 ?k21 ?a22 ?l22 ?c22 ?k22 ?a23 ?l23 ?c23 ?k23 ?a24 ?l24 ?c24 ?k24 ?a25 ?l25 ?c25 ?k25 ?a26 ?l26 ?c26 ?k26 ?a27 ?l27 ?c27 ?k27 ?a28 ?l28 ?c28 ?k28 ?a29 ?l29 ?c29 ?k29 ?a30 ?l30 ?c30 ?k30 ?a31 ?l31 ?c31 ?k31 ?a32 ?l32 ?c32 ?k32 ?a33 ?l33 ?c33 ?k33 ?a34 ?l34 ?c34 ?k34 ?a35 ?l35 ?c35 ?k35 ?a36 ?l36 ?c36 ?k36 ?a37 ?l37 ?c37 ?k37 ?a38 ?l38 ?c38 ?k38 ?a39 ?l39 ?c39 ?k39 ?a40 ?l40 ?c40 ?k40 ?a41 ?l41 ?c41 ?k41 ?aE ?rdE ?gaE ?ceE ?sg ?tk ?aCn ?xLn ?san ?gan ?ggn ?non ?can ?mon ?inn ?tin ?ln ?cn ?kn ?kcn ?exn ?tyn ?hdn ?emn ?aCp ?xLp ?sap ?gap ?ggp ?nop ?cap ?mop ?inp ?tip ?lp ?cp ?kp ?kcp ?exp ?typ ?hdp ?emp ?aCl ?xLl ?sal ?gal ?ggl ?nol ?cal ?mol ?inl ?til ?ll ?cl ?kl ?kcl ?exl ?tyl ?hdl ?eml ?snp ?nenp ?snl ?nenl ?spn ?nepn ?spl ?nepl ?sln ?neln ?slp ?nelp ?exE ?tyE ?hdE ?z_abs ?z_all ?z_bool ?z_int ?z_isinstance ?z_len ?z_list ?z_range ?z_repr ?z_tuple ?z_zip ?isq ?aN ?lN ?lc ?vc ?nP
    (case a0 => k_is)
    (case l0 => k_is)
    (case c0 => k_is)
    (case k0 => k_is)
    (case a1 => k_is)
    (case l1 => k_is)
    (case c1 => k_is)
    (case k1 => k_is)
    (case a2 => k_is)
    (case l2 => k_is)
    (case c2 => k_is)
    (case k2 => k_is)
    (case a3 => k_is)
    (case l3 => k_is)
    (case c3 => k_is)
    (case k3 => k_is)
    (case a4 => k_is)
    (case l4 => k_is)
    (case c4 => k_is)
    (case k4 => k_is)
    (case a5 => k_is)
    (case l5 => k_is)
    (case c5 => k_is)
    (case k5 => k_is)
    (case a6 => k_is)
    (case l6 => k_is)
    (case c6 => k_is)
    (case k6 => k_is)
    (case a7 => k_is)
    (case l7 => k_is)
    (case c7 => k_is)
    (case k7 => k_is)
    (case a8 => k_is)
    (case l8 => k_is)
    (case c8 => k_is)
    (case k8 => k_is)
    (case a9 => k_is)
    (case l9 => k_is)
    (case c9 => k_is)
    (case k9 => k_is)
    (case a10 => k_is)
    (case l10 => k_is)
    (case c10 => k_is)
    (case k10 => k_is)
    (case a11 => k_is)
    (case l11 => k_is)
    (case c11 => k_is)
    (case k11 => k_is)
    (case a12 => k_is)
    (case l12 => k_is)
    (case c12 => k_is)
    (case k12 => k_is)
    (case a13 => k_is)
    (case l13 => k_is)
    (case c13 => k_is)
    (case k13 => k_is)
    (case a14 => k_is)
    (case l14 => k_is)
    (case c14 => k_is)
    (case k14 => k_is)
    (case a15 => k_is)
    (case l15 => k_is)
    (case c15 => k_is)
    (case k15 => k_is)
    (case a16 => k_is)
    (case l16 => k_is)
    (case c16 => k_is)
    (case k16 => k_is)
    (case a17 => k_is)
    (case l17 => k_is)
    (case c17 => k_is)
    (case k17 => k_is)
    (case a18 => k_is)
    (case l18 => k_is)
    (case c18 => k_is)
    (case k18 => k_is)
    (case a19 => k_is)
    (case l19 => k_is)
    (case c19 => k_is)
    (case k19 => k_is)
    (case a20 => k_is)
    (case l20 => k_is)
    (case c20 => k_is)
    (case k20 => k_is)
    (case a21 => k_is)
    (case l21 => k_is)
    (case c21 => k_is)
    (case k21 => k_is)
    (case a22 => k_is)
    (case l22 => k_is)
    (case c22 => k_is)
    (case k22 => k_is)
    (case a23 => k_is)
    (case l23 => k_is)
    (case c23 => k_is)
    (case k23 => k_is)
    (case a24 => k_is)
    (case l24 => k_is)
    (case c24 => k_is)
    (case k24 => k_is)
    (case a25 => k_is)
    (case l25 => k_is)
    (case c25 => k_is)
    (case k25 => k_is)
    (case a26 => k_is)
    (case l26 => k_is)
    (case c26 => k_is)
    (case k26 => k_is)
    (case a27 => k_is)
    (case l27 => k_is)
    (case c27 => k_is)
    (case k27 => k_is)
    (case a28 => k_is)
    (case l28 => k_is)
    (case c28 => k_is)
    (case k28 => k_is)
    (case a29 => k_is)
    (case l29 => k_is)
    (case c29 => k_is)
    (case k29 => k_is)
    (case a30 => k_is)
    (case l30 => k_is)
    (case c30 => k_is)
    (case k30 => k_is)
    (case a31 => k_is)
    (case l31 => k_is)
    (case c31 => k_is)
    (case k31 => k_is)
    (case a32 => k_is)
    (case l32 => k_is)
    (case c32 => k_is)
    (case k32 => k_is)
    (case a33 => k_is)
    (case l33 => k_is)
    (case c33 => k_is)
    (case k33 => k_is)
    (case a34 => k_is)
    (case l34 => k_is)
    (case c34 => k_is)
    (case k34 => k_is)
    (case a35 => k_is)
    (case l35 => k_is)
    (case c35 => k_is)
    (case k35 => k_is)
    (case a36 => k_is)
    (case l36 => k_is)
    (case c36 => k_is)
    (case k36 => k_is)
    (case a37 => k_is)
    (case l37 => k_is)
    (case c37 => k_is)
    (case k37 => k_is)
    (case a38 => k_is)
    (case l38 => k_is)
    (case c38 => k_is)
    (case k38 => k_is)
    (case a39 => k_is)
    (case l39 => k_is)
    (case c39 => k_is)
    (case k39 => k_is)
    (case a40 => k_is)
    (case l40 => k_is)
    (case c40 => k_is)
    (case k40 => k_is)
    (case a41 => k_is)
    (case l41 => k_is)
    (case c41 => k_is)
    (case k41 => k_is)
    (case aE => k_is)
    (case rdE => k_is)
    (case gaE => k_is)
    (case ceE => k_is)
    (case sg => k_is)
    (case tk => k_is)
    (case aCn => k_is)
    (case xLn => k_is)
    (case san => k_is)
    (case gan => k_is)
    (case ggn => k_is)
    (case non => k_is)
    (case can => k_is)
    (case mon => k_is)
    (case inn => k_is)
    (case tin => k_is)
    (case ln => k_is)
    (case cn => k_is)
    (case kn => k_is)
    (case kcn => k_is)
    (case exn => k_is)
    (case tyn => k_is)
    (case hdn => k_is)
    (case emn => first | rfl | k_is)
    (case aCp => k_is)
    (case xLp => k_is)
    (case sap => k_is)
    (case gap => k_is)
    (case ggp => k_is)
    (case nop => k_is)
    (case cap => k_is)
    (case mop => k_is)
    (case inp => k_is)
    (case tip => k_is)
    (case lp => k_is)
    (case cp => k_is)
    (case kp => k_is)
    (case kcp => k_is)
    (case exp => k_is)
    (case typ => k_is)
    (case hdp => k_is)
    (case emp => first | rfl | k_is)
    (case aCl => k_is)
    (case xLl => k_is)
    (case sal => k_is)
    (case gal => k_is)
    (case ggl => k_is)
    (case nol => k_is)
    (case cal => k_is)
    (case mol => k_is)
    (case inl => k_is)
    (case til => k_is)
    (case ll => k_is)
    (case cl => k_is)
    (case kl => k_is)
    (case kcl => k_is)
    (case exl => k_is)
    (case tyl => k_is)
    (case hdl => k_is)
    (case eml => first | rfl | k_is)
    (case snp => first | rfl | k_is)
    (case nenp => first | rfl | decide)
    (case snl => first | rfl | k_is)
    (case nenl => first | rfl | decide)
    (case spn => first | rfl | k_is)
    (case nepn => first | rfl | decide)
    (case spl => first | rfl | k_is)
    (case nepl => first | rfl | decide)
    (case sln => first | rfl | k_is)
    (case neln => first | rfl | decide)
    (case slp => first | rfl | k_is)
    (case nelp => first | rfl | decide)
    (case exE => k_is)
    (case tyE => k_is)
    (case hdE => k_is)
    (case z_abs => k_is)
    (case z_all => k_is)
    (case z_bool => k_is)
    (case z_int => k_is)
    (case z_isinstance => k_is)
    (case z_len => k_is)
    (case z_list => k_is)
    (case z_range => k_is)
    (case z_repr => k_is)
    (case z_tuple => k_is)
    (case z_zip => k_is)
    (case isq => k_is)
    (case aN => k_is)
    (case lN => k_is)
    (case lc => k_is)
    (case vc => first | rfl | k_is)
    (case nP => first | k_is | rfl | decide +kernel)
#print axioms PySem.Challenge.cw_typedcurve_k26_whole_places_have_one_for_holds

