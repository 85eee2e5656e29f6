import PyProof.Rows.All
import Wide.All
import OpenK.AllK
import Wide.FinOn
import HandS.Base
import HandS.Call
import HandS.List
import HandS.Comp
import HandS.Ends
import HandS.Dict
import HandS.Iter
import HandS.Text
import HandS.Exc
import HandS.ExcOwn
import HandS.TryOnly
import HandS.Words
import HandS.Wide
import HandS.Lambda
import HandS.IsInst
import HandS.Defaults
import HandS.HeadHook4
import HandS.HeadWalk
import HandS.Head2
import HandS.RaiseOp
import HandS.SortKw
import KE.DataFind
import PySem.Challenge.RW_quickturns_k10_whole_fractions
set_option Elab.async false
set_option linter.all false
set_option maxRecDepth 100000
set_option maxHeartbeats 4000000
set_option maxRecDepth 100000
set_option maxHeartbeats 4000000
namespace QT
open PySem PySem.Spec PyProof.Rows L2

/-- the world of a law: the written part, the tables of code objects -/
structure Wd where
  K : PySem.W.Frag
  T : List (Addr × Str)
/-- all that stood stands (the tables of code objects may grow) -/
structure Ex (W : Wd) (H H' : Hp) : Prop where
  n : LamX.ExtN H H'
  t : LamX.Tabs W.T H → LamX.Tabs W.T H'
theorem Ex.refl {W : Wd} (H : Hp) : Ex W H H := ⟨LamX.ExtN.refl H, fun h => h⟩
theorem Ex.trans {W : Wd} {H H1 H2 : Hp} (a : Ex W H H1) (b : Ex W H1 H2) : Ex W H H2 := ⟨a.n.trans b.n, fun h => b.t (a.t h)⟩
theorem Ex.same {W : Wd} {H H' : Hp} (h : ∀ b o, H b = some o → H' b = some o) : Ex W H H' := ⟨.of h, fun t => t.ext h⟩
theorem Ex.new {W : Wd} {H : Hp} {p : Addr} {o : HO} (h : H p = none) : Ex W H (upd H p o) := .same fun a u e => by
  rw [upd_ne (ne_of_none e h)]
  exact e

section
variable {W : Wd} {H H' : Hp} {a : Addr} {xs : List V}
theorem rd_ex {u : HO} (e : LamX.ExtN H H') (hu : ∀ ps, u ≠ .tbl ps) (h : Rd H a u) : Rd H' a u := by
  rcases h with h | ⟨o, h⟩
  · exact .inl (e _ _ h hu)
  · exact .inr ⟨o, e _ _ h (fun ps z => by cases z)⟩
theorem Ex.l {K : PySem.W.Frag} (e : Ex W H H') (h : SqL K H a xs) : SqL K H' a xs := by
  rcases h with h | h
  · exact .inl (rd_ex e.n (fun ps z => by cases z) h)
  · exact .inr h
theorem Ex.u {K : PySem.W.Frag} (e : Ex W H H') (h : SqT K H a xs) : SqT K H' a xs := by
  rcases h with h | h
  · exact .inl (rd_ex e.n (fun ps z => by cases z) h)
  · exact .inr h
theorem Ex.at {o : HO} (e : Ex W H H') (h : H a = some o) (ho : ∀ ps, o ≠ .tbl ps := by intro ps z; cases z) : H' a = some o := e.n _ _ h ho
end
mutual
theorem dp_ex {W : Wd} {K : PySem.W.Frag} {H H' : Hp} (e : Ex W H H') : ∀ {v : V} {d : PyData}, Dp K H v d → Dp K H' v d
  | _, _, .non => .non
  | _, _, .bl b => .bl b
  | _, _, .int i => .int i
  | _, _, .str x => .str x
  | _, _, .lst h a => .lst (e.l h) (dpAll_ex e a)
  | _, _, .tup h a => .tup (e.u h) (dpAll_ex e a)
theorem dpAll_ex {W : Wd} {K : PySem.W.Frag} {H H' : Hp} (e : Ex W H H') : ∀ {vs : List V} {ds : List PyData}, DpAll K H vs ds → DpAll K H' vs ds
  | _, _, .nil => .nil
  | _, _, .cons h t => .cons (dp_ex e h) (dpAll_ex e t)
end

/-- what a value is: some data, or just this value -/
inductive Ar where
  | d (d : PyData)
  | v (v : V)
def Is (W : Wd) (H : Hp) (x : V) : Ar → Prop
  | .d d => Dp W.K H x d
  | .v v => x = v
def IsAll (W : Wd) (H : Hp) : List V → List Ar → Prop
  | [], [] => True
  | x :: xs, a :: as => Is W H x a ∧ IsAll W H xs as
  | _, _ => False
theorem Is.ex {W : Wd} {H H' : Hp} (e : Ex W H H') {x : V} : ∀ {a : Ar}, Is W H x a → Is W H' x a
  | .d _, h => dp_ex e h
  | .v _, h => h
theorem IsAll.ex {W : Wd} {H H' : Hp} (e : Ex W H H') : ∀ {xs : List V} {as : List Ar}, IsAll W H xs as → IsAll W H' xs as
  | [], [], _ => trivial
  | _ :: _, _ :: _, h => ⟨h.1.ex e, h.2.ex e⟩
  | [], _ :: _, h => h.elim
  | _ :: _, [], h => h.elim
theorem IsAll.length {W : Wd} {H : Hp} : ∀ {xs : List V} {as : List Ar}, IsAll W H xs as → xs.length = as.length
  | [], [], _ => rfl
  | _ :: _, _ :: _, h => congrArg (· + 1) h.2.length
  | [], _ :: _, h => h.elim
  | _ :: _, [], h => h.elim
theorem IsAll.dps {W : Wd} {H : Hp} : ∀ {xs : List V} {ds : List PyData}, IsAll W H xs (ds.map .d) → DpAll W.K H xs ds
  | [], [], _ => .nil
  | _ :: _, _ :: _, h => .cons h.1 h.2.dps
  | [], _ :: _, h => h.elim
  | _ :: _, [], h => h.elim
theorem is_int {W : Wd} {H : Hp} {i : Int} : Is W H (.int i) (.d (.int i)) := .int i
theorem is_bl {W : Wd} {H : Hp} {b : Bool} : Is W H (.bl b) (.d (.bool b)) := .bl b
theorem is_str {W : Wd} {H : Hp} {x : Str} : Is W H (.str x) (.d (.str x)) := .str x
theorem is_non {W : Wd} {H : Hp} : Is W H .non (.d .none) := .non
theorem int_of {W : Wd} {H : Hp} {x : V} {i : Int} (h : Is W H x (.d (.int i))) : x = .int i := by cases (show Dp W.K H x (.int i) from h); rfl
theorem bl_of {W : Wd} {H : Hp} {x : V} {b : Bool} (h : Is W H x (.d (.bool b))) : x = .bl b := by cases (show Dp W.K H x (.bool b) from h); rfl
theorem str_of {W : Wd} {H : Hp} {x : V} {b : Str} (h : Is W H x (.d (.str b))) : x = .str b := by cases (show Dp W.K H x (.str b) from h); rfl
theorem non_of {W : Wd} {H : Hp} {x : V} (h : Is W H x (.d .none)) : x = .non := by cases (show Dp W.K H x .none from h); rfl

/-! ### what evaluates to what -/
def Ev (W : Wd) (t : TE) (σ : L2.St) (H : Hp) (a : Ar) : Prop := ∀ H1, Ex W H H1 → ∀ Q : VK, (∀ x H2, Ex W H1 H2 → Is W H2 x a → Q x H2) → t σ H1 Q
def EvB (W : Wd) (t : TT) (σ : L2.St) (H : Hp) (b : Bool) : Prop := ∀ H1, Ex W H H1 → ∀ Q : Bool → Hp → Prop, (∀ H2, Ex W H1 H2 → Q b H2) → t σ H1 Q
def EvA (W : Wd) (t : TA) (σ : L2.St) (H : Hp) (as : List Ar) : Prop := ∀ H1, Ex W H H1 → ∀ Q : List V → Hp → Prop, (∀ xs H2, Ex W H1 H2 → IsAll W H2 xs as → Q xs H2) → t σ H1 Q
/-- an operation on values -/
def OpV (W : Wd) (r : R2) (H : Hp) (a b c : Ar) : Prop := ∀ x y H1, Ex W H H1 → Is W H1 x a → Is W H1 y b → ∀ Q : VK, (∀ z H2, Ex W H1 H2 → Is W H2 z c → Q z H2) → r x y H1 Q
section
variable {W : Wd} {σ : L2.St} {H H' : Hp} {ta tb tc te : TE} {t u : TT} {x : V} {a b c : Ar} {as : List Ar} {r : R2} {tr : TA}
theorem Ev.ex (e : Ex W H H') (h : Ev W te σ H a) : Ev W te σ H' a := fun H1 e1 Q q => h H1 (e.trans e1) Q q
theorem EvB.ex {k : Bool} (e : Ex W H H') (h : EvB W t σ H k) : EvB W t σ H' k := fun H1 e1 Q q => h H1 (e.trans e1) Q q
theorem EvA.ex (e : Ex W H H') (h : EvA W tr σ H as) : EvA W tr σ H' as := fun H1 e1 Q q => h H1 (e.trans e1) Q q
theorem Ev.go (h : Ev W te σ H a) {Q : VK} (q : ∀ x H2, Ex W H H2 → Is W H2 x a → Q x H2) : te σ H Q := h H (Ex.refl H) Q q
theorem EvB.go {k : Bool} (h : EvB W t σ H k) {Q : Bool → Hp → Prop} (q : ∀ H2, Ex W H H2 → Q k H2) : t σ H Q := h H (Ex.refl H) Q q
theorem EvA.go (h : EvA W tr σ H as) {Q : List V → Hp → Prop} (q : ∀ xs H2, Ex W H H2 → IsAll W H2 xs as → Q xs H2) : tr σ H Q := h H (Ex.refl H) Q q
theorem ev_var {i : Nat} (h : σ[i]? = some (some x)) (k : Is W H x a) : Ev W (tVar i) σ H a := fun H1 e _ q => ⟨x, h, q x H1 (Ex.refl H1) (k.ex e)⟩
theorem ev_c (k : Is W H x a) : Ev W (tC x) σ H a := fun H1 e _ q => q x H1 (Ex.refl H1) (k.ex e)
theorem ev_int {i : Int} : Ev W (tC (.int i)) σ H (.d (.int i)) := ev_c (.int i)
theorem ev_bl {b : Bool} : Ev W (tC (.bl b)) σ H (.d (.bool b)) := ev_c (.bl b)
theorem ev_str {b : Str} : Ev W (tC (.str b)) σ H (.d (.str b)) := ev_c (.str b)
theorem ev_non : Ev W (tC .non) σ H (.d .none) := ev_c .non
theorem ev_op (ha : Ev W ta σ H a) (hb : Ev W tb σ H b) (hr : OpV W r H a b c) : Ev W (tOp r ta tb) σ H c := fun H1 e Q q =>
  ha H1 e _ fun x H2 e2 k2 => hb H2 (e.trans e2) _ fun y H3 e3 k3 => hr x y H3 ((e.trans e2).trans e3) (k2.ex e3) k3 Q fun z H4 e4 k4 => q z H4 ((e2.trans e3).trans e4) k4
theorem ea_nil : EvA W tNil σ H [] := fun H1 _ _ q => q [] H1 (Ex.refl H1) trivial
theorem ea_cons (ha : Ev W ta σ H a) (hr : EvA W tr σ H as) : EvA W (tCons ta tr) σ H (a :: as) := fun H1 e Q q =>
  ha H1 e _ fun x H2 e2 k2 => hr H2 (e.trans e2) _ fun xs H3 e3 k3 => q (x :: xs) H3 (e2.trans e3) ⟨k2.ex e3, k3⟩
theorem ov_I0 {g : Int → Int → V} {i j : Int} (k : ∀ H, Is W H (g i j) c) : OpV W (rI0 g) H (.d (.int i)) (.d (.int j)) c := fun x y H1 _ hx hy Q q =>
  ⟨i, j, int_of hx, int_of hy, q _ H1 (Ex.refl H1) (k H1)⟩
theorem ov_I {C : Int → Int → Prop} {g : Int → Int → V} {i j : Int} (hc : C i j) (k : ∀ H, Is W H (g i j) c) : OpV W (rI C g) H (.d (.int i)) (.d (.int j)) c := fun x y H1 _ hx hy Q q =>
  ⟨i, j, int_of hx, int_of hy, hc, q _ H1 (Ex.refl H1) (k H1)⟩
/-! arithmetic -/
theorem ev_add {i j : Int} (ha : Ev W ta σ H (.d (.int i))) (hb : Ev W tb σ H (.d (.int j))) : Ev W (tOp (rI0 fun i j => .int (i + j)) ta tb) σ H (.d (.int (i + j))) := ev_op ha hb (ov_I0 fun _ => .int _)
theorem ev_sub {i j : Int} (ha : Ev W ta σ H (.d (.int i))) (hb : Ev W tb σ H (.d (.int j))) : Ev W (tOp (rI0 fun i j => .int (i - j)) ta tb) σ H (.d (.int (i - j))) := ev_op ha hb (ov_I0 fun _ => .int _)
theorem ev_mul {i j : Int} (ha : Ev W ta σ H (.d (.int i))) (hb : Ev W tb σ H (.d (.int j))) (hc : CMulW i j) : Ev W (tOp (rI CMulW fun i j => .int (i * j)) ta tb) σ H (.d (.int (i * j))) := ev_op ha hb (ov_I hc fun _ => .int _)
theorem ev_div {i j : Int} (ha : Ev W ta σ H (.d (.int i))) (hb : Ev W tb σ H (.d (.int j))) (hc : CDivW i j) : Ev W (tOp (rI CDivW fun i j => .int (i / j)) ta tb) σ H (.d (.int (i / j))) := ev_op ha hb (ov_I hc fun _ => .int _)
theorem ev_mod {i j : Int} (ha : Ev W ta σ H (.d (.int i))) (hb : Ev W tb σ H (.d (.int j))) (hc : 0 < j) : Ev W (tOp (rI (fun _ j => 0 < j) fun i j => .int (i % j)) ta tb) σ H (.d (.int (i % j))) := ev_op ha hb (ov_I hc fun _ => .int _)
theorem ev_modN {i j : Int} (ha : Ev W ta σ H (.d (.int i))) (hb : Ev W tb σ H (.d (.int j))) (hc : j ≠ 0) : Ev W (tOp (rI (fun _ j => j ≠ 0) fun i j => .int (i.fmod j)) ta tb) σ H (.d (.int (i.fmod j))) := ev_op ha hb (ov_I hc fun _ => .int _)
theorem ev_pow {i j : Int} (ha : Ev W ta σ H (.d (.int i))) (hb : Ev W tb σ H (.d (.int j))) (hc : CPow i j) : Ev W (tOp (rI CPow fun i j => .int (i ^ j.toNat)) ta tb) σ H (.d (.int (i ^ j.toNat))) := ev_op ha hb (ov_I hc fun _ => .int _)
/-! comparisons -/
theorem ev_lt {i j : Int} (ha : Ev W ta σ H (.d (.int i))) (hb : Ev W tb σ H (.d (.int j))) : Ev W (tOp (rI0 fun i j => .bl (decide (i < j))) ta tb) σ H (.d (.bool (decide (i < j)))) := ev_op ha hb (ov_I0 fun _ => .bl _)
theorem ev_le {i j : Int} (ha : Ev W ta σ H (.d (.int i))) (hb : Ev W tb σ H (.d (.int j))) : Ev W (tOp (rI0 fun i j => .bl (decide (i ≤ j))) ta tb) σ H (.d (.bool (decide (i ≤ j)))) := ev_op ha hb (ov_I0 fun _ => .bl _)
theorem ev_gt {i j : Int} (ha : Ev W ta σ H (.d (.int i))) (hb : Ev W tb σ H (.d (.int j))) : Ev W (tOp (rI0 fun i j => .bl (decide (j < i))) ta tb) σ H (.d (.bool (decide (j < i)))) := ev_op ha hb (ov_I0 fun _ => .bl _)
theorem ev_ge {i j : Int} (ha : Ev W ta σ H (.d (.int i))) (hb : Ev W tb σ H (.d (.int j))) : Ev W (tOp (rI0 fun i j => .bl (decide (j ≤ i))) ta tb) σ H (.d (.bool (decide (j ≤ i)))) := ev_op ha hb (ov_I0 fun _ => .bl _)
/-- == and != of data -/
theorem ev_eq {d e : PyData} (ha : Ev W ta σ H (.d d)) (hb : Ev W tb σ H (.d e)) (sd : SeqAt.shaped d = true) (se : SeqAt.shaped e = true) : Ev W (tOp (rEqD W.K) ta tb) σ H (.d (.bool (PyData.eqv d e))) :=
  ev_op ha hb fun _ _ H1 _ hx hy _ q => ⟨d, e, hx, hy, sd, se, q _ H1 (Ex.refl H1) (.bl _)⟩
theorem ev_ne {d e : PyData} (ha : Ev W ta σ H (.d d)) (hb : Ev W tb σ H (.d e)) (sd : SeqAt.shaped d = true) (se : SeqAt.shaped e = true) : Ev W (tOp (rNeD W.K) ta tb) σ H (.d (.bool (!PyData.eqv d e))) :=
  ev_op ha hb fun _ _ H1 _ hx hy _ q => ⟨d, e, hx, hy, sd, se, q _ H1 (Ex.refl H1) (.bl _)⟩
def rIsN : R2 := fun x y H Q => y = .non ∧ Q (.bl (decide (x = .non))) H
def rNotN : R2 := fun x y H Q => y = .non ∧ Q (.bl (!decide (x = .non))) H
def isNon : Ar → Bool
  | .d .none => true
  | .v .non => true
  | _ => false
theorem isNon_ok (h : Is W H x a) : decide (x = .non) = isNon a := by
  cases a with
  | v y => cases (show x = y from h); cases x <;> rfl
  | d y =>
    have h' : Dp W.K H x y := h
    cases h' <;> rfl
theorem ev_isN (ha : Ev W ta σ H a) : Ev W (tOp rIsN ta (tC .non)) σ H (.d (.bool (isNon a))) := fun H1 e Q q =>
  ha H1 e _ fun x H2 e2 k2 => ⟨rfl, by rw [isNon_ok k2]; exact q _ H2 e2 (.bl _)⟩
theorem ev_notN (ha : Ev W ta σ H a) : Ev W (tOp rNotN ta (tC .non)) σ H (.d (.bool (!isNon a))) := fun H1 e Q q =>
  ha H1 e _ fun x H2 e2 k2 => ⟨rfl, by rw [isNon_ok k2]; exact q _ H2 e2 (.bl _)⟩
/-! tests -/
theorem et_test {k : Bool} (h : Ev W te σ H (.d (.bool k))) : EvB W (tTest te) σ H k := fun H1 e _ q => h H1 e _ fun _ H2 e2 k2 => ⟨k, bl_of k2, q H2 e2⟩
theorem et_B {k : Bool} (h : Ev W te σ H (.d (.bool k))) : EvB W (tB te) σ H k := fun H1 e _ q => h H1 e _ fun _ H2 e2 k2 => ⟨k, bl_of k2, q H2 e2⟩
theorem et_and {k l : Bool} (h1 : EvB W t σ H k) (h2 : k = true → EvB W u σ H l) : EvB W (tAnd t u) σ H (k && l) := fun H1 e Q q => h1 H1 e _ fun H2 e2 => by
  cases k with
  | true => exact h2 rfl H2 (e.trans e2) Q fun H3 e3 => q H3 (e2.trans e3)
  | false => exact q H2 e2
theorem et_or {k l : Bool} (h1 : EvB W t σ H k) (h2 : k = false → EvB W u σ H l) : EvB W (tOr t u) σ H (k || l) := fun H1 e Q q => h1 H1 e _ fun H2 e2 => by
  cases k with
  | false => exact h2 rfl H2 (e.trans e2) Q fun H3 e3 => q H3 (e2.trans e3)
  | true => exact q H2 e2
theorem et_not {k : Bool} (h1 : EvB W t σ H k) : EvB W (tNot t) σ H (!k) := fun H1 e Q q => h1 H1 e _ fun H2 e2 => q H2 e2
theorem ev_and {k : Bool} (h1 : Ev W ta σ H (.d (.bool k))) (h2 : k = true → Ev W tb σ H a) (h3 : k = false → a = .d (.bool false)) : Ev W (tAndV ta tb) σ H a := fun H1 e Q q => h1 H1 e _ fun _ H2 e2 k2 => by
  refine ⟨k, bl_of k2, ?_⟩
  cases k with
  | true => exact h2 rfl H2 (e.trans e2) Q fun x H3 e3 => q x H3 (e2.trans e3)
  | false =>
    rw [h3 rfl] at q
    exact q _ H2 e2 (.bl _)
theorem ev_andB {k l : Bool} (h1 : Ev W ta σ H (.d (.bool k))) (h2 : k = true → Ev W tb σ H (.d (.bool l))) : Ev W (tAndV ta tb) σ H (.d (.bool (k && l))) := by
  refine ev_and h1 (fun h => ?_) fun h => ?_
  · rw [h]; exact h2 h
  · rw [h]; rfl
theorem ev_orB {k l : Bool} (h1 : Ev W ta σ H (.d (.bool k))) (h2 : k = false → Ev W tb σ H (.d (.bool l))) : Ev W (tOrV ta tb) σ H (.d (.bool (k || l))) := fun H1 e Q q => h1 H1 e _ fun _ H2 e2 k2 => by
  refine ⟨k, bl_of k2, ?_⟩
  cases k with
  | false => exact h2 rfl H2 (e.trans e2) Q fun x H3 e3 => q x H3 (e2.trans e3)
  | true => exact q _ H2 e2 (.bl _)
theorem ev_notB {k : Bool} (h1 : Ev W ta σ H (.d (.bool k))) : Ev W (tNotV ta) σ H (.d (.bool (!k))) := fun H1 e Q q => h1 H1 e _ fun _ H2 e2 k2 => ⟨k, bl_of k2, q _ H2 e2 (.bl _)⟩
theorem ev_if {k : Bool} (h : EvB W t σ H k) (h1 : k = true → Ev W ta σ H a) (h2 : k = false → Ev W tb σ H a) : Ev W (tIf t ta tb) σ H a := fun H1 e Q q => h H1 e _ fun H2 e2 => by
  cases k with
  | true => exact h1 rfl H2 (e.trans e2) Q fun x H3 e3 => q x H3 (e2.trans e3)
  | false => exact h2 rfl H2 (e.trans e2) Q fun x H3 e3 => q x H3 (e2.trans e3)
/-! displays -/
theorem sz_of {n : Nat} (h : n ≤ 100000) : n ≤ sizeLine := Nat.le_trans h (by decide)
theorem ev_tup {ds : List PyData} (h : EvA W tr σ H (ds.map .d)) (hs : ds.length ≤ 100000) : Ev W (tTup tr) σ H (.d (.tuple ds)) := fun H1 e Q q => h H1 e _ fun xs H2 e2 k2 =>
  ⟨by rw [k2.length, List.length_map]; exact sz_of hs, fun p hp => q _ _ (e2.trans (Ex.new hp)) (.tup (SqT.of upd_same) (dpAll_ex (Ex.new (W := W) hp) k2.dps))⟩
theorem ev_lst {ds : List PyData} (h : EvA W tr σ H (ds.map .d)) (hs : ds.length ≤ 100000) : Ev W (tLst tr) σ H (.d (.list ds)) := fun H1 e Q q => h H1 e _ fun xs H2 e2 k2 =>
  ⟨by rw [k2.length, List.length_map]; exact sz_of hs, fun p hp => q _ _ (e2.trans (Ex.new hp)) (.lst (SqL.of upd_same) (dpAll_ex (Ex.new (W := W) hp) k2.dps))⟩
end
/-! items -/
theorem DpAll.get {K : PySem.W.Frag} {H : Hp} : ∀ {vs : List V} {ds : List PyData} {i : Nat} {d : PyData}, DpAll K H vs ds → ds[i]? = some d → ∃ v, vs[i]? = some v ∧ Dp K H v d
  | _, _, _, _, .nil, e => by simp at e
  | _, _, 0, _, .cons h _, e => by simp at e; subst e; exact ⟨_, rfl, h⟩
  | _, _, i + 1, d, .cons _ t, e => by
    obtain ⟨v, h1, h2⟩ := DpAll.get (i := i) (d := d) t (by simpa using e)
    exact ⟨v, by simpa using h1, h2⟩
theorem DpAll.len {K : PySem.W.Frag} {H : Hp} : ∀ {vs : List V} {ds : List PyData}, DpAll K H vs ds → vs.length = ds.length
  | _, _, .nil => rfl
  | _, _, .cons _ t => congrArg (· + 1) (DpAll.len t)
theorem DpAll.atI {K : PySem.W.Frag} {H : Hp} {vs : List V} {ds : List PyData} {i : Int} {d : PyData} (h : DpAll K H vs ds) (e : L2.atI ds i = some d) : ∃ v, L2.atI vs i = some v ∧ Dp K H v d := by
  unfold L2.atI at e ⊢
  rw [DpAll.len h]
  cases q : ixN ds.length i with
  | none => rw [q] at e; simp at e
  | some j =>
    rw [q] at e
    simp only [Option.bind_some] at e ⊢
    exact DpAll.get h e
section
variable {W : Wd} {σ : L2.St} {H : Hp} {ta tb : TE}
theorem ev_ixT {ds : List PyData} {i : Int} {d : PyData} (ha : Ev W ta σ H (.d (.tuple ds))) (hb : Ev W tb σ H (.d (.int i))) (h : L2.atI ds i = some d) : Ev W (tOp (rIxT W.K) ta tb) σ H (.d d) :=
  ev_op ha hb fun x y H1 _ hx hy Q q => by
    cases int_of hy
    have hx' : Dp W.K H1 x (.tuple ds) := hx
    cases hx' with
    | tup hs ha =>
      obtain ⟨v, h1, h2⟩ := DpAll.atI ha h
      exact ⟨_, _, i, v, rfl, rfl, hs, h1, q v H1 (Ex.refl H1) h2⟩
theorem ev_ixL {ds : List PyData} {i : Int} {d : PyData} (ha : Ev W ta σ H (.d (.list ds))) (hb : Ev W tb σ H (.d (.int i))) (h : L2.atI ds i = some d) : Ev W (tOp (rIxL W.K) ta tb) σ H (.d d) :=
  ev_op ha hb fun x y H1 _ hx hy Q q => by
    cases int_of hy
    have hx' : Dp W.K H1 x (.list ds) := hx
    cases hx' with
    | lst hs ha =>
      obtain ⟨v, h1, h2⟩ := DpAll.atI ha h
      exact ⟨_, _, i, v, rfl, rfl, hs, h1, q v H1 (Ex.refl H1) h2⟩
end
/-! ### statements -/
section
variable {W : Wd} {σ : L2.St} {H : Hp} {te : TE} {t : TT} {a : Ar} {D : Ends} {t1 t2 u : TS} {tr : TA} {K B C : L2.St → Hp → Prop} {R : VK}
theorem st_set {i : Nat} (h : Ev W te σ H a) (q : ∀ x H', Ex W H H' → Is W H' x a → K (σ.set i (some x)) H') : tAsg te (gName i) ⟨K, R, B, C⟩ σ H := h.go fun x H2 e k => q x H2 e k
theorem st_drop (h : Ev W te σ H a) (q : ∀ x H', Ex W H H' → Is W H' x a → K σ H') : tDrop te ⟨K, R, B, C⟩ σ H := h.go fun x H2 e k => q x H2 e k
theorem st_ret (h : Ev W te σ H a) (q : ∀ x H', Ex W H H' → Is W H' x a → R x H') : tRet te ⟨K, R, B, C⟩ σ H := h.go fun x H2 e k => q x H2 e k
theorem st_if {k : Bool} (h : EvB W t σ H k) (q1 : k = true → ∀ H', Ex W H H' → t1 D σ H') (q2 : k = false → ∀ H', Ex W H H' → t2 D σ H') : tIfS t t1 t2 D σ H := h.go fun H2 e => by
  cases k with
  | true => exact q1 rfl H2 e
  | false => exact q2 rfl H2 e
theorem st_par {i j : Nat} {a b : Ar} (h : EvA W tr σ H [a, b]) (q : ∀ x y H', Ex W H H' → Is W H' x a → Is W H' y b → K ((σ.set i (some x)).set j (some y)) H') : tPar i j tr ⟨K, R, B, C⟩ σ H := h.go fun xs H2 e k => by
  match xs, k with
  | [x, y], k => exact ⟨x, y, rfl, q x y H2 e k.1 k.2.1⟩
theorem st_seq (h : t1 ⟨t2 D, D.rt, D.bk, D.ct⟩ σ H) : tSeq t1 t2 D σ H := h
theorem st_nx (h : K σ H) : tNext ⟨K, R, B, C⟩ σ H := h
theorem sq_set {i : Nat} (h : Ev W te σ H a) (q : ∀ x H', Ex W H H' → Is W H' x a → u D (σ.set i (some x)) H') : tSeq (tAsg te (gName i)) u D σ H := h.go fun x H2 e k => q x H2 e k
theorem sq_drop (h : Ev W te σ H a) (q : ∀ x H', Ex W H H' → Is W H' x a → u D σ H') : tSeq (tDrop te) u D σ H := h.go fun x H2 e k => q x H2 e k
theorem sq_if {k : Bool} (h : EvB W t σ H k) (q1 : k = true → ∀ H', Ex W H H' → t1 ⟨u D, D.rt, D.bk, D.ct⟩ σ H') (q2 : k = false → ∀ H', Ex W H H' → t2 ⟨u D, D.rt, D.bk, D.ct⟩ σ H') : tSeq (tIfS t t1 t2) u D σ H := st_if h q1 q2
/-- an if without else -/
theorem sq_if1 {k : Bool} (h : EvB W t σ H k) (q1 : k = true → ∀ H', Ex W H H' → t1 ⟨u D, D.rt, D.bk, D.ct⟩ σ H') (q2 : k = false → ∀ H', Ex W H H' → u D σ H') : tSeq (tIfS t t1 tNext) u D σ H := st_if h q1 q2
theorem sq_par {i j : Nat} {a b : Ar} (h : EvA W tr σ H [a, b]) (q : ∀ x y H', Ex W H H' → Is W H' x a → Is W H' y b → u D ((σ.set i (some x)).set j (some y)) H') : tSeq (tPar i j tr) u D σ H := st_par h q
end
/-! ### promises -/
/-- a pure def: from things as a i says, under pre i, to a thing as r i says -/
def Pr (W : Wd) {I : Type} (a : I → List Ar) (pre : I → Prop) (r : I → Ar) : Sp := fun vs H Q _ => ∃ i : I, IsAll W H vs (a i) ∧ pre i ∧ ∀ x H', Ex W H H' → Is W H' x (r i) → Q x H'
/-- one that may refuse: r i the answer, or the class that is raised -/
def PrX (W : Wd) {I : Type} (a : I → List Ar) (pre : I → Prop) (r : I → Except Addr Ar) : Sp := fun vs H Q E => ∃ i : I, IsAll W H vs (a i) ∧ pre i ∧ match r i with
  | .ok c => ∀ x H', Ex W H H' → Is W H' x c → Q x H'
  | .error C => ∀ H', Ex W H H' → E (.ref C) none H'
theorem ev_call {W : Wd} {σ : L2.St} {H : Hp} {I : Type} {a : I → List Ar} {pre : I → Prop} {r : I → Ar} {E : XK} {tr : TA} (i : I) (h : EvA W tr σ H (a i)) (hp : pre i) : Ev W (tCall (Pr W a pre r) [] E tr) σ H (r i) := fun H1 e Q q =>
  h H1 e _ fun xs H2 e2 k2 => by
    rw [List.append_nil]
    exact ⟨i, k2, hp, fun x H3 e3 k3 => q x H3 (e2.trans e3) k3⟩
theorem ev_callX {W : Wd} {σ : L2.St} {H : Hp} {I : Type} {a : I → List Ar} {pre : I → Prop} {r : I → Except Addr Ar} {E : XK} {tr : TA} (i : I) {c : Ar} (h : EvA W tr σ H (a i)) (hp : pre i) (hr : r i = .ok c) : Ev W (tCall (PrX W a pre r) [] E tr) σ H c := fun H1 e Q q =>
  h H1 e _ fun xs H2 e2 k2 => by
    rw [List.append_nil]
    refine ⟨i, k2, hp, ?_⟩
    rw [hr]
    exact fun x H3 e3 k3 => q x H3 (e2.trans e3) k3
/-- a call that is refused -/
theorem xc_callX {W : Wd} {σ : L2.St} {H : Hp} {I : Type} {a : I → List Ar} {pre : I → Prop} {r : I → Except Addr Ar} {E : XK} {tr : TA} (i : I) {C : Addr} (h : EvA W tr σ H (a i)) (hp : pre i) (hr : r i = .error C) {Q : VK} (q : ∀ H', Ex W H H' → E (.ref C) none H') : tCall (PrX W a pre r) [] E tr σ H Q :=
  h.go fun xs H2 e2 k2 => by
    rw [List.append_nil]
    refine ⟨i, k2, hp, ?_⟩
    rw [hr]
    exact fun H3 e3 => q H3 (e2.trans e3)

/-! ### defs by names -/
/-- the def x keeps its promise -/
structure DefOk (P : Program) (w : World) (K : PySem.W.Frag) (mg : Str → Option Value) (base : Heap) (x : Str) (k : Nat) (ps : List Str) (sp : Sp) : Prop where
  ex : ∃ f fd, FnOk P w K mg base (L2.CX P w) k f fd ps sp ∧ mg x = some (.ref f) ∧ PySem.W.keepIn K (.ref f) = true ∧ Binds K fd ps [] ∧ ∃ oc od osl, K.lookup f = some ⟨oc, od, .func fd, osl⟩
/-- the method m of the class at C keeps its promise -/
structure MethOk (P : Program) (w : World) (K : PySem.W.Frag) (mg : Str → Option Value) (base : Heap) (C : Addr) (m : Str) (k : Nat) (ps : List Str) (sp : Sp) : Prop where
  ex : ∃ f fd, FnOk P w K mg base (L2.CX P w) k f fd ps sp ∧ Cls K C ∧ Meth K C m f ∧ Binds K fd ps []
/-- x(..) makes an instance of the class at C, __init__ keeps its promise -/
structure MakeOk (P : Program) (w : World) (K : PySem.W.Frag) (mg : Str → Option Value) (base : Heap) (x : Str) (C : Addr) (k : Nat) (ps : List Str) (sp : Sp) : Prop where
  ex : ∃ f fd, FnOk P w K mg base (L2.CX P w) k f fd ps sp ∧ Mk K C f ∧ mg x = some (.ref C) ∧ Binds K fd ps []
/-- an exception that leaves a callee leaves this def as it is -/
theorem passX {P : Program} {w : World} {K : PySem.W.Frag} {mg : Str → Option Value} {base : Heap} {N : List Str} {qual : Str} {scope : Scope} {f : Addr} {cd : Value} {A : Around} {outer : List Env} {s : Shared} {H : Hp} {E : XK} :
    Passes (L2.CX P w) (cxOf (L2.CX P w) P w K mg base N qual scope f cd A outer s H E) E := passes_call (takes_of rfl rfl rfl rfl) fun _ _ _ _ h => h
theorem takesX {P : Program} {w : World} {K : PySem.W.Frag} {mg : Str → Option Value} {base : Heap} {N : List Str} {qual : Str} {scope : Scope} {f : Addr} {cd : Value} {A : Around} {outer : List Env} {s : Shared} {H : Hp} {E : XK} :
    Takes (cxOf (L2.CX P w) P w K mg base N qual scope f cd A outer s H E) (fun cls d _ H => E cls d H) := takes_of rfl rfl rfl rfl
theorem ownX {P : Program} {w : World} {K : PySem.W.Frag} {mg : Str → Option Value} {base : Heap} {N : List Str} {qual : Str} {scope : Scope} {f : Addr} {cd : Value} {A : Around} {outer : List Env} {s : Shared} {H : Hp} {E : XK} :
    PassesOwn (model P w) (cxOf (L2.CX P w) P w K mg base N qual scope f cd A outer s H E).A (cxOf (L2.CX P w) P w K mg base N qual scope f cd A outer s H E).env (cxOf (L2.CX P w) P w K mg base N qual scope f cd A outer s H E).xe := passes_of rfl
section
variable {X : Cx} {k n : Nat} {C : Addr} {ps : List Str} {sp : Sp} {E : XK} {x m : Str} {p pos apos : Pos} {e o : Expr} {es : List Expr} {ta : TE} {t : TA}
theorem pe_def (D : DefOk X.prog X.w X.K X.mg X.base x k ps sp) (hr : Room n X.A) (hk : k ≤ n) (hx : Passes (L2.CX X.prog X.w) X E) (ha : PA X (e :: es) t) (hg : Gl X x := by rfl) (hdb : (x == ("__debug__" : Str)) = false := by decide)
    (he : starEach (e :: es) X.env = (false, eval e X.env) :: starEach es X.env := by rfl) (hpl : (backTo pos (starEach es X.env)).any (·.1) = false := by rfl) : PE X (.Call (.Name x p) (e :: es) [] pos) (tCall sp [] E t) := by
  obtain ⟨f, fd, F, hm, kp, b, _⟩ := D.ex
  exact pe_call F (hr.mono hk) hg hm kp b .nil hx ha hdb he hpl
theorem pe_def0 (D : DefOk X.prog X.w X.K X.mg X.base x k ps sp) (hr : Room n X.A) (hk : k ≤ n) (hx : Passes (L2.CX X.prog X.w) X E) (hg : Gl X x := by rfl) (hdb : (x == ("__debug__" : Str)) = false := by decide) : PE X (.Call (.Name x p) [] [] pos) (tCall sp [] E tNil) := by
  obtain ⟨f, fd, F, hm, kp, b, _⟩ := D.ex
  exact pe_call0 F (hr.mono hk) hg hm kp b .nil hx hdb
end
/-- a def of the text -/
theorem mk_def {P : Program} {w : World} {K : PySem.W.Frag} {mg : Str → Option Value} {base : Heap} {x qual : Str} {st : Stmt} {N ps : List Str} {k : Nat} {sp : Sp} {f : Addr} (F : ∃ fd, FunD K x qual (defArgs st) (defBody st) (defScope st) [] [] f fd) (g : mg x = some (.ref f))
    (S : FnScope N ps (defScope st)) (hb : ∀ (kV doc pm : Value) (an : Option Addr) (cdv ct : Value) (us : List Value), us.length = ps.length → bindArgs (PySem.W.fnOf x qual (defArgs st) (defBody st) (defScope st) .none kV doc pm an cdv ct) ⟨us, []⟩ = pure (ps.zip us))
    (len : ∀ vs H Q E, sp vs H Q E → vs.length = ps.length)
    (hbody : ∀ (cdv : Value) (A : Around) (outer : List Env) (s : Shared) (H : Hp) (vs : List V) (Q : VK) (E : XK), Room k (A.deeper (envOfC qual (defScope st) s.heap.objs.size f cdv)) → sp vs H Q E →
      ∃ t, PSs (cxOf (L2.CX P w) P w K mg base N qual (defScope st) f cdv A outer s H E) (defBody st) t ∧ t { nx := fun _ H' => Q .non H', rt := Q } (start N vs) H) : DefOk P w K mg base x (k + 1) ps sp := by
  obtain ⟨fd, F⟩ := F
  obtain ⟨oc, od, _, _, _, _, _, _, _, osl, _, lk, _⟩ := F.ex
  exact ⟨f, fd, F.ok S len hbody, g, F.kp, F.bindsN hb, oc, od, osl, lk⟩
/-- a method of the text -/
theorem mk_meth {P : Program} {w : World} {K : PySem.W.Frag} {mg : Str → Option Value} {base : Heap} {x qual : Str} {st : Stmt} {N ps : List Str} {k : Nat} {sp : Sp} {f C : Addr} (F : ∃ fd, FunD K x qual (defArgs st) (defBody st) (defScope st) [] [] f fd) (c : Cls K C) (m : Meth K C x f)
    (S : FnScope N ps (defScope st)) (hb : ∀ (kV doc pm : Value) (an : Option Addr) (cdv ct : Value) (us : List Value), us.length = ps.length → bindArgs (PySem.W.fnOf x qual (defArgs st) (defBody st) (defScope st) .none kV doc pm an cdv ct) ⟨us, []⟩ = pure (ps.zip us))
    (len : ∀ vs H Q E, sp vs H Q E → vs.length = ps.length)
    (hbody : ∀ (cdv : Value) (A : Around) (outer : List Env) (s : Shared) (H : Hp) (vs : List V) (Q : VK) (E : XK), Room k (A.deeper (envOfC qual (defScope st) s.heap.objs.size f cdv)) → sp vs H Q E →
      ∃ t, PSs (cxOf (L2.CX P w) P w K mg base N qual (defScope st) f cdv A outer s H E) (defBody st) t ∧ t { nx := fun _ H' => Q .non H', rt := Q } (start N vs) H) : MethOk P w K mg base C x (k + 1) ps sp := by
  obtain ⟨fd, F⟩ := F
  exact ⟨f, fd, F.ok S len hbody, c, m, F.bindsN hb⟩
theorem mk_make {P : Program} {w : World} {K : PySem.W.Frag} {mg : Str → Option Value} {base : Heap} {y qual : Str} {st : Stmt} {N ps : List Str} {k : Nat} {sp : Sp} {f C : Addr} (F : ∃ fd, FunD K "__init__" qual (defArgs st) (defBody st) (defScope st) [] [] f fd) (M : Mk K C f) (g : mg y = some (.ref C))
    (S : FnScope N ps (defScope st)) (hb : ∀ (kV doc pm : Value) (an : Option Addr) (cdv ct : Value) (us : List Value), us.length = ps.length → bindArgs (PySem.W.fnOf "__init__" qual (defArgs st) (defBody st) (defScope st) .none kV doc pm an cdv ct) ⟨us, []⟩ = pure (ps.zip us))
    (len : ∀ vs H Q E, sp vs H Q E → vs.length = ps.length)
    (hbody : ∀ (cdv : Value) (A : Around) (outer : List Env) (s : Shared) (H : Hp) (vs : List V) (Q : VK) (E : XK), Room k (A.deeper (envOfC qual (defScope st) s.heap.objs.size f cdv)) → sp vs H Q E →
      ∃ t, PSs (cxOf (L2.CX P w) P w K mg base N qual (defScope st) f cdv A outer s H E) (defBody st) t ∧ t { nx := fun _ H' => Q .non H', rt := Q } (start N vs) H) : MakeOk P w K mg base y C (k + 1) ps sp := by
  obtain ⟨fd, F⟩ := F
  exact ⟨f, fd, F.ok S len hbody, M, g, F.bindsN hb⟩
section
variable {X : Cx} {k n : Nat} {C : Addr} {ps : List Str} {sp : Sp} {E : XK} {x m : Str} {p pos apos : Pos} {e o : Expr} {es : List Expr} {ta : TE} {t : TA}
theorem pe_md {pl : Sem Bool} (ho : PE X o ta) (D : MethOk X.prog X.w X.K X.mg X.base C m k ps sp) (hr : Room n X.A) (hk : k ≤ n) (hx : Passes (L2.CX X.prog X.w) X E) (ha : PA X (e :: es) t)
    (h1 : starEach (e :: es) X.env = (false, eval e X.env) :: starEach es X.env := by rfl) (h2 : (backTo pos (starEach es X.env)).any (·.1) = false := by rfl)
    (h3 : eval (.Call (.Attribute o m apos) (e :: es) [] pos) X.env = (do
      let ov ← eval o X.env
      standAt apos.atName
      let (f, first) ← holding [ov] (getMethod ov m pl)
      callWith pos f first (backTo pos (starEach (e :: es) X.env)) (backToKw pos (keywordEach [] X.env))) := by rfl) : PE X (.Call (.Attribute o m apos) (e :: es) [] pos) (tMeth C m sp [] E ta t) := by
  obtain ⟨f, fd, F, c, M, b⟩ := D.ex
  exact pe_meth (pl := pl) ho c M F (hr.mono hk) b .nil hx ha h1 h2 h3
theorem pe_md0 {pl : Sem Bool} (ho : PE X o ta) (D : MethOk X.prog X.w X.K X.mg X.base C m k ps sp) (hr : Room n X.A) (hk : k ≤ n) (hx : Passes (L2.CX X.prog X.w) X E)
    (h3 : eval (.Call (.Attribute o m apos) [] [] pos) X.env = (do
      let ov ← eval o X.env
      standAt apos.atName
      let (f, first) ← holding [ov] (getMethod ov m pl)
      callWith pos f first (backTo pos (starEach [] X.env)) (backToKw pos (keywordEach [] X.env))) := by rfl) : PE X (.Call (.Attribute o m apos) [] [] pos) (tMeth C m sp [] E ta tNil) := by
  obtain ⟨f, fd, F, c, M, b⟩ := D.ex
  exact pe_meth0 (pl := pl) ho c M F (hr.mono hk) b .nil hx h3
theorem pe_mk (D : MakeOk X.prog X.w X.K X.mg X.base x C k ps sp) (hr : Room n X.A) (hk : k + 1 ≤ n) (hx : Passes (L2.CX X.prog X.w) X E) (ha : PA X (e :: es) t) (hg : Gl X x := by rfl) (hdb : (x == ("__debug__" : Str)) = false := by decide)
    (he : starEach (e :: es) X.env = (false, eval e X.env) :: starEach es X.env := by rfl) (hpl : (backTo pos (starEach es X.env)).any (·.1) = false := by rfl) : PE X (.Call (.Name x p) (e :: es) [] pos) (tMake C sp [] E t) := by
  obtain ⟨f, fd, F, M, hm, b⟩ := D.ex
  exact pe_make M F (hr.mono hk) hg hm b .nil hx ha hdb he hpl
theorem pe_mk0 (D : MakeOk X.prog X.w X.K X.mg X.base x C k ps sp) (hr : Room n X.A) (hk : k + 1 ≤ n) (hx : Passes (L2.CX X.prog X.w) X E) (hg : Gl X x := by rfl) (hdb : (x == ("__debug__" : Str)) = false := by decide) : PE X (.Call (.Name x p) [] [] pos) (tMake C sp [] E tNil) := by
  obtain ⟨f, fd, F, M, hm, b⟩ := D.ex
  exact pe_make0 M F (hr.mono hk) hg hm b .nil hx hdb
end
section
variable {W : Wd} {σ : L2.St} {H : Hp} {I : Type} {aI : I → List Ar} {pre : I → Prop} {r : I → Ar} {rx : I → Except Addr Ar} {E : XK} {tr : TA} {ta : TE} {C dx a : Addr} {m : Str} {fs : List (Str × V)} {as : List Ar}
theorem ev_meth (i : I) (ho : Ev W ta σ H (.v (.ref a))) (hi : H a = some (.ins C dx fs)) (hm : fs.lookup m = none) (h : EvA W tr σ H as) (ha : aI i = .v (.ref a) :: as) (hp : pre i) : Ev W (tMeth C m (Pr W aI pre r) [] E ta tr) σ H (r i) := fun H1 e Q q =>
  ho H1 e _ fun x H2 e2 k2 => ⟨a, dx, fs, k2, (e.trans e2).at hi, hm, h H2 (e.trans e2) _ fun xs H3 e3 k3 => by
    rw [List.append_nil]
    refine ⟨i, ?_, hp, fun x H4 e4 k4 => q x H4 ((e2.trans e3).trans e4) k4⟩
    rw [ha]
    exact ⟨k2, k3⟩⟩
theorem ev_methX (i : I) {c : Ar} (ho : Ev W ta σ H (.v (.ref a))) (hi : H a = some (.ins C dx fs)) (hm : fs.lookup m = none) (h : EvA W tr σ H as) (ha : aI i = .v (.ref a) :: as) (hp : pre i) (hr : rx i = .ok c) : Ev W (tMeth C m (PrX W aI pre rx) [] E ta tr) σ H c := fun H1 e Q q =>
  ho H1 e _ fun x H2 e2 k2 => ⟨a, dx, fs, k2, (e.trans e2).at hi, hm, h H2 (e.trans e2) _ fun xs H3 e3 k3 => by
    rw [List.append_nil]
    refine ⟨i, ?_, hp, ?_⟩
    · rw [ha]
      exact ⟨k2, k3⟩
    · rw [hr]
      exact fun x H4 e4 k4 => q x H4 ((e2.trans e3).trans e4) k4⟩
theorem xc_methX (i : I) {D : Addr} (ho : Ev W ta σ H (.v (.ref a))) (hi : H a = some (.ins C dx fs)) (hm : fs.lookup m = none) (h : EvA W tr σ H as) (ha : aI i = .v (.ref a) :: as) (hp : pre i) (hr : rx i = .error D) {Q : VK} (q : ∀ H', Ex W H H' → E (.ref D) none H') : tMeth C m (PrX W aI pre rx) [] E ta tr σ H Q :=
  ho.go fun x H2 e2 k2 => ⟨a, dx, fs, k2, e2.at hi, hm, h H2 e2 _ fun xs H3 e3 k3 => by
    rw [List.append_nil]
    refine ⟨i, ?_, hp, ?_⟩
    · rw [ha]
      exact ⟨k2, k3⟩
    · rw [hr]
      exact fun H4 e4 => q H4 ((e2.trans e3).trans e4)⟩
theorem ev_fld {K : PySem.W.Frag} {f : Str} {v : V} {b : Ar} (ho : Ev W ta σ H (.v (.ref a))) (hi : H a = some (.ins C dx fs)) (c : Cls K C) (hn : NoAttr K C f) (hl : fs.lookup f = some v) (hb : Is W H v b) : Ev W (tFld K ta f) σ H b := fun H1 e Q q =>
  ho H1 e _ fun x H2 e2 k2 => ⟨a, C, dx, fs, v, k2, (e.trans e2).at hi, c, hn, hl, q v H2 e2 (hb.ex (e.trans e2))⟩
end
/-! ### raise -/
structure ExcOk (K : PySem.W.Frag) (mg : Str → Option Value) (x : Str) (C : Addr) : Prop where
  g : mg x = some (.ref C)
  q : PySem.W.excIn K C He.veBase "ValueError.__new__" = true
  kp : PySem.W.keepIn K (.ref C) = true
  b : PySem.W.subIn K (.ref C) (.type "BaseException") = some true
  t : PySem.W.typeIn K (.ref C) = some (.type "type")
def tRaise (E : XK) (C : Addr) : TS := fun _ _ H => E (.ref C) none H
theorem ps_rs {X : Cx} {x m : Str} {C : Addr} {E : XK} {j : Nat} {p p2 pos pos2 : Pos} (T : ExcOk X.K X.mg x C) (hc : X.calm = true) (tk : Takes X (fun cls d _ H => E cls d H)) (hg : Gl X x := by rfl) (hdb : (x == ("__debug__" : Str)) = false := by decide) :
    PS X (.Raise (some (.Call (.Name x p) [.Constant (.str m) j p2] [] pos)) none pos2) (tRaise E C) :=
  ps_raise hc tk (pmk_own PySem.F.excBase_ValueError T.q T.g T.kp (raises_own T.b T.t) hg hdb)
/-! more operators -/
def CDivNW (_ j : Int) : Prop := j ≠ 0 ∧ j.natAbs.log2 < 9000
section
variable {X : Cx}
theorem op_fdivNW : OpR X (binaryOp .FloorDiv) (rI CDivNW fun i j => .int (i.fdiv j)) := opI fun _ _ _ _ _ _ _ hc q => floordiv_int hc.1 q (.inl (PyProof.noPylong_of_log2 hc.2))
theorem op_isN' : OpR X (compareOp .Is) rIsN := op_isN
theorem op_notN' : OpR X (compareOp .IsNot) rNotN := op_notN
end
section
variable {W : Wd} {σ : L2.St} {H : Hp} {ta tb : TE}
theorem ev_divN {i j : Int} (ha : Ev W ta σ H (.d (.int i))) (hb : Ev W tb σ H (.d (.int j))) (hc : CDivNW i j) : Ev W (tOp (rI CDivNW fun i j => .int (i.fdiv j)) ta tb) σ H (.d (.int (i.fdiv j))) := ev_op ha hb (ov_I hc fun _ => .int _)
end
end QT
namespace QT
open PySem PySem.Spec PyProof.Rows L2
/-! ### loops -/
theorem st_while {W : Wd} {c : TT} {tb : TS} {D : Ends} {σ : L2.St} {H : Hp} (Pv : L2.St → Hp → Prop) (μ : L2.St → Hp → Nat) (h0 : Pv σ H)
    (hs : ∀ σ H, Pv σ H → ∃ k, EvB W c σ H k ∧ (k = true → ∀ H', Ex W H H' → tb { D with nx := fun σ' H' => Pv σ' H' ∧ μ σ' H' < μ σ H, ct := fun σ' H' => Pv σ' H' ∧ μ σ' H' < μ σ H, bk := D.nx } σ H') ∧ (k = false → ∀ H', Ex W H H' → D.nx σ H')) : tWhile c tb D σ H := by
  refine ⟨fun m σ H => m = μ σ H ∧ Pv σ H, ⟨_, rfl, h0⟩, ?_⟩
  rintro m σ H ⟨rfl, p⟩
  obtain ⟨k, h1, h2, h3⟩ := hs σ H p
  refine h1.go fun H2 e => ?_
  cases k with
  | true =>
    rw [if_pos rfl]
    exact ⟨_, fun σ' H' ⟨p', l⟩ => ⟨_, l, rfl, p'⟩, h2 rfl H2 e⟩
  | false =>
    rw [if_neg Bool.false_ne_true]
    exact h3 rfl H2 e
/-! ### the lengths of promises' arguments -/
theorem Pr.len {W : Wd} {I : Type} {a : I → List Ar} {pre : I → Prop} {r : I → Ar} {vs : List V} {H : Hp} {Q : VK} {E : XK} (n : Nat) (h : Pr W a pre r vs H Q E) (hn : ∀ i, (a i).length = n := by intro _; rfl) : vs.length = n := by
  obtain ⟨i, h, _⟩ := h
  rw [h.length, hn]
theorem PrX.len {W : Wd} {I : Type} {a : I → List Ar} {pre : I → Prop} {r : I → Except Addr Ar} {vs : List V} {H : Hp} {Q : VK} {E : XK} (n : Nat) (h : PrX W a pre r vs H Q E) (hn : ∀ i, (a i).length = n := by intro _; rfl) : vs.length = n := by
  obtain ⟨i, h, _⟩ := h
  rw [h.length, hn]
theorem all1 {W : Wd} {H : Hp} {vs : List V} {a : Ar} (h : IsAll W H vs [a]) : ∃ x, vs = [x] ∧ Is W H x a := by
  match vs, h with
  | [x], h => exact ⟨x, rfl, h.1⟩
  | _ :: _ :: _, h => exact h.2.elim
theorem all2 {W : Wd} {H : Hp} {vs : List V} {a b : Ar} (h : IsAll W H vs [a, b]) : ∃ x y, vs = [x, y] ∧ Is W H x a ∧ Is W H y b := by
  match vs, h with
  | [x, y], h => exact ⟨x, y, rfl, h.1, h.2.1⟩
  | [_], h => exact h.2.elim
  | _ :: _ :: _ :: _, h => exact h.2.2.elim
theorem all3 {W : Wd} {H : Hp} {vs : List V} {a b c : Ar} (h : IsAll W H vs [a, b, c]) : ∃ x y z, vs = [x, y, z] ∧ Is W H x a ∧ Is W H y b ∧ Is W H z c := by
  match vs, h with
  | [x, y, z], h => exact ⟨x, y, z, rfl, h.1, h.2.1, h.2.2.1⟩
  | [_], h => exact h.2.elim
  | [_, _], h => exact h.2.2.elim
  | _ :: _ :: _ :: _ :: _, h => exact h.2.2.2.elim
theorem all4 {W : Wd} {H : Hp} {vs : List V} {a b c d : Ar} (h : IsAll W H vs [a, b, c, d]) : ∃ x y z u, vs = [x, y, z, u] ∧ Is W H x a ∧ Is W H y b ∧ Is W H z c ∧ Is W H u d := by
  match vs, h with
  | [x, y, z, u], h => exact ⟨x, y, z, u, rfl, h.1, h.2.1, h.2.2.1, h.2.2.2.1⟩
  | [_], h => exact h.2.elim
  | [_, _], h => exact h.2.2.elim
  | [_, _, _], h => exact h.2.2.2.elim
  | _ :: _ :: _ :: _ :: _ :: _, h => exact h.2.2.2.2.elim
/-! ### isinstance, len, abs -/
def tyD : PyData → String
  | .none => "NoneType" | .bool _ => "bool" | .int _ => "int" | .str _ => "str" | .list _ => "list" | .tuple _ => "tuple" | .dict _ => "dict"
theorem tyX_of {W : Wd} {H : Hp} {x : V} {d : PyData} (h : Dp W.K H x d) : TyX W.K H x (.type (tyD d)) := by
  cases h with
  | non => exact .base .non
  | bl b => exact .base (.bl b)
  | int i => exact .base (.int i)
  | str x => exact .base (.str x)
  | lst h _ =>
    rcases h with (h | ⟨o, h⟩) | ⟨o, its, n, hk, hc, _⟩
    · exact .base (.lst h)
    · exact .base (.frz h)
    · exact .kList hk hc
  | tup h _ =>
    rcases h with (h | ⟨o, h⟩) | ⟨o, its, n, hk, hc, _⟩
    · exact .base (.tup h)
    · exact .fTuple h
    · exact .kTuple hk hc
section
variable {W : Wd} {σ : L2.St} {H : Hp} {ta : TE}
theorem ev_isi {d : PyData} {n : String} {b : Bool} (ha : Ev W ta σ H (.d d)) (h : kitB (tyD d) n = some b) : Ev W (tCB (rIsi W.K) (tCons ta (tCons (tC (.ty n)) tNil))) σ H (.d (.bool b)) := fun H1 e Q q =>
  ha H1 e _ fun x H2 e2 k2 => ⟨x, .ty n, .type (tyD d), .type n, b, rfl, .ty n, tyX_of k2, kit_ty h, q _ H2 e2 (.bl _)⟩
def rLenS (K : PySem.W.Frag) : List V → Hp → VK → Prop := fun xs H Q => ∃ p ys, xs = [.ref p] ∧ (SqL K H p ys ∨ SqT K H p ys) ∧ Q (.int ys.length) H
theorem call_lenS {X : Cx} : CallR X (.builtin "len") (rLenS X.K) := call_len_seq
theorem ev_lenT {ds : List PyData} (ha : Ev W ta σ H (.d (.tuple ds))) : Ev W (tCB (rLenS W.K) (tCons ta tNil)) σ H (.d (.int ds.length)) := fun H1 e Q q =>
  ha H1 e _ fun x H2 e2 k2 => by
    have k2' : Dp W.K H2 x (.tuple ds) := k2
    cases k2' with
    | tup hs hd =>
      refine ⟨_, _, rfl, .inr hs, q _ H2 e2 ?_⟩
      rw [DpAll.len hd]
      exact .int _
theorem ev_lenL {ds : List PyData} (ha : Ev W ta σ H (.d (.list ds))) : Ev W (tCB (rLenS W.K) (tCons ta tNil)) σ H (.d (.int ds.length)) := fun H1 e Q q =>
  ha H1 e _ fun x H2 e2 k2 => by
    have k2' : Dp W.K H2 x (.list ds) := k2
    cases k2' with
    | lst hs hd =>
      refine ⟨_, _, rfl, .inl hs, q _ H2 e2 ?_⟩
      rw [DpAll.len hd]
      exact .int _
def rAbs : List V → Hp → VK → Prop := fun xs H Q => ∃ i, xs = [.int i] ∧ Q (.int (if i < 0 then -i else i)) H
theorem call_absS {X : Cx} : CallR X (.builtin "abs") rAbs := call_abs
theorem ev_abs {i : Int} (ha : Ev W ta σ H (.d (.int i))) : Ev W (tCB rAbs (tCons ta tNil)) σ H (.d (.int (i.natAbs : Int))) := fun H1 e Q q =>
  ha H1 e _ fun x H2 e2 k2 => ⟨i, by rw [int_of k2], by
    have e : (if i < 0 then -i else i) = (i.natAbs : Int) := by split <;> omega
    rw [e]
    exact q _ H2 e2 (.int _)⟩
end
end QT
namespace QT
open PySem PySem.Spec PyProof.Rows L2
section
variable {X : Cx} {x : Str} {pos : Pos}
theorem pe_gi {i : Int} (hg : Gl X x) (h : ∃ t, X.mg x = some (.int i t)) (hd : (x == ("__debug__" : Str)) = false := by decide) : PE X (.Name x pos) (tC (.int i)) := by
  obtain ⟨t, h⟩ := h
  exact pe_glob hg h ⟨t, rfl⟩ hd
theorem pe_gs {z : Str} (hg : Gl X x) (h : ∃ t, X.mg x = some (.str z t)) (hd : (x == ("__debug__" : Str)) = false := by decide) : PE X (.Name x pos) (tC (.str z)) := by
  obtain ⟨t, h⟩ := h
  exact pe_glob hg h ⟨t, rfl⟩ hd
end
end QT
namespace QT
open PySem PySem.Spec PyProof.Rows L2
/-! ### products: one factor small, or both of together less than a million bits -/
def CM (i j : Int) : Prop := CMul i j ∨ CMulW i j
theorem CM.l {i j : Int} (h1 : -(2 ^ 64) < i) (h2 : i < 2 ^ 64) : CM i j := .inl (.inl ⟨h1, h2⟩)
theorem CM.r {i j : Int} (h1 : -(2 ^ 64) < j) (h2 : j < 2 ^ 64) : CM i j := .inl (.inr ⟨h1, h2⟩)
theorem CM.w {i j : Int} (h : CMulW i j) : CM i j := .inr h
section
variable {X : Cx}
theorem op_mulE : OpR X (binaryOp .Mult) (rI CM fun i j => .int (i * j)) := opI fun _ _ _ _ _ _ _ hc q => mul_int q (hc.elim CMul.ok CMulW.ok)
end
section
variable {W : Wd} {σ : L2.St} {H : Hp} {ta tb : TE} {t : TT} {t1 u : TS} {D : Ends} {tr : TA} {K R' B C : L2.St → Hp → Prop} {R : VK}
theorem ev_mulE {i j : Int} (ha : Ev W ta σ H (.d (.int i))) (hb : Ev W tb σ H (.d (.int j))) (hc : CM i j) : Ev W (tOp (rI CM fun i j => .int (i * j)) ta tb) σ H (.d (.int (i * j))) := ev_op ha hb (ov_I hc fun _ => .int _)
theorem ev_neg {i : Int} (ha : Ev W ta σ H (.d (.int i))) : Ev W (tUn (rU fun i => .int (-i)) ta) σ H (.d (.int (-i))) := fun H1 e Q q => ha H1 e _ fun x H2 e2 k2 => ⟨i, int_of k2, q _ H2 e2 (.int _)⟩
/-- an if whose test fails, without else -/
theorem sq_no (h : EvB W t σ H false) (q : ∀ H', Ex W H H' → u D σ H') : tSeq (tIfS t t1 tNext) u D σ H := sq_if1 h (fun z => by cases z) fun _ => q
theorem st_no (h : EvB W t σ H false) (q : ∀ H', Ex W H H' → K σ H') : tIfS t t1 tNext ⟨K, R, B, C⟩ σ H := st_if h (fun z => by cases z) fun _ => q
/-- for x in range(n) -/
theorem st_forR {ta : TA} {tb : TS} {s n : Nat} (h : EvA W ta σ H [.d (.int (n : Int))]) (hn : (n : Int) < 2 ^ 62) (Pv : Nat → L2.St → Hp → Prop) (h0 : ∀ H', Ex W H H' → Pv 0 σ H')
    (hs : ∀ i σ H, i < n → Pv i σ H → tb ⟨Pv (i + 1), R, K, Pv (i + 1)⟩ (σ.set s (some (.int (i : Int)))) H) (hd : ∀ σ H, Pv n σ H → K σ H) : tFor (iRng1 ta) (gName s) tb ⟨K, R, B, C⟩ σ H :=
  h.go fun xs H2 e k => by
    obtain ⟨x, rfl, hx⟩ := all1 k
    cases int_of hx
    refine ⟨(n : Int), rfl, by omega, hn, for_range (lo := 0) (n := (n : Int).toNat) Pv (h0 H2 e) (fun i σ H hi p => ?_) fun σ H p => hd σ H p⟩
    have e1 : ((0 : Int) + (i : Int)) = (i : Int) := Int.zero_add _
    rw [e1]
    exact hs i σ H (by simpa using hi) p
theorem sq_forR {ta : TA} {tb : TS} {s n : Nat} (h : EvA W ta σ H [.d (.int (n : Int))]) (hn : (n : Int) < 2 ^ 62) (Pv : Nat → L2.St → Hp → Prop) (h0 : ∀ H', Ex W H H' → Pv 0 σ H')
    (hs : ∀ i σ H, i < n → Pv i σ H → tb ⟨Pv (i + 1), D.rt, u D, Pv (i + 1)⟩ (σ.set s (some (.int (i : Int)))) H) (hd : ∀ σ H, Pv n σ H → u D σ H) : tSeq (tFor (iRng1 ta) (gName s) tb) u D σ H := st_forR h hn Pv h0 hs hd
def rMax2 : List V → Hp → VK → Prop := fun xs H Q => ∃ i j, xs = [.int i, .int j] ∧ Q (.int (if j > i then j else i)) H
def rMin2 : List V → Hp → VK → Prop := fun xs H Q => ∃ i j, xs = [.int i, .int j] ∧ Q (.int (if j < i then j else i)) H
theorem call_max2S {X : Cx} (hc : X.calm = true) : CallR X (.builtin "max") rMax2 := call_max2 hc
theorem call_min2S {X : Cx} (hc : X.calm = true) : CallR X (.builtin "min") rMin2 := call_min2 hc
theorem ev_max2 {i j : Int} (ha : Ev W ta σ H (.d (.int i))) (hb : Ev W tb σ H (.d (.int j))) : Ev W (tCB rMax2 (tCons ta (tCons tb tNil))) σ H (.d (.int (max i j))) := fun H1 e Q q =>
  ha H1 e _ fun x H2 e2 k2 => hb H2 (e.trans e2) _ fun y H3 e3 k3 => ⟨i, j, by rw [int_of k2, int_of k3], by
    have e4 : (if j > i then j else i) = max i j := by split <;> omega
    rw [e4]
    exact q _ H3 (e2.trans e3) (.int _)⟩
theorem ev_min2 {i j : Int} (ha : Ev W ta σ H (.d (.int i))) (hb : Ev W tb σ H (.d (.int j))) : Ev W (tCB rMin2 (tCons ta (tCons tb tNil))) σ H (.d (.int (min i j))) := fun H1 e Q q =>
  ha H1 e _ fun x H2 e2 k2 => hb H2 (e.trans e2) _ fun y H3 e3 k3 => ⟨i, j, by rw [int_of k2, int_of k3], by
    have e4 : (if j < i then j else i) = min i j := by split <;> omega
    rw [e4]
    exact q _ H3 (e2.trans e3) (.int _)⟩
theorem Ev.to {te : TE} {a b : Ar} (h : Ev W te σ H a) (e : a = b) : Ev W te σ H b := e ▸ h
theorem EvB.to {tt : TT} {a b : Bool} (h : EvB W tt σ H a) (e : a = b) : EvB W tt σ H b := e ▸ h
end
theorem atI_nat' {α : Type} {xs : List α} {i : Nat} {x : α} (h : xs[i]? = some x) : L2.atI xs (i : Int) = some x := atI_nat h
/-- a script as data -/
theorem dpAll_ints {K : PySem.W.Frag} {H : Hp} : ∀ ns : List Int, DpAll K H (ns.map V.int) (ns.map PyData.int)
  | [] => .nil
  | n :: r => .cons (.int n) (dpAll_ints r)
end QT
namespace QT
open PySem PySem.Spec PyProof.Rows L2
/-! ### changes of new objects -/
/-- nothing but a table of code objects stands at l -/
def New (H : Hp) (l : Addr) : Prop := ∀ o, H l = some o → ∃ ps, o = .tbl ps
theorem New.of {H : Hp} {l : Addr} (h : H l = none) : New H l := fun o e => by rw [h] at e; cases e
theorem New.back {W : Wd} {H H' : Hp} {l : Addr} (e : Ex W H H') (n : New H' l) : New H l := fun o h => by
  by_cases c : ∀ ps, o ≠ .tbl ps
  · obtain ⟨ps, z⟩ := n o (e.n l o h c)
    exact absurd z (c ps)
  · exact Classical.byContradiction fun z => c fun ps q => z ⟨ps, q⟩
theorem New.ne {H : Hp} {l b : Addr} {o : HO} (n : New H l) (h : H b = some o) (ho : ∀ ps, o ≠ .tbl ps) : b ≠ l := fun e => by
  subst e
  obtain ⟨ps, z⟩ := n o h
  exact ho ps z
/-- what may be written: a list, a dict, an instance -/
def Wr : HO → Prop
  | .lst _ => True
  | .dK _ => True
  | .dT _ => True
  | .ins _ _ _ => True
  | _ => False
theorem Wr.tbl {u : HO} (h : Wr u) (ps : Array Value) : u ≠ .tbl ps := fun e => by subst e; exact h
theorem Wr.code {u : HO} (h : Wr u) (c : Addr) (q : Str) : u ≠ LamX.CodeO c q := fun e => by subst e; exact h
theorem Wr.tup {u : HO} (h : Wr u) (xs : List V) : u ≠ .tup xs := fun e => by subst e; exact h
theorem Wr.frz {u : HO} (h : Wr u) (o : Obj) (v : HO) : u ≠ .frz o v := fun e => by subst e; exact h
theorem tabs_mut {T : List (Addr × Str)} {H : Hp} {l : Addr} {u o : HO} (hl : H l = some u) (w : Wr u) (t : LamX.Tabs T H) : LamX.Tabs T (upd H l o) := fun p hp => by
  obtain ⟨ps, h1, h2, h3⟩ := t p hp
  have n1 : p.1 ≠ l := fun e => by rw [e, hl] at h1; exact w.tbl _ (Option.some.inj h1)
  refine ⟨ps, by rw [upd_ne n1]; exact h1, h2, fun pos cv hc => ?_⟩
  obtain ⟨c, e, h4⟩ := h3 pos cv hc
  refine ⟨c, e, ?_⟩
  have n2 : c ≠ l := fun e => by rw [e, hl] at h4; exact w.code _ _ (Option.some.inj h4)
  rw [upd_ne n2]
  exact h4
/-- a new object may change -/
theorem Ex.mut {W : Wd} {H H' : Hp} {l : Addr} {u o : HO} (e : Ex W H H') (n : New H l) (hl : H' l = some u) (w : Wr u) : Ex W H (upd H' l o) :=
  ⟨fun b v h hv => by rw [upd_ne (n.ne h hv)]; exact e.n b v h hv, fun t => tabs_mut hl w (e.t t)⟩
/-! data without lists -/
mutual
def noL : PyData → Bool
  | .list _ => false
  | .tuple xs => noLAll xs
  | .dict _ => false
  | _ => true
def noLAll : List PyData → Bool
  | [] => true
  | x :: xs => noL x && noLAll xs
end
mutual
theorem dp_mut {K : PySem.W.Frag} {H : Hp} {l : Addr} {u o : HO} (hl : H l = some u) (w : Wr u) : ∀ {v : V} {d : PyData}, Dp K H v d → noL d = true → Dp K (upd H l o) v d
  | _, _, .non, _ => .non
  | _, _, .bl b, _ => .bl b
  | _, _, .int i, _ => .int i
  | _, _, .str x, _ => .str x
  | _, _, .lst _ _, h => by cases h
  | _, _, .tup (a := a) h t, hn => .tup (by
      rcases h with (h | ⟨ob, h⟩) | h
      · have n : a ≠ l := fun e => by rw [e, hl] at h; exact w.tup _ (Option.some.inj h)
        exact .inl (.inl (by rw [upd_ne n]; exact h))
      · have n : a ≠ l := fun e => by rw [e, hl] at h; exact w.frz _ _ (Option.some.inj h)
        exact .inl (.inr ⟨ob, by rw [upd_ne n]; exact h⟩)
      · exact .inr h) (dpAll_mut hl w t (by simpa [noL] using hn))
theorem dpAll_mut {K : PySem.W.Frag} {H : Hp} {l : Addr} {u o : HO} (hl : H l = some u) (w : Wr u) : ∀ {vs : List V} {ds : List PyData}, DpAll K H vs ds → noLAll ds = true → DpAll K (upd H l o) vs ds
  | _, _, .nil, _ => .nil
  | _, _, .cons h t, hn => by
    have hn' : (noL _ && noLAll _) = true := hn
    obtain ⟨h1, h2⟩ := Bool.and_eq_true_iff.mp hn'
    exact .cons (dp_mut hl w h h1) (dpAll_mut hl w t h2)
end
theorem DpAll.app {K : PySem.W.Frag} {H : Hp} : ∀ {vs : List V} {ds : List PyData} {v : V} {d : PyData}, DpAll K H vs ds → Dp K H v d → DpAll K H (vs ++ [v]) (ds ++ [d])
  | _, _, _, _, .nil, h => .cons h .nil
  | _, _, _, _, .cons a t, h => .cons a (DpAll.app t h)
section
variable {W : Wd} {σ : L2.St} {H : Hp} {ta to : TE} {D : Ends} {u : TS} {K B C : L2.St → Hp → Prop} {R : VK} {a : Ar} {l : Addr} {xs : List V}
/-- l.append(e) -/
theorem st_append {K0 : PySem.W.Frag} (ho : Ev W to σ H (.v (.ref l))) (hl : H l = some (.lst xs)) (hn : xs.length < 100000) (he : Ev W ta σ H a) (q : ∀ x H', Ex W H H' → Is W H' x a → K σ (upd H' l (.lst (xs ++ [x])))) :
    tDrop (tBM K0 "list" rAppend to (tCons ta tNil)) ⟨K, R, B, C⟩ σ H :=
  ho.go fun x H1 e1 k1 => by
    have k1' : x = .ref l := k1
    subst k1'
    refine ⟨.inl ⟨rfl, xs, SqL.of (e1.at hl)⟩, he H1 e1 _ fun y H2 e2 k2 => ?_⟩
    exact ⟨l, xs, y, rfl, rfl, (e1.trans e2).at hl, Nat.lt_of_lt_of_le hn (by decide), q y H2 (e1.trans e2) k2⟩
theorem sq_append {K0 : PySem.W.Frag} (ho : Ev W to σ H (.v (.ref l))) (hl : H l = some (.lst xs)) (hn : xs.length < 100000) (he : Ev W ta σ H a) (q : ∀ x H', Ex W H H' → Is W H' x a → u D σ (upd H' l (.lst (xs ++ [x])))) :
    tSeq (tDrop (tBM K0 "list" rAppend to (tCons ta tNil))) u D σ H := st_append ho hl hn he q
/-- x = [] -/
theorem sq_nil {i : Nat} (q : ∀ l H', Ex W H H' → H l = none → H' l = some (.lst []) → u D (σ.set i (some (.ref l))) H') : tSeq (tAsg (tLst tNil) (gName i)) u D σ H :=
  show _ ∧ _ from ⟨Nat.zero_le _, fun p hp => q p _ (Ex.new hp) hp upd_same⟩
end
def rInt1 : List V → Hp → VK → Prop := fun xs H Q => (∃ i, xs = [.int i] ∧ Q (.int i) H) ∨ ∃ k, xs = [.bl k] ∧ Q (.int (if k then 1 else 0)) H
theorem call_int1S {X : Cx} : CallR X (.type "int") rInt1 := call_int1
section
variable {W : Wd} {σ : L2.St} {H : Hp} {ta : TE}
theorem ev_intB {b : Bool} (ha : Ev W ta σ H (.d (.bool b))) : Ev W (tCB rInt1 (tCons ta tNil)) σ H (.d (.int (if b then 1 else 0))) := fun H1 e Q q =>
  ha H1 e _ fun x H2 e2 k2 => .inr ⟨b, by rw [bl_of k2], q _ H2 e2 (.int _)⟩
end
end QT
namespace QT
open PySem PySem.Spec PyProof.Rows L2
theorem cx_none {P : Program} {w : World} {outer : List Env} {H : Hp} {s : Shared} {e : Value} {s' : Shared} (h : L2.CX P w outer H s (fun _ _ _ => False) e s') : False := by
  obtain ⟨_, _, _, _, _, _, _, _, _, _, _, _, z⟩ := h
  exact z
/-- a name of the code objects that a def's lambdas have -/
def lamQ (p : He.Defn) : Str := "<lambda>"
end QT

namespace QM
/-! plain facts: the greatest common divisor by remainders, least numbers, rationals -/
theorem gcd_fmod (a b : Int) : Int.gcd b (a.fmod b) = Int.gcd a b := by
  rw [Int.fmod_def, Int.gcd_sub_mul_left_right, Int.gcd_comm]
theorem natAbs_fmod_lt (a : Int) {b : Int} (h : b ≠ 0) : (a.fmod b).natAbs < b.natAbs := by
  rw [Int.fmod_eq_emod]
  have h1 := Int.emod_nonneg a h
  have h2 : a % b < (b.natAbs : Int) := Int.emod_lt a h
  split
  · omega
  · rename_i h3
    have h4 : ¬ b ∣ a := fun d => h3 (.inr d)
    have h5 : a % b ≠ 0 := fun e => h4 (Int.dvd_of_emod_eq_zero e)
    have h6 : ¬ 0 ≤ b := fun d => h3 (.inl d)
    omega
theorem gcd_pos {a b : Int} (h : b ≠ 0) : 0 < Int.gcd a b := Int.gcd_pos_of_ne_zero_right a h
theorem sgn_num {a b : Int} (h : b ≠ 0) : a.fdiv (if b < 0 then 0 - (Int.gcd a b : Int) else (Int.gcd a b : Int)) = ((a : Rat) / (b : Rat)).num := by
  have g0 := gcd_pos (a := a) h
  have gd : (Int.gcd a b : Int) ∣ a := Int.gcd_dvd_left a b
  rw [← Rat.divInt_eq_div, Rat.num_divInt, Int.gcd_comm b a]
  by_cases hb : b < 0
  · rw [if_pos hb, Int.sign_eq_neg_one_of_neg hb, Int.zero_sub, Int.fdiv_neg (by omega), if_pos gd, Int.fdiv_eq_ediv_of_dvd gd]
    rw [← Int.neg_ediv_of_dvd gd]
    congr 1
    omega
  · rw [if_neg hb, Int.sign_eq_one_of_pos (by omega), Int.fdiv_eq_ediv_of_dvd gd, Int.one_mul]
theorem sgn_den {a b : Int} (h : b ≠ 0) : b.fdiv (if b < 0 then 0 - (Int.gcd a b : Int) else (Int.gcd a b : Int)) = (((a : Rat) / (b : Rat)).den : Int) := by
  have g0 := gcd_pos (a := a) h
  have gd : (Int.gcd a b : Int) ∣ b := Int.gcd_dvd_right a b
  rw [← Rat.divInt_eq_div, Rat.den_divInt, if_neg h, Int.gcd_comm b a]
  have e : ((b.natAbs / Int.gcd a b : Nat) : Int) = (b.natAbs : Int) / (Int.gcd a b : Int) := by simp
  rw [e]
  by_cases hb : b < 0
  · rw [if_pos hb, Int.zero_sub, Int.fdiv_neg (by omega), if_pos gd, Int.fdiv_eq_ediv_of_dvd gd, ← Int.neg_ediv_of_dvd gd]
    congr 1
    omega
  · rw [if_neg hb, Int.fdiv_eq_ediv_of_dvd gd]
    congr 1
    omega
theorem sgn2_num {a b : Int} (h : b ≠ 0) : ((if 0 < b then 1 else -1) * a) / (Int.gcd a b : Int) = ((a : Rat) / (b : Rat)).num := by
  rw [← Rat.divInt_eq_div, Rat.num_divInt, Int.gcd_comm b a]
  by_cases hb : 0 < b
  · rw [if_pos hb, Int.sign_eq_one_of_pos hb]
  · rw [if_neg hb, Int.sign_eq_neg_one_of_neg (by omega)]
theorem sgn2_den {a b : Int} (h : b ≠ 0) : ((if 0 < b then 1 else -1) * b) / (Int.gcd a b : Int) = (((a : Rat) / (b : Rat)).den : Int) := by
  rw [← Rat.divInt_eq_div, Rat.den_divInt, if_neg h, Int.gcd_comm b a]
  have e : ((b.natAbs / Int.gcd a b : Nat) : Int) = (b.natAbs : Int) / (Int.gcd a b : Int) := by simp
  rw [e]
  congr 1
  by_cases hb : 0 < b
  · rw [if_pos hb]; omega
  · rw [if_neg hb]; omega
theorem dne (q : Rat) : (q.den : Rat) ≠ 0 := by
  have h := q.den_nz
  exact fun e => h (by exact_mod_cast e)
theorem dneI (q : Rat) : ((q.den : Int) : Rat) ≠ 0 := by
  rw [Rat.intCast_natCast]; exact dne q
theorem nd (q : Rat) : ((q.num : Int) : Rat) / ((q.den : Int) : Rat) = q := by
  rw [← Rat.divInt_eq_div, Rat.num_divInt_den]
theorem num_mul (q : Rat) : ((q.num : Int) : Rat) = q * ((q.den : Int) : Rat) := by
  have h := nd q
  have h2 := dneI q
  grind
theorem add_eq (p q : Rat) : ((p.num * (q.den : Int) + q.num * (p.den : Int) : Int) : Rat) / ((p.den * q.den : Int) : Rat) = p + q := by
  have h1 := num_mul p
  have h2 := num_mul q
  have h3 := dneI p
  have h4 := dneI q
  rw [Rat.intCast_add, Rat.intCast_mul, Rat.intCast_mul, Rat.intCast_mul, h1, h2]
  grind
theorem sub_eq (p q : Rat) : ((p.num * (q.den : Int) - q.num * (p.den : Int) : Int) : Rat) / ((p.den * q.den : Int) : Rat) = p - q := by
  have h1 := num_mul p
  have h2 := num_mul q
  have h3 := dneI p
  have h4 := dneI q
  rw [Rat.intCast_sub, Rat.intCast_mul, Rat.intCast_mul, Rat.intCast_mul, h1, h2]
  grind
theorem mul_eq (p q : Rat) : ((p.num * q.num : Int) : Rat) / ((p.den * q.den : Int) : Rat) = p * q := by
  have h1 := num_mul p
  have h2 := num_mul q
  have h3 := dneI p
  have h4 := dneI q
  rw [Rat.intCast_mul, Rat.intCast_mul, h1, h2]
  grind
theorem div_eq (p q : Rat) (hq : q ≠ 0) : ((p.num * (q.den : Int) : Int) : Rat) / ((p.den * q.num : Int) : Rat) = p / q := by
  have h1 := num_mul p
  have h2 := num_mul q
  have h3 := dneI p
  have h4 := dneI q
  rw [Rat.intCast_mul, Rat.intCast_mul, h1, h2]
  grind
theorem num_ne {q : Rat} (h : q ≠ 0) : q.num ≠ 0 := fun e => h (Rat.num_eq_zero.mp e)
theorem den_ne (q : Rat) : (q.den : Int) ≠ 0 := by have := q.den_nz; omega
theorem lt_dec (p q : Rat) : decide (p.num * (q.den : Int) < q.num * (p.den : Int)) = decide (p < q) := by
  rw [Bool.eq_iff_iff, decide_eq_true_iff, decide_eq_true_iff, Rat.lt_iff]
theorem lt_dec2 (p q : Rat) : decide (p.num * (q.den : Int) - q.num * (p.den : Int) < 0) = decide (p < q) := by
  rw [← lt_dec, Bool.eq_iff_iff, decide_eq_true_iff, decide_eq_true_iff]
  omega
theorem pair_eq (p q : Rat) : (p.num == q.num && ((p.den : Int) == (q.den : Int) && true)) = decide (p = q) := by
  rw [Bool.eq_iff_iff]
  simp only [Bool.and_true, Bool.and_eq_true, beq_iff_eq, decide_eq_true_eq]
  constructor
  · rintro ⟨h1, h2⟩
    exact Rat.ext h1 (by omega)
  · rintro rfl
    exact ⟨rfl, rfl⟩
/-! sizes -/
theorem mul_lt {a b : Int} {m n : Nat} (ha : a.natAbs < 2 ^ m) (hb : b.natAbs < 2 ^ n) : (a * b).natAbs < 2 ^ (m + n) := by
  rw [Int.natAbs_mul, Nat.pow_add]
  exact Nat.mul_lt_mul'' ha hb
theorem mono_lt {a : Int} {m n : Nat} (ha : a.natAbs < 2 ^ m) (h : m ≤ n) : a.natAbs < 2 ^ n := Nat.lt_of_lt_of_le ha (Nat.pow_le_pow_right (by decide) h)
theorem log2_lt' {x n : Nat} (h : x < 2 ^ n) (h0 : 0 < n) : x.log2 < n := by
  by_cases h1 : x = 0
  · subst h1; simpa using h0
  · exact (Nat.log2_lt h1).mpr h
/-- both parts below 2 ^ n -/
structure Sz (k : Nat) (q : Rat) : Prop where
  n : q.num.natAbs < 2 ^ k
  d : q.den < 2 ^ k
theorem num_le {a b : Int} (h : b ≠ 0) : ((a : Rat) / (b : Rat)).num.natAbs ≤ a.natAbs := by
  rw [← sgn2_num h]
  have e : ((if 0 < b then 1 else -1) * a : Int).natAbs = a.natAbs := by split <;> simp
  calc _ ≤ ((if 0 < b then 1 else -1) * a : Int).natAbs := Int.natAbs_ediv_le_natAbs _ _
    _ = _ := e
theorem den_le {a b : Int} (h : b ≠ 0) : ((a : Rat) / (b : Rat)).den ≤ b.natAbs := by
  have h1 := sgn2_den (a := a) h
  have e : ((if 0 < b then 1 else -1) * b : Int).natAbs = b.natAbs := by split <;> simp
  have h2 : (((if 0 < b then 1 else -1) * b : Int) / (Int.gcd a b : Int)).natAbs ≤ ((if 0 < b then 1 else -1) * b : Int).natAbs := Int.natAbs_ediv_le_natAbs _ _
  rw [h1, e] at h2
  simpa using h2
theorem Sz.div {n : Nat} {a b : Int} (h : b ≠ 0) (ha : a.natAbs < 2 ^ n) (hb : b.natAbs < 2 ^ n) : Sz n ((a : Rat) / (b : Rat)) := ⟨Nat.lt_of_le_of_lt (num_le h) ha, Nat.lt_of_le_of_lt (den_le h) hb⟩
theorem Sz.mono {m n : Nat} {q : Rat} (h : Sz m q) (hm : m ≤ n) : Sz n q := ⟨Nat.lt_of_lt_of_le h.n (Nat.pow_le_pow_right (by decide) hm), Nat.lt_of_lt_of_le h.d (Nat.pow_le_pow_right (by decide) hm)⟩
theorem Sz.dn {n : Nat} {q : Rat} (h : Sz n q) : (q.den : Int).natAbs < 2 ^ n := by simpa using h.d
theorem add_lt {a b : Int} {k : Nat} (ha : a.natAbs < 2 ^ k) (hb : b.natAbs < 2 ^ k) : (a + b).natAbs < 2 ^ (k + 1) := by
  rw [Nat.pow_succ]; omega
theorem sub_lt {a b : Int} {k : Nat} (ha : a.natAbs < 2 ^ k) (hb : b.natAbs < 2 ^ k) : (a - b).natAbs < 2 ^ (k + 1) := by
  rw [Nat.pow_succ]; omega
theorem Sz.add {n : Nat} {p q : Rat} (hp : Sz n p) (hq : Sz n q) : Sz (n + n + 1) (p + q) := by
  rw [← add_eq]
  exact .div (Int.mul_ne_zero (den_ne p) (den_ne q)) (add_lt (mul_lt hp.n hq.dn) (mul_lt hq.n hp.dn)) (mono_lt (mul_lt hp.dn hq.dn) (by omega))
theorem Sz.sub {n : Nat} {p q : Rat} (hp : Sz n p) (hq : Sz n q) : Sz (n + n + 1) (p - q) := by
  rw [← sub_eq]
  exact .div (Int.mul_ne_zero (den_ne p) (den_ne q)) (sub_lt (mul_lt hp.n hq.dn) (mul_lt hq.n hp.dn)) (mono_lt (mul_lt hp.dn hq.dn) (by omega))
theorem Sz.mul {n : Nat} {p q : Rat} (hp : Sz n p) (hq : Sz n q) : Sz (n + n) (p * q) := by
  rw [← mul_eq]
  exact .div (Int.mul_ne_zero (den_ne p) (den_ne q)) (mul_lt hp.n hq.n) (mul_lt hp.dn hq.dn)
theorem Sz.quo {n : Nat} {p q : Rat} (h0 : q ≠ 0) (hp : Sz n p) (hq : Sz n q) : Sz (n + n) (p / q) := by
  rw [← div_eq p q h0]
  exact .div (Int.mul_ne_zero (den_ne p) (num_ne h0)) (mul_lt hp.n hq.dn) (mul_lt hp.dn hq.n)
end QM

namespace QT
open PySem PySem.Spec PyProof.Rows L2 QM
def top (i : Nat) : Stmt := PySem.Challenge.pw_quickturns_k10_whole_fractions.main.body.getD i (.Pass ⟨0, 0, 0, 0⟩)
abbrev sd_need : Stmt := top 4
abbrev sd_is_whole : Stmt := top 5
abbrev sd_shared : Stmt := top 6
abbrev sd_is_fraction : Stmt := top 7
abbrev sd_need_fraction : Stmt := top 8
abbrev sd_look : Stmt := top 9
abbrev sd_least : Stmt := top 10
abbrev sd_fraction : Stmt := top 11
abbrev sd_add : Stmt := top 12
abbrev sd_take : Stmt := top 13
abbrev sd_multiply : Stmt := top 14
abbrev sd_part_of : Stmt := top 15
abbrev sd_is_less : Stmt := top 16
abbrev sd_plus : Stmt := top 17
abbrev sd_less : Stmt := top 18
abbrev sd_times : Stmt := top 19
abbrev sd_by : Stmt := top 20
abbrev sd_before : Stmt := top 21
abbrev sd_whole : Stmt := top 22
abbrev sd__law_cell : Stmt := top 24
abbrev sd__law_drawn : Stmt := top 25
abbrev sd__law_least : Stmt := top 26
abbrev sd__law_sum : Stmt := top 27
abbrev sd__law_product : Stmt := top 28
abbrev sd__law_under : Stmt := top 29
abbrev sd__law_number : Stmt := top 30
abbrev sd_law : Stmt := top 31
theorem sc_need : FnScope ["good"] ["good"] (defScope sd_need) := ⟨rfl, rfl, rfl, by decide +kernel, rfl, by decide +kernel, by decide +kernel⟩
theorem sc_is_whole : FnScope ["thing"] ["thing"] (defScope sd_is_whole) := ⟨rfl, rfl, rfl, by decide +kernel, rfl, by decide +kernel, by decide +kernel⟩
theorem sc_shared : FnScope ["one", "other"] ["one", "other"] (defScope sd_shared) := ⟨rfl, rfl, rfl, by decide +kernel, rfl, by decide +kernel, by decide +kernel⟩
theorem sc_is_fraction : FnScope ["thing"] ["thing"] (defScope sd_is_fraction) := ⟨rfl, rfl, rfl, by decide +kernel, rfl, by decide +kernel, by decide +kernel⟩
theorem sc_need_fraction : FnScope ["thing"] ["thing"] (defScope sd_need_fraction) := ⟨rfl, rfl, rfl, by decide +kernel, rfl, by decide +kernel, by decide +kernel⟩
theorem sc_look : FnScope ["one", "other"] ["one", "other"] (defScope sd_look) := ⟨rfl, rfl, rfl, by decide +kernel, rfl, by decide +kernel, by decide +kernel⟩
theorem sc_least : FnScope ["above", "below", "by"] ["above", "below"] (defScope sd_least) := ⟨rfl, rfl, rfl, by decide +kernel, rfl, by decide +kernel, by decide +kernel⟩
theorem sc_fraction : FnScope ["above", "below"] ["above", "below"] (defScope sd_fraction) := ⟨rfl, rfl, rfl, by decide +kernel, rfl, by decide +kernel, by decide +kernel⟩
theorem sc_add : FnScope ["one", "other"] ["one", "other"] (defScope sd_add) := ⟨rfl, rfl, rfl, by decide +kernel, rfl, by decide +kernel, by decide +kernel⟩
theorem sc_take : FnScope ["one", "other"] ["one", "other"] (defScope sd_take) := ⟨rfl, rfl, rfl, by decide +kernel, rfl, by decide +kernel, by decide +kernel⟩
theorem sc_multiply : FnScope ["one", "other"] ["one", "other"] (defScope sd_multiply) := ⟨rfl, rfl, rfl, by decide +kernel, rfl, by decide +kernel, by decide +kernel⟩
theorem sc_part_of : FnScope ["one", "other"] ["one", "other"] (defScope sd_part_of) := ⟨rfl, rfl, rfl, by decide +kernel, rfl, by decide +kernel, by decide +kernel⟩
theorem sc_is_less : FnScope ["one", "other"] ["one", "other"] (defScope sd_is_less) := ⟨rfl, rfl, rfl, by decide +kernel, rfl, by decide +kernel, by decide +kernel⟩
theorem sc_plus : FnScope ["one", "other"] ["one", "other"] (defScope sd_plus) := ⟨rfl, rfl, rfl, by decide +kernel, rfl, by decide +kernel, by decide +kernel⟩
theorem sc_less : FnScope ["one", "other"] ["one", "other"] (defScope sd_less) := ⟨rfl, rfl, rfl, by decide +kernel, rfl, by decide +kernel, by decide +kernel⟩
theorem sc_times : FnScope ["one", "other"] ["one", "other"] (defScope sd_times) := ⟨rfl, rfl, rfl, by decide +kernel, rfl, by decide +kernel, by decide +kernel⟩
theorem sc_by : FnScope ["one", "other"] ["one", "other"] (defScope sd_by) := ⟨rfl, rfl, rfl, by decide +kernel, rfl, by decide +kernel, by decide +kernel⟩
theorem sc_before : FnScope ["one", "other"] ["one", "other"] (defScope sd_before) := ⟨rfl, rfl, rfl, by decide +kernel, rfl, by decide +kernel, by decide +kernel⟩
theorem sc_whole : FnScope ["one"] ["one"] (defScope sd_whole) := ⟨rfl, rfl, rfl, by decide +kernel, rfl, by decide +kernel, by decide +kernel⟩
theorem sc__law_cell : FnScope ["_law_script", "_law_k"] ["_law_script", "_law_k"] (defScope sd__law_cell) := ⟨rfl, rfl, rfl, by decide +kernel, rfl, by decide +kernel, by decide +kernel⟩
theorem sc__law_drawn : FnScope ["_law_cell_here", "_law_k", "_law_more"] ["_law_cell_here", "_law_k"] (defScope sd__law_drawn) := ⟨rfl, rfl, rfl, by decide +kernel, rfl, by decide +kernel, by decide +kernel⟩
theorem sc__law_least : FnScope ["_law_above", "_law_below", "_law_one", "_law_other", "_law_sign"] ["_law_above", "_law_below"] (defScope sd__law_least) := ⟨rfl, rfl, rfl, by decide +kernel, rfl, by decide +kernel, by decide +kernel⟩
theorem sc__law_sum : FnScope ["_law_one", "_law_other", "_law_sign"] ["_law_one", "_law_other", "_law_sign"] (defScope sd__law_sum) := ⟨rfl, rfl, rfl, by decide +kernel, rfl, by decide +kernel, by decide +kernel⟩
theorem sc__law_product : FnScope ["_law_one", "_law_other"] ["_law_one", "_law_other"] (defScope sd__law_product) := ⟨rfl, rfl, rfl, by decide +kernel, rfl, by decide +kernel, by decide +kernel⟩
theorem sc__law_under : FnScope ["_law_one", "_law_other"] ["_law_one", "_law_other"] (defScope sd__law_under) := ⟨rfl, rfl, rfl, by decide +kernel, rfl, by decide +kernel, by decide +kernel⟩
theorem sc__law_number : FnScope ["_law_more"] ["_law_more"] (defScope sd__law_number) := ⟨rfl, rfl, rfl, by decide +kernel, rfl, by decide +kernel, by decide +kernel⟩
theorem sc_law : FnScope ["_law_script", "_law_k", "_law_more", "_law_some", "_law_j", "_law_here", "_law_above", "_law_below", "_law_one", "_law_a", "_law_b", "_law_c"] ["_law_script"] (defScope sd_law) := ⟨rfl, rfl, rfl, by decide +kernel, rfl, by decide +kernel, by decide +kernel⟩
def dd_need : He.DefD := ⟨("need", none), "need", "need", defArgs sd_need, defBody sd_need, defScope sd_need, [], []⟩
def dd_is_whole : He.DefD := ⟨("is_whole", none), "is_whole", "is_whole", defArgs sd_is_whole, defBody sd_is_whole, defScope sd_is_whole, [], []⟩
def dd_shared : He.DefD := ⟨("shared", none), "shared", "shared", defArgs sd_shared, defBody sd_shared, defScope sd_shared, [], []⟩
def dd_is_fraction : He.DefD := ⟨("is_fraction", none), "is_fraction", "is_fraction", defArgs sd_is_fraction, defBody sd_is_fraction, defScope sd_is_fraction, [], []⟩
def dd_need_fraction : He.DefD := ⟨("need_fraction", none), "need_fraction", "need_fraction", defArgs sd_need_fraction, defBody sd_need_fraction, defScope sd_need_fraction, [], []⟩
def dd_look : He.DefD := ⟨("look", none), "look", "look", defArgs sd_look, defBody sd_look, defScope sd_look, [], []⟩
def dd_least : He.DefD := ⟨("least", none), "least", "least", defArgs sd_least, defBody sd_least, defScope sd_least, [], []⟩
def dd_fraction : He.DefD := ⟨("fraction", none), "fraction", "fraction", defArgs sd_fraction, defBody sd_fraction, defScope sd_fraction, [], []⟩
def dd_add : He.DefD := ⟨("add", none), "add", "add", defArgs sd_add, defBody sd_add, defScope sd_add, [], []⟩
def dd_take : He.DefD := ⟨("take", none), "take", "take", defArgs sd_take, defBody sd_take, defScope sd_take, [], []⟩
def dd_multiply : He.DefD := ⟨("multiply", none), "multiply", "multiply", defArgs sd_multiply, defBody sd_multiply, defScope sd_multiply, [], []⟩
def dd_part_of : He.DefD := ⟨("part_of", none), "part_of", "part_of", defArgs sd_part_of, defBody sd_part_of, defScope sd_part_of, [], []⟩
def dd_is_less : He.DefD := ⟨("is_less", none), "is_less", "is_less", defArgs sd_is_less, defBody sd_is_less, defScope sd_is_less, [], []⟩
def dd_plus : He.DefD := ⟨("plus", none), "plus", "plus", defArgs sd_plus, defBody sd_plus, defScope sd_plus, [], []⟩
def dd_less : He.DefD := ⟨("less", none), "less", "less", defArgs sd_less, defBody sd_less, defScope sd_less, [], []⟩
def dd_times : He.DefD := ⟨("times", none), "times", "times", defArgs sd_times, defBody sd_times, defScope sd_times, [], []⟩
def dd_by : He.DefD := ⟨("by", none), "by", "by", defArgs sd_by, defBody sd_by, defScope sd_by, [], []⟩
def dd_before : He.DefD := ⟨("before", none), "before", "before", defArgs sd_before, defBody sd_before, defScope sd_before, [], []⟩
def dd_whole : He.DefD := ⟨("whole", none), "whole", "whole", defArgs sd_whole, defBody sd_whole, defScope sd_whole, [], []⟩
def dd__law_cell : He.DefD := ⟨("_law_cell", none), "_law_cell", "_law_cell", defArgs sd__law_cell, defBody sd__law_cell, defScope sd__law_cell, [], []⟩
def dd__law_drawn : He.DefD := ⟨("_law_drawn", none), "_law_drawn", "_law_drawn", defArgs sd__law_drawn, defBody sd__law_drawn, defScope sd__law_drawn, [], []⟩
def dd__law_least : He.DefD := ⟨("_law_least", none), "_law_least", "_law_least", defArgs sd__law_least, defBody sd__law_least, defScope sd__law_least, [], []⟩
def dd__law_sum : He.DefD := ⟨("_law_sum", none), "_law_sum", "_law_sum", defArgs sd__law_sum, defBody sd__law_sum, defScope sd__law_sum, [], []⟩
def dd__law_product : He.DefD := ⟨("_law_product", none), "_law_product", "_law_product", defArgs sd__law_product, defBody sd__law_product, defScope sd__law_product, [], []⟩
def dd__law_under : He.DefD := ⟨("_law_under", none), "_law_under", "_law_under", defArgs sd__law_under, defBody sd__law_under, defScope sd__law_under, [], []⟩
def dd__law_number : He.DefD := ⟨("_law_number", none), "_law_number", "_law_number", defArgs sd__law_number, defBody sd__law_number, defScope sd__law_number, [], []⟩
def dd_law : He.DefD := ⟨("law", none), "law", "law", defArgs sd_law, defBody sd_law, defScope sd_law, [], []⟩
def fn : List He.DefD := ([dd_need, dd_is_whole, dd_shared, dd_is_fraction, dd_need_fraction, dd_look, dd_least, dd_fraction, dd_add, dd_take, dd_multiply, dd_part_of, dd_is_less, dd_plus, dd_less, dd_times, dd_by, dd_before, dd_whole, dd__law_cell, dd__law_drawn, dd__law_least, dd__law_sum, dd__law_product, dd__law_under, dd__law_number, dd_law] : List _)
def fa : List He.Fa := [.glo "need", .glo "is_whole", .glo "shared", .glo "is_fraction", .glo "need_fraction", .glo "look", .glo "least", .glo "fraction", .glo "add", .glo "take", .glo "multiply", .glo "part_of", .glo "is_less", .glo "plus", .glo "less", .glo "times", .glo "by", .glo "before", .glo "whole", .glo "_law_cell", .glo "_law_drawn", .glo "_law_least", .glo "_law_sum", .glo "_law_product", .glo "_law_under", .glo "_law_number", .glo "law", .free "ValueError", .free "abs", .free "bool"] ++ (([.free "int", .free "isinstance", .free "len", .free "max", .free "min", .free "range", .free "tuple", .glo "TurnError", .exc "TurnError", .glo "BadFraction", .exc "BadFraction"] : List _))
def tf : List He.Defn := []
structure Exs (K : PySem.W.Frag) : Prop where
  z : True
def exB (K : PySem.W.Frag) : Bool := true
theorem exB_ok {K : PySem.W.Frag} (h : exB K = true) : Exs K := ⟨trivial⟩
structure Txt (W : Wd) (mg : Str → Option Value) (base h : Heap) : Prop where
  kin : W.K.In h
  tb : ∀ p ∈ tf, LamX.TabB base mg (He.cT W.K p).1 (He.cT W.K p).2
  ns : h.Ns mainGlobals mg
  d : He.SaysD fa fn W.K
  ex : Exs W.K
section
variable {W : Wd} {mg : Str → Option Value} {base h : Heap}
theorem Txt.g_need (T : Txt W mg base h) : mg "need" = some (.ref (He.ga W.K "need")) := He.glo_ok T.kin T.ns (T.d.fact 0 (f := .glo "need") rfl)
theorem Txt.g_is_whole (T : Txt W mg base h) : mg "is_whole" = some (.ref (He.ga W.K "is_whole")) := He.glo_ok T.kin T.ns (T.d.fact 1 (f := .glo "is_whole") rfl)
theorem Txt.g_shared (T : Txt W mg base h) : mg "shared" = some (.ref (He.ga W.K "shared")) := He.glo_ok T.kin T.ns (T.d.fact 2 (f := .glo "shared") rfl)
theorem Txt.g_is_fraction (T : Txt W mg base h) : mg "is_fraction" = some (.ref (He.ga W.K "is_fraction")) := He.glo_ok T.kin T.ns (T.d.fact 3 (f := .glo "is_fraction") rfl)
theorem Txt.g_need_fraction (T : Txt W mg base h) : mg "need_fraction" = some (.ref (He.ga W.K "need_fraction")) := He.glo_ok T.kin T.ns (T.d.fact 4 (f := .glo "need_fraction") rfl)
theorem Txt.g_look (T : Txt W mg base h) : mg "look" = some (.ref (He.ga W.K "look")) := He.glo_ok T.kin T.ns (T.d.fact 5 (f := .glo "look") rfl)
theorem Txt.g_least (T : Txt W mg base h) : mg "least" = some (.ref (He.ga W.K "least")) := He.glo_ok T.kin T.ns (T.d.fact 6 (f := .glo "least") rfl)
theorem Txt.g_fraction (T : Txt W mg base h) : mg "fraction" = some (.ref (He.ga W.K "fraction")) := He.glo_ok T.kin T.ns (T.d.fact 7 (f := .glo "fraction") rfl)
theorem Txt.g_add (T : Txt W mg base h) : mg "add" = some (.ref (He.ga W.K "add")) := He.glo_ok T.kin T.ns (T.d.fact 8 (f := .glo "add") rfl)
theorem Txt.g_take (T : Txt W mg base h) : mg "take" = some (.ref (He.ga W.K "take")) := He.glo_ok T.kin T.ns (T.d.fact 9 (f := .glo "take") rfl)
theorem Txt.g_multiply (T : Txt W mg base h) : mg "multiply" = some (.ref (He.ga W.K "multiply")) := He.glo_ok T.kin T.ns (T.d.fact 10 (f := .glo "multiply") rfl)
theorem Txt.g_part_of (T : Txt W mg base h) : mg "part_of" = some (.ref (He.ga W.K "part_of")) := He.glo_ok T.kin T.ns (T.d.fact 11 (f := .glo "part_of") rfl)
theorem Txt.g_is_less (T : Txt W mg base h) : mg "is_less" = some (.ref (He.ga W.K "is_less")) := He.glo_ok T.kin T.ns (T.d.fact 12 (f := .glo "is_less") rfl)
theorem Txt.g_plus (T : Txt W mg base h) : mg "plus" = some (.ref (He.ga W.K "plus")) := He.glo_ok T.kin T.ns (T.d.fact 13 (f := .glo "plus") rfl)
theorem Txt.g_less (T : Txt W mg base h) : mg "less" = some (.ref (He.ga W.K "less")) := He.glo_ok T.kin T.ns (T.d.fact 14 (f := .glo "less") rfl)
theorem Txt.g_times (T : Txt W mg base h) : mg "times" = some (.ref (He.ga W.K "times")) := He.glo_ok T.kin T.ns (T.d.fact 15 (f := .glo "times") rfl)
theorem Txt.g_by (T : Txt W mg base h) : mg "by" = some (.ref (He.ga W.K "by")) := He.glo_ok T.kin T.ns (T.d.fact 16 (f := .glo "by") rfl)
theorem Txt.g_before (T : Txt W mg base h) : mg "before" = some (.ref (He.ga W.K "before")) := He.glo_ok T.kin T.ns (T.d.fact 17 (f := .glo "before") rfl)
theorem Txt.g_whole (T : Txt W mg base h) : mg "whole" = some (.ref (He.ga W.K "whole")) := He.glo_ok T.kin T.ns (T.d.fact 18 (f := .glo "whole") rfl)
theorem Txt.g__law_cell (T : Txt W mg base h) : mg "_law_cell" = some (.ref (He.ga W.K "_law_cell")) := He.glo_ok T.kin T.ns (T.d.fact 19 (f := .glo "_law_cell") rfl)
theorem Txt.g__law_drawn (T : Txt W mg base h) : mg "_law_drawn" = some (.ref (He.ga W.K "_law_drawn")) := He.glo_ok T.kin T.ns (T.d.fact 20 (f := .glo "_law_drawn") rfl)
theorem Txt.g__law_least (T : Txt W mg base h) : mg "_law_least" = some (.ref (He.ga W.K "_law_least")) := He.glo_ok T.kin T.ns (T.d.fact 21 (f := .glo "_law_least") rfl)
theorem Txt.g__law_sum (T : Txt W mg base h) : mg "_law_sum" = some (.ref (He.ga W.K "_law_sum")) := He.glo_ok T.kin T.ns (T.d.fact 22 (f := .glo "_law_sum") rfl)
theorem Txt.g__law_product (T : Txt W mg base h) : mg "_law_product" = some (.ref (He.ga W.K "_law_product")) := He.glo_ok T.kin T.ns (T.d.fact 23 (f := .glo "_law_product") rfl)
theorem Txt.g__law_under (T : Txt W mg base h) : mg "_law_under" = some (.ref (He.ga W.K "_law_under")) := He.glo_ok T.kin T.ns (T.d.fact 24 (f := .glo "_law_under") rfl)
theorem Txt.g__law_number (T : Txt W mg base h) : mg "_law_number" = some (.ref (He.ga W.K "_law_number")) := He.glo_ok T.kin T.ns (T.d.fact 25 (f := .glo "_law_number") rfl)
theorem Txt.g_law (T : Txt W mg base h) : mg "law" = some (.ref (He.ga W.K "law")) := He.glo_ok T.kin T.ns (T.d.fact 26 (f := .glo "law") rfl)
theorem Txt.no_ValueError (T : Txt W mg base h) : mg "ValueError" = none := He.free_ok T.kin T.ns (T.d.fact 27 (f := .free "ValueError") rfl)
theorem Txt.no_abs (T : Txt W mg base h) : mg "abs" = none := He.free_ok T.kin T.ns (T.d.fact 28 (f := .free "abs") rfl)
theorem Txt.no_bool (T : Txt W mg base h) : mg "bool" = none := He.free_ok T.kin T.ns (T.d.fact 29 (f := .free "bool") rfl)
theorem Txt.no_int (T : Txt W mg base h) : mg "int" = none := He.free_ok T.kin T.ns (T.d.fact 30 (f := .free "int") rfl)
theorem Txt.no_isinstance (T : Txt W mg base h) : mg "isinstance" = none := He.free_ok T.kin T.ns (T.d.fact 31 (f := .free "isinstance") rfl)
theorem Txt.no_len (T : Txt W mg base h) : mg "len" = none := He.free_ok T.kin T.ns (T.d.fact 32 (f := .free "len") rfl)
theorem Txt.no_max (T : Txt W mg base h) : mg "max" = none := He.free_ok T.kin T.ns (T.d.fact 33 (f := .free "max") rfl)
theorem Txt.no_min (T : Txt W mg base h) : mg "min" = none := He.free_ok T.kin T.ns (T.d.fact 34 (f := .free "min") rfl)
theorem Txt.no_range (T : Txt W mg base h) : mg "range" = none := He.free_ok T.kin T.ns (T.d.fact 35 (f := .free "range") rfl)
theorem Txt.no_tuple (T : Txt W mg base h) : mg "tuple" = none := He.free_ok T.kin T.ns (T.d.fact 36 (f := .free "tuple") rfl)
theorem Txt.g_TurnError (T : Txt W mg base h) : mg "TurnError" = some (.ref (He.ga W.K "TurnError")) := He.glo_ok T.kin T.ns (T.d.fact 37 (f := .glo "TurnError") rfl)
theorem Txt.exc_TurnError (T : Txt W mg base h) : ExcOk W.K mg "TurnError" (He.ga W.K "TurnError") := let z := He.exc_ok (T.d.fact 38 (f := .exc "TurnError") rfl); ⟨T.g_TurnError, z.1, z.2.1, z.2.2.1, z.2.2.2⟩
theorem Txt.g_BadFraction (T : Txt W mg base h) : mg "BadFraction" = some (.ref (He.ga W.K "BadFraction")) := He.glo_ok T.kin T.ns (T.d.fact 39 (f := .glo "BadFraction") rfl)
theorem Txt.exc_BadFraction (T : Txt W mg base h) : ExcOk W.K mg "BadFraction" (He.ga W.K "BadFraction") := let z := He.exc_ok (T.d.fact 40 (f := .exc "BadFraction") rfl); ⟨T.g_BadFraction, z.1, z.2.1, z.2.2.1, z.2.2.2⟩
theorem Txt.def_need (T : Txt W mg base h) : ∃ fd, FunD W.K "need" "need" (defArgs sd_need) (defBody sd_need) (defScope sd_need) [] [] (He.ga W.K "need") fd := T.d.def_ 0 (d := dd_need) rfl
theorem Txt.def_is_whole (T : Txt W mg base h) : ∃ fd, FunD W.K "is_whole" "is_whole" (defArgs sd_is_whole) (defBody sd_is_whole) (defScope sd_is_whole) [] [] (He.ga W.K "is_whole") fd := T.d.def_ 1 (d := dd_is_whole) rfl
theorem Txt.def_shared (T : Txt W mg base h) : ∃ fd, FunD W.K "shared" "shared" (defArgs sd_shared) (defBody sd_shared) (defScope sd_shared) [] [] (He.ga W.K "shared") fd := T.d.def_ 2 (d := dd_shared) rfl
theorem Txt.def_is_fraction (T : Txt W mg base h) : ∃ fd, FunD W.K "is_fraction" "is_fraction" (defArgs sd_is_fraction) (defBody sd_is_fraction) (defScope sd_is_fraction) [] [] (He.ga W.K "is_fraction") fd := T.d.def_ 3 (d := dd_is_fraction) rfl
theorem Txt.def_need_fraction (T : Txt W mg base h) : ∃ fd, FunD W.K "need_fraction" "need_fraction" (defArgs sd_need_fraction) (defBody sd_need_fraction) (defScope sd_need_fraction) [] [] (He.ga W.K "need_fraction") fd := T.d.def_ 4 (d := dd_need_fraction) rfl
theorem Txt.def_look (T : Txt W mg base h) : ∃ fd, FunD W.K "look" "look" (defArgs sd_look) (defBody sd_look) (defScope sd_look) [] [] (He.ga W.K "look") fd := T.d.def_ 5 (d := dd_look) rfl
theorem Txt.def_least (T : Txt W mg base h) : ∃ fd, FunD W.K "least" "least" (defArgs sd_least) (defBody sd_least) (defScope sd_least) [] [] (He.ga W.K "least") fd := T.d.def_ 6 (d := dd_least) rfl
theorem Txt.def_fraction (T : Txt W mg base h) : ∃ fd, FunD W.K "fraction" "fraction" (defArgs sd_fraction) (defBody sd_fraction) (defScope sd_fraction) [] [] (He.ga W.K "fraction") fd := T.d.def_ 7 (d := dd_fraction) rfl
theorem Txt.def_add (T : Txt W mg base h) : ∃ fd, FunD W.K "add" "add" (defArgs sd_add) (defBody sd_add) (defScope sd_add) [] [] (He.ga W.K "add") fd := T.d.def_ 8 (d := dd_add) rfl
theorem Txt.def_take (T : Txt W mg base h) : ∃ fd, FunD W.K "take" "take" (defArgs sd_take) (defBody sd_take) (defScope sd_take) [] [] (He.ga W.K "take") fd := T.d.def_ 9 (d := dd_take) rfl
theorem Txt.def_multiply (T : Txt W mg base h) : ∃ fd, FunD W.K "multiply" "multiply" (defArgs sd_multiply) (defBody sd_multiply) (defScope sd_multiply) [] [] (He.ga W.K "multiply") fd := T.d.def_ 10 (d := dd_multiply) rfl
theorem Txt.def_part_of (T : Txt W mg base h) : ∃ fd, FunD W.K "part_of" "part_of" (defArgs sd_part_of) (defBody sd_part_of) (defScope sd_part_of) [] [] (He.ga W.K "part_of") fd := T.d.def_ 11 (d := dd_part_of) rfl
theorem Txt.def_is_less (T : Txt W mg base h) : ∃ fd, FunD W.K "is_less" "is_less" (defArgs sd_is_less) (defBody sd_is_less) (defScope sd_is_less) [] [] (He.ga W.K "is_less") fd := T.d.def_ 12 (d := dd_is_less) rfl
theorem Txt.def_plus (T : Txt W mg base h) : ∃ fd, FunD W.K "plus" "plus" (defArgs sd_plus) (defBody sd_plus) (defScope sd_plus) [] [] (He.ga W.K "plus") fd := T.d.def_ 13 (d := dd_plus) rfl
theorem Txt.def_less (T : Txt W mg base h) : ∃ fd, FunD W.K "less" "less" (defArgs sd_less) (defBody sd_less) (defScope sd_less) [] [] (He.ga W.K "less") fd := T.d.def_ 14 (d := dd_less) rfl
theorem Txt.def_times (T : Txt W mg base h) : ∃ fd, FunD W.K "times" "times" (defArgs sd_times) (defBody sd_times) (defScope sd_times) [] [] (He.ga W.K "times") fd := T.d.def_ 15 (d := dd_times) rfl
theorem Txt.def_by (T : Txt W mg base h) : ∃ fd, FunD W.K "by" "by" (defArgs sd_by) (defBody sd_by) (defScope sd_by) [] [] (He.ga W.K "by") fd := T.d.def_ 16 (d := dd_by) rfl
theorem Txt.def_before (T : Txt W mg base h) : ∃ fd, FunD W.K "before" "before" (defArgs sd_before) (defBody sd_before) (defScope sd_before) [] [] (He.ga W.K "before") fd := T.d.def_ 17 (d := dd_before) rfl
theorem Txt.def_whole (T : Txt W mg base h) : ∃ fd, FunD W.K "whole" "whole" (defArgs sd_whole) (defBody sd_whole) (defScope sd_whole) [] [] (He.ga W.K "whole") fd := T.d.def_ 18 (d := dd_whole) rfl
theorem Txt.def__law_cell (T : Txt W mg base h) : ∃ fd, FunD W.K "_law_cell" "_law_cell" (defArgs sd__law_cell) (defBody sd__law_cell) (defScope sd__law_cell) [] [] (He.ga W.K "_law_cell") fd := T.d.def_ 19 (d := dd__law_cell) rfl
theorem Txt.def__law_drawn (T : Txt W mg base h) : ∃ fd, FunD W.K "_law_drawn" "_law_drawn" (defArgs sd__law_drawn) (defBody sd__law_drawn) (defScope sd__law_drawn) [] [] (He.ga W.K "_law_drawn") fd := T.d.def_ 20 (d := dd__law_drawn) rfl
theorem Txt.def__law_least (T : Txt W mg base h) : ∃ fd, FunD W.K "_law_least" "_law_least" (defArgs sd__law_least) (defBody sd__law_least) (defScope sd__law_least) [] [] (He.ga W.K "_law_least") fd := T.d.def_ 21 (d := dd__law_least) rfl
theorem Txt.def__law_sum (T : Txt W mg base h) : ∃ fd, FunD W.K "_law_sum" "_law_sum" (defArgs sd__law_sum) (defBody sd__law_sum) (defScope sd__law_sum) [] [] (He.ga W.K "_law_sum") fd := T.d.def_ 22 (d := dd__law_sum) rfl
theorem Txt.def__law_product (T : Txt W mg base h) : ∃ fd, FunD W.K "_law_product" "_law_product" (defArgs sd__law_product) (defBody sd__law_product) (defScope sd__law_product) [] [] (He.ga W.K "_law_product") fd := T.d.def_ 23 (d := dd__law_product) rfl
theorem Txt.def__law_under (T : Txt W mg base h) : ∃ fd, FunD W.K "_law_under" "_law_under" (defArgs sd__law_under) (defBody sd__law_under) (defScope sd__law_under) [] [] (He.ga W.K "_law_under") fd := T.d.def_ 24 (d := dd__law_under) rfl
theorem Txt.def__law_number (T : Txt W mg base h) : ∃ fd, FunD W.K "_law_number" "_law_number" (defArgs sd__law_number) (defBody sd__law_number) (defScope sd__law_number) [] [] (He.ga W.K "_law_number") fd := T.d.def_ 25 (d := dd__law_number) rfl
theorem Txt.def_law (T : Txt W mg base h) : ∃ fd, FunD W.K "law" "law" (defArgs sd_law) (defBody sd_law) (defScope sd_law) [] [] (He.ga W.K "law") fd := T.d.def_ 26 (d := dd_law) rfl
end
end QT

namespace QT
open PySem PySem.Spec PyProof.Rows L2 QM
/-! ### fractions as data -/
def frD (q : Rat) : PyData := .tuple [.int q.num, .int (q.den : Int)]
def isFr : PyData → Bool
  | .tuple [.int a, .int b] => decide (0 < b) && decide (Int.gcd a b = 1)
  | _ => false
def toQ : PyData → Rat
  | .tuple [.int a, .int b] => (a : Rat) / (b : Rat)
  | _ => 0
theorem isFr_frD (q : Rat) : isFr (frD q) = true := by
  have h1 := q.den_pos
  have h2 : Int.gcd q.num (q.den : Int) = 1 := q.reduced
  simp only [isFr, frD, h2, Bool.and_eq_true, decide_eq_true_eq, and_true]
  omega
theorem toQ_frD (q : Rat) : toQ (frD q) = q := nd q
theorem fr_of {d : PyData} (h : isFr d = true) : d = frD (toQ d) := by
  unfold isFr at h
  split at h
  · rename_i a b
    simp only [Bool.and_eq_true, decide_eq_true_eq] at h
    obtain ⟨h1, h2⟩ := h
    have hb : b ≠ 0 := by omega
    have e1 := sgn2_num (a := a) hb
    have e2 := sgn2_den (a := a) hb
    rw [if_pos h1, h2, Int.one_mul] at e1 e2
    simp only [Int.ofNat_one, Int.cast_ofNat_Int, Int.ediv_one] at e1 e2
    show PyData.tuple [.int a, .int b] = .tuple [.int ((a : Rat) / (b : Rat)).num, .int ((a : Rat) / (b : Rat)).den]
    rw [← e1, ← e2]
  · cases h
theorem sh_fr (q : Rat) : SeqAt.shaped (frD q) = true := rfl
theorem sh_int (i : Int) : SeqAt.shaped (.int i) = true := rfl
theorem eqv_fr (p q : Rat) : PyData.eqv (frD p) (frD q) = decide (p = q) := pair_eq p q
theorem eqv_int (i j : Int) : PyData.eqv (.int i) (.int j) = decide (i = j) := by
  show (i == j) = _
  rw [Bool.eq_iff_iff]; simp
/-- the bits that a fraction may have -/
def B : Nat := 4000
structure Ok (q : Rat) : Prop where
  n : q.num.natAbs < 2 ^ B
  d : q.den < 2 ^ B
theorem Ok.dn {q : Rat} (h : Ok q) : (q.den : Int).natAbs < 2 ^ B := by simpa using h.d
theorem Ok.of {q : Rat} {n : Nat} (h : Sz n q) (hn : n ≤ 4000) : Ok q := ⟨(h.mono hn).n, (h.mono hn).d⟩
theorem B_pos : 0 < B := by unfold B; decide
theorem B2 : B + B ≤ 8000 := by unfold B; decide
theorem cmul {i j : Int} (hi : i.natAbs < 2 ^ B) (hj : j.natAbs < 2 ^ B) : CM i j := .w (wide_mul hi hj B_pos B_pos (Nat.le_trans B2 (by decide)))
theorem cmulD {i : Int} {q : Rat} (hi : i.natAbs < 2 ^ B) (h : Ok q) : CM i (q.den : Int) := cmul hi h.dn
theorem den_lt {p q : Rat} (hp : Ok p) (hq : Ok q) : ((p.den : Int) * (q.den : Int)).natAbs < 2 ^ 9000 :=
  mono_lt (mul_lt hp.dn hq.dn) (Nat.le_trans B2 (by decide))
theorem num_lt {p q : Rat} (hp : Ok p) (hq : Ok q) : ((p.den : Int) * q.num).natAbs < 2 ^ 9000 :=
  mono_lt (mul_lt hp.dn hq.n) (Nat.le_trans B2 (by decide))
theorem kit_int : ∀ d : PyData, kitB (tyD d) "int" = some (match d with | .int _ => true | .bool _ => true | _ => false)
  | .none => (by decide +kernel : kitB "NoneType" "int" = some false)
  | .bool _ => (by decide +kernel : kitB "bool" "int" = some true)
  | .int _ => (by decide +kernel : kitB "int" "int" = some true)
  | .str _ => (by decide +kernel : kitB "str" "int" = some false)
  | .list _ => (by decide +kernel : kitB "list" "int" = some false)
  | .tuple _ => (by decide +kernel : kitB "tuple" "int" = some false)
  | .dict _ => (by decide +kernel : kitB "dict" "int" = some false)
theorem kit_bool : ∀ d : PyData, kitB (tyD d) "bool" = some (match d with | .bool _ => true | _ => false)
  | .none => (by decide +kernel : kitB "NoneType" "bool" = some false)
  | .bool _ => (by decide +kernel : kitB "bool" "bool" = some true)
  | .int _ => (by decide +kernel : kitB "int" "bool" = some false)
  | .str _ => (by decide +kernel : kitB "str" "bool" = some false)
  | .list _ => (by decide +kernel : kitB "list" "bool" = some false)
  | .tuple _ => (by decide +kernel : kitB "tuple" "bool" = some false)
  | .dict _ => (by decide +kernel : kitB "dict" "bool" = some false)
theorem kit_tuple : ∀ d : PyData, kitB (tyD d) "tuple" = some (match d with | .tuple _ => true | _ => false)
  | .none => (by decide +kernel : kitB "NoneType" "tuple" = some false)
  | .bool _ => (by decide +kernel : kitB "bool" "tuple" = some false)
  | .int _ => (by decide +kernel : kitB "int" "tuple" = some false)
  | .str _ => (by decide +kernel : kitB "str" "tuple" = some false)
  | .list _ => (by decide +kernel : kitB "list" "tuple" = some false)
  | .tuple _ => (by decide +kernel : kitB "tuple" "tuple" = some true)
  | .dict _ => (by decide +kernel : kitB "dict" "tuple" = some false)
theorem kit_str : ∀ d : PyData, kitB (tyD d) "str" = some (match d with | .str _ => true | _ => false)
  | .none => (by decide +kernel : kitB "NoneType" "str" = some false)
  | .bool _ => (by decide +kernel : kitB "bool" "str" = some false)
  | .int _ => (by decide +kernel : kitB "int" "str" = some false)
  | .str _ => (by decide +kernel : kitB "str" "str" = some true)
  | .list _ => (by decide +kernel : kitB "list" "str" = some false)
  | .tuple _ => (by decide +kernel : kitB "tuple" "str" = some false)
  | .dict _ => (by decide +kernel : kitB "dict" "str" = some false)
/-- what fraction(d, e) gives -/
def fracR (C : Addr) : PyData → PyData → Except Addr Ar
  | .int i, .int j => if j = 0 then .error C else .ok (.d (frD ((i : Rat) / (j : Rat))))
  | _, _ => .error C
theorem fracR_ok {C : Addr} {i j : Int} (h : j ≠ 0) : fracR C (.int i) (.int j) = .ok (.d (frD ((i : Rat) / (j : Rat)))) := if_neg h
theorem fracR_no {C : Addr} {d e : PyData} (h : ¬ ∃ i j : Int, d = .int i ∧ e = .int j ∧ j ≠ 0) : fracR C d e = .error C := by
  cases d with
  | int i =>
    cases e with
    | int j =>
      by_cases h0 : j = 0
      · exact if_pos h0
      · exact absurd ⟨i, j, rfl, rfl, h0⟩ h
    | _ => rfl
  | _ => rfl
/-! ### the promises -/
section
variable (W : Wd)
abbrev cBF : Addr := He.ga W.K "BadFraction"
abbrev sp_need : Sp := PrX W (I := Bool) (fun b => [.d (.bool b)]) (fun _ => True) fun b => if b then .ok (.d .none) else .error (cBF W)
def isInt : PyData → Bool
  | .int _ => true
  | _ => false
abbrev sp_is_whole : Sp := Pr W (I := PyData) (fun d => [.d d]) (fun _ => True) fun d => .d (.bool (isInt d))
abbrev sp_shared : Sp := Pr W (I := Int × Int) (fun i => [.d (.int i.1), .d (.int i.2)]) (fun _ => True) fun i => .d (.int (Int.gcd i.1 i.2))
abbrev sp_is_fraction : Sp := Pr W (I := PyData) (fun d => [.d d]) (fun _ => True) fun d => .d (.bool (isFr d))
abbrev sp_need_fraction : Sp := PrX W (I := PyData) (fun d => [.d d]) (fun _ => True) fun d => if isFr d then .ok (.d .none) else .error (cBF W)
abbrev sp_look : Sp := PrX W (I := PyData × PyData) (fun d => [.d d.1, .d d.2]) (fun _ => True) fun d => if isFr d.1 && isFr d.2 then .ok (.d .none) else .error (cBF W)
abbrev sp_least : Sp := Pr W (I := Int × Int) (fun i => [.d (.int i.1), .d (.int i.2)]) (fun i => i.2 ≠ 0 ∧ i.2.natAbs < 2 ^ 9000) fun i => .d (frD ((i.1 : Rat) / (i.2 : Rat)))
abbrev sp_fraction : Sp := PrX W (I := PyData × PyData) (fun d => [.d d.1, .d d.2]) (fun d => ∀ j, d.2 = .int j → j.natAbs < 2 ^ 9000) fun d => fracR (cBF W) d.1 d.2
abbrev spQ2 (f : Rat → Rat → PyData) : Sp := Pr W (I := Rat × Rat) (fun i => [.d (frD i.1), .d (frD i.2)]) (fun i => Ok i.1 ∧ Ok i.2) fun i => .d (f i.1 i.2)
abbrev sp_add : Sp := spQ2 W fun p q => frD (p + q)
abbrev sp_take : Sp := spQ2 W fun p q => frD (p - q)
abbrev sp_multiply : Sp := spQ2 W fun p q => frD (p * q)
abbrev sp_is_less : Sp := spQ2 W fun p q => .bool (decide (p < q))
abbrev sp_part_of : Sp := Pr W (I := Rat × Rat) (fun i => [.d (frD i.1), .d (frD i.2)]) (fun i => Ok i.1 ∧ Ok i.2 ∧ i.2 ≠ 0) fun i => .d (frD (i.1 / i.2))
end
/-! ### each def keeps its promise -/
section
variable {P : Program} {w : World} {W : Wd} {mg : Str → Option Value} {base h₀ : Heap}
theorem ok_need (T : Txt W mg base h₀) : DefOk P w W.K mg base "need" 1 ["good"] (sp_need W) := by
  refine mk_def T.def_need T.g_need sc_need (fun _ _ _ _ _ _ us hl => match us, hl with | [_], _ => rfl) (fun vs H Q E h => h.len 1) (fun cdv A outer s H vs Q E hr h => ⟨_, (pss_one (ps_if (pt_not (pt_val (pv 0))) (pss_one (ps_rs T.exc_BadFraction rfl takesX)) pss_nil)), ?_⟩)
  obtain ⟨b, ha, _, k⟩ := h
  try dsimp only at ha k
  obtain ⟨x, rfl, hx⟩ := all1 ha
  cases bl_of hx
  refine st_if (W := W) (et_not (et_B (ev_var rfl is_bl))) (fun hb H' e => ?_) fun hb H' e => ?_
  · cases b with
    | true => cases hb
    | false => exact k H' e
  · cases b with
    | true => exact k .non H' e .non
    | false => cases hb
theorem ok_is_whole (T : Txt W mg base h₀) : DefOk P w W.K mg base "is_whole" 1 ["thing"] (sp_is_whole W) := by
  refine mk_def T.def_is_whole T.g_is_whole sc_is_whole (fun _ _ _ _ _ _ us hl => match us, hl with | [_], _ => rfl) (fun vs H Q E h => h.len 1) (fun cdv A outer s H vs Q E hr h => ⟨_, (pss_one (ps_ret (pe_and (pe_callB call_isi (by rfl) T.no_isinstance (by decide +kernel) (pa_cons (pv 0) (pa_cons (pe_bltn (by rfl) T.no_int (by decide +kernel) (show RelV (.ty "int") (.type "int") from rfl)) pa_nil))) (pe_one (pe_not (pe_callB call_isi (by rfl) T.no_isinstance (by decide +kernel) (pa_cons (pv 0) (pa_cons (pe_bltn (by rfl) T.no_bool (by decide +kernel) (show RelV (.ty "bool") (.type "bool") from rfl)) pa_nil)))))))), ?_⟩)
  obtain ⟨d, ha, _, k⟩ := h
  try dsimp only at ha k
  obtain ⟨x, rfl, hx⟩ := all1 ha
  have e1 := kit_int d
  have e2 := kit_bool d
  refine st_ret (W := W) (a := .d (.bool (isInt d))) ?_ k
  have := ev_andB (W := W) (ev_isi (ev_var (σ := start ["thing"] [x]) (i := 0) rfl hx) e1) fun _ => ev_notB (ev_isi (ev_var (σ := start ["thing"] [x]) (i := 0) rfl hx) e2)
  cases d <;> exact this
theorem ok_shared (T : Txt W mg base h₀) : DefOk P w W.K mg base "shared" 1 ["one", "other"] (sp_shared W) := by
  refine mk_def T.def_shared T.g_shared sc_shared (fun _ _ _ _ _ _ us hl => match us, hl with | [_, _], _ => rfl) (fun vs H Q E h => h.len 2) (fun cdv A outer s H vs Q E hr h => ⟨_, (pss_cons (ps_while ownX (pt_cmpR (op_neD hr.units) (pv 1) pe_int (nomark _)) (pss_one (ps_par (i := 0) (j := 1) rfl sc_shared.nd rfl rfl (by decide) rfl rfl (pa_cons (pv 1) (pa_cons (pe_op op_modN (pv 0) (pv 1)) pa_nil)) (by rfl)))) (pss_one (ps_ret (pe_callB call_absS (by rfl) T.no_abs (by decide +kernel) (pa_cons (pv 0) pa_nil))))), ?_⟩)
  obtain ⟨⟨a, b⟩, ha, _, k⟩ := h
  try dsimp only at ha k
  obtain ⟨x, y, rfl, hx, hy⟩ := all2 ha
  cases int_of hx
  cases int_of hy
  refine st_seq (st_while (W := W) (fun σ H' => ∃ i j : Int, σ = [some (.int i), some (.int j)] ∧ Int.gcd i j = Int.gcd a b ∧ Ex W H H') (fun σ _ => match σ with | [_, some (.int j)] => j.natAbs | _ => 0) ⟨a, b, rfl, rfl, Ex.refl H⟩ ?_)
  rintro σ H1 ⟨i, j, rfl, hg, e1⟩
  refine ⟨_, et_test (ev_ne (ev_var rfl is_int) ev_int (sh_int _) (sh_int _)), fun hb H2 e2 => ?_, fun hb H2 e2 => ?_⟩
  · have hj : j ≠ 0 := by
      rw [eqv_int] at hb
      simpa using hb
    refine st_par (W := W) (ea_cons (ev_var rfl is_int) (ea_cons (ev_modN (ev_var rfl is_int) (ev_var rfl is_int) hj) ea_nil)) fun x y H3 e3 hx hy => ?_
    cases int_of hx
    cases int_of hy
    exact ⟨⟨j, i.fmod j, rfl, (gcd_fmod i j).trans hg, e1.trans (e2.trans e3)⟩, natAbs_fmod_lt i hj⟩
  · have hj : j = 0 := by
      rw [eqv_int] at hb
      simpa using hb
    subst hj
    refine st_ret (W := W) (ev_abs (ev_var rfl is_int)) fun x H3 e3 hx => k x H3 (e1.trans (e2.trans e3)) ?_
    have e : Int.gcd i 0 = i.natAbs := by simp
    rw [e] at hg
    rw [hg] at hx
    exact hx
theorem ok_is_fraction (T : Txt W mg base h₀) : DefOk P w W.K mg base "is_fraction" 2 ["thing"] (sp_is_fraction W) := by
  refine mk_def T.def_is_fraction T.g_is_fraction sc_is_fraction (fun _ _ _ _ _ _ us hl => match us, hl with | [_], _ => rfl) (fun vs H Q E h => h.len 1) (fun cdv A outer s H vs Q E hr h => ⟨_, (pss_cons (ps_if (PW.pt (pw_or (pt_not (pt_val (pe_callB call_isi (by rfl) T.no_isinstance (by decide +kernel) (pa_cons (pv 0) (pa_cons (pe_bltn (by rfl) T.no_tuple (by decide +kernel) (show RelV (.ty "tuple") (.type "tuple") from rfl)) pa_nil))))) (pw_or (pt_cmpR (op_neD hr.units) (pe_callB call_lenS (by rfl) T.no_len (by decide +kernel) (pa_cons (pv 0) pa_nil)) pe_int (nomark _)) (pw_or (pt_not (pt_val (pe_def (ok_is_whole T) hr (by decide) passX (pa_cons (pe_ix ix_tup (pv 0) pe_int (fun _ _ => rfl)) pa_nil)))) (pw_or1 (pt_not (pt_val (pe_def (ok_is_whole T) hr (by decide) passX (pa_cons (pe_ix ix_tup (pv 0) pe_int (fun _ _ => rfl)) pa_nil))))))))) (pss_one (ps_ret pe_bl)) pss_nil) (pss_one (ps_ret (pe_and (pe_cmpR op_gt (pe_ix ix_tup (pv 0) pe_int (fun _ _ => rfl)) pe_int (nomark _)) (pe_one (pe_cmpR (op_eqD hr.units) (pe_def (ok_shared T) hr (by decide) passX (pa_cons (pe_ix ix_tup (pv 0) pe_int (fun _ _ => rfl)) (pa_cons (pe_ix ix_tup (pv 0) pe_int (fun _ _ => rfl)) pa_nil))) pe_int (nomark _))))))), ?_⟩)
  obtain ⟨d, ha, _, k⟩ := h
  try dsimp only at ha k
  obtain ⟨x, rfl, hx⟩ := all1 ha
  have hv : ∀ {H'}, Ex W H H' → Ev W (tVar 0) (start ["thing"] [x]) H' (.d d) := fun e => ev_var rfl (hx.ex e)
  have hv0 := hv (Ex.refl H)
  by_cases hd : ∃ ds, d = .tuple ds
  · obtain ⟨ds, rfl⟩ := hd
    have e1 : kitB (tyD (.tuple ds)) "tuple" = some true := kit_tuple _
    match ds with
    | [] => exact (sq_if1 (W := W) (et_or (et_not (et_B (ev_isi hv0 e1))) fun _ => et_or (k := true) (l := false) (et_test (ev_ne (ev_lenT hv0) ev_int (sh_int _) (sh_int _))) fun z => by cases z)
        (fun _ H1 e => st_ret (W := W) ev_bl fun y H2 e2 hy => k y H2 (e.trans e2) hy) fun z => by cases z)
    | [a] => exact (sq_if1 (W := W) (et_or (et_not (et_B (ev_isi hv0 e1))) fun _ => et_or (k := true) (l := false) (et_test (ev_ne (ev_lenT hv0) ev_int (sh_int _) (sh_int _))) fun z => by cases z)
        (fun _ H1 e => st_ret (W := W) ev_bl fun y H2 e2 hy => k y H2 (e.trans e2) (by rw [show isFr (.tuple [a]) = false by cases a <;> rfl]; exact hy)) fun z => by cases z)
    | a :: b :: c :: r =>
      refine (sq_if1 (W := W) (k := true) (et_or (k := false) (l := true) (et_not (k := true) (et_B (ev_isi hv0 e1))) fun _ => et_or (k := true) (l := false) (et_test ?_) fun z => by cases z)
        (fun _ H1 e => st_ret (W := W) ev_bl fun y H2 e2 hy => k y H2 (e.trans e2) (by rw [show isFr (.tuple (a :: b :: c :: r)) = false by cases a <;> cases b <;> rfl]; exact hy)) fun z => by cases z)
      have := ev_ne (W := W) (ev_lenT hv0) (ev_int (i := 2)) (sh_int _) (sh_int _)
      rw [eqv_int] at this
      have e : decide (((a :: b :: c :: r).length : Int) = 2) = false := decide_eq_false (by simp only [List.length_cons]; omega)
      rw [e] at this
      exact this
    | [a, b] =>
      have h0 : ∀ {H'}, Ex W H H' → Ev W (tOp (rIxT W.K) (tVar 0) (tC (.int 0))) (start ["thing"] [x]) H' (.d a) := fun e => ev_ixT (hv e) ev_int rfl
      have h1 : ∀ {H'}, Ex W H H' → Ev W (tOp (rIxT W.K) (tVar 0) (tC (.int 1))) (start ["thing"] [x]) H' (.d b) := fun e => ev_ixT (hv e) ev_int rfl
      have w0 := ev_call (W := W) (E := E) (a := fun d => [Ar.d d]) (pre := fun _ => True) (r := fun d => .d (.bool (isInt d))) a (ea_cons (h0 (Ex.refl H)) ea_nil) trivial
      have w1 := ev_call (W := W) (E := E) (a := fun d => [Ar.d d]) (pre := fun _ => True) (r := fun d => .d (.bool (isInt d))) b (ea_cons (h1 (Ex.refl H)) ea_nil) trivial
      refine (sq_if1 (W := W) (k := !(isInt a) || !(isInt b)) (et_or (k := false) (et_not (k := true) (et_B (ev_isi hv0 e1))) fun _ => et_or (k := false) (et_test (ev_ne (ev_lenT hv0) ev_int (sh_int _) (sh_int _))) fun _ => et_or (et_not (et_B w0)) fun _ => et_not (et_B w1))
        (fun hb H1 e => st_ret (W := W) ev_bl fun y H2 e2 hy => k y H2 (e.trans e2) ?_) fun hb H1 e => ?_)
      · have : isFr (.tuple [a, b]) = false := by
          cases a <;> cases b <;> first | rfl | (simp [isInt] at hb)
        rw [this]
        exact hy
      · cases a with
        | int i =>
          cases b with
          | int j =>
            refine st_ret (W := W) (a := .d (.bool (isFr (.tuple [.int i, .int j])))) ?_ fun y H2 e2 hy => k y H2 (e.trans e2) hy
            have z := ev_eq (W := W) (ev_call (W := W) (E := E) (a := fun i => [Ar.d (.int i.1), .d (.int i.2)]) (pre := fun _ => True) (r := fun i => .d (.int (Int.gcd i.1 i.2))) (i, j) (ea_cons (h0 e) (ea_cons (h1 e) ea_nil)) trivial) (ev_int (i := 1)) (sh_int _) (sh_int _)
            rw [eqv_int] at z
            have z2 := ev_andB (W := W) (ev_gt (h1 e) (ev_int (i := 0))) fun _ => z
            have e5 : isFr (.tuple [.int i, .int j]) = (decide (0 < j) && decide (((Int.gcd i j : Nat) : Int) = 1)) := by
              show (decide (0 < j) && decide (Int.gcd i j = 1)) = _
              congr 1
              rw [Bool.eq_iff_iff]
              simp only [decide_eq_true_eq]
              omega
            rw [e5]
            exact z2
          | _ => simp [isInt] at hb
        | _ => simp [isInt] at hb
  · have e1 : kitB (tyD d) "tuple" = some false := by
      cases d with
      | tuple ds => exact absurd ⟨ds, rfl⟩ hd
      | _ => exact kit_tuple _
    have e2 : isFr d = false := by
      cases d with
      | tuple ds => exact absurd ⟨ds, rfl⟩ hd
      | _ => rfl
    refine (sq_if1 (W := W) (k := true) (et_or (k := true) (l := false) (et_not (k := false) (et_B (ev_isi hv0 e1))) fun z => by cases z) (fun _ H1 e => ?_) fun z => by cases z)
    refine st_ret (W := W) ev_bl fun y H2 e3 hy => k y H2 (e.trans e3) ?_
    rw [e2]
    exact hy
theorem ok_need_fraction (T : Txt W mg base h₀) : DefOk P w W.K mg base "need_fraction" 3 ["thing"] (sp_need_fraction W) := by
  refine mk_def T.def_need_fraction T.g_need_fraction sc_need_fraction (fun _ _ _ _ _ _ us hl => match us, hl with | [_], _ => rfl) (fun vs H Q E h => h.len 1) (fun cdv A outer s H vs Q E hr h => ⟨_, (pss_one (ps_expr (pe_def (ok_need T) hr (by decide) passX (pa_cons (pe_def (ok_is_fraction T) hr (by decide) passX (pa_cons (pv 0) pa_nil)) pa_nil)))), ?_⟩)
  obtain ⟨d, ha, _, k⟩ := h
  try dsimp only at ha k
  obtain ⟨x, rfl, hx⟩ := all1 ha
  have w0 := ev_call (W := W) (E := E) (σ := start ["thing"] [x]) (a := fun d => [Ar.d d]) (pre := fun _ => True) (r := fun d => .d (.bool (isFr d))) d (ea_cons (ev_var (i := 0) rfl hx) ea_nil) trivial
  by_cases hd : isFr d = true
  · rw [if_pos hd] at k
    exact st_drop (ev_callX (W := W) (isFr d) (ea_cons w0 ea_nil) trivial (if_pos hd)) fun y H2 e2 hy => k .non H2 e2 .non
  · rw [if_neg hd] at k
    exact xc_callX (W := W) (isFr d) (ea_cons w0 ea_nil) trivial (if_neg hd) k
theorem ok_look (T : Txt W mg base h₀) : DefOk P w W.K mg base "look" 4 ["one", "other"] (sp_look W) := by
  refine mk_def T.def_look T.g_look sc_look (fun _ _ _ _ _ _ us hl => match us, hl with | [_, _], _ => rfl) (fun vs H Q E h => h.len 2) (fun cdv A outer s H vs Q E hr h => ⟨_, (pss_cons (ps_expr (pe_def (ok_need_fraction T) hr (by decide) passX (pa_cons (pv 0) pa_nil))) (pss_one (ps_expr (pe_def (ok_need_fraction T) hr (by decide) passX (pa_cons (pv 1) pa_nil))))), ?_⟩)
  obtain ⟨⟨d, e⟩, ha, _, k⟩ := h
  dsimp only at ha k
  obtain ⟨x, y, rfl, hx, hy⟩ := all2 ha
  by_cases hd : isFr d = true
  · refine (sq_drop (ev_callX (W := W) d (ea_cons (ev_var rfl hx) ea_nil) trivial (if_pos hd)) fun _ H1 e1 _ => ?_)
    by_cases he : isFr e = true
    · rw [hd, he] at k
      refine st_drop (ev_callX (W := W) e (ea_cons (ev_var rfl (hy.ex e1)) ea_nil) trivial (if_pos he)) fun y H2 e2 hy => ?_
      exact k .non H2 (e1.trans e2) .non
    · rw [hd, (Bool.eq_false_iff.mpr he)] at k
      exact xc_callX (W := W) (r := fun d : PyData => if isFr d then .ok (.d .none) else .error (cBF W)) e (ea_cons (ev_var rfl (hy.ex e1)) ea_nil) trivial (if_neg he) fun H2 e2 => k H2 (e1.trans e2)
  · rw [(Bool.eq_false_iff.mpr hd)] at k
    exact st_seq (xc_callX (W := W) (r := fun d : PyData => if isFr d then .ok (.d .none) else .error (cBF W)) d (ea_cons (ev_var rfl hx) ea_nil) trivial (if_neg hd) k)
theorem ok_least (T : Txt W mg base h₀) : DefOk P w W.K mg base "least" 2 ["above", "below"] (sp_least W) := by
  refine mk_def T.def_least T.g_least sc_least (fun _ _ _ _ _ _ us hl => match us, hl with | [_, _], _ => rfl) (fun vs H Q E h => h.len 2) (fun cdv A outer s H vs Q E hr h => ⟨_, (pss_cons (ps_set (i := 2) sc_least.nd rfl (.inl rfl) (pe_def (ok_shared T) hr (by decide) passX (pa_cons (pv 0) (pa_cons (pv 1) pa_nil)))) (pss_cons (ps_if (pt_cmpR op_lt (pv 1) pe_int (nomark _)) (pss_one (ps_set (i := 2) sc_least.nd rfl (.inl rfl) (pe_op op_sub pe_int (pv 2)))) pss_nil) (pss_one (ps_ret (pe_tup (pa_cons (pe_op op_fdivNW (pv 0) (pv 2)) (pa_cons (pe_op op_fdivNW (pv 1) (pv 2)) pa_nil))))))), ?_⟩)
  obtain ⟨⟨a, b⟩, ha, hp, k⟩ := h
  dsimp only at ha hp k
  obtain ⟨x, y, rfl, hx, hy⟩ := all2 ha
  cases int_of hx
  cases int_of hy
  obtain ⟨h0, hs⟩ := hp
  have g0 := gcd_pos (a := a) h0
  have gs : Int.gcd a b < 2 ^ 9000 := Nat.lt_of_le_of_lt (Int.gcd_le_natAbs_right a h0) hs
  have fin : ∀ (z : Int) {σ H'}, Ex W H H' → (z = if b < 0 then 0 - (Int.gcd a b : Int) else (Int.gcd a b : Int)) → σ = [some (.int a), some (.int b), some (.int z)] →
      tRet (tTup (tCons (tOp (rI CDivNW fun i j => .int (i.fdiv j)) (tVar 0) (tVar 2)) (tCons (tOp (rI CDivNW fun i j => .int (i.fdiv j)) (tVar 1) (tVar 2)) tNil))) { nx := fun _ H' => Q .non H', rt := Q } σ H' := by
    intro z σ H' e hz hσ
    subst hσ
    have c : z.natAbs = Int.gcd a b := by rw [hz]; split <;> omega
    have cd : ∀ i, CDivNW i z := fun i => ⟨by omega, by rw [c]; exact log2_lt' gs (by decide)⟩
    refine st_ret (W := W) (ev_tup (ds := [.int (a.fdiv z), .int (b.fdiv z)]) (ea_cons (ev_divN (ev_var rfl is_int) (ev_var rfl is_int) (cd _)) (ea_cons (ev_divN (ev_var rfl is_int) (ev_var rfl is_int) (cd _)) ea_nil)) (by show 2 ≤ 100000; decide)) fun x H2 e2 hx => k x H2 (e.trans e2) ?_
    have e3 : frD ((a : Rat) / (b : Rat)) = .tuple [.int (a.fdiv z), .int (b.fdiv z)] := by
      unfold frD
      rw [hz, sgn_num h0, sgn_den h0]
    rw [e3]
    exact hx
  refine (sq_set (ev_call (W := W) (a, b) (ea_cons (ev_var rfl is_int) (ea_cons (ev_var rfl is_int) ea_nil)) trivial) fun x H1 e1 hx => ?_)
  cases int_of hx
  refine (sq_if1 (W := W) (et_test (ev_lt (ev_var rfl is_int) ev_int)) (fun hb H2 e2 => ?_) fun hb H2 e2 => ?_)
  · refine st_set (W := W) (ev_sub ev_int (ev_var rfl is_int)) fun x H3 e3 hx => ?_
    cases int_of hx
    exact fin _ (e1.trans (e2.trans e3)) (by rw [if_pos (of_decide_eq_true hb)]) rfl
  · exact fin _ (e1.trans e2) (by rw [if_neg (of_decide_eq_false hb)]) rfl
theorem ok_fraction (T : Txt W mg base h₀) : DefOk P w W.K mg base "fraction" 3 ["above", "below"] (sp_fraction W) := by
  refine mk_def T.def_fraction T.g_fraction sc_fraction (fun _ _ _ _ _ _ us hl => match us, hl with | [_, _], _ => rfl) (fun vs H Q E h => h.len 2) (fun cdv A outer s H vs Q E hr h => ⟨_, (pss_cons (ps_expr (pe_def (ok_need T) hr (by decide) passX (pa_cons (pe_and (pe_def (ok_is_whole T) hr (by decide) passX (pa_cons (pv 0) pa_nil)) (pe_and (pe_def (ok_is_whole T) hr (by decide) passX (pa_cons (pv 1) pa_nil)) (pe_one (pe_cmpR (op_neD hr.units) (pv 1) pe_int (nomark _))))) pa_nil))) (pss_one (ps_ret (pe_def (ok_least T) hr (by decide) passX (pa_cons (pv 0) (pa_cons (pv 1) pa_nil)))))), ?_⟩)
  obtain ⟨⟨d, e⟩, ha, hp, k⟩ := h
  dsimp only at ha hp k
  obtain ⟨x, y, rfl, hx, hy⟩ := all2 ha
  have w0 := ev_call (W := W) (E := E) (σ := start ["above", "below"] [x, y]) (a := fun d => [Ar.d d]) (pre := fun _ => True) (r := fun d => .d (.bool (isInt d))) d (ea_cons (ev_var (i := 0) rfl hx) ea_nil) trivial
  have w1 := ev_call (W := W) (E := E) (σ := start ["above", "below"] [x, y]) (a := fun d => [Ar.d d]) (pre := fun _ => True) (r := fun d => .d (.bool (isInt d))) e (ea_cons (ev_var (i := 1) rfl hy) ea_nil) trivial
  have go : ∀ (c : Bool), (∀ j, e = .int j → c = !PyData.eqv (.int j) (.int 0)) → Ev W (tAndV (tCall (sp_is_whole W) [] E (tCons (tVar 0) tNil)) (tAndV (tCall (sp_is_whole W) [] E (tCons (tVar 1) tNil)) (tOp (rNeD W.K) (tVar 1) (tC (.int 0))))) (start ["above", "below"] [x, y]) H (.d (.bool (isInt d && (isInt e && c)))) := by
    intro c h2
    refine ev_andB w0 fun _ => ev_andB w1 fun he => ?_
    cases e with
    | int j =>
      rw [h2 j rfl]
      exact ev_ne (ev_var rfl hy) ev_int (sh_int _) (sh_int _)
    | _ => simp [isInt] at he
  by_cases hg : ∃ i j : Int, d = .int i ∧ e = .int j ∧ j ≠ 0
  · obtain ⟨i, j, rfl, rfl, h0⟩ := hg
    cases int_of hx
    cases int_of hy
    rw [fracR_ok h0] at k
    refine sq_drop (ev_callX (W := W) true (ea_cons (go true ?_) ea_nil) trivial rfl) fun _ H1 e1 _ => ?_
    · intro j' e
      cases e
      rw [eqv_int, decide_eq_false h0]
      rfl
    · exact st_ret (ev_call (W := W) (i, j) (ea_cons (ev_var rfl is_int) (ea_cons (ev_var rfl is_int) ea_nil)) ⟨h0, hp j rfl⟩) fun x H2 e2 hx => k x H2 (e1.trans e2) hx
  · rw [fracR_no hg] at k
    have hz : ∀ c : Bool, (∀ j, e = .int j → c = !PyData.eqv (.int j) (.int 0)) → (isInt d && (isInt e && c)) = false := by
      intro c hc
      cases d with
      | int i =>
        cases e with
        | int j =>
          by_cases h0 : j = 0
          · subst h0
            rw [hc 0 rfl]
            rfl
          · exact absurd ⟨i, j, rfl, rfl, h0⟩ hg
        | _ => rfl
      | _ => rfl
    cases e with
    | int j =>
      have g := go (!PyData.eqv (.int j) (.int 0)) (fun j' e => by cases e; rfl)
      rw [hz _ (fun j' e => by cases e; rfl)] at g
      exact st_seq (xc_callX (W := W) false (ea_cons g ea_nil) trivial rfl k)
    | _ =>
      have g := go false (fun j' e => by cases e)
      rw [hz _ (fun j' e => by cases e)] at g
      exact st_seq (xc_callX (W := W) false (ea_cons g ea_nil) trivial rfl k)
end
section
variable {W : Wd} {σ : L2.St} {H : Hp} {ta tb : TE} {p q : Rat}
theorem ev_num (ha : Ev W ta σ H (.d (frD p))) : Ev W (tOp (rIxT W.K) ta (tC (.int 0))) σ H (.d (.int p.num)) := ev_ixT ha ev_int rfl
theorem ev_den (ha : Ev W ta σ H (.d (frD p))) : Ev W (tOp (rIxT W.K) ta (tC (.int 1))) σ H (.d (.int (p.den : Int))) := ev_ixT ha ev_int rfl
end
section
variable (W : Wd)
abbrev spX2 (f : Rat → Rat → PyData) : Sp := PrX W (I := PyData × PyData) (fun d => [.d d.1, .d d.2]) (fun d => isFr d.1 = true → isFr d.2 = true → Ok (toQ d.1) ∧ Ok (toQ d.2)) fun d => if isFr d.1 && isFr d.2 then .ok (.d (f (toQ d.1) (toQ d.2))) else .error (cBF W)
abbrev sp_plus : Sp := spX2 W fun p q => frD (p + q)
abbrev sp_less : Sp := spX2 W fun p q => frD (p - q)
abbrev sp_times : Sp := spX2 W fun p q => frD (p * q)
abbrev sp_before : Sp := spX2 W fun p q => .bool (decide (p < q))
abbrev sp_by : Sp := PrX W (I := PyData × PyData) (fun d => [.d d.1, .d d.2]) (fun d => Ok (toQ d.1) ∧ Ok (toQ d.2)) fun d => if (isFr d.1 && isFr d.2 && !decide (toQ d.2 = 0)) = true then .ok (.d (frD (toQ d.1 / toQ d.2))) else .error (cBF W)
abbrev sp_whole : Sp := PrX W (I := PyData) (fun d => [.d d]) (fun d => Ok (toQ d)) fun d => if isFr d then .ok (.d (.int ((toQ d).num / ((toQ d).den : Int)))) else .error (cBF W)
end
/-- a public one: look, then the own one -/
theorem pub2 {W : Wd} {f : Rat → Rat → PyData} {vs : List V} {H : Hp} {Q : VK} {E : XK} {u : TS} (h : spX2 W f vs H Q E)
    (go : ∀ p q x y H1, Ok p → Ok q → Is W H1 x (.d (frD p)) → Is W H1 y (.d (frD q)) → (∀ x H', Ex W H1 H' → Is W H' x (.d (f p q)) → Q x H') → u { nx := fun _ H' => Q .non H', rt := Q } (start ["one", "other"] [x, y]) H1) :
    tSeq (tDrop (tCall (sp_look W) [] E (tCons (tVar 0) (tCons (tVar 1) tNil)))) u { nx := fun _ H' => Q .non H', rt := Q } (start ["one", "other"] vs) H := by
  obtain ⟨⟨d, e⟩, ha, hp, k⟩ := h
  dsimp only at ha hp k
  obtain ⟨x, y, rfl, hx, hy⟩ := all2 ha
  by_cases hd : (isFr d && isFr e) = true
  · obtain ⟨h1, h2⟩ := Bool.and_eq_true_iff.mp hd
    rw [if_pos hd] at k
    obtain ⟨o1, o2⟩ := hp h1 h2
    refine sq_drop (ev_callX (W := W) (d, e) (ea_cons (ev_var rfl hx) (ea_cons (ev_var rfl hy) ea_nil)) trivial (if_pos hd)) fun _ H1 e1 _ => ?_
    refine go _ _ x y H1 o1 o2 ?_ ?_ fun z H2 e2 hz => k z H2 (e1.trans e2) hz
    · rw [← fr_of h1]; exact hx.ex e1
    · rw [← fr_of h2]; exact hy.ex e1
  · rw [if_neg hd] at k
    exact st_seq (xc_callX (W := W) (r := fun d : PyData × PyData => if isFr d.1 && isFr d.2 then .ok (.d .none) else .error (cBF W)) (d, e) (ea_cons (ev_var rfl hx) (ea_cons (ev_var rfl hy) ea_nil)) trivial (if_neg hd) k)
section
variable {W : Wd} {σ : L2.St} {H : Hp} {ta tb : TE} {p q : Rat} {E : XK} {f : Rat → Rat → PyData}
/-- an own function of two fractions -/
theorem ev_q2 (ha : Ev W ta σ H (.d (frD p))) (hb : Ev W tb σ H (.d (frD q))) (hp : Ok p) (hq : Ok q) : Ev W (tCall (spQ2 W f) [] E (tCons ta (tCons tb tNil))) σ H (.d (f p q)) := ev_call (p, q) (ea_cons ha (ea_cons hb ea_nil)) ⟨hp, hq⟩
theorem ev_part (ha : Ev W ta σ H (.d (frD p))) (hb : Ev W tb σ H (.d (frD q))) (hp : Ok p) (hq : Ok q) (h0 : q ≠ 0) : Ev W (tCall (sp_part_of W) [] E (tCons ta (tCons tb tNil))) σ H (.d (frD (p / q))) := ev_call (p, q) (ea_cons ha (ea_cons hb ea_nil)) ⟨hp, hq, h0⟩
/-- a public one -/
theorem ev_x2 (ha : Ev W ta σ H (.d (frD p))) (hb : Ev W tb σ H (.d (frD q))) (hp : Ok p) (hq : Ok q) : Ev W (tCall (spX2 W f) [] E (tCons ta (tCons tb tNil))) σ H (.d (f p q)) :=
  ev_callX (frD p, frD q) (ea_cons ha (ea_cons hb ea_nil)) (fun _ _ => by rw [toQ_frD, toQ_frD]; exact ⟨hp, hq⟩) (by (try dsimp only); rw [isFr_frD, isFr_frD, toQ_frD, toQ_frD]; rfl)
theorem ev_by (ha : Ev W ta σ H (.d (frD p))) (hb : Ev W tb σ H (.d (frD q))) (hp : Ok p) (hq : Ok q) (h0 : q ≠ 0) : Ev W (tCall (sp_by W) [] E (tCons ta (tCons tb tNil))) σ H (.d (frD (p / q))) :=
  ev_callX (frD p, frD q) (ea_cons ha (ea_cons hb ea_nil)) (by (try dsimp only); rw [toQ_frD, toQ_frD]; exact ⟨hp, hq⟩) (by (try dsimp only); rw [isFr_frD, isFr_frD, toQ_frD, toQ_frD, if_pos (by simpa using h0)])
theorem ev_whole (ha : Ev W ta σ H (.d (frD p))) (hp : Ok p) : Ev W (tCall (sp_whole W) [] E (tCons ta tNil)) σ H (.d (.int (p.num / (p.den : Int)))) :=
  ev_callX (frD p) (ea_cons ha ea_nil) (by (try dsimp only); rw [toQ_frD]; exact hp) (by (try dsimp only); rw [isFr_frD, toQ_frD]; rfl)
theorem ev_need_fraction (ha : Ev W ta σ H (.d (frD p))) : Ev W (tCall (sp_need_fraction W) [] E (tCons ta tNil)) σ H (.d .none) :=
  ev_callX (frD p) (ea_cons ha ea_nil) trivial (by (try dsimp only); rw [isFr_frD]; rfl)
theorem ev_fraction {i j : Int} (ha : Ev W ta σ H (.d (.int i))) (hb : Ev W tb σ H (.d (.int j))) (h0 : j ≠ 0) (hj : j.natAbs < 2 ^ 9000) : Ev W (tCall (sp_fraction W) [] E (tCons ta (tCons tb tNil))) σ H (.d (frD ((i : Rat) / (j : Rat)))) :=
  ev_callX (.int i, .int j) (ea_cons ha (ea_cons hb ea_nil)) (fun k e => by cases e; exact hj) (fracR_ok h0)
theorem ev_eqF (ha : Ev W ta σ H (.d (frD p))) (hb : Ev W tb σ H (.d (frD q))) : Ev W (tOp (rEqD W.K) ta tb) σ H (.d (.bool (decide (p = q)))) := by
  rw [← eqv_fr]; exact ev_eq ha hb (sh_fr _) (sh_fr _)
theorem ev_neF (ha : Ev W ta σ H (.d (frD p))) (hb : Ev W tb σ H (.d (frD q))) : Ev W (tOp (rNeD W.K) ta tb) σ H (.d (.bool (!decide (p = q)))) := by
  rw [← eqv_fr]; exact ev_ne ha hb (sh_fr _) (sh_fr _)
theorem ev_neI {i j : Int} (ha : Ev W ta σ H (.d (.int i))) (hb : Ev W tb σ H (.d (.int j))) : Ev W (tOp (rNeD W.K) ta tb) σ H (.d (.bool (!decide (i = j)))) := by
  rw [← eqv_int]; exact ev_ne ha hb (sh_int _) (sh_int _)
theorem ev_eqI {i j : Int} (ha : Ev W ta σ H (.d (.int i))) (hb : Ev W tb σ H (.d (.int j))) : Ev W (tOp (rEqD W.K) ta tb) σ H (.d (.bool (decide (i = j)))) := by
  rw [← eqv_int]; exact ev_eq ha hb (sh_int _) (sh_int _)
end
section
variable {P : Program} {w : World} {W : Wd} {mg : Str → Option Value} {base h₀ : Heap}
theorem ok_add (T : Txt W mg base h₀) : DefOk P w W.K mg base "add" 3 ["one", "other"] (sp_add W) := by
  refine mk_def T.def_add T.g_add sc_add (fun _ _ _ _ _ _ us hl => match us, hl with | [_, _], _ => rfl) (fun vs H Q E h => h.len 2) (fun cdv A outer s H vs Q E hr h => ⟨_, (pss_one (ps_ret (pe_def (ok_least T) hr (by decide) passX (pa_cons (pe_op op_add (pe_op op_mulE (pe_ix ix_tup (pv 0) pe_int (fun _ _ => rfl)) (pe_ix ix_tup (pv 1) pe_int (fun _ _ => rfl))) (pe_op op_mulE (pe_ix ix_tup (pv 1) pe_int (fun _ _ => rfl)) (pe_ix ix_tup (pv 0) pe_int (fun _ _ => rfl)))) (pa_cons (pe_op op_mulE (pe_ix ix_tup (pv 0) pe_int (fun _ _ => rfl)) (pe_ix ix_tup (pv 1) pe_int (fun _ _ => rfl))) pa_nil))))), ?_⟩)
  obtain ⟨⟨p, q⟩, ha, ⟨hp, hq⟩, k⟩ := h
  dsimp only at ha hp hq k
  obtain ⟨x, y, rfl, hx, hy⟩ := all2 ha
  have vx := ev_var (W := W) (σ := start ["one", "other"] [x, y]) (i := 0) rfl hx
  have vy := ev_var (W := W) (σ := start ["one", "other"] [x, y]) (i := 1) rfl hy
  rw [← add_eq] at k
  exact st_ret (ev_call (W := W) (_, _) (ea_cons (ev_add (ev_mulE (ev_num vx) (ev_den vy) (cmul hp.n hq.dn)) (ev_mulE (ev_num vy) (ev_den vx) (cmul hq.n hp.dn))) (ea_cons (ev_mulE (ev_den vx) (ev_den vy) (cmul hp.dn hq.dn)) ea_nil)) ⟨Int.mul_ne_zero (den_ne p) (den_ne q), den_lt hp hq⟩) k
theorem ok_take (T : Txt W mg base h₀) : DefOk P w W.K mg base "take" 3 ["one", "other"] (sp_take W) := by
  refine mk_def T.def_take T.g_take sc_take (fun _ _ _ _ _ _ us hl => match us, hl with | [_, _], _ => rfl) (fun vs H Q E h => h.len 2) (fun cdv A outer s H vs Q E hr h => ⟨_, (pss_one (ps_ret (pe_def (ok_least T) hr (by decide) passX (pa_cons (pe_op op_sub (pe_op op_mulE (pe_ix ix_tup (pv 0) pe_int (fun _ _ => rfl)) (pe_ix ix_tup (pv 1) pe_int (fun _ _ => rfl))) (pe_op op_mulE (pe_ix ix_tup (pv 1) pe_int (fun _ _ => rfl)) (pe_ix ix_tup (pv 0) pe_int (fun _ _ => rfl)))) (pa_cons (pe_op op_mulE (pe_ix ix_tup (pv 0) pe_int (fun _ _ => rfl)) (pe_ix ix_tup (pv 1) pe_int (fun _ _ => rfl))) pa_nil))))), ?_⟩)
  obtain ⟨⟨p, q⟩, ha, ⟨hp, hq⟩, k⟩ := h
  dsimp only at ha hp hq k
  obtain ⟨x, y, rfl, hx, hy⟩ := all2 ha
  have vx := ev_var (W := W) (σ := start ["one", "other"] [x, y]) (i := 0) rfl hx
  have vy := ev_var (W := W) (σ := start ["one", "other"] [x, y]) (i := 1) rfl hy
  rw [← sub_eq] at k
  exact st_ret (ev_call (W := W) (_, _) (ea_cons (ev_sub (ev_mulE (ev_num vx) (ev_den vy) (cmul hp.n hq.dn)) (ev_mulE (ev_num vy) (ev_den vx) (cmul hq.n hp.dn))) (ea_cons (ev_mulE (ev_den vx) (ev_den vy) (cmul hp.dn hq.dn)) ea_nil)) ⟨Int.mul_ne_zero (den_ne p) (den_ne q), den_lt hp hq⟩) k
theorem ok_multiply (T : Txt W mg base h₀) : DefOk P w W.K mg base "multiply" 3 ["one", "other"] (sp_multiply W) := by
  refine mk_def T.def_multiply T.g_multiply sc_multiply (fun _ _ _ _ _ _ us hl => match us, hl with | [_, _], _ => rfl) (fun vs H Q E h => h.len 2) (fun cdv A outer s H vs Q E hr h => ⟨_, (pss_one (ps_ret (pe_def (ok_least T) hr (by decide) passX (pa_cons (pe_op op_mulE (pe_ix ix_tup (pv 0) pe_int (fun _ _ => rfl)) (pe_ix ix_tup (pv 1) pe_int (fun _ _ => rfl))) (pa_cons (pe_op op_mulE (pe_ix ix_tup (pv 0) pe_int (fun _ _ => rfl)) (pe_ix ix_tup (pv 1) pe_int (fun _ _ => rfl))) pa_nil))))), ?_⟩)
  obtain ⟨⟨p, q⟩, ha, ⟨hp, hq⟩, k⟩ := h
  dsimp only at ha hp hq k
  obtain ⟨x, y, rfl, hx, hy⟩ := all2 ha
  have vx := ev_var (W := W) (σ := start ["one", "other"] [x, y]) (i := 0) rfl hx
  have vy := ev_var (W := W) (σ := start ["one", "other"] [x, y]) (i := 1) rfl hy
  rw [← mul_eq] at k
  exact st_ret (ev_call (W := W) (_, _) (ea_cons (ev_mulE (ev_num vx) (ev_num vy) (cmul hp.n hq.n)) (ea_cons (ev_mulE (ev_den vx) (ev_den vy) (cmul hp.dn hq.dn)) ea_nil)) ⟨Int.mul_ne_zero (den_ne p) (den_ne q), den_lt hp hq⟩) k
theorem ok_part_of (T : Txt W mg base h₀) : DefOk P w W.K mg base "part_of" 3 ["one", "other"] (sp_part_of W) := by
  refine mk_def T.def_part_of T.g_part_of sc_part_of (fun _ _ _ _ _ _ us hl => match us, hl with | [_, _], _ => rfl) (fun vs H Q E h => h.len 2) (fun cdv A outer s H vs Q E hr h => ⟨_, (pss_one (ps_ret (pe_def (ok_least T) hr (by decide) passX (pa_cons (pe_op op_mulE (pe_ix ix_tup (pv 0) pe_int (fun _ _ => rfl)) (pe_ix ix_tup (pv 1) pe_int (fun _ _ => rfl))) (pa_cons (pe_op op_mulE (pe_ix ix_tup (pv 0) pe_int (fun _ _ => rfl)) (pe_ix ix_tup (pv 1) pe_int (fun _ _ => rfl))) pa_nil))))), ?_⟩)
  obtain ⟨⟨p, q⟩, ha, ⟨hp, hq, h0⟩, k⟩ := h
  dsimp only at ha hp hq h0 k
  obtain ⟨x, y, rfl, hx, hy⟩ := all2 ha
  have vx := ev_var (W := W) (σ := start ["one", "other"] [x, y]) (i := 0) rfl hx
  have vy := ev_var (W := W) (σ := start ["one", "other"] [x, y]) (i := 1) rfl hy
  rw [← div_eq p q h0] at k
  exact st_ret (ev_call (W := W) (_, _) (ea_cons (ev_mulE (ev_num vx) (ev_den vy) (cmul hp.n hq.dn)) (ea_cons (ev_mulE (ev_den vx) (ev_num vy) (cmul hp.dn hq.n)) ea_nil)) ⟨Int.mul_ne_zero (den_ne p) (num_ne h0), num_lt hp hq⟩) k
theorem ok_is_less (T : Txt W mg base h₀) : DefOk P w W.K mg base "is_less" 1 ["one", "other"] (sp_is_less W) := by
  refine mk_def T.def_is_less T.g_is_less sc_is_less (fun _ _ _ _ _ _ us hl => match us, hl with | [_, _], _ => rfl) (fun vs H Q E h => h.len 2) (fun cdv A outer s H vs Q E hr h => ⟨_, (pss_one (ps_ret (pe_cmpR op_lt (pe_op op_mulE (pe_ix ix_tup (pv 0) pe_int (fun _ _ => rfl)) (pe_ix ix_tup (pv 1) pe_int (fun _ _ => rfl))) (pe_op op_mulE (pe_ix ix_tup (pv 1) pe_int (fun _ _ => rfl)) (pe_ix ix_tup (pv 0) pe_int (fun _ _ => rfl))) (nomark _)))), ?_⟩)
  obtain ⟨⟨p, q⟩, ha, ⟨hp, hq⟩, k⟩ := h
  dsimp only at ha hp hq k
  obtain ⟨x, y, rfl, hx, hy⟩ := all2 ha
  have vx := ev_var (W := W) (σ := start ["one", "other"] [x, y]) (i := 0) rfl hx
  have vy := ev_var (W := W) (σ := start ["one", "other"] [x, y]) (i := 1) rfl hy
  rw [← lt_dec] at k
  exact st_ret (ev_lt (ev_mulE (ev_num vx) (ev_den vy) (cmul hp.n hq.dn)) (ev_mulE (ev_num vy) (ev_den vx) (cmul hq.n hp.dn))) k
theorem ok_plus (T : Txt W mg base h₀) : DefOk P w W.K mg base "plus" 5 ["one", "other"] (sp_plus W) := by
  refine mk_def T.def_plus T.g_plus sc_plus (fun _ _ _ _ _ _ us hl => match us, hl with | [_, _], _ => rfl) (fun vs H Q E h => h.len 2) (fun cdv A outer s H vs Q E hr h => ⟨_, (pss_cons (ps_expr (pe_def (ok_look T) hr (by decide) passX (pa_cons (pv 0) (pa_cons (pv 1) pa_nil)))) (pss_one (ps_ret (pe_def (ok_add T) hr (by decide) passX (pa_cons (pv 0) (pa_cons (pv 1) pa_nil)))))), ?_⟩)
  exact pub2 h fun p q x y H1 hp hq hx hy k => st_ret (ev_call (W := W) (p, q) (ea_cons (ev_var rfl hx) (ea_cons (ev_var rfl hy) ea_nil)) ⟨hp, hq⟩) k
theorem ok_less (T : Txt W mg base h₀) : DefOk P w W.K mg base "less" 5 ["one", "other"] (sp_less W) := by
  refine mk_def T.def_less T.g_less sc_less (fun _ _ _ _ _ _ us hl => match us, hl with | [_, _], _ => rfl) (fun vs H Q E h => h.len 2) (fun cdv A outer s H vs Q E hr h => ⟨_, (pss_cons (ps_expr (pe_def (ok_look T) hr (by decide) passX (pa_cons (pv 0) (pa_cons (pv 1) pa_nil)))) (pss_one (ps_ret (pe_def (ok_take T) hr (by decide) passX (pa_cons (pv 0) (pa_cons (pv 1) pa_nil)))))), ?_⟩)
  exact pub2 h fun p q x y H1 hp hq hx hy k => st_ret (ev_call (W := W) (p, q) (ea_cons (ev_var rfl hx) (ea_cons (ev_var rfl hy) ea_nil)) ⟨hp, hq⟩) k
theorem ok_times (T : Txt W mg base h₀) : DefOk P w W.K mg base "times" 5 ["one", "other"] (sp_times W) := by
  refine mk_def T.def_times T.g_times sc_times (fun _ _ _ _ _ _ us hl => match us, hl with | [_, _], _ => rfl) (fun vs H Q E h => h.len 2) (fun cdv A outer s H vs Q E hr h => ⟨_, (pss_cons (ps_expr (pe_def (ok_look T) hr (by decide) passX (pa_cons (pv 0) (pa_cons (pv 1) pa_nil)))) (pss_one (ps_ret (pe_def (ok_multiply T) hr (by decide) passX (pa_cons (pv 0) (pa_cons (pv 1) pa_nil)))))), ?_⟩)
  exact pub2 h fun p q x y H1 hp hq hx hy k => st_ret (ev_call (W := W) (p, q) (ea_cons (ev_var rfl hx) (ea_cons (ev_var rfl hy) ea_nil)) ⟨hp, hq⟩) k
theorem ok_before (T : Txt W mg base h₀) : DefOk P w W.K mg base "before" 5 ["one", "other"] (sp_before W) := by
  refine mk_def T.def_before T.g_before sc_before (fun _ _ _ _ _ _ us hl => match us, hl with | [_, _], _ => rfl) (fun vs H Q E h => h.len 2) (fun cdv A outer s H vs Q E hr h => ⟨_, (pss_cons (ps_expr (pe_def (ok_look T) hr (by decide) passX (pa_cons (pv 0) (pa_cons (pv 1) pa_nil)))) (pss_one (ps_ret (pe_def (ok_is_less T) hr (by decide) passX (pa_cons (pv 0) (pa_cons (pv 1) pa_nil)))))), ?_⟩)
  exact pub2 h fun p q x y H1 hp hq hx hy k => st_ret (ev_call (W := W) (p, q) (ea_cons (ev_var rfl hx) (ea_cons (ev_var rfl hy) ea_nil)) ⟨hp, hq⟩) k
theorem ok_by (T : Txt W mg base h₀) : DefOk P w W.K mg base "by" 5 ["one", "other"] (sp_by W) := by
  refine mk_def T.def_by T.g_by sc_by (fun _ _ _ _ _ _ us hl => match us, hl with | [_, _], _ => rfl) (fun vs H Q E h => h.len 2) (fun cdv A outer s H vs Q E hr h => ⟨_, (pss_cons (ps_expr (pe_def (ok_look T) hr (by decide) passX (pa_cons (pv 0) (pa_cons (pv 1) pa_nil)))) (pss_cons (ps_expr (pe_def (ok_need T) hr (by decide) passX (pa_cons (pe_cmpR (op_neD hr.units) (pe_ix ix_tup (pv 1) pe_int (fun _ _ => rfl)) pe_int (nomark _)) pa_nil))) (pss_one (ps_ret (pe_def (ok_part_of T) hr (by decide) passX (pa_cons (pv 0) (pa_cons (pv 1) pa_nil))))))), ?_⟩)
  obtain ⟨⟨d, e⟩, ha, hp, k⟩ := h
  dsimp only at ha hp k
  obtain ⟨x, y, rfl, hx, hy⟩ := all2 ha
  have look : ∀ {c}, (if isFr d && isFr e then (.ok (.d .none) : Except Addr Ar) else .error (cBF W)) = .ok c → Ev W (tCall (sp_look W) [] E (tCons (tVar 0) (tCons (tVar 1) tNil))) (start ["one", "other"] [x, y]) H c := fun h => ev_callX (W := W) (d, e) (ea_cons (ev_var rfl hx) (ea_cons (ev_var rfl hy) ea_nil)) trivial h
  by_cases hd : (isFr d && isFr e) = true
  · obtain ⟨h1, h2⟩ := Bool.and_eq_true_iff.mp hd
    obtain ⟨p, rfl⟩ : ∃ p, d = frD p := ⟨_, fr_of h1⟩
    obtain ⟨q, rfl⟩ : ∃ q, e = frD q := ⟨_, fr_of h2⟩
    rw [toQ_frD, toQ_frD] at hp k
    refine sq_drop (look (if_pos hd)) fun _ H1 e1 _ => ?_
    have vy := ev_var (W := W) (σ := start ["one", "other"] [x, y]) (i := 1) rfl (hy.ex e1)
    have n0 := ev_ne (W := W) (ev_num vy) (ev_int (i := 0)) (sh_int _) (sh_int _)
    rw [eqv_int] at n0
    by_cases hq : q = 0
    · subst hq
      rw [if_neg (by rw [h1, h2]; simp)] at k
      exact st_seq (xc_callX (W := W) false (ea_cons n0 ea_nil) trivial rfl fun H2 e2 => k H2 (e1.trans e2))
    · rw [if_pos (by rw [h1, h2]; simpa using hq)] at k
      rw [decide_eq_false (num_ne hq)] at n0
      refine sq_drop (ev_callX (W := W) true (ea_cons n0 ea_nil) trivial rfl) fun _ H2 e2 _ => ?_
      exact st_ret (ev_call (W := W) (p, q) (ea_cons (ev_var rfl (hx.ex (e1.trans e2))) (ea_cons (ev_var rfl (hy.ex (e1.trans e2))) ea_nil)) ⟨hp.1, hp.2, hq⟩) fun x H3 e3 hx => k x H3 ((e1.trans e2).trans e3) hx
  · have hd' := Bool.eq_false_iff.mpr hd
    rw [hd', Bool.false_and] at k
    exact st_seq (xc_callX (W := W) (r := fun d : PyData × PyData => if isFr d.1 && isFr d.2 then .ok (.d .none) else .error (cBF W)) (d, e) (ea_cons (ev_var rfl hx) (ea_cons (ev_var rfl hy) ea_nil)) trivial (if_neg hd) k)
theorem ok_whole (T : Txt W mg base h₀) : DefOk P w W.K mg base "whole" 4 ["one"] (sp_whole W) := by
  refine mk_def T.def_whole T.g_whole sc_whole (fun _ _ _ _ _ _ us hl => match us, hl with | [_], _ => rfl) (fun vs H Q E h => h.len 1) (fun cdv A outer s H vs Q E hr h => ⟨_, (pss_cons (ps_expr (pe_def (ok_need_fraction T) hr (by decide) passX (pa_cons (pv 0) pa_nil))) (pss_one (ps_ret (pe_op op_fdivW (pe_ix ix_tup (pv 0) pe_int (fun _ _ => rfl)) (pe_ix ix_tup (pv 0) pe_int (fun _ _ => rfl)))))), ?_⟩)
  obtain ⟨d, ha, hp, k⟩ := h
  dsimp only at ha hp k
  obtain ⟨x, rfl, hx⟩ := all1 ha
  by_cases hd : isFr d = true
  · rw [if_pos hd] at k
    obtain ⟨p, rfl⟩ : ∃ p, d = frD p := ⟨_, fr_of hd⟩
    rw [toQ_frD] at hp k
    refine sq_drop (ev_callX (W := W) (frD p) (ea_cons (ev_var rfl hx) ea_nil) trivial (if_pos hd)) fun _ H1 e1 _ => ?_
    have v := ev_var (W := W) (σ := start ["one"] [x]) (i := 0) rfl (hx.ex e1)
    exact st_ret (ev_div (ev_num v) (ev_den v) (wide_div (b := B) (by have := p.den_pos; omega) hp.dn B_pos (by unfold B; decide))) fun y H2 e2 hy => k y H2 (e1.trans e2) hy
  · rw [if_neg hd] at k
    exact st_seq (xc_callX (W := W) (r := fun d : PyData => if isFr d then .ok (.d .none) else .error (cBF W)) d (ea_cons (ev_var rfl hx) ea_nil) trivial (if_neg hd) k)
end
end QT

namespace QT
open PySem PySem.Spec PyProof.Rows L2 QM
/-! ### the law's own numbers and fractions -/
def drawn (c k : Int) : Int :=
  let a := (c * 6364136223846793005 + (k + 1) * 1442695040888963407) % 340282366920938463463374607431768211507
  let b := a * a % 340282366920938463463374607431768211297
  ((b % 18446744073709551557 + 1) * (b / 18446744073709551557 + 1) * b) % 340282366920938463463374607431768211507
theorem drawn_nn (c k : Int) : 0 ≤ drawn c k := Int.emod_nonneg _ (by decide)
theorem drawn_lt (c k : Int) : drawn c k < 340282366920938463463374607431768211507 := Int.emod_lt_of_pos _ (by decide)
theorem nat_lt {x : Int} {n : Nat} (h0 : 0 ≤ x) (h : x < ((2 ^ n : Nat) : Int)) : x.natAbs < 2 ^ n := by omega
theorem cm_small {i j : Int} {m n : Nat} (hi : i.natAbs < 2 ^ m) (hj : j.natAbs < 2 ^ n) (h0 : 0 < m) (h1 : 0 < n) (h : m + n ≤ 1000000) : CM i j := .w (wide_mul hi hj h0 h1 h)
theorem cm_pm {i j : Int} (h : i = 1 ∨ i = -1) : CM i j := by rcases h with h | h <;> subst h <;> exact .l (by decide) (by decide)
theorem sh_all : ∀ ns : List Int, PyData.canLayAll0 (ns.map .int) = true
  | [] => rfl
  | _ :: r => sh_all r
theorem dp_all : ∀ ns : List Int, PyData.depthAll (ns.map .int) ≤ 1
  | [] => by decide
  | _ :: r => by
    show max (PyData.depth (.int _)) (PyData.depthAll (r.map .int)) ≤ 1
    exact Nat.max_le.mpr ⟨by show (0 : Nat) ≤ 1; decide, dp_all r⟩
theorem sh_ints (ns : List Int) : (PyData.canLay0 (.list (ns.map .int)) && decide (PyData.depth (.list (ns.map .int)) ≤ 64)) = true := by
  have h1 := sh_all ns
  have h2 := dp_all ns
  show (PyData.canLayAll0 (ns.map .int) && decide (PyData.depthAll (ns.map .int) + 1 ≤ 64)) = true
  rw [h1, Bool.true_and]
  exact decide_eq_true (by omega)
def cell (ns : List Int) (k : Int) : Int := if ns = [] then k * 7919 else ns.getD (k % ns.length).toNat 0 + k / ns.length * 104729
section
variable (W : Wd)
abbrev sp__law_cell : Sp := Pr W (I := List Int × Nat) (fun i => [.d (.list (i.1.map .int)), .d (.int (i.2 : Int))]) (fun i => i.1.length ≤ 63 ∧ i.2 < 100) fun i => .d (.int (cell i.1 i.2))
abbrev sp__law_drawn : Sp := Pr W (I := Int × Int) (fun i => [.d (.int i.1), .d (.int i.2)]) (fun _ => True) fun i => .d (.int (drawn i.1 i.2))
abbrev sp__law_least : Sp := Pr W (I := Int × Int) (fun i => [.d (.int i.1), .d (.int i.2)]) (fun i => i.2 ≠ 0 ∧ i.2.natAbs < 2 ^ 9000) fun i => .d (frD ((i.1 : Rat) / (i.2 : Rat)))
abbrev sp__law_sum : Sp := Pr W (I := Rat × Rat × Int) (fun i => [.d (frD i.1), .d (frD i.2.1), .d (.int i.2.2)]) (fun i => Ok i.1 ∧ Ok i.2.1 ∧ (i.2.2 = 1 ∨ i.2.2 = -1)) fun i => .d (frD (if i.2.2 = 1 then i.1 + i.2.1 else i.1 - i.2.1))
abbrev sp__law_product : Sp := spQ2 W fun p q => frD (p * q)
abbrev sp__law_under : Sp := spQ2 W fun p q => .bool (decide (p < q))
end
section
variable {W : Wd} {σ : L2.St} {H : Hp} {ta tb tc : TE} {p q : Rat} {E : XK}
theorem ev_least {i j : Int} (ha : Ev W ta σ H (.d (.int i))) (hb : Ev W tb σ H (.d (.int j))) (h0 : j ≠ 0) (hj : j.natAbs < 2 ^ 9000) : Ev W (tCall (sp__law_least W) [] E (tCons ta (tCons tb tNil))) σ H (.d (frD ((i : Rat) / (j : Rat)))) :=
  ev_call (I := Int × Int) (i, j) (ea_cons ha (ea_cons hb ea_nil)) (And.intro h0 hj)
theorem ev_sum (ha : Ev W ta σ H (.d (frD p))) (hb : Ev W tb σ H (.d (frD q))) (hc : Ev W tc σ H (.d (.int 1))) (hp : Ok p) (hq : Ok q) : Ev W (tCall (sp__law_sum W) [] E (tCons ta (tCons tb (tCons tc tNil)))) σ H (.d (frD (p + q))) :=
  ev_call (I := Rat × Rat × Int) (a := fun i => [.d (frD i.1), .d (frD i.2.1), .d (.int i.2.2)]) (pre := fun i => Ok i.1 ∧ Ok i.2.1 ∧ (i.2.2 = 1 ∨ i.2.2 = -1)) (r := fun i => .d (frD (if i.2.2 = 1 then i.1 + i.2.1 else i.1 - i.2.1))) (p, q, 1) (ea_cons ha (ea_cons hb (ea_cons hc ea_nil))) ⟨hp, hq, .inl rfl⟩
theorem ev_dif (ha : Ev W ta σ H (.d (frD p))) (hb : Ev W tb σ H (.d (frD q))) (hc : Ev W tc σ H (.d (.int (-1)))) (hp : Ok p) (hq : Ok q) : Ev W (tCall (sp__law_sum W) [] E (tCons ta (tCons tb (tCons tc tNil)))) σ H (.d (frD (p - q))) :=
  ev_call (I := Rat × Rat × Int) (a := fun i => [.d (frD i.1), .d (frD i.2.1), .d (.int i.2.2)]) (pre := fun i => Ok i.1 ∧ Ok i.2.1 ∧ (i.2.2 = 1 ∨ i.2.2 = -1)) (r := fun i => .d (frD (if i.2.2 = 1 then i.1 + i.2.1 else i.1 - i.2.1))) (p, q, -1) (ea_cons ha (ea_cons hb (ea_cons hc ea_nil))) ⟨hp, hq, .inr rfl⟩
theorem ev_drawn {c k : Int} (ha : Ev W ta σ H (.d (.int c))) (hb : Ev W tb σ H (.d (.int k))) : Ev W (tCall (sp__law_drawn W) [] E (tCons ta (tCons tb tNil))) σ H (.d (.int (drawn c k))) := ev_call (c, k) (ea_cons ha (ea_cons hb ea_nil)) trivial
theorem ev_cell {ns : List Int} {k : Nat} (ha : Ev W ta σ H (.d (.list (ns.map .int)))) (hb : Ev W tb σ H (.d (.int (k : Int)))) (h1 : ns.length ≤ 63) (h2 : k < 100) : Ev W (tCall (sp__law_cell W) [] E (tCons ta (tCons tb tNil))) σ H (.d (.int (cell ns k))) := ev_call (ns, k) (ea_cons ha (ea_cons hb ea_nil)) ⟨h1, h2⟩
end
section
variable {P : Program} {w : World} {W : Wd} {mg : Str → Option Value} {base h₀ : Heap}
theorem ok__law_cell (T : Txt W mg base h₀) : DefOk P w W.K mg base "_law_cell" 1 ["_law_script", "_law_k"] (sp__law_cell W) := by
  refine mk_def T.def__law_cell T.g__law_cell sc__law_cell (fun _ _ _ _ _ _ us hl => match us, hl with | [_, _], _ => rfl) (fun vs H Q E h => h.len 2) (fun cdv A outer s H vs Q E hr h => ⟨_, (pss_cons (ps_if (pt_cmpR (op_eqD hr.units) (pv 0) (pe_lst pa_nil) (nomark _)) (pss_one (ps_ret (pe_op op_mulE (pv 1) pe_int))) pss_nil) (pss_one (ps_ret (pe_op op_add (pe_ix ix_list (pv 0) (pe_op op_mod (pv 1) (pe_callB call_lenS (by rfl) T.no_len (by decide +kernel) (pa_cons (pv 0) pa_nil))) (fun _ _ => rfl)) (pe_op op_mulE (pe_op op_fdivW (pv 1) (pe_callB call_lenS (by rfl) T.no_len (by decide +kernel) (pa_cons (pv 0) pa_nil))) pe_int))))), ?_⟩)
  obtain ⟨⟨ns, n⟩, ha, hp, k⟩ := h
  dsimp only at ha hp k
  obtain ⟨x, y, rfl, hx, hy⟩ := all2 ha
  cases int_of hy
  have e0 := ev_eq (W := W) (ev_var (σ := start ["_law_script", "_law_k"] [x, .int (n : Int)]) (i := 0) rfl hx) (ev_lst (ds := []) ea_nil (by show 0 ≤ 100000; decide)) (by
    show (PyData.canLay0 (.list (ns.map .int)) && decide (PyData.depth (.list (ns.map .int)) ≤ 64)) = true
    exact sh_ints ns) rfl
  by_cases hn : ns = []
  · subst hn
    refine (sq_if1 (W := W) (k := true) (et_test e0) (fun _ H1 e1 => ?_) fun z => by cases z)
    refine st_ret (W := W) (ev_mulE (ev_var rfl is_int) ev_int (.r (by decide) (by decide))) fun x H2 e2 hx => k x H2 (e1.trans e2) ?_
    exact hx
  · have l0 : 0 < (ns.length : Int) := by
      have := List.length_pos_iff.mpr hn
      omega
    have e1 : PyData.eqv (.list (ns.map .int)) (.list []) = false := by
      cases ns with
      | nil => exact absurd rfl hn
      | cons _ _ => rfl
    rw [e1] at e0
    refine sq_no (W := W) (et_test e0) fun H1 e1 => ?_
    have vx := ev_var (W := W) (σ := start ["_law_script", "_law_k"] [x, .int (n : Int)]) (i := 0) rfl (hx.ex e1)
    have ln := ev_lenL vx
    rw [List.length_map] at ln
    have hi : L2.atI (ns.map PyData.int) ((n : Int) % (ns.length : Int)) = some (.int (ns.getD ((n : Int) % (ns.length : Int)).toNat 0)) := by
      have h1 := Int.emod_nonneg (n : Int) (b := ns.length) (by omega)
      have h2 := Int.emod_lt_of_pos (n : Int) l0
      obtain ⟨j, hj⟩ : ∃ j : Nat, (n : Int) % (ns.length : Int) = (j : Int) := ⟨_, (Int.toNat_of_nonneg h1).symm⟩
      rw [hj]
      have hjl : j < ns.length := by omega
      refine atI_nat ?_
      rw [List.getElem?_map, List.getElem?_eq_getElem hjl, Int.toNat_natCast, List.getD_eq_getElem?_getD, List.getElem?_eq_getElem hjl]
      rfl
    have dv : CDivW (n : Int) (ns.length : Int) := wide_div (b := 64) l0 (by have := hp.1; omega) (by decide) (by decide)
    refine st_ret (W := W) (ev_add (ev_ixL vx (ev_mod (ev_var rfl is_int) ln l0) hi) (ev_mulE (ev_div (ev_var rfl is_int) ln dv) ev_int (.r (by decide) (by decide)))) fun x H2 e2 hx => k x H2 (e1.trans e2) ?_
    rw [cell, if_neg hn]
    exact hx
theorem ok__law_drawn (T : Txt W mg base h₀) : DefOk P w W.K mg base "_law_drawn" 1 ["_law_cell_here", "_law_k"] (sp__law_drawn W) := by
  refine mk_def T.def__law_drawn T.g__law_drawn sc__law_drawn (fun _ _ _ _ _ _ us hl => match us, hl with | [_, _], _ => rfl) (fun vs H Q E h => h.len 2) (fun cdv A outer s H vs Q E hr h => ⟨_, (pss_cons (ps_set (i := 2) sc__law_drawn.nd rfl (.inl rfl) (pe_op op_mod (pe_op op_add (pe_op op_mulE (pv 0) pe_int) (pe_op op_mulE (pe_op op_add (pv 1) pe_int) pe_int)) pe_int)) (pss_cons (ps_set (i := 2) sc__law_drawn.nd rfl (.inl rfl) (pe_op op_mod (pe_op op_mulE (pv 2) (pv 2)) pe_int)) (pss_cons (ps_set (i := 2) sc__law_drawn.nd rfl (.inl rfl) (pe_op op_mulE (pe_op op_mulE (pe_op op_add (pe_op op_mod (pv 2) pe_int) pe_int) (pe_op op_add (pe_op op_fdivW (pv 2) pe_int) pe_int)) (pv 2))) (pss_one (ps_ret (pe_op op_mod (pv 2) pe_int)))))), ?_⟩)
  obtain ⟨⟨c, n⟩, ha, _, k⟩ := h
  dsimp only at ha k
  obtain ⟨x, y, rfl, hx, hy⟩ := all2 ha
  cases int_of hx
  cases int_of hy
  refine sq_set (W := W) (ev_mod (ev_add (ev_mulE (ev_var rfl is_int) ev_int (.r (by decide) (by decide))) (ev_mulE (ev_add (ev_var rfl is_int) ev_int) ev_int (.r (by decide) (by decide)))) ev_int (by decide)) fun x H1 e1 hx => ?_
  cases int_of hx
  generalize ha : (c * 6364136223846793005 + (n + 1) * 1442695040888963407) % 340282366920938463463374607431768211507 = a
  have a0 : 0 ≤ a := ha ▸ Int.emod_nonneg _ (by decide)
  have a1 : a < 340282366920938463463374607431768211507 := ha ▸ Int.emod_lt_of_pos _ (by decide)
  have aN : a.natAbs < 2 ^ 129 := nat_lt a0 (Int.lt_trans a1 (by decide))
  refine sq_set (W := W) (ev_mod (ev_mulE (ev_var rfl is_int) (ev_var rfl is_int) (cm_small aN aN (by decide) (by decide) (by decide))) ev_int (by decide)) fun x H2 e2 hx => ?_
  cases int_of hx
  generalize hb : a * a % 340282366920938463463374607431768211297 = b
  have b0 : 0 ≤ b := hb ▸ Int.emod_nonneg _ (by decide)
  have b1 : b < 340282366920938463463374607431768211297 := hb ▸ Int.emod_lt_of_pos _ (by decide)
  have bN : b.natAbs < 2 ^ 129 := nat_lt b0 (Int.lt_trans b1 (by decide))
  have u1 : (b % 18446744073709551557 + 1).natAbs < 2 ^ 65 := by
    have h1 := Int.emod_nonneg b (b := 18446744073709551557) (by decide)
    have h2 := Int.emod_lt_of_pos b (b := 18446744073709551557) (by decide)
    exact nat_lt (by omega) (by simp only [Nat.reducePow]; omega)
  have u2 : (b / 18446744073709551557 + 1).natAbs < 2 ^ 130 := by
    have h1 : 0 ≤ b / 18446744073709551557 := Int.ediv_nonneg b0 (by decide)
    have h2 : b / 18446744073709551557 ≤ b := Int.ediv_le_self _ b0
    exact nat_lt (by omega) (by simp only [Nat.reducePow]; omega)
  refine sq_set (W := W) (ev_mulE (ev_mulE (ev_add (ev_mod (ev_var rfl is_int) ev_int (by decide)) ev_int) (ev_add (ev_div (ev_var rfl is_int) ev_int (wide_div (b := 65) (by decide) (by decide) (by decide) (by decide))) ev_int) (cm_small u1 u2 (by decide) (by decide) (by decide))) (ev_var rfl is_int) (cm_small (mul_lt u1 u2) bN (by decide) (by decide) (by decide))) fun x H3 e3 hx => ?_
  cases int_of hx
  refine st_ret (W := W) (ev_mod (ev_var rfl is_int) ev_int (by decide)) fun x H4 e4 hx => k x H4 (e1.trans (e2.trans (e3.trans e4))) ?_
  have e : drawn c n = ((b % 18446744073709551557 + 1) * (b / 18446744073709551557 + 1) * b) % 340282366920938463463374607431768211507 := by
    unfold drawn
    dsimp only
    rw [ha, hb]
  rw [e]
  exact hx
theorem ok__law_least (T : Txt W mg base h₀) : DefOk P w W.K mg base "_law_least" 1 ["_law_above", "_law_below"] (sp__law_least W) := by
  refine mk_def T.def__law_least T.g__law_least sc__law_least (fun _ _ _ _ _ _ us hl => match us, hl with | [_, _], _ => rfl) (fun vs H Q E h => h.len 2) (fun cdv A outer s H vs Q E hr h => ⟨_, (pss_cons (ps_par (i := 2) (j := 3) rfl sc__law_least.nd rfl rfl (by decide) rfl rfl (pa_cons (pe_callB call_absS (by rfl) T.no_abs (by decide +kernel) (pa_cons (pv 0) pa_nil)) (pa_cons (pe_callB call_absS (by rfl) T.no_abs (by decide +kernel) (pa_cons (pv 1) pa_nil)) pa_nil)) (by rfl)) (pss_cons (ps_while ownX (pt_cmpR op_gt (pv 3) pe_int (nomark _)) (pss_one (ps_par (i := 2) (j := 3) rfl sc__law_least.nd rfl rfl (by decide) rfl rfl (pa_cons (pv 3) (pa_cons (pe_op op_mod (pv 2) (pv 3)) pa_nil)) (by rfl)))) (pss_cons (ps_set (i := 4) sc__law_least.nd rfl (.inl rfl) (pe_ifExp (pt_cmpR op_gt (pv 1) pe_int (nomark _)) pe_int (pe_un un_neg pe_int))) (pss_one (ps_ret (pe_tup (pa_cons (pe_op op_fdivW (pe_op op_mulE (pv 4) (pv 0)) (pv 2)) (pa_cons (pe_op op_fdivW (pe_op op_mulE (pv 4) (pv 1)) (pv 2)) pa_nil)))))))), ?_⟩)
  obtain ⟨⟨a, b⟩, ha, ⟨h0, hs⟩, k⟩ := h
  dsimp only at ha h0 hs k
  obtain ⟨x, y, rfl, hx, hy⟩ := all2 ha
  cases int_of hx
  cases int_of hy
  have g0 := gcd_pos (a := a) h0
  have gs : Int.gcd a b < 2 ^ 9000 := Nat.lt_of_le_of_lt (Int.gcd_le_natAbs_right a h0) hs
  refine sq_par (W := W) (ea_cons (ev_abs (ev_var rfl is_int)) (ea_cons (ev_abs (ev_var rfl is_int)) ea_nil)) fun x y H1 e1 hx hy => ?_
  cases int_of hx
  cases int_of hy
  refine st_seq (st_while (W := W) (fun σ H' => ∃ i j : Nat, σ = [some (.int a), some (.int b), some (.int (i : Int)), some (.int (j : Int)), none] ∧ Nat.gcd i j = Int.gcd a b ∧ Ex W H H') (fun σ _ => match σ with | [_, _, _, some (.int j), _] => j.natAbs | _ => 0) ⟨a.natAbs, b.natAbs, rfl, rfl, e1⟩ ?_)
  rintro σ H2 ⟨i, j, rfl, hg, e2⟩
  refine ⟨_, et_test (ev_gt (ev_var rfl is_int) ev_int), fun hb H3 e3 => ?_, fun hb H3 e3 => ?_⟩
  · have hj : (0 : Int) < j := of_decide_eq_true hb
    refine st_par (W := W) (ea_cons (ev_var rfl is_int) (ea_cons (ev_mod (ev_var rfl is_int) (ev_var rfl is_int) hj) ea_nil)) fun x y H4 e4 hx hy => ?_
    cases int_of hx
    cases int_of hy
    refine ⟨⟨j, i % j, rfl, ?_, e2.trans (e3.trans e4)⟩, ?_⟩
    · rw [← hg, Nat.gcd_comm i j, Nat.gcd_rec j i, Nat.gcd_comm]
    · have := Int.emod_lt_of_pos (i : Int) hj
      have := Int.emod_nonneg (i : Int) (b := j) (by omega)
      show ((i : Int) % (j : Int)).natAbs < (j : Int).natAbs
      omega
  · have hj : j = 0 := by
      have := of_decide_eq_false hb
      omega
    subst hj
    rw [Nat.gcd_zero_right] at hg
    subst hg
    have sg : ∀ {H'}, Ev W (tIf (tTest (tOp (rI0 fun i j => .bl (decide (j < i))) (tVar 1) (tC (.int 0)))) (tC (.int 1)) (tUn (rU fun i => .int (-i)) (tC (.int 1)))) [some (.int a), some (.int b), some (.int (Int.gcd a b : Int)), some (.int ((0 : Nat) : Int)), none] H' (.d (.int (if 0 < b then 1 else -1))) := by
      intro H'
      refine ev_if (et_test (ev_gt (ev_var rfl is_int) ev_int)) (fun h => ?_) fun h => ?_
      · rw [if_pos (of_decide_eq_true h)]; exact ev_int
      · rw [if_neg (of_decide_eq_false h)]; exact ev_neg ev_int
    refine sq_set (W := W) sg fun x H4 e4 hx => ?_
    cases int_of hx
    have s1 : (if 0 < b then (1 : Int) else -1) = 1 ∨ (if 0 < b then (1 : Int) else -1) = -1 := by split <;> simp
    have dv : ∀ i, CDivW i (Int.gcd a b : Int) := fun i => ⟨by omega, by simpa using log2_lt' gs (by decide)⟩
    refine st_ret (W := W) (ev_tup (ds := [.int (((if 0 < b then 1 else -1) * a) / (Int.gcd a b : Int)), .int (((if 0 < b then 1 else -1) * b) / (Int.gcd a b : Int))]) (ea_cons (ev_div (ev_mulE (ev_var rfl is_int) (ev_var rfl is_int) (cm_pm s1)) (ev_var rfl is_int) (dv _)) (ea_cons (ev_div (ev_mulE (ev_var rfl is_int) (ev_var rfl is_int) (cm_pm s1)) (ev_var rfl is_int) (dv _)) ea_nil)) (by show 2 ≤ 100000; decide)) fun x H5 e5 hx => k x H5 (e2.trans (e3.trans (e4.trans e5))) ?_
    rw [sgn2_num h0, sgn2_den h0] at hx
    exact hx
theorem ok__law_sum (T : Txt W mg base h₀) : DefOk P w W.K mg base "_law_sum" 2 ["_law_one", "_law_other", "_law_sign"] (sp__law_sum W) := by
  refine mk_def T.def__law_sum T.g__law_sum sc__law_sum (fun _ _ _ _ _ _ us hl => match us, hl with | [_, _, _], _ => rfl) (fun vs H Q E h => h.len 3) (fun cdv A outer s H vs Q E hr h => ⟨_, (pss_one (ps_ret (pe_def (ok__law_least T) hr (by decide) passX (pa_cons (pe_op op_add (pe_op op_mulE (pe_ix ix_tup (pv 0) pe_int (fun _ _ => rfl)) (pe_ix ix_tup (pv 1) pe_int (fun _ _ => rfl))) (pe_op op_mulE (pe_op op_mulE (pv 2) (pe_ix ix_tup (pv 1) pe_int (fun _ _ => rfl))) (pe_ix ix_tup (pv 0) pe_int (fun _ _ => rfl)))) (pa_cons (pe_op op_mulE (pe_ix ix_tup (pv 0) pe_int (fun _ _ => rfl)) (pe_ix ix_tup (pv 1) pe_int (fun _ _ => rfl))) pa_nil))))), ?_⟩)
  obtain ⟨⟨p, q, z⟩, ha, ⟨hp, hq, hz⟩, k⟩ := h
  dsimp only at ha hp hq hz k
  obtain ⟨x, y, u, rfl, hx, hy, hu⟩ := all3 ha
  cases int_of hu
  have vx := ev_var (W := W) (σ := start ["_law_one", "_law_other", "_law_sign"] [x, y, .int z]) (i := 0) rfl hx
  have vy := ev_var (W := W) (σ := start ["_law_one", "_law_other", "_law_sign"] [x, y, .int z]) (i := 1) rfl hy
  have nz : (z * q.num).natAbs < 2 ^ B := by rcases hz with h | h <;> subst h <;> simpa using hq.n
  have e : ((p.num * (q.den : Int) + z * q.num * (p.den : Int) : Int) : Rat) / ((p.den * q.den : Int) : Rat) = (if z = 1 then p + q else p - q) := by
    rcases hz with h | h <;> subst h
    · rw [if_pos rfl, ← add_eq, Int.one_mul]
    · rw [if_neg (by decide), ← sub_eq, Int.neg_mul, Int.one_mul, Int.neg_mul, Int.sub_eq_add_neg]
  rw [← e] at k
  exact st_ret (ev_call (W := W) (_, _) (ea_cons (ev_add (ev_mulE (ev_num vx) (ev_den vy) (cmul hp.n hq.dn)) (ev_mulE (ev_mulE (ev_var rfl is_int) (ev_num vy) (cm_pm hz)) (ev_den vx) (cmul nz hp.dn))) (ea_cons (ev_mulE (ev_den vx) (ev_den vy) (cmul hp.dn hq.dn)) ea_nil)) ⟨Int.mul_ne_zero (den_ne p) (den_ne q), den_lt hp hq⟩) k
theorem ok__law_product (T : Txt W mg base h₀) : DefOk P w W.K mg base "_law_product" 2 ["_law_one", "_law_other"] (sp__law_product W) := by
  refine mk_def T.def__law_product T.g__law_product sc__law_product (fun _ _ _ _ _ _ us hl => match us, hl with | [_, _], _ => rfl) (fun vs H Q E h => h.len 2) (fun cdv A outer s H vs Q E hr h => ⟨_, (pss_one (ps_ret (pe_def (ok__law_least T) hr (by decide) passX (pa_cons (pe_op op_mulE (pe_ix ix_tup (pv 0) pe_int (fun _ _ => rfl)) (pe_ix ix_tup (pv 1) pe_int (fun _ _ => rfl))) (pa_cons (pe_op op_mulE (pe_ix ix_tup (pv 0) pe_int (fun _ _ => rfl)) (pe_ix ix_tup (pv 1) pe_int (fun _ _ => rfl))) pa_nil))))), ?_⟩)
  obtain ⟨⟨p, q⟩, ha, ⟨hp, hq⟩, k⟩ := h
  dsimp only at ha hp hq k
  obtain ⟨x, y, rfl, hx, hy⟩ := all2 ha
  have vx := ev_var (W := W) (σ := start ["_law_one", "_law_other"] [x, y]) (i := 0) rfl hx
  have vy := ev_var (W := W) (σ := start ["_law_one", "_law_other"] [x, y]) (i := 1) rfl hy
  rw [← mul_eq] at k
  exact st_ret (ev_call (W := W) (_, _) (ea_cons (ev_mulE (ev_num vx) (ev_num vy) (cmul hp.n hq.n)) (ea_cons (ev_mulE (ev_den vx) (ev_den vy) (cmul hp.dn hq.dn)) ea_nil)) ⟨Int.mul_ne_zero (den_ne p) (den_ne q), den_lt hp hq⟩) k
theorem ok__law_under (T : Txt W mg base h₀) : DefOk P w W.K mg base "_law_under" 1 ["_law_one", "_law_other"] (sp__law_under W) := by
  refine mk_def T.def__law_under T.g__law_under sc__law_under (fun _ _ _ _ _ _ us hl => match us, hl with | [_, _], _ => rfl) (fun vs H Q E h => h.len 2) (fun cdv A outer s H vs Q E hr h => ⟨_, (pss_one (ps_ret (pe_cmpR op_lt (pe_op op_sub (pe_op op_mulE (pe_ix ix_tup (pv 0) pe_int (fun _ _ => rfl)) (pe_ix ix_tup (pv 1) pe_int (fun _ _ => rfl))) (pe_op op_mulE (pe_ix ix_tup (pv 1) pe_int (fun _ _ => rfl)) (pe_ix ix_tup (pv 0) pe_int (fun _ _ => rfl)))) pe_int (nomark _)))), ?_⟩)
  obtain ⟨⟨p, q⟩, ha, ⟨hp, hq⟩, k⟩ := h
  dsimp only at ha hp hq k
  obtain ⟨x, y, rfl, hx, hy⟩ := all2 ha
  have vx := ev_var (W := W) (σ := start ["_law_one", "_law_other"] [x, y]) (i := 0) rfl hx
  have vy := ev_var (W := W) (σ := start ["_law_one", "_law_other"] [x, y]) (i := 1) rfl hy
  rw [← lt_dec2] at k
  exact st_ret (ev_lt (ev_sub (ev_mulE (ev_num vx) (ev_den vy) (cmul hp.n hq.dn)) (ev_mulE (ev_num vy) (ev_den vx) (cmul hq.n hp.dn))) ev_int) k
end
end QT

namespace QT
open PySem PySem.Spec PyProof.Rows L2 QM
/-! ### (a, b, ..).count(True) of truths -/
def tTCount (t : TA) : TE := fun σ H Q => t σ H fun xs H1 => ∃ bs : List Bool, xs = bs.map .bl ∧ bs.length ≤ 1000 ∧ Q (.int ((bs.countP fun b => b == true : Nat) : Int)) H1
theorem plain_bls : ∀ bs : List Bool, PyData.plainAll (bs.map .bool) = true
  | [] => rfl
  | _ :: r => plain_bls r
theorem depth_bls : ∀ bs : List Bool, PyData.depthAll (bs.map .bool) = 0
  | [] => rfl
  | _ :: r => by
    show max (PyData.depth (.bool _)) (PyData.depthAll (r.map .bool)) = 0
    rw [depth_bls r]
    rfl
theorem reads_bls (h : Heap) : ∀ bs : List Bool, ReadsAll h (bs.map Value.bool) (bs.map .bool) []
  | [] => .nil
  | b :: r => ReadsAll.cons (as := []) (bs := []) (.bool b) (reads_bls h r)
theorem pe_tcount {X : Cx} {es : List Expr} {x1 j : Nat} {p apos p2 cpos : Pos} {t : TA} {n : Nat} (hr : Room n X.A) (ha : PA X es t)
    (hbase : attributeBase (.Tuple es x1 p) "count" X.env (eval (.Tuple es x1 p) X.env) = eval (.Tuple es x1 p) X.env := by rfl)
    (hline : (apos.endLine == cpos.line) = true := by rfl) : PE X (.Call (.Attribute (.Tuple es x1 p) "count" apos) [.Constant (.bool true) j p2] [] cpos) (tTCount t) := by
  refine ⟨fun pins s σ H Q I h => ?_⟩
  refine wpAny_Call_method_late hbase rfl hline rfl (wpAny_Tuple_spliced (thn (ha.run p pins s σ H _ I h) fun us s1 ⟨xs, H1, I1, r, bs, eb, hl, q⟩ => ?_))
  subst eb
  have eu := r.bls
  subst eu
  have hz : (bs.map Value.bool).length ≤ sizeLine := by rw [List.length_map]; exact sz_of (by omega)
  have g := Heap.get?_push_size s1.heap (o := ({ cls := .type "tuple", data := .seq (bs.map Value.bool).toArray } : Obj)) rfl
  refine ⟨hz, "tuple", _, PySem.F.plainAttrs_tuple, PySem.F.slot_tuple_count, PySem.F.type_tuple_count, ⟨_, g, rfl⟩, fun a e => ?_, ?_⟩
  · cases e
    exact ⟨_, g, rfl⟩
  refine Calls.callWith_builtin rfl (Calls.evalArgs_plain ?_)
  have I2 : Inv X pins σ H1 { s1 with heap := s1.heap.push { cls := .type "tuple", data := .seq (bs.map Value.bool).toArray } } := I1.kept (t' := s1.toks) fun b u e => Heap.get?_push_of_some _ e
  have I3 := I2.pins_of (pins' := (s1.heap.objs.size, ({ cls := .type "tuple", data := .seq (bs.map Value.bool).toArray } : Obj)) :: pins) fun q hq => by
    rcases List.mem_cons.mp hq with rfl | hq
    · exact ⟨g, I1.hok.fresh (Nat.le_refl _), Ne.symm (Nat.ne_of_lt I1.lt), I1.nofs (Nat.le_refl _), fun v z => nomatch z⟩
    · exact I2.pin q (List.mem_append_right _ hq)
  refine thn ((pa_cons (pe_bl (b := true) (j := j) (pos := p2)) (pa_nil (X := X))).run cpos _ _ σ H1 (fun vs H2 => vs = [.bl true] ∧ H2 = H1) I3 ⟨rfl, rfl⟩) fun us s2 ⟨vs, H2, I4, r3, ev, eH⟩ => ?_
  subst ev
  subst eH
  obtain ⟨u, rfl, rx⟩ := vals1 r3
  cases rx
  obtain ⟨g2, _⟩ := I4.pin (s1.heap.objs.size, _) (List.mem_append_right _ List.mem_cons_self)
  have hu := hr.units
  refine SeqAt.count_tuple_data (vs := (bs.map Value.bool).toArray) (xs := bs.map PyData.bool) (d := .bool true) ⟨_, g2, rfl, _, rfl⟩ (reads_bls _ bs) (.bool true) (plain_bls bs) rfl (by rw [depth_bls]; omega) ?_
  rw [List.countP_map]
  exact ⟨.int _, H2, (I4.pins_of fun q hq => I4.pin q (List.mem_append_right _ (List.mem_cons_of_mem _ hq))).tok _, ⟨_, rfl⟩, q⟩
section
variable {W : Wd} {σ : L2.St} {H : Hp} {tr : TA}
theorem ev_tcount {bs : List Bool} (h : EvA W tr σ H (bs.map fun b => .d (.bool b))) (hl : bs.length ≤ 1000) : Ev W (tTCount tr) σ H (.d (.int ((bs.countP fun b => b == true : Nat) : Int))) := fun H1 e Q q =>
  h H1 e _ fun xs H2 e2 k2 => by
    refine ⟨bs, ?_, hl, q _ H2 e2 (.int _)⟩
    have go : ∀ (xs : List V) (bs : List Bool), IsAll W H2 xs (bs.map fun b => .d (.bool b)) → xs = bs.map .bl := by
      intro xs
      induction xs with
      | nil =>
        intro bs k
        cases bs with
        | nil => rfl
        | cons _ _ => exact k.elim
      | cons x r ih =>
        intro bs k
        cases bs with
        | nil => exact k.elim
        | cons b bs => rw [bl_of k.1, ih bs k.2]; rfl
    exact go xs bs k2
end
end QT
namespace QT
open PySem PySem.Spec PyProof.Rows L2 QM
/-! ### the law -/
def numb (m : Int) : Int := if m % 4 = 0 then m / 8 % 13 else if m % 4 = 1 then 0 - m / 8 % 9 else if m % 4 = 2 then m / 8 % 5000 else 0 - m / 8 % 1000000000000
theorem numb_lt (m : Int) : (numb m).natAbs < 2 ^ 40 := by
  have h1 := Int.emod_nonneg (m / 8) (b := 13) (by decide)
  have h2 := Int.emod_lt_of_pos (m / 8) (b := 13) (by decide)
  have h3 := Int.emod_nonneg (m / 8) (b := 9) (by decide)
  have h4 := Int.emod_lt_of_pos (m / 8) (b := 9) (by decide)
  have h5 := Int.emod_nonneg (m / 8) (b := 5000) (by decide)
  have h6 := Int.emod_lt_of_pos (m / 8) (b := 5000) (by decide)
  have h7 := Int.emod_nonneg (m / 8) (b := 1000000000000) (by decide)
  have h8 := Int.emod_lt_of_pos (m / 8) (b := 1000000000000) (by decide)
  simp only [Nat.reducePow]
  unfold numb
  split
  · omega
  · split
    · omega
    · split <;> omega
theorem noL_frs : ∀ ps : List Rat, noLAll (ps.map frD) = true
  | [] => rfl
  | _ :: r => noL_frs r
section
variable (W : Wd)
abbrev sp__law_number : Sp := Pr W (I := Int) (fun i => [.d (.int i)]) (fun _ => True) fun i => .d (.int (numb i))
abbrev sp_law : Sp := Pr W (I := List Int) (fun ns => [.d (.list (ns.map .int))]) (fun ns => ns.length ≤ 63) fun _ => .d (.bool true)
end
section
variable {P : Program} {w : World} {W : Wd} {mg : Str → Option Value} {base h₀ : Heap}
theorem ok__law_number (T : Txt W mg base h₀) : DefOk P w W.K mg base "_law_number" 1 ["_law_more"] (sp__law_number W) := by
  refine mk_def T.def__law_number T.g__law_number sc__law_number (fun _ _ _ _ _ _ us hl => match us, hl with | [_], _ => rfl) (fun vs H Q E h => h.len 1) (fun cdv A outer s H vs Q E hr h => ⟨_, (pss_one (ps_ret (pe_ix ix_list (pe_lst (pa_cons (pe_op op_mod (pe_op op_fdivW (pv 0) pe_int) pe_int) (pa_cons (pe_op op_sub pe_int (pe_op op_mod (pe_op op_fdivW (pv 0) pe_int) pe_int)) (pa_cons (pe_op op_mod (pe_op op_fdivW (pv 0) pe_int) pe_int) (pa_cons (pe_op op_sub pe_int (pe_op op_mod (pe_op op_fdivW (pv 0) pe_int) (pe_op op_pow pe_int pe_int))) pa_nil))))) (pe_op op_mod (pv 0) pe_int) (fun _ _ => rfl)))), ?_⟩)
  obtain ⟨m, ha, _, k⟩ := h
  dsimp only at ha k
  obtain ⟨x, rfl, hx⟩ := all1 ha
  cases int_of hx
  have v : Ev W (tVar 0) (start ["_law_more"] [V.int m]) H (.d (.int m)) := ev_var rfl is_int
  have d8 := ev_div v ev_int (wide_div (i := m) (j := 8) (b := 4) (by decide) (by decide) (by decide) (by decide))
  have l := ev_lst (W := W) (ds := [.int (m / 8 % 13), .int (0 - m / 8 % 9), .int (m / 8 % 5000), .int (0 - m / 8 % (10 ^ (12 : Int).toNat))])
    (ea_cons (ev_mod d8 ev_int (by decide)) (ea_cons (ev_sub ev_int (ev_mod d8 ev_int (by decide))) (ea_cons (ev_mod d8 ev_int (by decide)) (ea_cons (ev_sub ev_int (ev_mod d8 (ev_pow ev_int ev_int ⟨by decide, by decide, by decide⟩) (by decide))) ea_nil)))) (by show 4 ≤ 100000; decide)
  have h1 := Int.emod_nonneg m (b := 4) (by decide)
  have h2 := Int.emod_lt_of_pos m (b := 4) (by decide)
  refine st_ret (ev_ixL l (ev_mod v ev_int (by decide)) (d := .int (numb m)) ?_) k
  unfold numb
  rcases (by omega : m % 4 = 0 ∨ m % 4 = 1 ∨ m % 4 = 2 ∨ m % 4 = 3) with h | h | h | h <;> rw [h] <;> rfl
/-- how many cells are looked at -/
theorem cells_of (m : Int) (l : Nat) (h0 : 1 ≤ m) (h1 : m < 10) : ∃ n : Nat, max 1 (min m (l : Int)) = (n : Int) ∧ 1 ≤ n ∧ n < 10 := ⟨(max 1 (min m (l : Int))).toNat, by omega, by omega, by omega⟩
theorem ok_law (T : Txt W mg base h₀) : DefOk P w W.K mg base "law" 6 ["_law_script"] (sp_law W) := by
  refine mk_def T.def_law T.g_law sc_law (fun _ _ _ _ _ _ us hl => match us, hl with | [_], _ => rfl) (fun vs H Q E h => h.len 1) (fun cdv A outer s H vs Q E hr h => ⟨_, (pss_cons (ps_for ownX rfl (pi_range1 rfl T.no_range (pa_cons (pe_callB (call_max2S rfl) (by rfl) T.no_max (by decide +kernel) (pa_cons pe_int (pa_cons (pe_callB (call_min2S rfl) (by rfl) T.no_min (by decide +kernel) (pa_cons pe_int (pa_cons (pe_callB call_lenS (by rfl) T.no_len (by decide +kernel) (pa_cons (pv 0) pa_nil)) pa_nil))) pa_nil))) pa_nil)) (pg_name (i := 1) sc_law.nd rfl (.inl rfl)) (pss_cons (ps_set (i := 2) sc_law.nd rfl (.inl rfl) (pe_def (ok__law_drawn T) hr (by decide) passX (pa_cons (pe_def (ok__law_cell T) hr (by decide) passX (pa_cons (pv 0) (pa_cons (pv 1) pa_nil))) (pa_cons (pv 1) pa_nil)))) (pss_cons (ps_set (i := 3) sc_law.nd rfl (.inl rfl) (pe_lst pa_nil)) (pss_cons (ps_for ownX rfl (pi_range1 rfl T.no_range (pa_cons pe_int pa_nil)) (pg_name (i := 4) sc_law.nd rfl (.inl rfl)) (pss_cons (ps_set (i := 5) sc_law.nd rfl (.inl rfl) (pe_def (ok__law_drawn T) hr (by decide) passX (pa_cons (pv 2) (pa_cons (pv 4) pa_nil)))) (pss_cons (ps_par (i := 6) (j := 7) rfl sc_law.nd rfl rfl (by decide) rfl rfl (pa_cons (pe_def (ok__law_number T) hr (by decide) passX (pa_cons (pv 5) pa_nil)) (pa_cons (pe_def (ok__law_number T) hr (by decide) passX (pa_cons (pe_op op_fdivW (pv 5) (pe_op op_pow pe_int pe_int)) pa_nil)) pa_nil)) (by rfl)) (pss_cons (ps_set (i := 7) sc_law.nd rfl (.inl rfl) (pe_ifExp (pt_cmpR (op_neD hr.units) (pv 7) pe_int (nomark _)) (pv 7) pe_int)) (pss_cons (ps_set (i := 8) sc_law.nd rfl (.inl rfl) (pe_def (ok_fraction T) hr (by decide) passX (pa_cons (pv 6) (pa_cons (pv 7) pa_nil)))) (pss_cons (ps_if (PW.pt (pw_or (pt_cmpR (op_neD hr.units) (pv 8) (pe_def (ok__law_least T) hr (by decide) passX (pa_cons (pv 6) (pa_cons (pv 7) pa_nil))) (nomark _)) (pw_or1 (pt_cmpR op_notN' (pe_def (ok_need_fraction T) hr (by decide) passX (pa_cons (pv 8) pa_nil)) pe_non (nomark _))))) (pss_one (ps_ret pe_bl)) pss_nil) (pss_one (ps_expr (pe_bm PySem.F.plainAttrs_list PySem.F.slot_list_append PySem.F.type_list_append mt_append (pv 3) (pa_cons (pv 8) pa_nil)))))))))) (pss_cons (ps_asg (pv 3) (pg_lst rfl (pgs_cons (pg_name (i := 9) sc_law.nd rfl (.inl rfl)) (pgs_cons (pg_name (i := 10) sc_law.nd rfl (.inl rfl)) (pgs_cons (pg_name (i := 11) sc_law.nd rfl (.inl rfl)) pgs_nil))))) (pss_cons (ps_if (PW.pt (pw_or (pt_cmpR (op_neD hr.units) (pe_def (ok_plus T) hr (by decide) passX (pa_cons (pv 9) (pa_cons (pv 10) pa_nil))) (pe_def (ok__law_sum T) hr (by decide) passX (pa_cons (pv 9) (pa_cons (pv 10) (pa_cons pe_int pa_nil)))) (nomark _)) (pw_or (pt_cmpR (op_neD hr.units) (pe_def (ok_less T) hr (by decide) passX (pa_cons (pv 9) (pa_cons (pv 10) pa_nil))) (pe_def (ok__law_sum T) hr (by decide) passX (pa_cons (pv 9) (pa_cons (pv 10) (pa_cons (pe_un un_neg pe_int) pa_nil)))) (nomark _)) (pw_or1 (pt_cmpR (op_neD hr.units) (pe_def (ok_times T) hr (by decide) passX (pa_cons (pv 9) (pa_cons (pv 10) pa_nil))) (pe_def (ok__law_product T) hr (by decide) passX (pa_cons (pv 9) (pa_cons (pv 10) pa_nil))) (nomark _)))))) (pss_one (ps_ret pe_bl)) pss_nil) (pss_cons (ps_if (PW.pt (pw_or (pt_cmpR (op_neD hr.units) (pe_def (ok_before T) hr (by decide) passX (pa_cons (pv 9) (pa_cons (pv 10) pa_nil))) (pe_def (ok__law_under T) hr (by decide) passX (pa_cons (pv 9) (pa_cons (pv 10) pa_nil))) (nomark _)) (pw_or1 (pt_cmpR (op_neD hr.units) (pe_def (ok_whole T) hr (by decide) passX (pa_cons (pv 9) pa_nil)) (pe_op op_fdivW (pe_op op_sub (pe_ix ix_tup (pv 9) pe_int (fun _ _ => rfl)) (pe_op op_mod (pe_ix ix_tup (pv 9) pe_int (fun _ _ => rfl)) (pe_ix ix_tup (pv 9) pe_int (fun _ _ => rfl)))) (pe_ix ix_tup (pv 9) pe_int (fun _ _ => rfl))) (nomark _))))) (pss_one (ps_ret pe_bl)) pss_nil) (pss_cons (ps_if (PW.pt (pw_or (pt_cmpR (op_neD hr.units) (pe_def (ok_plus T) hr (by decide) passX (pa_cons (pe_def (ok_plus T) hr (by decide) passX (pa_cons (pv 9) (pa_cons (pv 10) pa_nil))) (pa_cons (pv 11) pa_nil))) (pe_def (ok_plus T) hr (by decide) passX (pa_cons (pv 9) (pa_cons (pe_def (ok_plus T) hr (by decide) passX (pa_cons (pv 11) (pa_cons (pv 10) pa_nil))) pa_nil))) (nomark _)) (pw_or1 (pt_cmpR (op_neD hr.units) (pe_def (ok_times T) hr (by decide) passX (pa_cons (pv 9) (pa_cons (pe_def (ok_plus T) hr (by decide) passX (pa_cons (pv 10) (pa_cons (pv 11) pa_nil))) pa_nil))) (pe_def (ok_plus T) hr (by decide) passX (pa_cons (pe_def (ok_times T) hr (by decide) passX (pa_cons (pv 9) (pa_cons (pv 10) pa_nil))) (pa_cons (pe_def (ok_times T) hr (by decide) passX (pa_cons (pv 11) (pa_cons (pv 9) pa_nil))) pa_nil))) (nomark _))))) (pss_one (ps_ret pe_bl)) pss_nil) (pss_cons (ps_if (PW.pt (pw_or (pt_cmpR (op_neD hr.units) (pe_def (ok_less T) hr (by decide) passX (pa_cons (pe_def (ok_plus T) hr (by decide) passX (pa_cons (pv 9) (pa_cons (pv 10) pa_nil))) (pa_cons (pv 10) pa_nil))) (pv 9) (nomark _)) (pw_or (pt_cmpR (op_neD hr.units) (pe_def (ok_less T) hr (by decide) passX (pa_cons (pv 9) (pa_cons (pv 9) pa_nil))) (pe_tup (pa_cons pe_int (pa_cons pe_int pa_nil))) (nomark _)) (pw_or1 (pt_val (pe_def (ok_before T) hr (by decide) passX (pa_cons (pv 9) (pa_cons (pv 9) pa_nil)))))))) (pss_one (ps_ret pe_bl)) pss_nil) (pss_cons (ps_if (PW.pt (pw_and (pt_cmpR (op_neD hr.units) (pe_ix ix_tup (pv 10) pe_int (fun _ _ => rfl)) pe_int (nomark _)) (pw_and1 (pt_cmpR (op_neD hr.units) (pe_def (ok_by T) hr (by decide) passX (pa_cons (pe_def (ok_times T) hr (by decide) passX (pa_cons (pv 9) (pa_cons (pv 10) pa_nil))) (pa_cons (pv 10) pa_nil))) (pv 9) (nomark _))))) (pss_one (ps_ret pe_bl)) pss_nil) (pss_cons (ps_if (PW.pt (pw_and (pt_cmpR (op_neD hr.units) (pe_ix ix_tup (pv 10) pe_int (fun _ _ => rfl)) pe_int (nomark _)) (pw_and1 (pt_cmpR (op_neD hr.units) (pe_def (ok_by T) hr (by decide) passX (pa_cons (pv 9) (pa_cons (pv 10) pa_nil))) (pe_def (ok__law_least T) hr (by decide) passX (pa_cons (pe_op op_mulE (pe_ix ix_tup (pv 9) pe_int (fun _ _ => rfl)) (pe_ix ix_tup (pv 10) pe_int (fun _ _ => rfl))) (pa_cons (pe_op op_mulE (pe_ix ix_tup (pv 9) pe_int (fun _ _ => rfl)) (pe_ix ix_tup (pv 10) pe_int (fun _ _ => rfl))) pa_nil))) (nomark _))))) (pss_one (ps_ret pe_bl)) pss_nil) (pss_cons (ps_if (PW.pt (pw_and (pt_val (pe_def (ok_before T) hr (by decide) passX (pa_cons (pv 9) (pa_cons (pv 10) pa_nil)))) (pw_and1 (pt_not (pt_val (pe_def (ok_before T) hr (by decide) passX (pa_cons (pe_def (ok_plus T) hr (by decide) passX (pa_cons (pv 9) (pa_cons (pv 11) pa_nil))) (pa_cons (pe_def (ok_plus T) hr (by decide) passX (pa_cons (pv 10) (pa_cons (pv 11) pa_nil))) pa_nil)))))))) (pss_one (ps_ret pe_bl)) pss_nil) (pss_one (ps_if (pt_cmpR (op_neD hr.units) (pe_tcount hr (pa_cons (pe_def (ok_before T) hr (by decide) passX (pa_cons (pv 9) (pa_cons (pv 10) pa_nil))) (pa_cons (pe_def (ok_before T) hr (by decide) passX (pa_cons (pv 10) (pa_cons (pv 9) pa_nil))) pa_nil))) (pe_callTy call_int1S (by rfl) T.no_int (by decide +kernel) (pa_cons (pe_cmpR (op_neD hr.units) (pv 9) (pv 10) (nomark _)) pa_nil)) (nomark _)) (pss_one (ps_ret pe_bl)) pss_nil)))))))))))))) (pss_one (ps_ret pe_bl))), ?_⟩)
  obtain ⟨ns, ha, hns, k⟩ := h
  dsimp only at ha hns k
  obtain ⟨x, rfl, hx⟩ := all1 ha
  obtain ⟨n, hn, _, hn10⟩ := cells_of 5 ns.length (by decide) (by decide)
  have vs : ∀ {σ : L2.St} {H'}, Ex W H H' → σ[0]? = some (some x) → Ev W (tVar 0) σ H' (.d (.list (ns.map .int))) := fun e h => ev_var h (hx.ex e)
  have hrng := ea_cons (W := W) (ev_max2 (ev_int (i := 1)) (ev_min2 (ev_int (i := 5)) (ev_lenL (vs (σ := start ["_law_script", "_law_k", "_law_more", "_law_some", "_law_j", "_law_here", "_law_above", "_law_below", "_law_one", "_law_a", "_law_b", "_law_c"] [x]) (Ex.refl H) rfl)))) ea_nil
  rw [List.length_map, hn] at hrng
  refine sq_forR hrng (by omega) (fun _ σ H' => ∃ a1 a2 a3 a4 a5 a6 a7 a8 a9 a10 a11 : Option V, σ = [some x, a1, a2, a3, a4, a5, a6, a7, a8, a9, a10, a11] ∧ Ex W H H') (fun H' e => ⟨_, _, _, _, _, _, _, _, _, _, _, rfl, e⟩) ?_ fun σ H' ⟨_, _, _, _, _, _, _, _, _, _, _, _, e⟩ => st_ret (W := W) ev_bl fun y H2 e2 hy => k y H2 (e.trans e2) hy
  rintro i σ H1 hi ⟨_, _, a3, a4, a5, a6, a7, a8, a9, a10, a11, rfl, e1⟩
  refine sq_set (W := W) (ev_drawn (ev_cell (vs e1 rfl) (ev_var rfl is_int) hns (by omega)) (ev_var rfl is_int)) fun y H2 e2 hy => ?_
  cases int_of hy
  generalize drawn (cell ns i) i = M
  refine sq_nil (W := W) fun l H3 e3 hl0 hl => ?_
  have e03 := e1.trans (e2.trans e3)
  have nl : New H l := New.back (e1.trans e2) (New.of hl0)
  refine sq_forR (n := 3) (ea_cons (W := W) (ev_int (i := 3)) ea_nil) (by decide) (fun j σ H' => ∃ (a4 a5 a6 a7 a8 : Option V) (ps : List Rat) (vs : List V), σ = [some x, some (.int (i : Int)), some (.int M), some (.ref l), a4, a5, a6, a7, a8, a9, a10, a11] ∧ Ex W H H' ∧ H' l = some (.lst vs) ∧ DpAll W.K H' vs (ps.map frD) ∧ ps.length = j ∧ ∀ p ∈ ps, Sz 40 p)
    (fun H' e => ⟨_, _, _, _, _, [], [], rfl, e03.trans e, e.at hl, .nil, rfl, fun _ h => nomatch h⟩) ?_ ?_
  · rintro j σ H4 hj ⟨_, a5, a6, a7, a8, ps, us, rfl, e4, hL, hD, hlen, hsz⟩
    refine sq_set (W := W) (ev_drawn (ev_var rfl is_int) (ev_var rfl is_int)) fun y H5 e5 hy => ?_
    cases int_of hy
    generalize drawn M j = N
    refine sq_par (W := W) (ea_cons (ev_call N (ea_cons (ev_var rfl is_int) ea_nil) trivial) (ea_cons (ev_call (N / 2 ^ (20 : Int).toNat) (ea_cons (ev_div (ev_var rfl is_int) (ev_pow ev_int ev_int ⟨by decide, by decide, by decide⟩) (wide_div (b := 21) (by decide) (by decide) (by decide) (by decide))) ea_nil) trivial) ea_nil)) fun y z H6 e6 hy hz => ?_
    cases int_of hy
    cases int_of hz
    have hA := numb_lt N
    have hB := numb_lt (N / 2 ^ (20 : Int).toNat)
    generalize numb N = A at hA
    generalize numb (N / 2 ^ (20 : Int).toNat) = B0 at hB
    refine sq_set (W := W) (ev_if (a := .d (.int (if B0 = 0 then 7 else B0))) (et_test (ev_neI (ev_var rfl is_int) ev_int)) (fun h => ?_) fun h => ?_) fun y H7 e7 hy => ?_
    · rw [if_neg (by simpa using h)]; exact ev_var rfl is_int
    · rw [if_pos (by simpa using h)]; exact ev_int
    cases int_of hy
    have hB2 : (if B0 = 0 then 7 else B0).natAbs < 2 ^ 40 := by
      split
      · decide
      · exact hB
    have hB0 : (if B0 = 0 then 7 else B0) ≠ 0 := by
      split
      · decide
      · assumption
    generalize (if B0 = 0 then 7 else B0) = Bl at hB2 hB0
    have hB9 : Bl.natAbs < 2 ^ 9000 := mono_lt hB2 (by decide)
    refine sq_set (W := W) (ev_fraction (ev_var rfl is_int) (ev_var rfl is_int) hB0 hB9) fun y H8 e8 hy => ?_
    have sz : Sz 40 ((A : Rat) / (Bl : Rat)) := .div hB0 hA hB2
    have e48 := e5.trans (e6.trans (e7.trans e8))
    refine sq_no (W := W) (EvB.to (et_or (et_test (ev_neF (ev_var rfl hy) (ev_least (ev_var rfl is_int) (ev_var rfl is_int) hB0 hB9))) fun _ => et_test (ev_notN (ev_need_fraction (ev_var rfl hy)))) (by simp [isNon])) fun H9 e9 => ?_
    refine st_append (W := W) (ev_var rfl rfl) ((e48.trans e9).at hL) ?_ (ev_var rfl (hy.ex e9)) fun y2 H10 e10 hy2 => ?_
    · have := DpAll.len hD
      rw [List.length_map] at this
      omega
    have e410 := (e48.trans e9).trans e10
    refine ⟨_, _, _, _, _, ps ++ [(A : Rat) / (Bl : Rat)], _, rfl, (e4.trans e410).mut nl (e410.at hL) trivial, upd_same, ?_, by simp [hlen], fun p hp => ?_⟩
    · rw [List.map_append]
      exact dpAll_mut (e410.at hL) trivial (QT.DpAll.app (dpAll_ex e410 hD) hy2) (by rw [← List.map_append]; exact noL_frs _)
    · rcases List.mem_append.mp hp with hp | hp
      · exact hsz p hp
      · rw [List.mem_singleton.mp hp]
        exact sz
  · rintro σ H4 ⟨a4, a5, a6, a7, a8, ps, us, rfl, e4, hL, hD, hlen, hsz⟩
    obtain ⟨p, q, r, rfl⟩ : ∃ p q r, ps = [p, q, r] := by
      match ps, hlen with
      | [p, q, r], _ => exact ⟨p, q, r, rfl⟩
    obtain ⟨u1, u2, u3, rfl⟩ : ∃ u1 u2 u3, us = [u1, u2, u3] := by
      match us, DpAll.len hD with
      | [u1, u2, u3], _ => exact ⟨u1, u2, u3, rfl⟩
    obtain ⟨hp, hq, hr'⟩ : Dp W.K H4 u1 (frD p) ∧ Dp W.K H4 u2 (frD q) ∧ Dp W.K H4 u3 (frD r) := by
      cases hD with
      | cons hp hD =>
        cases hD with
        | cons hq hD =>
          cases hD with
          | cons hr' hD => exact ⟨hp, hq, hr'⟩
    have sp := hsz p (by simp)
    have sq := hsz q (by simp)
    have sr := hsz r (by simp)
    have op := Ok.of sp (by decide)
    have oq := Ok.of sq (by decide)
    have or := Ok.of sr (by decide)
    refine ⟨_, rfl, l, _, rfl, SqL.of hL, rfl, _, _, rfl, _, _, rfl, _, _, rfl, rfl, ?_⟩
    have va : ∀ {H'}, Ex W H4 H' → Ev W (tVar 9) [some x, some (.int (i : Int)), some (.int M), some (.ref l), a4, a5, a6, a7, a8, some u1, some u2, some u3] H' (.d (frD p)) := fun e => ev_var rfl (Is.ex e (show Is W H4 u1 (.d (frD p)) from hp))
    have vb : ∀ {H'}, Ex W H4 H' → Ev W (tVar 10) [some x, some (.int (i : Int)), some (.int M), some (.ref l), a4, a5, a6, a7, a8, some u1, some u2, some u3] H' (.d (frD q)) := fun e => ev_var rfl (Is.ex e (show Is W H4 u2 (.d (frD q)) from hq))
    have vc : ∀ {H'}, Ex W H4 H' → Ev W (tVar 11) [some x, some (.int (i : Int)), some (.int M), some (.ref l), a4, a5, a6, a7, a8, some u1, some u2, some u3] H' (.d (frD r)) := fun e => ev_var rfl (Is.ex e (show Is W H4 u3 (.d (frD r)) from hr'))
    have t1 := Ok.of (sp.add sq) (by decide)
    have t2 := Ok.of (sq.add sr) (by decide)
    have t3 := Ok.of (sp.mul sq) (by decide)
    have t4 := Ok.of (sr.mul sp) (by decide)
    have t5 := Ok.of (sp.add sr) (by decide)
    have t6 := Ok.of (sr.add sq) (by decide)
    have z0 := Ex.refl (W := W) H4
    dsimp only
    refine sq_no (W := W) (EvB.to (et_or (et_test (ev_neF (ev_x2 (va z0) (vb z0) op oq) (ev_sum (va z0) (vb z0) ev_int op oq))) fun _ => et_or (et_test (ev_neF (ev_x2 (va z0) (vb z0) op oq) (ev_dif (va z0) (vb z0) (ev_neg ev_int) op oq))) fun _ =>
      et_test (ev_neF (ev_x2 (va z0) (vb z0) op oq) (ev_q2 (va z0) (vb z0) op oq))) (by simp)) fun H5 z1 => ?_
    refine sq_no (W := W) (EvB.to (et_or (et_test (ev_ne (ev_x2 (va z1) (vb z1) op oq) (ev_q2 (va z1) (vb z1) op oq) rfl rfl)) fun _ => et_test (ev_neI (ev_whole (va z1) op) (ev_div (ev_sub (ev_num (va z1)) (ev_mod (ev_num (va z1)) (ev_den (va z1)) ?_)) (ev_den (va z1)) ?_))) ?_) fun H6 z2 => ?_
    · have := p.den_pos; omega
    · exact wide_div (b := B) (by have := p.den_pos; omega) op.dn B_pos (by unfold B; decide)
    · have h0 : (p.den : Int) ≠ 0 := den_ne p
      have e : (p.num - p.num % (p.den : Int)) / (p.den : Int) = p.num / (p.den : Int) := by
        have := Int.mul_ediv_add_emod p.num (p.den : Int)
        have e2 : p.num - p.num % (p.den : Int) = (p.den : Int) * (p.num / (p.den : Int)) := by omega
        rw [e2, Int.mul_ediv_cancel_left _ h0]
      rw [e]
      simp [PyData.eqv]
    have z2 := z1.trans z2
    refine sq_no (W := W) (EvB.to (et_or (et_test (ev_neF (ev_x2 (ev_x2 (va z2) (vb z2) op oq) (vc z2) t1 or) (ev_x2 (va z2) (ev_x2 (vc z2) (vb z2) or oq) op t6))) fun _ =>
      et_test (ev_neF (ev_x2 (va z2) (ev_x2 (vb z2) (vc z2) oq or) op t2) (ev_x2 (ev_x2 (va z2) (vb z2) op oq) (ev_x2 (vc z2) (va z2) or op) t3 t4))) ?_) fun H7 z3 => ?_
    · have h1 : p + q + r = p + (r + q) := by grind
      have h2 : p * (q + r) = p * q + r * p := by grind
      rw [h1, h2]
      simp
    have z3 := z2.trans z3
    have fr0 : Ev W (tTup (tCons (tC (.int 0)) (tCons (tC (.int 1)) tNil))) [some x, some (.int (i : Int)), some (.int M), some (.ref l), a4, a5, a6, a7, a8, some u1, some u2, some u3] H7 (.d (frD 0)) := ev_tup (ds := [.int 0, .int 1]) (ea_cons ev_int (ea_cons ev_int ea_nil)) (by show 2 ≤ 100000; decide)
    refine sq_no (W := W) (EvB.to (et_or (et_test (ev_neF (ev_x2 (ev_x2 (va z3) (vb z3) op oq) (vb z3) t1 oq) (va z3))) fun _ => et_or (et_test (ev_neF (ev_x2 (va z3) (va z3) op op) fr0)) fun _ => et_B (ev_x2 (va z3) (va z3) op op)) ?_) fun H8 z4 => ?_
    · have h1 : p + q - q = p := by grind
      have h2 : p - p = 0 := by grind
      rw [h1, h2]
      simp [Rat.lt_irrefl]
    have z4 := z3.trans z4
    have hq0 : (!decide (q.num = 0)) = true → q ≠ 0 := fun h e => by subst e; simp at h
    refine sq_no (W := W) (EvB.to (et_and (et_test (ev_neI (ev_num (vb z4)) ev_int)) fun h => et_test (ev_neF (ev_by (ev_x2 (va z4) (vb z4) op oq) (vb z4) t3 oq (hq0 h)) (va z4))) ?_) fun H9 z5 => ?_
    · by_cases h0 : q = 0
      · subst h0; simp
      · have h1 : p * q / q = p := by grind
        rw [h1]; simp
    have z5 := z4.trans z5
    refine sq_no (W := W) (EvB.to (et_and (et_test (ev_neI (ev_num (vb z5)) ev_int)) fun h => et_test (ev_neF (ev_by (va z5) (vb z5) op oq (hq0 h)) (ev_least (ev_mulE (ev_num (va z5)) (ev_den (vb z5)) (cmul op.n oq.dn)) (ev_mulE (ev_den (va z5)) (ev_num (vb z5)) (cmul op.dn oq.n)) (Int.mul_ne_zero (den_ne p) (num_ne (hq0 h))) (num_lt op oq)))) ?_) fun H10 z6 => ?_
    · by_cases h0 : q = 0
      · subst h0; simp
      · rw [div_eq p q h0]; simp
    have z6 := z5.trans z6
    refine sq_no (W := W) (EvB.to (et_and (et_B (ev_x2 (va z6) (vb z6) op oq)) fun h => et_not (et_B (ev_x2 (ev_x2 (va z6) (vc z6) op or) (ev_x2 (vb z6) (vc z6) oq or) t5 t2))) ?_) fun H11 z7 => ?_
    · by_cases h0 : p < q
      · have h1 : p + r < q + r := by grind
        simp [h1]
      · simp [h0]
    have z7 := z6.trans z7
    refine st_no (W := W) (EvB.to (et_test (ev_neI (ev_tcount (bs := [decide (p < q), decide (q < p)]) (ea_cons (ev_x2 (va z7) (vb z7) op oq) (ea_cons (ev_x2 (vb z7) (va z7) oq op) ea_nil)) (by show 2 ≤ 1000; decide)) (ev_intB (ev_neF (va z7) (vb z7))))) ?_) fun H12 z8 => ?_
    · rcases (by grind : p < q ∨ p = q ∨ q < p) with h | h | h
      · have h2 : ¬ q < p := by grind
        have h3 : ¬ p = q := by grind
        simp [h, h2, h3]
      · subst h
        simp [Rat.lt_irrefl]
      · have h2 : ¬ p < q := by grind
        have h3 : ¬ p = q := by grind
        simp [h, h2, h3]
    exact ⟨_, _, _, _, _, _, _, _, _, _, _, rfl, e4.trans (z7.trans z8)⟩
end
end QT
namespace QT
open PySem PySem.Spec PyProof.Rows L2 QM
theorem law_entry {W : Wd} {H : Hp} {a : Addr} {ns : List Int} (hl : ns.length ≤ 63) (hb : ∀ z ∈ ns, Builtin.Int.intBits z ≤ 1048576) (ht : LamX.Tabs W.T H) (hS : SqL W.K H a (ns.map V.int)) : sp_law W [.ref a] H (fun v _ => v = .bl true) fun _ _ _ => False :=
  ⟨ns, ⟨.lst hS (dpAll_ints ns), trivial⟩, hl, fun _ _ _ h => bl_of h⟩
end QT

namespace QT
open PySem PySem.Spec PyProof.Rows L2 QM
/-! ### the head -/
def wd (K : PySem.W.Frag) : Wd := ⟨K, tf.map fun p => ((He.cT K p).2, lamQ p)⟩
abbrev R : PySem.W.OpenRow := PySem.W.OpenLaw.row PySem.Challenge.rw_quickturns_k10_whole_fractions
abbrev hk : PySem.W.Hook := He.hookX 6 fa fn [] tf exB
def ob (s : PySem.W.SharedT) : He.AlX := He.obsX 6 fa fn [] tf exB (HandSHeadRun.getT s)
theorem ob_eq (s : PySem.W.SharedT) : ob s = hk.obs s.abs := He.obsX_eq (HandSHeadRun.getT_eq s)
theorem run (w : World) : HandSHeadRun.RunEq R (PySem.W.view R.prog [31]) hk ob 3000 ((["TurnError", "BadFraction", "need", "is_whole", "shared", "is_fraction", "need_fraction", "look", "least", "fraction", "add", "take", "multiply", "part_of", "is_less", "plus", "less", "times", "by", "before", "whole", "_law_cell", "_law_drawn", "_law_least", "_law_sum", "_law_product", "_law_under", "_law_number"] : List PySem.Str)) w := by
  intro os
  kernel_rfl
theorem facts {w : World} {K : PySem.W.Frag} {h : Heap} {mg : Str → Option Value} {f : Addr} (X : K.In h) (G : h.Ns mainGlobals mg) (hfa : mg ("law" : Str) = some (.ref f)) (c : He.SaysX fa fn [] tf exB w h K) :
    LamX.LawAtS PySem.Challenge.rw_quickturns_k10_whole_fractions w K (L2.CX PySem.Challenge.rw_quickturns_k10_whole_fractions.prog w) 6 63 "_law_script" mg f h := by
  have TX : ∀ base, (∀ p ∈ tf, LamX.TabB base mg (He.cT K p).1 (He.cT K p).2) → Txt (wd K) mg base h := fun base tb => ⟨X, tb, G, c.t.d, exB_ok c.more⟩
  have e := hfa.symm.trans (He.glo_ok X G (c.t.d.fact 26 (f := .glo "law") rfl))
  cases e
  obtain ⟨fd, F⟩ := c.t.d.def_ 26 (d := dd_law) rfl
  obtain ⟨oc, od, _, _, _, _, _, _, _, osl, _, lk, _⟩ := F.ex
  have b := FunD.bindsA (ps := ["_law_script"]) F fun _ _ _ _ _ _ us hl => match us, hl with | [_], _ => rfl
  refine ⟨fd, tf.map (He.cT K), sp_law (wd K), fun p hp => ?_, fun p hp => ?_, fun p hp => ?_, fun s v => b s [v] rfl, fun H a ns hl hbits ht hS => ?_, fun base _ _ hc => ?_⟩
  · obtain ⟨q, hq, rfl⟩ := List.mem_map.mp hp
    exact c.empty q hq
  · obtain ⟨q, hq, rfl⟩ := List.mem_map.mp hp
    exact c.out q hq
  · obtain ⟨q, hq, rfl⟩ := List.mem_map.mp hp
    exact PySem.W.codeHd_of_K X (c.hd q hq)
  · exact law_entry (W := wd K) hl hbits (fun p hp => by
      obtain ⟨q, hq, rfl⟩ := List.mem_map.mp hp
      exact LamX.TabS.nil (ht _ (List.mem_map.mpr ⟨q, hq, rfl⟩))) hS
  · obtain ⟨f', fd', FN, hm, _, _, oc', od', osl', lk'⟩ := (ok_law (P := PySem.Challenge.rw_quickturns_k10_whole_fractions.prog) (w := w) (TX base fun p hp => hc _ (List.mem_map.mpr ⟨p, hp, rfl⟩))).ex
    have e : f' = He.ga K "law" := by
      have := hm.symm.trans hfa
      injection this with this
      injection this
    subst e
    have e2 := lk'.symm.trans lk
    cases e2
    exact FN
end QT
open PySem PySem.W PySem.Calls PyProof.Rows
set_option maxRecDepth 100000 in
set_option maxHeartbeats 0 in
theorem PySem.Challenge.cw_quickturns_k10_whole_fractions_holds : PySem.Challenge.rw_quickturns_k10_whole_fractions.Holds := by
  w_on; o_law
  refine HandSHeadRun.head_any (r := OpenLaw.row PySem.Challenge.rw_quickturns_k10_whole_fractions) (q := view (OpenLaw.row PySem.Challenge.rw_quickturns_k10_whole_fractions).prog [31]) (H := QT.hk) (ob := QT.ob) (M := 3000) (loose := (["TurnError", "BadFraction", "need", "is_whole", "shared", "is_fraction", "need_fraction", "look", "least", "fraction", "add", "take", "multiply", "part_of", "is_less", "plus", "less", "times", "by", "before", "whole", "_law_cell", "_law_drawn", "_law_least", "_law_sum", "_law_product", "_law_under", "_law_number"] : List PySem.Str)) (d := HandSHeadRun.topDef (OpenLaw.row PySem.Challenge.rw_quickturns_k10_whole_fractions).prog 31) (kwd := []) QT.ob_eq
    (by kernel_rfl) (fun s => by kernel_rfl) QT.run (by kernel_rfl) (by kernel_rfl) (by kernel_rfl) (by rfl) (by first | assumption | decide +kernel) (by decide +kernel) ⟨rfl, rfl, rfl, rfl, rfl, by decide +kernel⟩ ?hw ?hc
  case hw => w_witness2
  case hc =>
    refine LamX.walk_ofTsE (l := PySem.Challenge.rw_quickturns_k10_whole_fractions) (n := 63) (k := 6) (x := "_law_script") (CX := fun w => L2.CX PySem.Challenge.rw_quickturns_k10_whole_fractions.prog w) rfl (by decide) (by kernel_rfl) ⟨rfl, by decide, by decide⟩ ?F (fun w H s e s' z => ?hX)
    case hX => exact QT.cx_none z
    intro w mg fa h Y G hmg0
    obtain ⟨K, KX, c⟩ := Y
    have hmg : mg ("law" : PySem.Str) = some (.ref fa) := by
      have e : (HandSHeadRun.topDef (OpenLaw.row PySem.Challenge.rw_quickturns_k10_whole_fractions).prog 31).name = ("law" : PySem.Str) := by kernel_rfl
      rw [← e]
      exact hmg0
    exact ⟨K, KX, QT.facts KX G hmg c⟩
#print axioms PySem.Challenge.cw_quickturns_k10_whole_fractions_holds
