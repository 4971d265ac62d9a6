import PyProof.Rows.All
import Wide.All
import OpenK.AllK
import Wide.FinOn
import HandS.ForMost
import HandS.ForExc
import HandS.Evl
import HandS.Wide
import HandS.Walk
import HandS.IsInst
import PySem.Challenge.RW_midvalue_k10_values
set_option Elab.async false
set_option linter.all false
set_option maxRecDepth 100000
set_option maxHeartbeats 4000000
namespace MV
open PySem PySem.Spec PyProof.Rows L2 Evl

/-! ### operators by name -/
abbrev oAdd : R2 := rI0 fun i j => .int (i + j)
abbrev oSub : R2 := rI0 fun i j => .int (i - j)
abbrev oMul : R2 := rI CMul fun i j => .int (i * j)
abbrev oMulW : R2 := rI CMulW fun i j => .int (i * j)
abbrev oMod : R2 := rI (fun _ j => 0 < j) fun i j => .int (i % j)
abbrev oDivW : R2 := rI CDivW fun i j => .int (i / j)
abbrev oPow : R2 := rI CPow fun i j => .int (i ^ j.toNat)
abbrev oShl : R2 := rI CPow fun i j => .int (i * 2 ^ j.toNat)
abbrev oLt : R2 := rI0 fun i j => .bl (decide (i < j))
abbrev oLe : R2 := rI0 fun i j => .bl (decide (i ≤ j))
abbrev oGt : R2 := rI0 fun i j => .bl (decide (j < i))
abbrev oGe : R2 := rI0 fun i j => .bl (decide (j ≤ i))
abbrev oNeg : V → Hp → VK → Prop := rU fun i => .int (-i)
def oIsN : R2 := fun x y H Q => y = .non ∧ Q (.bl (decide (x = .non))) H
def oNotN : R2 := fun x y H Q => y = .non ∧ Q (.bl (!decide (x = .non))) H
def oAddS : R2 := fun x y H Q => ∃ i j, x = .str i ∧ y = .str j ∧ i.length + j.length ≤ sizeLine ∧ Q (.str (i ++ j)) H
def rAbs : List V → Hp → VK → Prop := fun xs H Q => ∃ i, xs = [.int i] ∧ Q (.int (if i < 0 then -i else i)) H
def rMin2 : List V → Hp → VK → Prop := fun xs H Q => ∃ i j, xs = [.int i, .int j] ∧ Q (.int (if j < i then j else i)) H
def rInt1 : List V → Hp → VK → Prop := fun xs H Q => (∃ i, xs = [.int i] ∧ Q (.int i) H) ∨ ∃ k, xs = [.bl k] ∧ Q (.int (if k then 1 else 0)) H
def tRaise (E : XK) (cls : Value) : TS := fun _ _ H => E cls none H

section
variable {K : PySem.W.Frag} {σ : L2.St} {H H' H0 : Hp} {ta tb tc te tx : TE} {t u : TT} {x y z v : V} {r r' : R2} {a b i j : Int} {p : Addr} {xs ys : List V} {ns ms : List Int}

/-! ### values of operators -/
theorem rv_eqI : RV rEq (.int a) (.int b) H (.bl (decide (a = b))) := fun H1 _ Q q => ⟨rfl, by
  have e : decide (V.int a = V.int b) = decide (a = b) := decide_eq_decide.mpr ⟨fun h => V.int.inj h, fun h => by rw [h]⟩
  rw [e]; exact q H1 (Ex.refl H1)⟩
theorem rv_neI : RV rNe (.int a) (.int b) H (.bl (!decide (a = b))) := fun H1 _ Q q => ⟨rfl, by
  have e : decide (V.int a = V.int b) = decide (a = b) := decide_eq_decide.mpr ⟨fun h => V.int.inj h, fun h => by rw [h]⟩
  rw [e]; exact q H1 (Ex.refl H1)⟩
theorem rv_eqS {s t : Str} : RV rEq (.str s) (.str t) H (.bl (decide (s = t))) := fun H1 _ Q q => ⟨rfl, by
  have e : decide (V.str s = V.str t) = decide (s = t) := decide_eq_decide.mpr ⟨fun h => V.str.inj h, fun h => by rw [h]⟩
  rw [e]; exact q H1 (Ex.refl H1)⟩
theorem rv_neS {s t : Str} : RV rNe (.str s) (.str t) H (.bl (!decide (s = t))) := fun H1 _ Q q => ⟨rfl, by
  have e : decide (V.str s = V.str t) = decide (s = t) := decide_eq_decide.mpr ⟨fun h => V.str.inj h, fun h => by rw [h]⟩
  rw [e]; exact q H1 (Ex.refl H1)⟩
theorem rv_neB {s t : Bool} : RV rNe (.bl s) (.bl t) H (.bl (!decide (s = t))) := fun H1 _ Q q => ⟨rfl, by
  have e : decide (V.bl s = V.bl t) = decide (s = t) := decide_eq_decide.mpr ⟨fun h => V.bl.inj h, fun h => by rw [h]⟩
  rw [e]; exact q H1 (Ex.refl H1)⟩
theorem rv_isN : RV oIsN x .non H (.bl (decide (x = .non))) := fun H1 _ _ q => ⟨rfl, q H1 (Ex.refl H1)⟩
theorem rv_notN : RV oNotN x .non H (.bl (!decide (x = .non))) := fun H1 _ _ q => ⟨rfl, q H1 (Ex.refl H1)⟩
theorem rv_addS {s t : Str} (h : s.length + t.length ≤ sizeLine) : RV oAddS (.str s) (.str t) H (.str (s ++ t)) := fun H1 _ _ q => ⟨s, t, rfl, rfl, h, q H1 (Ex.refl H1)⟩
theorem at_ints (h0 : 0 ≤ i) (h1 : i < ns.length) : atI (ns.map V.int) i = some (.int (ns.getD i.toNat 0)) := by
  obtain ⟨k, rfl⟩ := Int.eq_ofNat_of_zero_le h0
  have hk : k < ns.length := by omega
  refine atI_nat ?_
  rw [List.getElem?_map, List.getElem?_eq_getElem hk, Int.toNat_natCast, List.getD_eq_getElem?_getD, List.getElem?_eq_getElem hk]
  rfl
theorem at_vals (h0 : 0 ≤ i) (h1 : i < xs.length) : atI xs i = some (xs.getD i.toNat .non) := by
  obtain ⟨k, rfl⟩ := Int.eq_ofNat_of_zero_le h0
  have hk : k < xs.length := by omega
  refine atI_nat ?_
  rw [List.getElem?_eq_getElem hk, Int.toNat_natCast, List.getD_eq_getElem?_getD, List.getElem?_eq_getElem hk]
  rfl
theorem rv_ixInts (h : SqL K H p (ns.map V.int)) (h0 : 0 ≤ i) (h1 : i < ns.length) : RV (rIxL K) (.ref p) (.int i) H (.int (ns.getD i.toNat 0)) := rv_ixL h (at_ints h0 h1)
/-- a written list of whole numbers at a place -/
theorem ev_menu (hl : EvL ta σ H (ns.map V.int)) (hi : Ev tb σ H (.int i)) (h0 : 0 ≤ i) (h1 : i < ns.length) : Ev (tOp (rIxL K) ta tb) σ H (.int (ns.getD i.toNat 0)) :=
  ev_opL1 hl (fun _ e => hi.mono e) fun _ _ h _ => rv_ixL (sq_of h) (at_ints h0 h1)
theorem ev_menuV (hl : EvL ta σ H xs) (hi : Ev tb σ H (.int i)) (h0 : 0 ≤ i) (h1 : i < xs.length) : Ev (tOp (rIxL K) ta tb) σ H (xs.getD i.toNat .non) :=
  ev_opL1 hl (fun _ e => hi.mono e) fun _ _ h _ => rv_ixL (sq_of h) (at_vals h0 h1)
theorem el_is (h : EvL te σ H xs) (e : xs = ys) : EvL te σ H ys := e ▸ h

theorem ev_chain {c1 c2 : Bool} (ha : Ev ta σ H x) (hb : Ev tb σ H y) (hc : Ev tc σ H z) (h1 : RV r x y H (.bl c1)) (h2 : RV r' y z H (.bl c2)) : Ev (tChain r r' ta tb tc) σ H (.bl (c1 && c2)) := fun H1 e1 Q q =>
  ha H1 e1 _ fun H2 e2 => hb H2 (e1.trans e2) _ fun H3 e3 => h1 H3 ((e1.trans e2).trans e3) _ fun H4 e4 => ⟨c1, rfl, by
    have e5 := ((e1.trans e2).trans e3).trans e4
    cases c1 with
    | true =>
      rw [if_pos rfl]
      exact hc H4 e5 _ fun H5 e6 => h2 H5 (e5.trans e6) _ fun H6 e7 => q H6 ((((e2.trans e3).trans e4).trans e6).trans e7)
    | false =>
      rw [if_neg Bool.false_ne_true]
      exact q H4 ((e2.trans e3).trans e4)⟩

/-! ### values of calls -/
theorem rc_of {rr : List V → Hp → VK → Prop} {vs : List V} (h : ∀ H1, Ex H H1 → ∀ Q : VK, Q z H1 → rr vs H1 Q) : RC rr vs H z := fun H1 e Q q => h H1 e Q (q H1 (Ex.refl H1))
theorem rc_len (h : SqL K H p xs) : RC (rLenS K) [.ref p] H (.int (xs.length : Int)) := rc_of fun _ e _ q => ⟨p, xs, rfl, .inl (ex_l e h), q⟩
theorem rc_lenT (h : SqT K H p xs) : RC (rLenS K) [.ref p] H (.int (xs.length : Int)) := rc_of fun _ e _ q => ⟨p, xs, rfl, .inr (ex_t e h), q⟩
theorem rc_abs : RC rAbs [.int i] H (.int (if i < 0 then -i else i)) := rc_of fun _ _ _ q => ⟨i, rfl, q⟩
theorem rc_min2 : RC rMin2 [.int i, .int j] H (.int (if j < i then j else i)) := rc_of fun _ _ _ q => ⟨i, j, rfl, q⟩
theorem rc_max2 : RC rMax2 [.int i, .int j] H (.int (if j > i then j else i)) := rc_of fun _ _ _ q => ⟨i, j, rfl, q⟩
theorem rc_int : RC rInt1 [.int i] H (.int i) := rc_of fun _ _ _ q => .inl ⟨i, rfl, q⟩
theorem rc_intB {k : Bool} : RC rInt1 [.bl k] H (.int (if k then 1 else 0)) := rc_of fun _ _ _ q => .inr ⟨k, rfl, q⟩
theorem rc_all {bs : List Bool} (h : SqL K H p (bs.map V.bl)) : RC (rAll K) [.ref p] H (.bl (bs.all id)) := rc_of fun _ e _ q => ⟨p, bs, rfl, ex_l e h, q⟩
theorem rc_sum (h : SqL K H p (ns.map V.int)) : RC (rSum K) [.ref p] H (.int ns.sum) := rc_of fun _ e _ q => ⟨p, ns, rfl, ex_l e h, q⟩

/-! ### sorted -/
def srt (ns : List Int) : List Int := ns.mergeSort (fun a b => decide (a ≤ b))
theorem srt_perm (ns : List Int) : (srt ns).Perm ns := List.mergeSort_perm ns _
theorem srt_pw (ns : List Int) : (srt ns).Pairwise (· ≤ ·) := by
  have h := List.pairwise_mergeSort (le := fun a b : Int => decide (a ≤ b)) (fun a b c h1 h2 => by simp only [decide_eq_true_eq] at *; omega) (fun a b => by simp only [Bool.or_eq_true, decide_eq_true_eq]; omega) ns
  exact h.imp fun h => by simpa using h
theorem srt_len (ns : List Int) : (srt ns).length = ns.length := (srt_perm ns).length_eq
theorem srt_mem {ns : List Int} {n : Int} : n ∈ srt ns ↔ n ∈ ns := (srt_perm ns).mem_iff
theorem srt_uniq (h1 : ms.Perm ns) (h2 : ms.Pairwise (· ≤ ·)) : ms = srt ns :=
  List.Perm.eq_of_pairwise (le := (· ≤ ·)) (fun a b _ _ h1 h2 => Int.le_antisymm h1 h2) h2 (srt_pw ns) (h1.trans (srt_perm ns).symm)
theorem rcl_sorted (h : SqL K H p (ns.map V.int)) (hl : ns.length < 64) : RCL (rSorted K) [.ref p] H ((srt ns).map V.int) := fun H1 e Q q =>
  ⟨p, ns, rfl, ex_l e h, hl, fun ns' l hp hs hn => by
    have e1 := srt_uniq hp hs
    subst e1
    exact q l _ hn (Ex.new hn) upd_same⟩

/-! ### lists compared -/
/-- a flat value as data -/
def vD : V → PyData
  | .non => .none
  | .bl b => .bool b
  | .int i => .int i
  | .str s => .str s
  | _ => .none
def flat4 : V → Bool
  | .non | .bl _ | .int _ => true
  | .str s => SeqAt.shaped (.str s)
  | _ => false
theorem dp_flat (h : flat4 x = true) : Dp K H x (vD x) := by
  cases x with
  | non => exact .non
  | bl b => exact .bl b
  | int i => exact .int i
  | str s => exact .str s
  | _ => cases h
theorem dpAll_flat : ∀ {xs : List V}, xs.all flat4 = true → DpAll K H xs (xs.map vD)
  | [], _ => .nil
  | x :: xs, h => by
    rw [List.all_cons, Bool.and_eq_true] at h
    exact .cons (dp_flat h.1) (dpAll_flat h.2)
theorem lay_flat (h : flat4 x = true) : (vD x).canLay0 = true ∧ (vD x).depth = 0 := by
  cases x with
  | non => exact ⟨by simp [vD, PyData.canLay0], by simp [vD, PyData.depth]⟩
  | bl b => exact ⟨by simp [vD, PyData.canLay0], by simp [vD, PyData.depth]⟩
  | int i => exact ⟨by simp [vD, PyData.canLay0], by simp [vD, PyData.depth]⟩
  | str s => exact ⟨SeqAt.canLay_of_shaped h, by simp [vD, PyData.depth]⟩
  | _ => cases h
theorem lay_flats : ∀ {xs : List V}, xs.all flat4 = true → PyData.canLayAll0 (xs.map vD) = true ∧ PyData.depthAll (xs.map vD) = 0
  | [], _ => ⟨by simp [PyData.canLayAll0], by simp [PyData.depthAll]⟩
  | x :: xs, h => by
    rw [List.all_cons, Bool.and_eq_true] at h
    have h1 := lay_flat h.1
    have h2 := lay_flats h.2
    exact ⟨by rw [List.map_cons, PyData.canLayAll0, h1.1, h2.1]; rfl, by rw [List.map_cons, PyData.depthAll, h1.2, h2.2]; rfl⟩
theorem shaped_list (h : xs.all flat4 = true) : SeqAt.shaped (.list (xs.map vD)) = true := by
  obtain ⟨h1, h2⟩ := lay_flats h
  show ((PyData.list (xs.map vD)).canLay0 && decide ((PyData.list (xs.map vD)).depth ≤ 64)) = true
  rw [PyData.canLay0, PyData.depth, h1, h2]
  rfl
theorem shaped_tup (h : xs.all flat4 = true) : SeqAt.shaped (.tuple (xs.map vD)) = true := by
  obtain ⟨h1, h2⟩ := lay_flats h
  show ((PyData.tuple (xs.map vD)).canLay0 && decide ((PyData.tuple (xs.map vD)).depth ≤ 64)) = true
  rw [PyData.canLay0, PyData.depth, h1, h2]
  rfl
theorem ints_flat (ns : List Int) : (ns.map V.int).all flat4 = true := by
  rw [List.all_eq_true]
  intro x hx
  obtain ⟨n, _, rfl⟩ := List.mem_map.mp hx
  rfl
/-- a list and the empty list -/
theorem rv_eqNil {q : Addr} (h : SqL K H p xs) (hf : xs.all flat4 = true) (h2 : SqL K H q []) : RV (rEqD K) (.ref p) (.ref q) H (.bl (decide (xs = []))) := fun H1 e Q k => by
  refine ⟨.list (xs.map vD), .list [], .lst (ex_l e h) (dpAll_flat hf), .lst (ex_l e h2) .nil, shaped_list hf, by decide, ?_⟩
  have e2 : PyData.eqv (.list (xs.map vD)) (.list []) = decide (xs = []) := by
    cases xs with
    | nil => simp [PyData.eqv, PyData.eqvAll]
    | cons x r => simp [PyData.eqv, PyData.eqvAll]
  rw [e2]
  exact k H1 (Ex.refl H1)
theorem rv_neNil {q : Addr} (h : SqL K H p xs) (hf : xs.all flat4 = true) (h2 : SqL K H q []) : RV (rNeD K) (.ref p) (.ref q) H (.bl (!decide (xs = []))) := fun H1 e Q k => by
  refine ⟨.list (xs.map vD), .list [], .lst (ex_l e h) (dpAll_flat hf), .lst (ex_l e h2) .nil, shaped_list hf, by decide, ?_⟩
  have e2 : PyData.eqv (.list (xs.map vD)) (.list []) = decide (xs = []) := by
    cases xs with
    | nil => simp [PyData.eqv, PyData.eqvAll]
    | cons x r => simp [PyData.eqv, PyData.eqvAll]
  rw [e2]
  exact k H1 (Ex.refl H1)
/-- two lists of the same flat items -/
theorem rv_neSame {q : Addr} (h : SqL K H p xs) (hf : xs.all flat4 = true) (h2 : SqL K H q xs) : RV (rNeD K) (.ref p) (.ref q) H (.bl false) := fun H1 e Q k => by
  refine ⟨.list (xs.map vD), .list (xs.map vD), .lst (ex_l e h) (dpAll_flat hf), .lst (ex_l e h2) (dpAll_flat hf), shaped_list hf, shaped_list hf, ?_⟩
  have e2 : PyData.eqv (.list (xs.map vD)) (.list (xs.map vD)) = true := PySem.SeqAt.eqv_refl _ (SeqAt.canLay_of_shaped (shaped_list hf))
  rw [e2]
  exact k H1 (Ex.refl H1)
theorem ev_eqNil (ha : Ev ta σ H (.ref p)) (h : SqL K H p xs) (hf : xs.all flat4 = true) : Ev (tOp (rEqD K) ta (tLst tNil)) σ H (.bl (decide (xs = []))) :=
  ev_opL ha (el_lst ea_nil (by decide)) fun _ _ h1 e1 => rv_eqNil (ex_l e1 h) hf (sq_of h1)
theorem ev_neNil (ha : Ev ta σ H (.ref p)) (h : SqL K H p xs) (hf : xs.all flat4 = true) : Ev (tOp (rNeD K) ta (tLst tNil)) σ H (.bl (!decide (xs = []))) :=
  ev_opL ha (el_lst ea_nil (by decide)) fun _ _ h1 e1 => rv_neNil (ex_l e1 h) hf (sq_of h1)

/-! ### comprehensions over enumerate -/
theorem el_lcE {A : TA} {p : Addr} {xs : List V} {g : TG} {vs : List Nat} (f : Nat → Bool) (v : Nat → V) (ha : EvA A σ H [.ref p]) (hx : SqL K H p xs) (hz : xs.length ≤ 40000) {i1 i2 : Nat} (hg : g = gTup K 2 (gCons (gName i1) (gCons (gName i2) gNil)))
    (hw : ∀ y z, wipe (((wipe σ vs).set i1 (some y)).set i2 (some z)) vs = wipe σ vs)
    (ht : ∀ (i : Nat) (x : V) H1, Ex H H1 → xs[i]? = some x → EvT t (((wipe σ vs).set i1 (some (.int i))).set i2 (some x)) H1 (f i))
    (he : ∀ (i : Nat) (x : V) H1, Ex H H1 → xs[i]? = some x → f i = true → Ev te (((wipe σ vs).set i1 (some (.int i))).set i2 (some x)) H1 (v i)) :
    EvL (tLc (iEnum K A) g t te vs) σ H (Evl.given xs.length f v) := fun H0 e Q q => ha H0 e _ fun H1 e1 => ⟨p, xs, rfl, ex_l (e.trans e1) hx, fun Dl hD => by
  subst hg
  refine lc_it (walk_enum (K := K) (a := p) (xs := xs)) (Cw H1 f v Dl) ⟨hD, Ex.new hD, upd_same⟩ (fun i H' _ pc => ex_l ((e.trans e1).trans pc.2.1) hx) (fun i y H2 H2' hi pc hy => ?_) (fun H' pc => q Dl H' (fresh_back e1 pc.1) (e1.trans pc.2.1) pc.2.2)
  obtain ⟨T, x1, x2, rfl, nT, rfl, f1, f2⟩ := hy
  have ex1 : V.int (i : Nat) = x1 := Option.some.inj f1
  subst ex1
  have p2 : Cw H1 f v Dl i (upd H2 T (.tup [.int (i : Nat), x2])) := by
    obtain ⟨c1, c2, c3⟩ := pc
    refine ⟨c1, c2.trans (Ex.new nT), ?_⟩
    rw [upd_ne (ne_of_none c3 nT)]
    exact c3
  exact ⟨T, _, rfl, .inl (.inl upd_same), rfl, _, _, rfl, _, _, rfl, rfl, hw _ _, cw_turn p2 (by omega) (ht i x2 H1 (e.trans e1) f2) (fun hf => he i x2 H1 (e.trans e1) f2 hf)⟩⟩
end
end MV
namespace MV
open PySem PySem.Spec PyProof.Rows L2 Evl
theorem cmul_r {i j : Int} (h1 : -18446744073709551616 < j) (h2 : j < 18446744073709551616) : CMul i j := .inr ⟨h1, h2⟩
theorem cmul_l {i j : Int} (h1 : -18446744073709551616 < i) (h2 : i < 18446744073709551616) : CMul i j := .inl ⟨h1, h2⟩
theorem cdiv_c {i j : Int} (h1 : 0 < j) (h2 : j.natAbs.log2 < 9000) : CDivW i j := ⟨h1, h2⟩
theorem cdiv_s {i j : Int} (h1 : 0 < j) (h2 : j < 18446744073709551616) : CDivW i j := wide_div (b := 64) h1 (by omega) (by decide) (by decide)
theorem cpow_c {i j : Int} (h1 : 0 ≤ j) (h2 : j ≤ 1000000) (h3 : i.natAbs < 2 ^ 64) : CPow i j := ⟨h1, h2, h3⟩
end MV
namespace MV
open PySem PySem.Spec PyProof.Rows L2 Evl
def toInt : V → Int
  | .int i => i
  | _ => 0
def toInts (vs : List V) : List Int := vs.map toInt
section
variable {K : PySem.W.Frag} {σ : L2.St} {H : Hp} {ta : TA} {tb : TE} {vs : List V} {i : Int}
/-- a written list of whole numbers at a place that lies in it -/
theorem ev_menuL (h : EvA ta σ H vs) (hi : Ev tb σ H (.int i)) (e : vs = (toInts vs).map V.int) (h0 : 0 ≤ i) (h1 : i < (vs.length : Int)) (hs : vs.length ≤ 100) : Ev (tOp (rIxL K) (tLst ta) tb) σ H (.int ((toInts vs).getD i.toNat 0)) := by
  have h2 : EvL (tLst ta) σ H ((toInts vs).map V.int) := e ▸ el_lst h (by omega)
  exact ev_menu h2 hi h0 (by unfold toInts; rw [List.length_map]; exact h1)
theorem ev_menuG (h : EvA ta σ H vs) (hi : Ev tb σ H (.int i)) (h0 : 0 ≤ i) (h1 : i < (vs.length : Int)) (hs : vs.length ≤ 100) : Ev (tOp (rIxL K) (tLst ta) tb) σ H (vs.getD i.toNat .non) :=
  ev_menuV (el_lst h (by omega)) hi h0 h1
end
/-- a turn's list grows -/
theorem exGrow {H H' H1 : Hp} {p : Addr} {o : HO} (e : Ex H H') (e1 : Ex H' H1) (hp : H p = none) : Ex H (upd H1 p o) := (e.trans e1).mut hp
theorem wipe0 (σ : L2.St) : wipe σ [] = σ := rfl
end MV
namespace MV
open PySem PySem.Spec PyProof.Rows L2 Evl
section
variable {K : PySem.W.Frag} {σ : L2.St} {H H' : Hp} {ta tb te : TE} {t : TT} {x y z v : V} {D : Ends} {tz tu : TS} {P : List V → Prop} {xs ys vs : List V}
/-- a new list, of which P is known -/
def EvLP (te : TE) (σ : L2.St) (H : Hp) (P : List V → Prop) : Prop := ∀ H1, Ex H H1 → ∀ Q : VK, (∀ xs p H2, P xs → H1 p = none → Ex H1 H2 → H2 p = some (.lst xs) → Q (.ref p) H2) → te σ H1 Q
theorem q_asgLP {i : Nat} (h : EvLP te σ H P) (k : ∀ xs p H1, P xs → H p = none → Ex H H1 → H1 p = some (.lst xs) → tz D (σ.set i (some (.ref p))) H1) : tSeq (tAsg te (gName i)) tz D σ H := h H (Ex.refl H) _ fun xs p H1 hP hp e h1 => k xs p H1 hP hp e h1
theorem elp_call {sp : Sp} {dvs : List V} {E : XK} {ta : TA} (h : EvA ta σ H vs) (hs : ∀ H1, Ex H H1 → ∀ Q : VK, (∀ xs p H2, P xs → H1 p = none → Ex H1 H2 → H2 p = some (.lst xs) → Q (.ref p) H2) → ∀ E : XK, sp (vs ++ dvs) H1 Q E) : EvLP (tCall sp dvs E ta) σ H P := fun H1 e Q q =>
  h H1 e _ fun H2 e2 => hs H2 (e.trans e2) Q (fun xs p H3 hP hp e3 h3 => q xs p H3 hP (fresh_back e2 hp) (e2.trans e3) h3) E
/-- a call of one new list that gives a new list | a value -/
theorem el_cbN {rr : List V → Hp → VK → Prop} (ha : EvL ta σ H xs) (hr : ∀ p H1, Ex H H1 → H1 p = some (.lst xs) → RCL rr [.ref p] H1 ys) : EvL (tCB rr (tCons ta tNil)) σ H ys := fun H1 e Q q =>
  ha H1 e _ fun p H2 hp e2 h2 => hr p H2 (e.trans e2) h2 H2 (Ex.refl H2) Q fun p3 H3 hp3 e3 h3 => q p3 H3 (fresh_back e2 hp3) (e2.trans e3) h3
theorem ev_cbN {rr : List V → Hp → VK → Prop} (ha : EvL ta σ H xs) (hr : ∀ p H1, Ex H H1 → H1 p = some (.lst xs) → RC rr [.ref p] H1 z) : Ev (tCB rr (tCons ta tNil)) σ H z := fun H1 e Q q =>
  ha H1 e _ fun p H2 hp e2 h2 => hr p H2 (e.trans e2) h2 H2 (Ex.refl H2) Q fun H3 e3 => q H3 (e2.trans e3)
theorem ev_andB {a b : Bool} (h1 : Ev ta σ H (.bl a)) (h2 : Ev tb σ H (.bl b)) : Ev (tAndV ta tb) σ H (.bl (a && b)) := ev_andV h1 fun _ => h2
theorem ev_orB {a b : Bool} (h1 : Ev ta σ H (.bl a)) (h2 : Ev tb σ H (.bl b)) : Ev (tOrV ta tb) σ H (.bl (a || b)) := ev_orV h1 fun _ => h2
theorem et_andB {a b : Bool} {t u : TT} (h1 : EvT t σ H a) (h2 : EvT u σ H b) : EvT (tAnd t u) σ H (a && b) := et_and h1 fun _ => h2
theorem et_orB {a b : Bool} {t u : TT} (h1 : EvT t σ H a) (h2 : EvT u σ H b) : EvT (tOr t u) σ H (a || b) := et_or h1 fun _ => h2

theorem given_take (xs : List V) (p : V → Bool) (g : V → V) : ∀ i, i ≤ xs.length → Evl.given i (fun i => p (xs.getD i .non)) (fun i => g (xs.getD i .non)) = ((xs.take i).filter p).map g
  | 0, _ => rfl
  | i + 1, h => by
    have hi : i < xs.length := h
    have e : xs.getD i .non = xs[i] := by rw [List.getD_eq_getElem?_getD, List.getElem?_eq_getElem hi]; rfl
    have e2 : xs.take (i + 1) = xs.take i ++ [xs[i]] := by rw [List.take_add_one, List.getElem?_eq_getElem hi]; rfl
    have ih := given_take xs p g i (by omega)
    rw [e2, List.filter_append, List.map_append, ← ih]
    cases hp : p xs[i] with
    | true =>
      rw [Evl.given_yes (by show p (xs.getD i .non) = true; rw [e]; exact hp)]
      show _ ++ [g (xs.getD i .non)] = _
      rw [e, List.filter_cons, hp]
      rfl
    | false =>
      rw [Evl.given_no (by show p (xs.getD i .non) = false; rw [e]; exact hp), List.filter_cons, hp]
      simp
theorem given_list (xs : List V) (p : V → Bool) (g : V → V) : Evl.given xs.length (fun i => p (xs.getD i .non)) (fun i => g (xs.getD i .non)) = (xs.filter p).map g := by
  rw [given_take xs p g xs.length (Nat.le_refl _), List.take_length]
/-- [g(x) for x in xs if p(x)] -/
theorem el_lcM {a : Addr} {tl : TE} {j : Nat} {vs : List Nat} (p : V → Bool) (g : V → V) (h : Ev tl σ H (.ref a)) (hx : SqL K H a xs) (hz : xs.length ≤ 40000) (hw : ∀ x, wipe ((wipe σ vs).set j (some x)) vs = wipe σ vs)
    (ht : ∀ x H1, Ex H H1 → x ∈ xs → EvT t ((wipe σ vs).set j (some x)) H1 (p x)) (he : ∀ x H1, Ex H H1 → x ∈ xs → p x = true → Ev te ((wipe σ vs).set j (some x)) H1 (g x)) :
    EvL (tLc (iList K tl) (gName j) t te vs) σ H ((xs.filter p).map g) := by
  rw [← given_list]
  have get : ∀ {i : Nat} {x : V}, xs[i]? = some x → xs.getD i .non = x ∧ x ∈ xs := fun {i x} e => ⟨by rw [List.getD_eq_getElem?_getD, e]; rfl, List.mem_of_getElem? e⟩
  refine el_lcL (fun i => p (xs.getD i .non)) (fun i => g (xs.getD i .non)) h hx hz hw (fun i x H1 e1 hi => ?_) (fun i x H1 e1 hi hf => ?_)
  · obtain ⟨e, m⟩ := get hi
    show EvT t _ H1 (p (xs.getD i .non))
    rw [e]
    exact ht x H1 e1 m
  · obtain ⟨e, m⟩ := get hi
    show Ev te _ H1 (g (xs.getD i .non))
    rw [e]
    exact he x H1 e1 m (by rw [← e]; exact hf)
theorem ints_filter (ns : List Int) (p : V → Bool) (q : Int → Bool) (h : ∀ n, p (.int n) = q n) : ((ns.map V.int).filter p).map id = (ns.filter q).map V.int := by
  rw [List.map_id, List.filter_map]
  congr 1
  exact List.filter_congr fun n _ => h n
/-- [n for n in ns if q(n)], whole numbers -/
theorem el_lcI {a : Addr} {ns : List Int} {tl : TE} {j : Nat} {vs : List Nat} (q : Int → Bool) (h : Ev tl σ H (.ref a)) (hx : SqL K H a (ns.map V.int)) (hz : ns.length ≤ 40000) (hw : ∀ x, wipe ((wipe σ vs).set j (some x)) vs = wipe σ vs)
    (ht : ∀ n H1, Ex H H1 → n ∈ ns → EvT t ((wipe σ vs).set j (some (.int n))) H1 (q n)) (he : ∀ n H1, Ex H H1 → n ∈ ns → Ev te ((wipe σ vs).set j (some (.int n))) H1 (.int n)) :
    EvL (tLc (iList K tl) (gName j) t te vs) σ H ((ns.filter q).map V.int) := by
  rw [← ints_filter ns (fun x => q (toInt x)) q fun _ => rfl]
  refine el_lcM (fun x => q (toInt x)) id h hx (by rw [List.length_map]; exact hz) hw (fun x H1 e1 hm => ?_) (fun x H1 e1 hm _ => ?_)
  · obtain ⟨n, hn, rfl⟩ := List.mem_map.mp hm
    exact ht n H1 e1 hn
  · obtain ⟨n, hn, rfl⟩ := List.mem_map.mp hm
    exact he n H1 e1 hn
/-! ### isinstance -/
theorem rc_isi {c : V} {tt u : Value} {b : Bool} (hc : ClsV c u) (ht : ∀ H1, Ex H H1 → TyX K H1 x tt) (hk : PySem.W.kitOne K tt u = some b) : RC (rIsi K) [x, c] H (.bl b) := rc_of fun H1 e _ q => ⟨x, c, tt, u, b, rfl, hc, ht H1 e, hk, q⟩
theorem isi_int_bool {i : Int} : RC (rIsi K) [.int i, .ty "bool"] H (.bl false) := rc_isi (.ty _) (fun _ _ => .base (.int i)) (kit_ty (by decide +kernel))
theorem isi_int_int {i : Int} : RC (rIsi K) [.int i, .ty "int"] H (.bl true) := rc_isi (.ty _) (fun _ _ => .base (.int i)) (kit_ty (by decide +kernel))
theorem isi_list_list {p : Addr} (h : H p = some (.lst xs)) : RC (rIsi K) [.ref p, .ty "list"] H (.bl true) := rc_isi (.ty _) (fun _ e => .base (.lst (e p _ h))) (kit_ty (by decide +kernel))
theorem isi_tup_tup {p : Addr} (h : H p = some (.tup xs)) : RC (rIsi K) [.ref p, .ty "tuple"] H (.bl true) := rc_isi (.ty _) (fun _ e => .base (.tup (e p _ h))) (kit_ty (by decide +kernel))
theorem isi_list_tup {p : Addr} (h : H p = some (.lst xs)) : RC (rIsi K) [.ref p, .ty "tuple"] H (.bl false) := rc_isi (.ty _) (fun _ e => .base (.lst (e p _ h))) (kit_ty (by decide +kernel))
end
end MV
namespace MV
open PySem PySem.Spec PyProof.Rows L2 Evl
section
variable {σ : L2.St} {H : Hp} {sp : Sp} {E : XK} {ta : TA} {vs xs : List V} {z : V} {P : List V → Prop}
theorem ev_call0 (h : EvA ta σ H vs) (hs : SpV sp vs H z) : Ev (tCall sp [] E ta) σ H z := ev_call h (by rw [List.append_nil]; exact hs)
theorem el_call0 (h : EvA ta σ H vs) (hs : SpL sp vs H xs) : EvL (tCall sp [] E ta) σ H xs := el_call h (by rw [List.append_nil]; exact hs)
theorem elp_call0 (h : EvA ta σ H vs) (hs : ∀ H1, Ex H H1 → ∀ Q : VK, (∀ xs p H2, P xs → H1 p = none → Ex H1 H2 → H2 p = some (.lst xs) → Q (.ref p) H2) → ∀ E : XK, sp vs H1 Q E) : EvLP (tCall sp [] E ta) σ H P := elp_call h (by rw [List.append_nil]; exact hs)
end
end MV
namespace MV
open PySem PySem.Spec PyProof.Rows L2 Evl
section
variable {K : PySem.W.Frag} {σ : L2.St} {H : Hp} {ta te : TE} {D : Ends} {tz : TS} {xs : List V} {P : V → Prop}
/-- with a value of which only P is told on -/
theorem s_appX {l : Addr} (hl : H l = some (.lst xs)) (ha : Ev ta σ H (.ref l)) (h : ∃ v, Ev te σ H v ∧ P v) (hz : xs.length < 100000) (k : ∀ v H1, P v → Ex H H1 → D.nx σ (upd H1 l (.lst (xs ++ [v])))) :
    tDrop (tBM K "list" rAppend ta (tCons te tNil)) D σ H := by
  obtain ⟨v, hv, hp⟩ := h
  exact s_app hl ha hv hz fun H1 e => k v H1 hp e
theorem q_asgX {i : Nat} (h : ∃ v, Ev te σ H v ∧ P v) (k : ∀ v H1, P v → Ex H H1 → tz D (σ.set i (some v)) H1) : tSeq (tAsg te (gName i)) tz D σ H := by
  obtain ⟨v, hv, hp⟩ := h
  exact q_asg hv fun H1 e => k v H1 hp e
end
abbrev IsI (v : V) : Prop := ∃ i : Int, v = .int i
end MV
local macro_rules | `(tactic| walk_at "ev1") => `(tactic| (first
  | ((with_reducible apply Evl.ev_var); exact rfl)
  | with_reducible exact Evl.ev_c
  | with_reducible apply MV.ev_menuL
  | with_reducible exact Evl.ea_nil
  | with_reducible apply Evl.ea_cons
  | with_reducible apply MV.ev_chain
  | with_reducible apply Evl.ev_op
  | with_reducible apply Evl.ev_un
  | with_reducible apply Evl.ev_cb
  | with_reducible apply Evl.ev_notV
  | with_reducible apply Evl.et_test
  | with_reducible apply Evl.et_B
  | with_reducible apply Evl.et_not
  | with_reducible exact Evl.rv_I0
  | with_reducible exact Evl.ru_neg
  | with_reducible exact MV.rv_eqI
  | with_reducible exact MV.rv_neI
  | with_reducible exact MV.rv_eqS
  | with_reducible exact MV.rv_neS
  | with_reducible exact MV.rv_isN
  | with_reducible exact MV.rv_notN
  | with_reducible exact MV.rc_abs
  | with_reducible exact MV.rc_min2
  | with_reducible exact MV.rc_max2
  | with_reducible exact MV.rc_int
  | with_reducible exact MV.rc_intB
  | with_reducible exact MV.rc_len (by assumption)
  | with_reducible exact MV.rc_lenT (by assumption)
  | with_reducible exact MV.rv_ixInts (by assumption) (by omega) (by omega)
  | with_reducible exact Evl.rv_I (MV.cmul_r (by omega) (by omega))
  | with_reducible exact Evl.rv_I (MV.cmul_l (by omega) (by omega))
  | with_reducible exact Evl.rv_I (MV.cdiv_s (by omega) (by omega))
  | with_reducible exact Evl.rv_I (MV.cdiv_c (by decide +kernel) (by decide +kernel))
  | with_reducible exact Evl.rv_I (MV.cpow_c (by decide) (by decide) (by decide))
  | with_reducible exact Evl.rv_I (show (0 : Int) < _ by first | omega | decide +kernel)
  | with_reducible apply Evl.rv_I
  | (show _ = List.map L2.V.int (MV.toInts _); exact rfl)
  | (show (0 : Int) ≤ _; omega)
  | (show (_ : Int) < (List.length _ : Nat); simp only [List.length_cons, List.length_nil]; omega)
  | (show List.length _ ≤ 100; simp only [List.length_cons, List.length_nil]; omega)))
local macro_rules | `(tactic| walk_at "ev1") => `(tactic| with_reducible apply MV.ev_call0)
local macro_rules | `(tactic| walk_at "ev") => `(tactic| repeat' (walk_at "ev1"))
local macro_rules | `(tactic| walk_at "ev1") => `(tactic| (first
  | with_reducible apply MV.ev_andB
  | with_reducible apply MV.ev_orB
  | with_reducible apply MV.et_andB
  | with_reducible apply MV.et_orB
  | with_reducible exact MV.isi_int_bool
  | with_reducible exact MV.isi_int_int
  | with_reducible exact MV.isi_list_list (by assumption)
  | with_reducible exact MV.isi_tup_tup (by assumption)
  | with_reducible exact MV.isi_list_tup (by assumption)))
namespace MV
open PySem PySem.Spec PyProof.Rows L2 Evl
/-! ### the text -/
def topS (i : Nat) : Stmt := PySem.Challenge.pw_midvalue_k10_values.main.body.getD i (.Pass ⟨0, 0, 0, 0⟩)
structure Ads where
  f_middle : Addr
  d_middle : FuncData
  f_moved : Addr
  d_moved : FuncData
  f_agree : Addr
  d_agree : FuncData
  f_l_cell : Addr
  d_l_cell : FuncData
  f_l_drawn : Addr
  d_l_drawn : FuncData
  f_l_numbers : Addr
  d_l_numbers : FuncData
  f_l_may : Addr
  d_l_may : FuncData
  f_law : Addr
  d_law : FuncData

abbrev s_middle : Stmt := (topS 1)
abbrev s_moved : Stmt := (topS 2)
abbrev s_agree : Stmt := (topS 3)
abbrev s_l_cell : Stmt := (topS 5)
abbrev s_l_drawn : Stmt := (topS 6)
abbrev s_l_numbers : Stmt := (topS 7)
abbrev s_l_may : Stmt := (topS 8)
abbrev s_law : Stmt := (topS 9)
structure Txt (K : PySem.W.Frag) (mg : Str → Option Value) (A : Ads) : Prop where
  n_abs : mg "abs" = none
  n_bool : mg "bool" = none
  n_enumerate : mg "enumerate" = none
  n_int : mg "int" = none
  n_isinstance : mg "isinstance" = none
  n_len : mg "len" = none
  n_list : mg "list" = none
  n_max : mg "max" = none
  n_min : mg "min" = none
  n_range : mg "range" = none
  n_sorted : mg "sorted" = none
  F_middle : Fun K "middle" "middle" s_middle A.f_middle A.d_middle
  g_middle : mg "middle" = some (.ref A.f_middle)
  b_middle : Binds K A.d_middle ["numbers", "near"] []
  F_moved : Fun K "moved" "moved" s_moved A.f_moved A.d_moved
  g_moved : mg "moved" = some (.ref A.f_moved)
  b_moved : Binds K A.d_moved ["one", "goal", "most"] []
  F_agree : Fun K "agree" "agree" s_agree A.f_agree A.d_agree
  g_agree : mg "agree" = some (.ref A.f_agree)
  b_agree : Binds K A.d_agree ["numbers", "value", "threshold"] []
  F_l_cell : Fun K "_law_cell" "_law_cell" s_l_cell A.f_l_cell A.d_l_cell
  g_l_cell : mg "_law_cell" = some (.ref A.f_l_cell)
  b_l_cell : Binds K A.d_l_cell ["_law_script", "_law_k"] []
  F_l_drawn : Fun K "_law_drawn" "_law_drawn" s_l_drawn A.f_l_drawn A.d_l_drawn
  g_l_drawn : mg "_law_drawn" = some (.ref A.f_l_drawn)
  b_l_drawn : Binds K A.d_l_drawn ["_law_cell_here", "_law_k"] []
  F_l_numbers : Fun K "_law_numbers" "_law_numbers" s_l_numbers A.f_l_numbers A.d_l_numbers
  g_l_numbers : mg "_law_numbers" = some (.ref A.f_l_numbers)
  b_l_numbers : Binds K A.d_l_numbers ["_law_script", "_law_k"] []
  F_l_may : Fun K "_law_may" "_law_may" s_l_may A.f_l_may A.d_l_may
  g_l_may : mg "_law_may" = some (.ref A.f_l_may)
  b_l_may : Binds K A.d_l_may ["_law_row", "_law_number"] []
  F_law : Fun K "law" "law" s_law A.f_law A.d_law
  g_law : mg "law" = some (.ref A.f_law)
  b_law : Binds K A.d_law ["_law_script"] []
def spL (K : PySem.W.Frag) : Sp := fun vs H Q _ => ∃ (a : Addr) (ns : List Int), vs = [.ref a] ∧ SqL K H a (ns.map V.int) ∧ ns.length ≤ 63 ∧ ∀ H', Q (.bl true) H'
abbrev sp_law (K : PySem.W.Frag) (A : Ads) : Sp := spL K
def cell (ns : List Int) (k : Int) : Int := if ns = [] then k * 7919 else ns.getD (k % (ns.length : Int)).toNat 0 + k / (ns.length : Int) * 104729
def sp_l_cell (K : PySem.W.Frag) (A : Ads) : Sp := fun vs H Q _ => ∃ (a : Addr) (ns : List Int) (k : Int), vs = [.ref a, .int k] ∧ SqL K H a (ns.map V.int) ∧ ns.length ≤ 63 ∧ RetV (.int (cell ns k)) H Q
def drawn (c k : Int) : Int := ((c * 6364136223846793005 + (k + 1) * 1442695040888963407) % 340282366920938463463374607431768211507) * ((c * 6364136223846793005 + (k + 1) * 1442695040888963407) % 340282366920938463463374607431768211507) % 340282366920938463463374607431768211297
def sp_l_drawn (K : PySem.W.Frag) (A : Ads) : Sp := fun vs H Q _ => ∃ (c k : Int), vs = [.int c, .int k] ∧ RetV (.int (drawn c k)) H Q
theorem drawn_nn (c k : Int) : 0 ≤ drawn c k := Int.emod_nonneg _ (by decide)
theorem drawn_lt (c k : Int) : drawn c k < 340282366920938463463374607431768211297 := Int.emod_lt_of_pos _ (by decide)
theorem len_law {K : PySem.W.Frag} {vs : List V} {H : Hp} {Q : VK} {E : XK} (h : spL K vs H Q E) : vs.length = 1 := by
  obtain ⟨_, _, rfl, _⟩ := h
  rfl
theorem len_l_cell {K : PySem.W.Frag} {A : Ads} {vs : List V} {H : Hp} {Q : VK} {E : XK} (h : sp_l_cell K A vs H Q E) : vs.length = 2 := by
  obtain ⟨_, _, _, rfl, _⟩ := h
  rfl
theorem len_l_drawn {K : PySem.W.Frag} {A : Ads} {vs : List V} {H : Hp} {Q : VK} {E : XK} (h : sp_l_drawn K A vs H Q E) : vs.length = 2 := by
  obtain ⟨_, _, rfl, _⟩ := h
  rfl
def ab (i : Int) : Int := if i < 0 then -i else i
/-- the middle one of numbers, of two the nearer -/
def mid (ns : List Int) (near : Int) : Int :=
  if ((srt ns).length : Int) % 2 = 1 then (srt ns).getD (((srt ns).length : Int) / 2).toNat 0
  else if ab ((srt ns).getD (((srt ns).length : Int) / 2).toNat 0 - near) < ab ((srt ns).getD (((srt ns).length : Int) / 2 - 1).toNat 0 - near) then (srt ns).getD (((srt ns).length : Int) / 2).toNat 0
  else (srt ns).getD (((srt ns).length : Int) / 2 - 1).toNat 0
def mvd (one goal most : Int) : Int := if one < goal then (if one + most < goal then one + most else goal) else (if one - most > goal then one - most else goal)
def agr (ns : List Int) (v t : Int) : List V := Evl.given ns.length (fun i => decide (ab (ns.getD i 0 - v) ≤ t)) fun i => .int (i : Int)
def sp_middle (K : PySem.W.Frag) (A : Ads) : Sp := fun vs H Q _ => ∃ (a : Addr) (ns : List Int) (near : Int), vs = [.ref a, .int near] ∧ SqL K H a (ns.map V.int) ∧ ns ≠ [] ∧ ns.length < 64 ∧ RetV (.int (mid ns near)) H Q
theorem len_middle {K : PySem.W.Frag} {A : Ads} {vs : List V} {H : Hp} {Q : VK} {E : XK} (h : sp_middle K A vs H Q E) : vs.length = 2 := by
  obtain ⟨_, _, _, rfl, _⟩ := h
  rfl
def sp_moved (K : PySem.W.Frag) (A : Ads) : Sp := fun vs H Q _ => ∃ (one goal most : Int), vs = [.int one, .int goal, .int most] ∧ RetV (.int (mvd one goal most)) H Q
def sp_agree (K : PySem.W.Frag) (A : Ads) : Sp := fun vs H Q _ => ∃ (a : Addr) (ns : List Int) (v t : Int), vs = [.ref a, .int v, .int t] ∧ SqL K H a (ns.map V.int) ∧ ns.length ≤ 1000 ∧ RetL (agr ns v t) H Q
theorem len_moved {K : PySem.W.Frag} {A : Ads} {vs : List V} {H : Hp} {Q : VK} {E : XK} (h : sp_moved K A vs H Q E) : vs.length = 3 := by
  obtain ⟨_, _, _, rfl, _⟩ := h
  rfl
theorem len_agree {K : PySem.W.Frag} {A : Ads} {vs : List V} {H : Hp} {Q : VK} {E : XK} (h : sp_agree K A vs H Q E) : vs.length = 3 := by
  obtain ⟨_, _, _, _, rfl, _⟩ := h
  rfl
def sp_l_numbers (K : PySem.W.Frag) (A : Ads) : Sp := fun vs H Q _ => ∃ (a : Addr) (ns : List Int) (k : Int), vs = [.ref a, .int k] ∧ SqL K H a (ns.map V.int) ∧ ns.length ≤ 63 ∧
  ∀ (ms : List Int), ms ≠ [] → ms.length ≤ 20 → RetL (ms.map V.int) H Q
def lessN (ms : List Int) (n : Int) : Nat := (ms.filter fun y => decide (y < n)).length
def moreN (ms : List Int) (n : Int) : Nat := (ms.filter fun y => decide (n < y)).length
def mayB (ms : List Int) (n : Int) : Bool := decide (2 * (lessN ms n : Int) ≤ (ms.length : Int)) && decide (2 * (moreN ms n : Int) ≤ (ms.length : Int))
def sp_l_may (K : PySem.W.Frag) (A : Ads) : Sp := fun vs H Q _ => ∃ (a : Addr) (ms : List Int) (n : Int), vs = [.ref a, .int n] ∧ SqL K H a (ms.map V.int) ∧ ms.length ≤ 20 ∧ RetV (.bl (mayB ms n)) H Q
theorem len_l_numbers {K : PySem.W.Frag} {A : Ads} {vs : List V} {H : Hp} {Q : VK} {E : XK} (h : sp_l_numbers K A vs H Q E) : vs.length = 2 := by
  obtain ⟨_, _, _, rfl, _⟩ := h
  rfl
theorem len_l_may {K : PySem.W.Frag} {A : Ads} {vs : List V} {H : Hp} {Q : VK} {E : XK} (h : sp_l_may K A vs H Q E) : vs.length = 2 := by
  obtain ⟨_, _, _, rfl, _⟩ := h
  rfl
theorem sc_middle : FnScope ["numbers", "near", "row", "half"] ["numbers", "near"] (defScope s_middle) := ⟨rfl, rfl, rfl, by decide +kernel, rfl, by decide +kernel, by decide +kernel⟩
def t_middle (K : PySem.W.Frag) (A : Ads) (E : XK) : TS :=
      (tSeq (tAsg (tCB (rSorted K) (tCons (tVar 0) tNil)) (gName 2))
      (tSeq (tAsg (tOp oDivW (tCB (rLenS K) (tCons (tVar 2) tNil)) (tC (.int 2))) (gName 3))
      (tSeq (tIfS (tTest (tOp rEq (tOp oMod (tCB (rLenS K) (tCons (tVar 2) tNil)) (tC (.int 2))) (tC (.int 1)))) (tRet (tOp (rIxL K) (tVar 2) (tVar 3))) tNext)
      (tSeq (tIfS (tTest (tOp oLt (tCB rAbs (tCons (tOp oSub (tOp (rIxL K) (tVar 2) (tVar 3)) (tVar 1)) tNil)) (tCB rAbs (tCons (tOp oSub (tOp (rIxL K) (tVar 2) (tOp oSub (tVar 3) (tC (.int 1)))) (tVar 1)) tNil)))) (tRet (tOp (rIxL K) (tVar 2) (tVar 3))) tNext)
      (tRet (tOp (rIxL K) (tVar 2) (tOp oSub (tVar 3) (tC (.int 1)))))))))
theorem sc_moved : FnScope ["one", "goal", "most"] ["one", "goal", "most"] (defScope s_moved) := ⟨rfl, rfl, rfl, by decide +kernel, rfl, by decide +kernel, by decide +kernel⟩
def t_moved (K : PySem.W.Frag) (A : Ads) (E : XK) : TS :=
      (tSeq (tIfS (tTest (tOp oGt (tVar 1) (tVar 0))) (tRet (tCB rMin2 (tCons (tVar 1) (tCons (tOp oAdd (tVar 0) (tVar 2)) tNil)))) tNext)
      (tRet (tCB rMax2 (tCons (tVar 1) (tCons (tOp oSub (tVar 0) (tVar 2)) tNil)))))
theorem sc_agree : FnScope ["numbers", "value", "threshold", "place", "number"] ["numbers", "value", "threshold"] (defScope s_agree) := ⟨rfl, rfl, rfl, by decide +kernel, rfl, by decide +kernel, by decide +kernel⟩
def t_agree (K : PySem.W.Frag) (A : Ads) (E : XK) : TS :=
      (tRet (tLc (iEnum K (tCons (tVar 0) tNil)) (gTup K 2 (gCons (gName 3) (gCons (gName 4) gNil))) (tTest (tOp oLe (tCB rAbs (tCons (tOp oSub (tVar 4) (tVar 1)) tNil)) (tVar 2))) (tVar 3) [3, 4]))
theorem sc_l_cell : FnScope ["_law_script", "_law_k"] ["_law_script", "_law_k"] (defScope s_l_cell) := ⟨rfl, rfl, rfl, by decide +kernel, rfl, by decide +kernel, by decide +kernel⟩
def t_l_cell (K : PySem.W.Frag) (A : Ads) (E : XK) : TS :=
      (tSeq (tIfS (tTest (tOp (rEqD K) (tVar 0) (tLst tNil))) (tRet (tOp oMul (tVar 1) (tC (.int 7919)))) tNext)
      (tRet (tOp oAdd (tOp (rIxL K) (tVar 0) (tOp oMod (tVar 1) (tCB (rLenS K) (tCons (tVar 0) tNil)))) (tOp oMul (tOp oDivW (tVar 1) (tCB (rLenS K) (tCons (tVar 0) tNil))) (tC (.int 104729))))))
theorem sc_l_drawn : FnScope ["_law_cell_here", "_law_k", "_law_more"] ["_law_cell_here", "_law_k"] (defScope s_l_drawn) := ⟨rfl, rfl, rfl, by decide +kernel, rfl, by decide +kernel, by decide +kernel⟩
def t_l_drawn (K : PySem.W.Frag) (A : Ads) (E : XK) : TS :=
      (tSeq (tAsg (tOp oMod (tOp oAdd (tOp oMul (tVar 0) (tC (.int 6364136223846793005))) (tOp oMul (tOp oAdd (tVar 1) (tC (.int 1))) (tC (.int 1442695040888963407)))) (tC (.int 340282366920938463463374607431768211507))) (gName 2))
      (tRet (tOp oMod (tOp oMulW (tVar 2) (tVar 2)) (tC (.int 340282366920938463463374607431768211297)))))
theorem sc_l_numbers : FnScope ["_law_script", "_law_k", "_law_row", "_law_j", "_law_more"] ["_law_script", "_law_k"] (defScope s_l_numbers) := ⟨rfl, rfl, rfl, by decide +kernel, rfl, by decide +kernel, by decide +kernel⟩
def t_l_numbers (K : PySem.W.Frag) (A : Ads) (E : XK) : TS :=
      (tSeq (tAsg (tLst tNil) (gName 2))
      (tSeq (tFor (iRng1 (tCons (tOp oAdd (tC (.int 1)) (tOp oMod (tCall (sp_l_drawn K A) [] E0 (tCons (tCall (sp_l_cell K A) [] E0 (tCons (tVar 0) (tCons (tVar 1) tNil))) (tCons (tVar 1) tNil))) (tC (.int 20)))) tNil)) (gName 3) (tSeq (tAsg (tCall (sp_l_drawn K A) [] E0 (tCons (tCall (sp_l_cell K A) [] E0 (tCons (tVar 0) (tCons (tOp oAdd (tVar 1) (tVar 3)) tNil))) (tCons (tOp oAdd (tOp oAdd (tVar 1) (tVar 3)) (tC (.int 20))) tNil))) (gName 4))
      (tDrop (tBM K "list" rAppend (tVar 2) (tCons (tOp (rIxL K) (tLst (tCons (tOp oMod (tVar 4) (tC (.int 5))) (tCons (tOp oSub (tOp oMod (tVar 4) (tC (.int 100))) (tC (.int 50))) (tCons (tOp oSub (tOp oMod (tVar 4) (tOp oAdd (tOp oMul (tC (.int 2)) (tOp oPow (tC (.int 10)) (tC (.int 12)))) (tC (.int 1)))) (tOp oPow (tC (.int 10)) (tC (.int 12)))) tNil)))) (tOp oMod (tOp oDivW (tVar 4) (tOp oPow (tC (.int 2)) (tC (.int 50)))) (tC (.int 3)))) tNil)))))
      (tRet (tVar 2))))
theorem sc_l_may : FnScope ["_law_row", "_law_number", "_law_less", "_law_one", "_law_more"] ["_law_row", "_law_number"] (defScope s_l_may) := ⟨rfl, rfl, rfl, by decide +kernel, rfl, by decide +kernel, by decide +kernel⟩
def t_l_may (K : PySem.W.Frag) (A : Ads) (E : XK) : TS :=
      (tSeq (tAsg (tCB (rLenS K) (tCons (tLc (iList K (tVar 0)) (gName 3) (tTest (tOp oLt (tVar 3) (tVar 1))) (tVar 3) [3]) tNil)) (gName 2))
      (tSeq (tAsg (tCB (rLenS K) (tCons (tLc (iList K (tVar 0)) (gName 3) (tTest (tOp oGt (tVar 3) (tVar 1))) (tVar 3) [3]) tNil)) (gName 4))
      (tRet (tAndV (tOp oLe (tOp oMul (tC (.int 2)) (tVar 2)) (tCB (rLenS K) (tCons (tVar 0) tNil))) (tOp oLe (tOp oMul (tC (.int 2)) (tVar 4)) (tCB (rLenS K) (tCons (tVar 0) tNil)))))))
theorem sc_law : FnScope ["_law_script", "_law_k", "_law_more", "_law_row", "_law_near", "_law_some", "_law_one", "_law_due", "_law_handed", "_law_found", "_law_threshold", "_law_j", "_law_most"] ["_law_script"] (defScope s_law) := ⟨rfl, rfl, rfl, by decide +kernel, rfl, by decide +kernel, by decide +kernel⟩
def t_law (K : PySem.W.Frag) (A : Ads) (E : XK) : TS :=
      (tSeq (tFor (iRng1 (tCons (tCB rMax2 (tCons (tC (.int 1)) (tCons (tCB rMin2 (tCons (tC (.int 6)) (tCons (tCB (rLenS K) (tCons (tVar 0) tNil)) tNil))) tNil))) tNil)) (gName 1) (tSeq (tAsg (tCall (sp_l_drawn K A) [] E0 (tCons (tCall (sp_l_cell K A) [] E0 (tCons (tVar 0) (tCons (tVar 1) tNil))) (tCons (tOp oAdd (tVar 1) (tC (.int 300))) tNil))) (gName 2))
      (tSeq (tAsg (tCall (sp_l_numbers K A) [] E0 (tCons (tVar 0) (tCons (tOp oMul (tC (.int 20)) (tVar 1)) tNil))) (gName 3))
      (tSeq (tAsg (tOp (rIxL K) (tLst (tCons (tOp oSub (tOp oAdd (tOp (rIxL K) (tVar 3) (tOp oMod (tOp oDivW (tVar 2) (tC (.int 8))) (tCB (rLenS K) (tCons (tVar 3) tNil)))) (tOp oMod (tOp oDivW (tVar 2) (tC (.int 256))) (tC (.int 3)))) (tC (.int 1))) (tCons (tOp oSub (tOp oMod (tOp oDivW (tVar 2) (tC (.int 8))) (tC (.int 120))) (tC (.int 60))) (tCons (tOp oPow (tC (.int 10)) (tC (.int 13))) tNil)))) (tOp oMod (tVar 2) (tC (.int 3)))) (gName 4))
      (tSeq (tAsg (tCB (rSorted K) (tCons (tLc (iList K (tVar 3)) (gName 6) (tB (tCall (sp_l_may K A) [] E0 (tCons (tVar 3) (tCons (tVar 6) tNil)))) (tVar 6) [6]) tNil)) (gName 5))
      (tSeq (tAsg (tOp (rIxL K) (tVar 5) (tC (.int 0))) (gName 7))
      (tSeq (tFor (iList K (tVar 5)) (gName 6) (tIfS (tTest (tOp oLt (tCB rAbs (tCons (tOp oSub (tVar 6) (tVar 4)) tNil)) (tCB rAbs (tCons (tOp oSub (tVar 7) (tVar 4)) tNil)))) (tAsg (tVar 6) (gName 7)) tNext))
      (tSeq (tAsg (tCB (rListS K) (tCons (tVar 3) tNil)) (gName 8))
      (tSeq (tAsg (tCall (sp_middle K A) [] E0 (tCons (tVar 8) (tCons (tVar 4) tNil))) (gName 9))
      (tSeq (tIfS (tOr (tB (tCB (rIsi K) (tCons (tVar 9) (tCons (tC (.ty "bool")) tNil)))) (tOr (tNot (tB (tCB (rIsi K) (tCons (tVar 9) (tCons (tC (.ty "int")) tNil))))) (tOr (tTest (tOp rNe (tVar 9) (tVar 7))) (tTest (tOp (rNeD K) (tVar 8) (tVar 3)))))) (tRet (tC (.bl false))) tNext)
      (tSeq (tAsg (tOp (rIxL K) (tLst (tCons (tC (.int 0)) (tCons (tOp oMod (tOp oDivW (tVar 2) (tOp oPow (tC (.int 2)) (tC (.int 20)))) (tC (.int 60))) (tCons (tOp oPow (tC (.int 10)) (tC (.int 12))) tNil)))) (tOp oMod (tOp oDivW (tVar 2) (tOp oPow (tC (.int 2)) (tC (.int 18)))) (tC (.int 3)))) (gName 10))
      (tSeq (tAsg (tCall (sp_agree K A) [] E0 (tCons (tVar 8) (tCons (tVar 4) (tCons (tVar 10) tNil)))) (gName 9))
      (tSeq (tIfS (tOr (tNot (tB (tCB (rIsi K) (tCons (tVar 9) (tCons (tC (.ty "list")) tNil))))) (tTest (tOp (rNeD K) (tVar 8) (tVar 3)))) (tRet (tC (.bl false))) tNext)
      (tSeq (tIfS (tTest (tOp (rNeD K) (tVar 9) (tLc (iRng1 (tCons (tCB (rLenS K) (tCons (tVar 3) tNil)) tNil)) (gName 11) (tTest (tChain oLe oLe (tUn oNeg (tVar 10)) (tOp oSub (tOp (rIxL K) (tVar 3) (tVar 11)) (tVar 4)) (tVar 10))) (tVar 11) [11]))) (tRet (tC (.bl false))) tNext)
      (tSeq (tAsg (tOp (rIxL K) (tLst (tCons (tC (.int 0)) (tCons (tC (.int 1)) (tCons (tOp oMod (tOp oDivW (tVar 2) (tOp oPow (tC (.int 2)) (tC (.int 30)))) (tC (.int 100))) (tCons (tOp oPow (tC (.int 10)) (tC (.int 14))) tNil))))) (tOp oMod (tOp oDivW (tVar 2) (tOp oPow (tC (.int 2)) (tC (.int 28)))) (tC (.int 4)))) (gName 12))
      (tSeq (tAsg (tCall (sp_moved K A) [] E0 (tCons (tOp (rIxL K) (tVar 3) (tC (.int 0))) (tCons (tVar 4) (tCons (tVar 12) tNil)))) (gName 9))
      (tIfS (tOr (tTest (tOp oGt (tCB rAbs (tCons (tOp oSub (tVar 9) (tOp (rIxL K) (tVar 3) (tC (.int 0)))) tNil)) (tVar 12))) (tTest (tOp rNe (tCB rAbs (tCons (tOp oSub (tVar 9) (tVar 4)) tNil)) (tCB rMax2 (tCons (tC (.int 0)) (tCons (tOp oSub (tCB rAbs (tCons (tOp oSub (tOp (rIxL K) (tVar 3) (tC (.int 0))) (tVar 4)) tNil)) (tVar 12)) tNil)))))) (tRet (tC (.bl false))) tNext)))))))))))))))))
      (tRet (tC (.bl true))))
end MV
namespace MV
open PySem PySem.Spec PyProof.Rows L2 Evl
section
variable {K : PySem.W.Frag} {mg : Str → Option Value} {A : Ads}
theorem pure_l_cell (T : Txt K mg A) (vs : List V) (H : Hp) (Q : VK) (E : XK) (h : sp_l_cell K A vs H Q E) : t_l_cell K A E { nx := fun _ H' => Q .non H', rt := Q } (start ["_law_script", "_law_k"] vs) H := by
  obtain ⟨a, ns, k, rfl, hS, hl, q⟩ := h
  show t_l_cell K A E _ [some (.ref a), some (.int k)] H
  refine q_when (et_test (ev_eqNil (ev_var rfl) hS (ints_flat ns))) (fun hb H1 e1 => ?_) (fun hb H1 e1 => ?_)
  · have e0 : ns = [] := by simpa using hb
    refine s_ret (v := .int (cell ns k)) ?_ fun H2 e2 => q H2 (e1.trans e2)
    have e : cell ns k = k * 7919 := by unfold cell; rw [if_pos e0]
    rw [e]
    walk_at "ev"
  · have e0 : ns ≠ [] := by simpa using hb
    have hS1 := ex_l e1 hS
    have hp : 0 < ns.length := List.length_pos_iff.mpr e0
    have hm : (ns.map V.int).length = ns.length := List.length_map ..
    refine s_ret (v := .int (cell ns k)) ?_ fun H2 e2 => q H2 (e1.trans e2)
    have e : cell ns k = ns.getD (k % ((ns.map V.int).length : Int)).toNat 0 + k / ((ns.map V.int).length : Int) * 104729 := by unfold cell; rw [if_neg e0, hm]
    rw [e]
    have z0 := Int.emod_nonneg k (show ((ns.map V.int).length : Int) ≠ 0 by omega)
    have z1 := Int.emod_lt_of_pos k (show (0 : Int) < ((ns.map V.int).length : Int) by omega)
    walk_at "ev"
theorem pure_l_drawn (T : Txt K mg A) (vs : List V) (H : Hp) (Q : VK) (E : XK) (h : sp_l_drawn K A vs H Q E) : t_l_drawn K A E { nx := fun _ H' => Q .non H', rt := Q } (start ["_law_cell_here", "_law_k", "_law_more"] vs) H := by
  obtain ⟨c, k, rfl, q⟩ := h
  show t_l_drawn K A E _ [some (.int c), some (.int k), none] H
  refine q_asg (v := .int ((c * 6364136223846793005 + (k + 1) * 1442695040888963407) % 340282366920938463463374607431768211507)) ?_ fun H1 e1 => ?_
  · walk_at "ev"
  · refine s_ret (v := .int (drawn c k)) ?_ fun H2 e2 => q H2 (e1.trans e2)
    have h0 := Int.emod_nonneg (c * 6364136223846793005 + (k + 1) * 1442695040888963407) (show (340282366920938463463374607431768211507 : Int) ≠ 0 by decide)
    have h1 := Int.emod_lt_of_pos (c * 6364136223846793005 + (k + 1) * 1442695040888963407) (show (0 : Int) < 340282366920938463463374607431768211507 by decide)
    have hb : ((c * 6364136223846793005 + (k + 1) * 1442695040888963407) % 340282366920938463463374607431768211507).natAbs < 2 ^ 200 := Nat.lt_trans (m := 340282366920938463463374607431768211507) (by omega) (by decide)
    unfold drawn
    walk_at "ev"
    exact wide_mul hb hb (by decide) (by decide) (by decide)
end
end MV
namespace MV
open PySem PySem.Spec PyProof.Rows L2 Evl
section
variable {K : PySem.W.Frag} {A : Ads} {H : Hp} {a : Addr} {ns : List Int} {c k : Int}
theorem spv_cell (hS : SqL K H a (ns.map V.int)) (hl : ns.length ≤ 63) : SpV (sp_l_cell K A) [.ref a, .int k] H (.int (cell ns k)) := fun H1 e Q q E => ⟨a, ns, k, rfl, ex_l e hS, hl, q⟩
theorem spv_drawn : SpV (sp_l_drawn K A) [.int c, .int k] H (.int (drawn c k)) := fun H1 e Q q E => ⟨c, k, rfl, q⟩
end
end MV
local macro_rules | `(tactic| walk_at "ev1") => `(tactic| (first | with_reducible exact MV.spv_drawn | with_reducible exact MV.spv_cell (by assumption) (by assumption)))
namespace MV
open PySem PySem.Spec PyProof.Rows L2 Evl
section
variable {K : PySem.W.Frag} {mg : Str → Option Value} {A : Ads}
theorem pure_middle (T : Txt K mg A) (vs : List V) (H : Hp) (Q : VK) (E : XK) (h : sp_middle K A vs H Q E) : t_middle K A E { nx := fun _ H' => Q .non H', rt := Q } (start ["numbers", "near", "row", "half"] vs) H := by
  obtain ⟨a, ns, near, rfl, hS, hne, hl, q⟩ := h
  show t_middle K A E _ [some (.ref a), some (.int near), none, none] H
  have hp : 0 < (srt ns).length := by rw [srt_len]; exact List.length_pos_iff.mpr hne
  refine q_asgL (el_cb (by walk_at "ev") (rcl_sorted hS hl)) fun p H1 np e1 h1 => ?_
  have hS1 : SqL K H1 p ((srt ns).map V.int) := sq_of h1
  have hm : (((srt ns).map V.int).length : Int) = ((srt ns).length : Int) := by rw [List.length_map]
  refine q_asg (v := .int (((srt ns).length : Int) / 2)) ?_ fun H2 e2 => ?_
  · rw [← hm]
    walk_at "ev"
  have hS2 := ex_l e2 hS1
  refine q_when (b := decide (((srt ns).length : Int) % 2 = 1)) ?_ (fun hb H3 e3 => ?_) (fun hb H3 e3 => ?_)
  · rw [← hm]
    walk_at "ev"
  · have hb1 : ((srt ns).length : Int) % 2 = 1 := by simpa using hb
    refine s_ret (v := .int (mid ns near)) ?_ fun H4 e4 => q H4 (((e1.trans e2).trans e3).trans e4)
    have e : mid ns near = (srt ns).getD (((srt ns).length : Int) / 2).toNat 0 := by unfold mid; rw [if_pos hb1]
    rw [e]
    have hS3 := ex_l e3 hS2
    walk_at "ev"
  · have hb1 : ¬ ((srt ns).length : Int) % 2 = 1 := by simpa using hb
    have hS3 := ex_l e3 hS2
    refine q_when (b := decide (ab ((srt ns).getD (((srt ns).length : Int) / 2).toNat 0 - near) < ab ((srt ns).getD (((srt ns).length : Int) / 2 - 1).toNat 0 - near))) ?_ (fun hc H4 e4 => ?_) (fun hc H4 e4 => ?_)
    · unfold ab
      walk_at "ev"
    · have hc1 := of_decide_eq_true hc
      have hS4 := ex_l e4 hS3
      refine s_ret (v := .int (mid ns near)) ?_ fun H5 e5 => q H5 ((((e1.trans e2).trans e3).trans e4).trans e5)
      have e : mid ns near = (srt ns).getD (((srt ns).length : Int) / 2).toNat 0 := by unfold mid; rw [if_neg hb1, if_pos hc1]
      rw [e]
      walk_at "ev"
    · have hc1 := of_decide_eq_false hc
      have hS4 := ex_l e4 hS3
      refine s_ret (v := .int (mid ns near)) ?_ fun H5 e5 => q H5 ((((e1.trans e2).trans e3).trans e4).trans e5)
      have e : mid ns near = (srt ns).getD (((srt ns).length : Int) / 2 - 1).toNat 0 := by unfold mid; rw [if_neg hb1, if_neg hc1]
      rw [e]
      walk_at "ev"
end
end MV
namespace MV
open PySem PySem.Spec PyProof.Rows L2 Evl
theorem spv_middle {K : PySem.W.Frag} {A : Ads} {H : Hp} {a : Addr} {ns : List Int} {near : Int} (hS : SqL K H a (ns.map V.int)) (hn : ns ≠ []) (hl : ns.length < 64) : SpV (sp_middle K A) [.ref a, .int near] H (.int (mid ns near)) := fun H1 e Q q E => ⟨a, ns, near, rfl, ex_l e hS, hn, hl, q⟩
end MV
namespace MV
open PySem PySem.Spec PyProof.Rows L2 Evl
section
variable {K : PySem.W.Frag} {mg : Str → Option Value} {A : Ads}
theorem pure_moved (T : Txt K mg A) (vs : List V) (H : Hp) (Q : VK) (E : XK) (h : sp_moved K A vs H Q E) : t_moved K A E { nx := fun _ H' => Q .non H', rt := Q } (start ["one", "goal", "most"] vs) H := by
  obtain ⟨one, goal, most, rfl, q⟩ := h
  show t_moved K A E _ [some (.int one), some (.int goal), some (.int most)] H
  refine q_when (b := decide (one < goal)) (by walk_at "ev") (fun hb H1 e1 => ?_) (fun hb H1 e1 => ?_)
  · have e : mvd one goal most = if one + most < goal then one + most else goal := by unfold mvd; rw [if_pos (of_decide_eq_true hb)]
    refine s_ret (v := .int (mvd one goal most)) ?_ fun H2 e2 => q H2 (e1.trans e2)
    rw [e]
    walk_at "ev"
  · have e : mvd one goal most = if one - most > goal then one - most else goal := by unfold mvd; rw [if_neg (of_decide_eq_false hb)]
    refine s_ret (v := .int (mvd one goal most)) ?_ fun H2 e2 => q H2 (e1.trans e2)
    rw [e]
    walk_at "ev"
theorem pure_agree (T : Txt K mg A) (vs : List V) (H : Hp) (Q : VK) (E : XK) (h : sp_agree K A vs H Q E) : t_agree K A E { nx := fun _ H' => Q .non H', rt := Q } (start ["numbers", "value", "threshold", "place", "number"] vs) H := by
  obtain ⟨a, ns, v, t, rfl, hS, hl, q⟩ := h
  show t_agree K A E _ [some (.ref a), some (.int v), some (.int t), none, none] H
  have hm : (ns.map V.int).length = ns.length := List.length_map ..
  refine s_retL (xs := agr ns v t) (el_is (el_lcE (xs := ns.map V.int) (fun i => decide (ab (ns.getD i 0 - v) ≤ t)) (fun i => .int (i : Int)) (by walk_at "ev") hS (by omega) rfl (fun _ _ => rfl) (fun i x H1 e1 hx => ?_) (fun i x H1 e1 hx _ => ?_)) ?_) q
  · rw [List.getElem?_map] at hx
    have e : x = .int (ns.getD i 0) := by
      rw [List.getD_eq_getElem?_getD]
      cases hn : ns[i]? with
      | none => rw [hn] at hx; cases hx
      | some n => rw [hn] at hx; exact (Option.some.inj hx).symm
    subst e
    unfold ab
    walk_at "ev"
  · walk_at "ev"
  · unfold agr
    rw [hm]
end
end MV
namespace MV
open PySem PySem.Spec PyProof.Rows L2 Evl
theorem spv_moved {K : PySem.W.Frag} {A : Ads} {H : Hp} {one goal most : Int} : SpV (sp_moved K A) [.int one, .int goal, .int most] H (.int (mvd one goal most)) := fun H1 e Q q E => ⟨one, goal, most, rfl, q⟩
theorem spl_agree {K : PySem.W.Frag} {A : Ads} {H : Hp} {a : Addr} {ns : List Int} {v t : Int} (hS : SqL K H a (ns.map V.int)) (hl : ns.length ≤ 1000) : SpL (sp_agree K A) [.ref a, .int v, .int t] H (agr ns v t) := fun H1 e Q q E => ⟨a, ns, v, t, rfl, ex_l e hS, hl, q⟩
end MV
namespace MV
open PySem PySem.Spec PyProof.Rows L2 Evl
section
variable {K : PySem.W.Frag} {mg : Str → Option Value} {A : Ads}
theorem pure_l_numbers (T : Txt K mg A) (vs : List V) (H : Hp) (Q : VK) (E : XK) (h : sp_l_numbers K A vs H Q E) : t_l_numbers K A E { nx := fun _ H' => Q .non H', rt := Q } (start ["_law_script", "_law_k", "_law_row", "_law_j", "_law_more"] vs) H := by
  obtain ⟨a, ns, k, rfl, hS, hl, q⟩ := h
  show t_l_numbers K A E _ [some (.ref a), some (.int k), none, none, none] H
  refine q_asgL (el_lst ea_nil (by decide)) fun p H1 np e1 h1 => ?_
  have hS1 := ex_l e1 hS
  have d0 := drawn_nn (cell ns k) k
  refine q_forR1 (n := 1 + drawn (cell ns k) k % 20) (by walk_at "ev") (by omega) (fun i σ H' => ∃ (y3 y4 : Option V) (ms : List Int), σ = [some (.ref a), some (.int k), some (.ref p), y3, y4] ∧ Ex H H' ∧ H' p = some (.lst (ms.map V.int)) ∧ ms.length = i)
    (fun H2 e2 => ⟨none, none, [], rfl, e1.trans e2, e2 p _ h1, rfl⟩) (fun i σ H2 hi ⟨y3, y4, ms, es, e2, h2, hm⟩ => ?_) (fun σ H2 ⟨y3, y4, ms, es, e2, h2, hm⟩ => ?_)
  · subst es
    have hS2 := ex_l e2 hS
    refine q_asg (v := .int (drawn (cell ns (k + (i : Int))) (k + (i : Int) + 20))) (by walk_at "ev") fun H3 e3 => ?_
    have h3 := e3 p _ h2
    refine s_appX (P := IsI) h3 (by walk_at "ev") ⟨_, (by walk_at "ev"), _, rfl⟩ (by rw [List.length_map]; omega) fun v H4 ⟨m, em⟩ e4 => ?_
    subst em
    exact ⟨_, _, ms ++ [m], rfl, exGrow e2 (e3.trans e4) np, by rw [upd_same, List.map_append]; rfl, by rw [List.length_append, hm]; rfl⟩
  · subst es
    have hm0 : ms ≠ [] := fun z => by rw [z] at hm; simp at hm; omega
    exact s_ret (ev_var rfl) fun H3 e3 => q ms hm0 (by omega) p H3 np (e2.trans e3) (e3 p _ h2)
theorem pure_l_may (T : Txt K mg A) (vs : List V) (H : Hp) (Q : VK) (E : XK) (h : sp_l_may K A vs H Q E) : t_l_may K A E { nx := fun _ H' => Q .non H', rt := Q } (start ["_law_row", "_law_number", "_law_less", "_law_one", "_law_more"] vs) H := by
  obtain ⟨a, ms, n, rfl, hS, hl, q⟩ := h
  show t_l_may K A E _ [some (.ref a), some (.int n), none, none, none] H
  refine q_asg (ev_lenN (el_lcI (fun y => decide (y < n)) (by walk_at "ev") hS (by omega) (fun _ => rfl) (fun m H1 e1 _ => by walk_at "ev") (fun m H1 e1 _ => by walk_at "ev"))) fun H1 e1 => ?_
  have hS1 := ex_l e1 hS
  refine q_asg (ev_lenN (el_lcI (fun y => decide (n < y)) (by walk_at "ev") hS1 (by omega) (fun _ => rfl) (fun m H1 e1 _ => by walk_at "ev") (fun m H1 e1 _ => by walk_at "ev"))) fun H2 e2 => ?_
  have hS2 := ex_l e2 hS1
  refine s_ret (v := .bl (mayB ms n)) ?_ fun H3 e3 => q H3 ((e1.trans e2).trans e3)
  have e : mayB ms n = (decide (2 * (((ms.filter fun y => decide (y < n)).map V.int).length : Int) ≤ ((ms.map V.int).length : Int)) && decide (2 * (((ms.filter fun y => decide (n < y)).map V.int).length : Int) ≤ ((ms.map V.int).length : Int))) := by
    unfold mayB lessN moreN
    simp only [List.length_map]
  rw [e]
  walk_at "ev"
  all_goals exact .inl ⟨by decide, by decide⟩
theorem spv_may {H : Hp} {a : Addr} {ms : List Int} {n : Int} (hS : SqL K H a (ms.map V.int)) (hl : ms.length ≤ 20) : SpV (sp_l_may K A) [.ref a, .int n] H (.bl (mayB ms n)) := fun H1 e Q q E => ⟨a, ms, n, rfl, ex_l e hS, hl, q⟩
end
end MV
namespace MV
/-! ### the middle one by counts -/
section
variable {r ns : List Int} {n i j : Nat} {x y : Int}
theorem pw_le (h : r.Pairwise (· ≤ ·)) (hi : i ≤ j) (hj : j < r.length) : r[i]'(by omega) ≤ r[j] := by
  rcases Nat.lt_or_eq_of_le hi with h1 | h1
  · exact List.pairwise_iff_getElem.mp h i j (by omega) hj h1
  · subst h1; exact Int.le_refl _
theorem cnt_split (p : Int → Bool) (i : Nat) : (r.filter p).length = ((r.take i).filter p).length + ((r.drop i).filter p).length := by
  rw [← List.length_append, ← List.filter_append, List.take_append_drop]
theorem cnt_none {l : List Int} {p : Int → Bool} (h : ∀ y ∈ l, p y = false) : (l.filter p).length = 0 := by
  rw [List.filter_eq_nil_iff.mpr fun y hy => by rw [h y hy]; decide]
  rfl
theorem cnt_all {l : List Int} {p : Int → Bool} (h : ∀ y ∈ l, p y = true) : (l.filter p).length = l.length := by
  rw [List.filter_eq_self.mpr h]
theorem mem_drop' {y : Int} (h : r.Pairwise (· ≤ ·)) (hi : i < r.length) (hy : y ∈ r.drop i) : r[i] ≤ y := by
  obtain ⟨k, hk, e⟩ := List.mem_iff_getElem.mp hy
  rw [List.getElem_drop] at e
  rw [List.length_drop] at hk
  rw [← e]
  exact pw_le h (by omega) (by omega)
theorem mem_take' {y : Int} (h : r.Pairwise (· ≤ ·)) (hi : i < r.length) (hy : y ∈ r.take (i + 1)) : y ≤ r[i] := by
  obtain ⟨k, hk, e⟩ := List.mem_iff_getElem.mp hy
  rw [List.getElem_take] at e
  rw [List.length_take] at hk
  rw [← e]
  exact pw_le h (by omega) (by omega)
/-- as many lie below the i-th as i, or fewer -/
theorem less_at (h : r.Pairwise (· ≤ ·)) (hi : i < r.length) : (r.filter fun y => decide (y < r[i])).length ≤ i := by
  rw [cnt_split _ i, cnt_none (l := r.drop i) fun y hy => by have := mem_drop' h hi hy; simp; omega]
  have := List.length_filter_le (fun y => decide (y < r[i])) (r.take i)
  rw [List.length_take] at this
  omega
theorem more_at (h : r.Pairwise (· ≤ ·)) (hi : i < r.length) : (r.filter fun y => decide (r[i] < y)).length ≤ r.length - 1 - i := by
  rw [cnt_split _ (i + 1), cnt_none (l := r.take (i + 1)) fun y hy => by have := mem_take' h hi hy; simp; omega]
  have := List.length_filter_le (fun y => decide (r[i] < y)) (r.drop (i + 1))
  rw [List.length_drop] at this
  omega
theorem less_of (h : r.Pairwise (· ≤ ·)) (hi : i < r.length) (hx : r[i] < x) : i + 1 ≤ (r.filter fun y => decide (y < x)).length := by
  rw [cnt_split _ (i + 1), cnt_all (l := r.take (i + 1)) fun y hy => by have := mem_take' h hi hy; simp; omega]
  rw [List.length_take]
  omega
theorem more_of (h : r.Pairwise (· ≤ ·)) (hi : i < r.length) (hx : x < r[i]) : r.length - i ≤ (r.filter fun y => decide (x < y)).length := by
  rw [cnt_split _ i, cnt_all (l := r.drop i) fun y hy => by have := mem_drop' h hi hy; simp; omega]
  rw [List.length_drop]
  omega
end
theorem lessN_srt (ns : List Int) (x : Int) : lessN ns x = ((srt ns).filter fun y => decide (y < x)).length := ((srt_perm ns).symm.filter _).length_eq
theorem moreN_srt (ns : List Int) (x : Int) : moreN ns x = ((srt ns).filter fun y => decide (x < y)).length := ((srt_perm ns).symm.filter _).length_eq
/-- the two places of the middle -/
def loM (ns : List Int) : Int := (srt ns).getD (((srt ns).length - 1) / 2) 0
def hiM (ns : List Int) : Int := (srt ns).getD ((srt ns).length / 2) 0
theorem gd {r : List Int} {i : Nat} (h : i < r.length) : r.getD i 0 = r[i] := by rw [List.getD_eq_getElem?_getD, List.getElem?_eq_getElem h]; rfl
theorem may_iff {ns : List Int} {x : Int} (hx : x ∈ ns) : mayB ns x = true ↔ x = loM ns ∨ x = hiM ns := by
  have hs := srt_pw ns
  have hl := srt_len ns
  have hp : 0 < (srt ns).length := by rw [hl]; exact List.length_pos_of_mem hx
  have g1 : ((srt ns).length - 1) / 2 < (srt ns).length := by omega
  have g2 : (srt ns).length / 2 < (srt ns).length := by omega
  have e1 : loM ns = (srt ns)[((srt ns).length - 1) / 2] := gd g1
  have e2 : hiM ns = (srt ns)[(srt ns).length / 2] := gd g2
  have m : mayB ns x = true ↔ 2 * lessN ns x ≤ ns.length ∧ 2 * moreN ns x ≤ ns.length := by
    unfold mayB
    rw [Bool.and_eq_true, decide_eq_true_eq, decide_eq_true_eq]
    omega
  rw [m, lessN_srt, moreN_srt, ← hl]
  constructor
  · rintro ⟨h1, h2⟩
    obtain ⟨j, hj, ej⟩ := List.mem_iff_getElem.mp (srt_mem.mpr hx)
    by_cases c1 : x < loM ns
    · rw [e1] at c1
      have := more_of hs g1 c1
      omega
    · by_cases c2 : hiM ns < x
      · rw [e2] at c2
        have := less_of hs g2 c2
        omega
      · by_cases c3 : j ≤ ((srt ns).length - 1) / 2
        · have := pw_le hs c3 g1
          rw [ej, ← e1] at this
          exact .inl (by omega)
        · have := pw_le hs (show (srt ns).length / 2 ≤ j by omega) hj
          rw [ej, ← e2] at this
          exact .inr (by omega)
  · rintro (h | h)
    · rw [h, e1]
      have h1 := less_at hs g1
      have h2 := more_at hs g1
      omega
    · rw [h, e2]
      have h1 := less_at hs g2
      have h2 := more_at hs g2
      omega
theorem lo_mem {ns : List Int} (h : ns ≠ []) : loM ns ∈ ns := by
  have hp : 0 < (srt ns).length := by rw [srt_len]; exact List.length_pos_iff.mpr h
  have g1 : ((srt ns).length - 1) / 2 < (srt ns).length := by omega
  rw [show loM ns = (srt ns)[((srt ns).length - 1) / 2] from gd g1]
  exact srt_mem.mp (List.getElem_mem _)
theorem hi_mem {ns : List Int} (h : ns ≠ []) : hiM ns ∈ ns := by
  have hp : 0 < (srt ns).length := by rw [srt_len]; exact List.length_pos_iff.mpr h
  have g1 : (srt ns).length / 2 < (srt ns).length := by omega
  rw [show hiM ns = (srt ns)[(srt ns).length / 2] from gd g1]
  exact srt_mem.mp (List.getElem_mem _)
theorem lo_le_hi {ns : List Int} (h : ns ≠ []) : loM ns ≤ hiM ns := by
  have hp : 0 < (srt ns).length := by rw [srt_len]; exact List.length_pos_iff.mpr h
  have g1 : ((srt ns).length - 1) / 2 < (srt ns).length := by omega
  have g2 : (srt ns).length / 2 < (srt ns).length := by omega
  rw [show loM ns = (srt ns)[((srt ns).length - 1) / 2] from gd g1, show hiM ns = (srt ns)[(srt ns).length / 2] from gd g2]
  exact pw_le (srt_pw ns) (by omega) g2
theorem mid_is {ns : List Int} (h : ns ≠ []) (near : Int) : mid ns near = if ab (hiM ns - near) < ab (loM ns - near) then hiM ns else loM ns := by
  have hp : 0 < (srt ns).length := by rw [srt_len]; exact List.length_pos_iff.mpr h
  unfold mid hiM loM
  by_cases c : ((srt ns).length : Int) % 2 = 1
  · rw [if_pos c]
    have e1 : (((srt ns).length : Int) / 2).toNat = (srt ns).length / 2 := by omega
    have e2 : ((srt ns).length - 1) / 2 = (srt ns).length / 2 := by omega
    rw [e1, e2]
    split <;> rfl
  · rw [if_neg c]
    have e1 : (((srt ns).length : Int) / 2).toNat = (srt ns).length / 2 := by omega
    have e2 : (((srt ns).length : Int) / 2 - 1).toNat = ((srt ns).length - 1) / 2 := by omega
    rw [e1, e2]
/-- the law's own search -/
def near2 (near d x : Int) : Int := if ab (x - near) < ab (d - near) then x else d
theorem fold_two {near a b : Int} : ∀ (l : List Int) (d : Int), (∀ x ∈ l, x = a ∨ x = b) → (d = a ∨ d = b) → (ab (b - near) < ab (a - near) → d = b ∨ b ∈ l) → (¬ ab (b - near) < ab (a - near) → d = a) →
    l.foldl (near2 near) d = if ab (b - near) < ab (a - near) then b else a
  | [], d, _, hd, h1, h2 => by
    by_cases c : ab (b - near) < ab (a - near)
    · rw [if_pos c]
      rcases h1 c with z | z
      · exact z
      · cases z
    · rw [if_neg c]; exact h2 c
  | x :: l, d, hl, hd, h1, h2 => by
    have hx := hl x List.mem_cons_self
    refine fold_two l (near2 near d x) (fun y hy => hl y (List.mem_cons_of_mem _ hy)) ?_ (fun c => ?_) (fun c => ?_)
    · unfold near2; split
      · exact hx
      · exact hd
    · by_cases hb : b ∈ l
      · exact .inr hb
      · left
        unfold near2
        rcases h1 c with z | z
        · subst z
          rcases hx with z | z
          · subst z; rw [if_neg (by omega)]
          · subst z; rw [if_neg (by omega)]
        · rcases List.mem_cons.mp z with z | z
          · subst z
            rcases hd with z | z
            · subst z; rw [if_pos c]
            · subst z; rw [if_neg (by omega)]
          · exact absurd z hb
    · have e := h2 c
      subst e
      unfold near2
      rcases hx with z | z
      · subst z; rw [if_neg (by omega)]
      · subst z; rw [if_neg c]
/-- those that may be the middle, in order -/
def someM (ns : List Int) : List Int := srt (ns.filter (mayB ns))
theorem some_mem {ns : List Int} {x : Int} (hx : x ∈ someM ns) : x = loM ns ∨ x = hiM ns := by
  have h := List.mem_filter.mp (srt_mem.mp hx)
  exact (may_iff h.1).mp h.2
theorem lo_some {ns : List Int} (h : ns ≠ []) : loM ns ∈ someM ns := srt_mem.mpr (List.mem_filter.mpr ⟨lo_mem h, (may_iff (lo_mem h)).mpr (.inl rfl)⟩)
theorem hi_some {ns : List Int} (h : ns ≠ []) : hiM ns ∈ someM ns := srt_mem.mpr (List.mem_filter.mpr ⟨hi_mem h, (may_iff (hi_mem h)).mpr (.inr rfl)⟩)
theorem some_first {ns : List Int} (h : ns ≠ []) : (someM ns).getD 0 0 = loM ns := by
  have hp : 0 < (someM ns).length := List.length_pos_of_mem (lo_some h)
  rw [gd hp]
  have h1 := some_mem (List.getElem_mem hp)
  obtain ⟨j, hj, ej⟩ := List.mem_iff_getElem.mp (lo_some h)
  have h2 := pw_le (srt_pw (ns.filter (mayB ns))) (Nat.zero_le j) hj
  have h3 : (someM ns)[0] ≤ loM ns := by rw [← ej]; exact h2
  have h4 := lo_le_hi h
  omega
theorem due_is {ns : List Int} (h : ns ≠ []) (near : Int) : (someM ns).foldl (near2 near) ((someM ns).getD 0 0) = mid ns near := by
  rw [mid_is h, some_first h]
  exact fold_two _ _ (fun x hx => some_mem hx) (.inl rfl) (fun _ => .inr (hi_some h)) (fun _ => rfl)
theorem moved_near (one goal most : Int) (h : 0 ≤ most) : ¬ most < ab (mvd one goal most - one) ∧ ab (mvd one goal most - goal) = if ab (one - goal) - most > 0 then ab (one - goal) - most else 0 := by
  unfold mvd ab
  constructor
  · (repeat' split) <;> omega
  · (repeat' split) <;> omega
end MV
local macro_rules | `(tactic| walk_at "ev1") => `(tactic| (first | with_reducible exact MV.spv_may (by assumption) (by assumption) | with_reducible exact MV.spv_middle (by assumption) (by assumption) (by omega) | with_reducible exact MV.spv_moved))
namespace MV
open PySem PySem.Spec PyProof.Rows L2 Evl
section
variable {K : PySem.W.Frag} {mg : Str → Option Value} {A : Ads}
theorem near2_yes {near d x : Int} (h : ab (x - near) < ab (d - near)) : near2 near d x = x := by unfold near2; rw [if_pos h]
theorem near2_no {near d x : Int} (h : ¬ ab (x - near) < ab (d - near)) : near2 near d x = d := by unfold near2; rw [if_neg h]
theorem agr_flat (ms : List Int) (v t : Int) : (agr ms v t).all flat4 = true := by
  unfold agr Evl.given
  rw [List.all_map, List.all_eq_true]
  intro x _
  rfl
theorem most_nn {a b c d : Int} (i : Nat) (h : 0 ≤ a ∧ 0 ≤ b ∧ 0 ≤ c ∧ 0 ≤ d) : 0 ≤ (toInts [.int a, .int b, .int c, .int d]).getD i 0 := by
  obtain ⟨h1, h2, h3, h4⟩ := h
  match i with
  | 0 => exact h1
  | 1 => exact h2
  | 2 => exact h3
  | 3 => exact h4
  | n + 4 => exact Int.le_refl 0
theorem pure_law (T : Txt K mg A) (vs : List V) (H : Hp) (Q : VK) (E : XK) (h : spL K vs H Q E) : t_law K A E { nx := fun _ H' => Q .non H', rt := Q } (start ["_law_script", "_law_k", "_law_more", "_law_row", "_law_near", "_law_some", "_law_one", "_law_due", "_law_handed", "_law_found", "_law_threshold", "_law_j", "_law_most"] vs) H := by
  obtain ⟨a, ns, rfl, hS, hl, q⟩ := h
  show t_law K A E _ [some (.ref a), none, none, none, none, none, none, none, none, none, none, none, none] H
  refine q_forR1 (n := if (if ((ns.map V.int).length : Int) < 6 then ((ns.map V.int).length : Int) else 6) > 1 then (if ((ns.map V.int).length : Int) < 6 then ((ns.map V.int).length : Int) else 6) else 1) (by walk_at "ev") (by (repeat' split) <;> omega)
    (fun i σ H' => ∃ y1 y2 y3 y4 y5 y6 y7 y8 y9 y10 y11 y12, σ = [some (.ref a), y1, y2, y3, y4, y5, y6, y7, y8, y9, y10, y11, y12] ∧ Ex H H')
    (fun H1 e1 => ⟨_, _, _, _, _, _, _, _, _, _, _, _, rfl, e1⟩) (fun i σ H1 hi ⟨y1, y2, y3, y4, y5, y6, y7, y8, y9, y10, y11, y12, es, e1⟩ => ?_) (fun σ H1 ⟨y1, y2, y3, y4, y5, y6, y7, y8, y9, y10, y11, y12, es, e1⟩ => ?_)
  · subst es
    have hS1 := ex_l e1 hS
    refine q_asg (v := .int (drawn (cell ns (i : Int)) ((i : Int) + 300))) (by walk_at "ev") fun H2 e2 => ?_
    have d0 := drawn_nn (cell ns (i : Int)) ((i : Int) + 300)
    generalize drawn (cell ns (i : Int)) ((i : Int) + 300) = more at d0 ⊢
    have hS2 := ex_l e2 hS1
    -- the row
    refine q_asgLP (P := fun xs => ∃ ms : List Int, xs = ms.map V.int ∧ ms ≠ [] ∧ ms.length ≤ 20) (elp_call0 (vs := [.ref a, .int (20 * (i : Int))]) ?_ fun H3 e3 Q' q' E' => ⟨a, ns, _, rfl, ex_l e3 hS2, hl, fun ms h1 h2 p H4 hp e4 h4 => q' _ p H4 ⟨ms, rfl, h1, h2⟩ hp e4 h4⟩) fun xs p H3 ⟨ms, exs, hne, hms⟩ np e3 h3 => ?_
    · walk_at "ev"
    subst exs
    have hR3 : SqL K H3 p (ms.map V.int) := sq_of h3
    have hp0 : 0 < (ms.map V.int).length := by rw [List.length_map]; exact List.length_pos_iff.mpr hne
    have hmm : (ms.map V.int).length = ms.length := List.length_map ..
    have z0 := Int.emod_nonneg (more / 8) (show ((ms.map V.int).length : Int) ≠ 0 by omega)
    have z1 := Int.emod_lt_of_pos (more / 8) (show (0 : Int) < ((ms.map V.int).length : Int) by omega)
    -- near
    refine q_asgX (P := IsI) ⟨_, (by walk_at "ev"), _, rfl⟩ fun v H4 ⟨near, en⟩ e4 => ?_
    subst en
    have hR4 := ex_l e4 hR3
    -- those that may be the middle
    refine q_asgL (xs := (someM ms).map V.int) (el_cbN (el_lcI (mayB ms) (by walk_at "ev") hR4 (by omega) (fun _ => rfl) (fun m H5 e5 _ => by have hR5 := ex_l e5 hR4; walk_at "ev") (fun m H5 e5 _ => by walk_at "ev")) fun p5 H5 e5 h5 => rcl_sorted (sq_of h5) (by have := List.length_filter_le (mayB ms) ms; omega)) fun sp H5 nsp e5 h5 => ?_
    have hR5 := ex_l e5 hR4
    have hS5 : SqL K H5 sp ((someM ms).map V.int) := sq_of h5
    have hs0 : 0 < (someM ms).length := List.length_pos_of_mem (lo_some hne)
    refine q_asg (v := .int ((someM ms).getD (0 : Int).toNat 0)) (by walk_at "ev") fun H6 e6 => ?_
    have hS6 := ex_l e6 hS5
    have hR6 := ex_l e6 hR5
    refine q_forLn (a := sp) (xs := (someM ms).map V.int) (by walk_at "ev") hS6 (fun j σ H' => ∃ y6, σ = [some (.ref a), some (.int i), some (.int more), some (.ref p), some (.int near), some (.ref sp), y6, some (.int (((someM ms).take j).foldl (near2 near) ((someM ms).getD 0 0))), y8, y9, y10, y11, y12] ∧ Ex H6 H')
      (fun H7 e7 => ⟨_, rfl, e7⟩) (fun j σ H7 _ ⟨_, _, e7⟩ => ex_l e7 hS6) (fun j x σ H7 hx ⟨y6', es, e7⟩ => ?_) (fun σ H7 ⟨y6', es, e7⟩ => ?_)
    · subst es
      rw [List.getElem?_map] at hx
      obtain ⟨u, hu, rfl⟩ : ∃ u, (someM ms)[j]? = some u ∧ x = .int u := by
        cases e : (someM ms)[j]? with
        | none => rw [e] at hx; cases hx
        | some u => rw [e] at hx; exact ⟨u, rfl, (Option.some.inj hx).symm⟩
      have et : ((someM ms).take (j + 1)).foldl (near2 near) ((someM ms).getD 0 0) = near2 near (((someM ms).take j).foldl (near2 near) ((someM ms).getD 0 0)) u := by
        rw [List.take_add_one, hu, List.foldl_append]
        rfl
      refine s_when (b := decide (ab (u - near) < ab (((someM ms).take j).foldl (near2 near) ((someM ms).getD 0 0) - near))) ?_ (fun hb H8 e8 => ?_) (fun hb H8 e8 => ?_)
      · unfold ab
        walk_at "ev"
      · refine s_asg (v := .int u) (by walk_at "ev") fun H9 e9 => ⟨some (.int u), ?_, (e7.trans e8).trans e9⟩
        rw [et, near2_yes (of_decide_eq_true hb)]
        rfl
      · refine ⟨some (.int u), ?_, e7.trans e8⟩
        rw [et, near2_no (of_decide_eq_false hb)]
        rfl
    · subst es
      have eF : ((someM ms).take ((someM ms).map V.int).length).foldl (near2 near) ((someM ms).getD 0 0) = mid ms near := by
        rw [List.length_map, List.take_length]
        exact due_is hne near
      rw [eF]
      have hR7 := ex_l e7 hR6
      -- handed, found
      refine q_asgL (el_list (by walk_at "ev") hR7) fun hd H8 nhd e8 h8 => ?_
      have hD8 : SqL K H8 hd (ms.map V.int) := sq_of h8
      have hR8 := ex_l e8 hR7
      refine q_asg (v := .int (mid ms near)) (by walk_at "ev") fun H9 e9 => ?_
      have hD9 := ex_l e9 hD8
      have hR9 := ex_l e9 hR8
      have c1 : (false || (!true || (!decide (mid ms near = mid ms near) || false))) = false := by simp
      refine q_when (b := false) (et_is (by walk_at "ev"; exact rv_neSame hD9 (ints_flat ms) hR9) c1) (fun hb => absurd hb (by decide)) fun _ H10 e10 => ?_
      have hD10 := ex_l e10 hD9
      have hR10 := ex_l e10 hR9
      -- the threshold; agree
      refine q_asgX (P := IsI) ⟨_, (by walk_at "ev"), _, rfl⟩ fun v H11 ⟨th, en⟩ e11 => ?_
      subst en
      have hD11 := ex_l e11 hD10
      have hR11 := ex_l e11 hR10
      refine q_asgL (el_call0 (by walk_at "ev") (spl_agree hD11 (by omega))) fun fl H12 nfl e12 h12 => ?_
      have hD12 := ex_l e12 hD11
      have hR12 := ex_l e12 hR11
      have hF12 : SqL K H12 fl (agr ms near th) := sq_of h12
      refine q_when (b := false) (et_is (by walk_at "ev"; exact rv_neSame hD12 (ints_flat ms) hR12) (show (!true || false) = false from rfl)) (fun hb => absurd hb (by decide)) fun _ H13 e13 => ?_
      have hR13 := ex_l e13 hR12
      have hF13 := ex_l e13 hF12
      refine q_when (b := false) (et_test (ev_opL (ev_var rfl) (el_is (el_lcR1 (fun j => decide (-th ≤ ms.getD j 0 - near) && decide (ms.getD j 0 - near ≤ th)) (fun j => .int (j : Int)) (n := ((ms.map V.int).length : Int)) (by walk_at "ev") (by omega) (fun _ => rfl) (fun j H14 e14 hj => ?_) (fun j H14 e14 hj _ => by walk_at "ev")) (ys := agr ms near th) ?_) fun q2 H14 h14 e14 => rv_neSame (ex_l e14 hF13) (agr_flat ms near th) (sq_of h14))) (fun hb => absurd hb (by decide)) fun _ H14 e14 => ?_
      · have hR14 := ex_l e14 hR13
        have g : ms.getD j 0 = ms.getD ((j : Int)).toNat 0 := by rw [Int.toNat_natCast]
        rw [g]
        walk_at "ev"
      · unfold agr
        rw [show ((ms.map V.int).length : Int).toNat = ms.length by omega]
        congr 1
        funext j
        unfold ab
        rw [← Bool.decide_and]
        refine decide_eq_decide.mpr ?_
        split <;> omega
      have hR14 := ex_l e14 hR13
      -- moved
      refine q_asgX (P := fun v => ∃ m : Int, v = .int m ∧ 0 ≤ m) ⟨_, (by walk_at "ev"), _, rfl, ?_⟩ fun v H15 ⟨most, en, m0⟩ e15 => ?_
      · exact most_nn _ ⟨by omega, by omega, by omega, by decide⟩
      subst en
      have hR15 := ex_l e15 hR14
      refine q_asg (v := .int (mvd (ms.getD (0 : Int).toNat 0) near most)) (by walk_at "ev") fun H16 e16 => ?_
      have hR16 := ex_l e16 hR15
      obtain ⟨k1, k2⟩ := moved_near (ms.getD (0 : Int).toNat 0) near most m0
      have c2 : (decide (most < ab (mvd (ms.getD (0 : Int).toNat 0) near most - ms.getD (0 : Int).toNat 0)) || !decide (ab (mvd (ms.getD (0 : Int).toNat 0) near most - near) = if ab (ms.getD (0 : Int).toNat 0 - near) - most > 0 then ab (ms.getD (0 : Int).toNat 0 - near) - most else 0)) = false := by
        rw [decide_eq_false k1, decide_eq_true k2]
        rfl
      unfold ab at c2
      refine s_when (b := false) (et_is (by walk_at "ev") c2) (fun hb => absurd hb (by decide)) fun _ H17 e17 => ?_
      exact ⟨_, _, _, _, _, _, _, _, _, _, _, _, rfl, (((((((((((((((e1.trans e2).trans e3).trans e4).trans e5).trans e6).trans e7).trans e8).trans e9).trans e10).trans e11).trans e12).trans e13).trans e14).trans e15).trans e16).trans e17⟩
  · subst es
    exact s_ret ev_c fun H2 _ => q H2
end
end MV
namespace MV
open PySem PySem.Spec PyProof.Rows L2 Evl
theorem ok_middle {P : Program} {w : World} {K : PySem.W.Frag} {mg : Str → Option Value} {base : Heap} {A : Ads} (T : Txt K mg A) :
    FnOk P w K mg base CX0 1 A.f_middle A.d_middle ["numbers", "near"] (sp_middle K A) := by
  refine T.F_middle.ok sc_middle (fun vs H Q E h => len_middle h) (fun cdv _ outer s H vs Q E hr h => ⟨t_middle K A E, ?_, pure_middle T vs H Q E h⟩)
  exact (pss_cons (ps_asg (pe_callB cr_sorted (by rfl) T.n_sorted PyProof.Rows.boot_sorted (pa_cons (pv 0) pa_nil)) (pg_name (i := 2) sc_middle.nd rfl (by first | exact Or.inl rfl | exact Or.inr rfl)))
      (pss_cons (ps_asg (pe_op op_fdivW (pe_callB call_len_seq (by rfl) T.n_len PySem.boot_len (pa_cons (pv 2) pa_nil)) pe_int) (pg_name (i := 3) sc_middle.nd rfl (by first | exact Or.inl rfl | exact Or.inr rfl)))
      (pss_cons (ps_if (pt_cmpR op_eq (pe_op op_mod (pe_callB call_len_seq (by rfl) T.n_len PySem.boot_len (pa_cons (pv 2) pa_nil)) pe_int) pe_int (nomark _)) (pss_one (ps_ret (pe_ix ix_list (pv 2) (pv 3) (fun _ _ => rfl)))) pss_nil)
      (pss_cons (ps_if (pt_cmpR op_lt (pe_callB call_abs (by rfl) T.n_abs PyProof.Rows.boot_abs (pa_cons (pe_op op_sub (pe_ix ix_list (pv 2) (pv 3) (fun _ _ => rfl)) (pv 1)) pa_nil)) (pe_callB call_abs (by rfl) T.n_abs PyProof.Rows.boot_abs (pa_cons (pe_op op_sub (pe_ix ix_list (pv 2) (pe_op op_sub (pv 3) pe_int) (fun _ _ => rfl)) (pv 1)) pa_nil)) (nomark _)) (pss_one (ps_ret (pe_ix ix_list (pv 2) (pv 3) (fun _ _ => rfl)))) pss_nil)
      (pss_one (ps_ret (pe_ix ix_list (pv 2) (pe_op op_sub (pv 3) pe_int) (fun _ _ => rfl))))))))
theorem ok_moved {P : Program} {w : World} {K : PySem.W.Frag} {mg : Str → Option Value} {base : Heap} {A : Ads} (T : Txt K mg A) :
    FnOk P w K mg base CX0 1 A.f_moved A.d_moved ["one", "goal", "most"] (sp_moved K A) := by
  refine T.F_moved.ok sc_moved (fun vs H Q E h => len_moved h) (fun cdv _ outer s H vs Q E hr h => ⟨t_moved K A E, ?_, pure_moved T vs H Q E h⟩)
  exact (pss_cons (ps_if (pt_cmpR op_gt (pv 1) (pv 0) (nomark _)) (pss_one (ps_ret (pe_callB (call_min2 rfl) (by rfl) T.n_min PyProof.Rows.boot_min (pa_cons (pv 1) (pa_cons (pe_op op_add (pv 0) (pv 2)) pa_nil))))) pss_nil)
      (pss_one (ps_ret (pe_callB (call_max2 rfl) (by rfl) T.n_max PyProof.Rows.boot_max (pa_cons (pv 1) (pa_cons (pe_op op_sub (pv 0) (pv 2)) pa_nil))))))
theorem ok_agree {P : Program} {w : World} {K : PySem.W.Frag} {mg : Str → Option Value} {base : Heap} {A : Ads} (T : Txt K mg A) :
    FnOk P w K mg base CX0 1 A.f_agree A.d_agree ["numbers", "value", "threshold"] (sp_agree K A) := by
  refine T.F_agree.ok sc_agree (fun vs H Q E h => len_agree h) (fun cdv _ outer s H vs Q E hr h => ⟨t_agree K A E, ?_, pure_agree T vs H Q E h⟩)
  exact (pss_one (ps_ret (pe_lc (own := [("place", 3), ("number", 4)]) rfl sc_agree.nd (pi_enum (by rfl) T.n_enumerate (pa_cons (pv 0) pa_nil)) (blkOk_by (own := [("place", 3), ("number", 4)]) (N := ["numbers", "value", "threshold", "place", "number"]) (sc := defScope s_agree) (by decide +kernel)) (fun _ _ _ _ _ => (pg_tup (by rfl) (pgs_cons (pg_name (i := 3) sc_agree.nd rfl (by first | exact Or.inl rfl | exact Or.inr rfl)) (pgs_cons (pg_name (i := 4) sc_agree.nd rfl (by first | exact Or.inl rfl | exact Or.inr rfl)) pgs_nil)))) (fun _ _ _ _ _ => (pts_one (pt_cmpR op_le (pe_callB call_abs (by rfl) T.n_abs PyProof.Rows.boot_abs (pa_cons (pe_op op_sub (pv 4) (pv 1)) pa_nil)) (pv 2) (nomark _)))) (fun _ _ _ _ _ => (pv 3)))))
theorem ok_l_cell {P : Program} {w : World} {K : PySem.W.Frag} {mg : Str → Option Value} {base : Heap} {A : Ads} (T : Txt K mg A) :
    FnOk P w K mg base CX0 1 A.f_l_cell A.d_l_cell ["_law_script", "_law_k"] (sp_l_cell K A) := by
  refine T.F_l_cell.ok sc_l_cell (fun vs H Q E h => len_l_cell h) (fun cdv _ outer s H vs Q E hr h => ⟨t_l_cell K A E, ?_, pure_l_cell T vs H Q E h⟩)
  exact (pss_cons (ps_if (pt_cmpR (op_eqD hr.units) (pv 0) (pe_lst pa_nil) (nomark _)) (pss_one (ps_ret (pe_op op_mul (pv 1) pe_int))) pss_nil)
      (pss_one (ps_ret (pe_op op_add (pe_ix ix_list (pv 0) (pe_op op_mod (pv 1) (pe_callB call_len_seq (by rfl) T.n_len PySem.boot_len (pa_cons (pv 0) pa_nil))) (fun _ _ => rfl)) (pe_op op_mul (pe_op op_fdivW (pv 1) (pe_callB call_len_seq (by rfl) T.n_len PySem.boot_len (pa_cons (pv 0) pa_nil))) pe_int)))))
theorem ok_l_drawn {P : Program} {w : World} {K : PySem.W.Frag} {mg : Str → Option Value} {base : Heap} {A : Ads} (T : Txt K mg A) :
    FnOk P w K mg base CX0 1 A.f_l_drawn A.d_l_drawn ["_law_cell_here", "_law_k"] (sp_l_drawn K A) := by
  refine T.F_l_drawn.ok sc_l_drawn (fun vs H Q E h => len_l_drawn h) (fun cdv _ outer s H vs Q E hr h => ⟨t_l_drawn K A E, ?_, pure_l_drawn T vs H Q E h⟩)
  exact (pss_cons (ps_asg (pe_op op_mod (pe_op op_add (pe_op op_mul (pv 0) pe_int) (pe_op op_mul (pe_op op_add (pv 1) pe_int) pe_int)) pe_int) (pg_name (i := 2) sc_l_drawn.nd rfl (by first | exact Or.inl rfl | exact Or.inr rfl)))
      (pss_one (ps_ret (pe_op op_mod (pe_op op_mulW (pv 2) (pv 2)) pe_int))))
theorem ok_l_may {P : Program} {w : World} {K : PySem.W.Frag} {mg : Str → Option Value} {base : Heap} {A : Ads} (T : Txt K mg A) :
    FnOk P w K mg base CX0 1 A.f_l_may A.d_l_may ["_law_row", "_law_number"] (sp_l_may K A) := by
  refine T.F_l_may.ok sc_l_may (fun vs H Q E h => len_l_may h) (fun cdv _ outer s H vs Q E hr h => ⟨t_l_may K A E, ?_, pure_l_may T vs H Q E h⟩)
  exact (pss_cons (ps_asg (pe_callB call_len_seq (by rfl) T.n_len PySem.boot_len (pa_cons (pe_lc (own := [("_law_one", 3)]) rfl sc_l_may.nd (pi_list (pv 0)) (blkOk_by (own := [("_law_one", 3)]) (N := ["_law_row", "_law_number", "_law_less", "_law_one", "_law_more"]) (sc := defScope s_l_may) (by decide +kernel)) (fun _ _ _ _ _ => (pg_name (i := 3) sc_l_may.nd rfl (by first | exact Or.inl rfl | exact Or.inr rfl))) (fun _ _ _ _ _ => (pts_one (pt_cmpR op_lt (pv 3) (pv 1) (nomark _)))) (fun _ _ _ _ _ => (pv 3))) pa_nil)) (pg_name (i := 2) sc_l_may.nd rfl (by first | exact Or.inl rfl | exact Or.inr rfl)))
      (pss_cons (ps_asg (pe_callB call_len_seq (by rfl) T.n_len PySem.boot_len (pa_cons (pe_lc (own := [("_law_one", 3)]) rfl sc_l_may.nd (pi_list (pv 0)) (blkOk_by (own := [("_law_one", 3)]) (N := ["_law_row", "_law_number", "_law_less", "_law_one", "_law_more"]) (sc := defScope s_l_may) (by decide +kernel)) (fun _ _ _ _ _ => (pg_name (i := 3) sc_l_may.nd rfl (by first | exact Or.inl rfl | exact Or.inr rfl))) (fun _ _ _ _ _ => (pts_one (pt_cmpR op_gt (pv 3) (pv 1) (nomark _)))) (fun _ _ _ _ _ => (pv 3))) pa_nil)) (pg_name (i := 4) sc_l_may.nd rfl (by first | exact Or.inl rfl | exact Or.inr rfl)))
      (pss_one (ps_ret (pe_and (pe_cmpR op_le (pe_op op_mul pe_int (pv 2)) (pe_callB call_len_seq (by rfl) T.n_len PySem.boot_len (pa_cons (pv 0) pa_nil)) (nomark _)) (pe_one (pe_cmpR op_le (pe_op op_mul pe_int (pv 4)) (pe_callB call_len_seq (by rfl) T.n_len PySem.boot_len (pa_cons (pv 0) pa_nil)) (nomark _))))))))
theorem ok_l_numbers {P : Program} {w : World} {K : PySem.W.Frag} {mg : Str → Option Value} {base : Heap} {A : Ads} (T : Txt K mg A) (G_l_drawn : FnOk P w K mg base CX0 1 A.f_l_drawn A.d_l_drawn ["_law_cell_here", "_law_k"] (sp_l_drawn K A)) (G_l_cell : FnOk P w K mg base CX0 1 A.f_l_cell A.d_l_cell ["_law_script", "_law_k"] (sp_l_cell K A)) :
    FnOk P w K mg base CX0 2 A.f_l_numbers A.d_l_numbers ["_law_script", "_law_k"] (sp_l_numbers K A) := by
  refine T.F_l_numbers.ok sc_l_numbers (fun vs H Q E h => len_l_numbers h) (fun cdv _ outer s H vs Q E hr h => ⟨t_l_numbers K A E, ?_, pure_l_numbers T vs H Q E h⟩)
  exact (pss_cons (ps_asg (pe_lst pa_nil) (pg_name (i := 2) sc_l_numbers.nd rfl (by first | exact Or.inl rfl | exact Or.inr rfl)))
      (pss_cons (ps_for PassesOwn.never rfl (pi_range1 (by rfl) T.n_range (pa_cons (pe_op op_add pe_int (pe_op op_mod (pe_call G_l_drawn (hr.mono (by decide)) rfl T.g_l_drawn T.F_l_drawn.kp T.b_l_drawn .nil pass0 (pa_cons (pe_call G_l_cell (hr.mono (by decide)) rfl T.g_l_cell T.F_l_cell.kp T.b_l_cell .nil pass0 (pa_cons (pv 0) (pa_cons (pv 1) pa_nil))) (pa_cons (pv 1) pa_nil))) pe_int)) pa_nil)) (pg_name (i := 3) sc_l_numbers.nd rfl (by first | exact Or.inl rfl | exact Or.inr rfl)) (pss_cons (ps_asg (pe_call G_l_drawn (hr.mono (by decide)) rfl T.g_l_drawn T.F_l_drawn.kp T.b_l_drawn .nil pass0 (pa_cons (pe_call G_l_cell (hr.mono (by decide)) rfl T.g_l_cell T.F_l_cell.kp T.b_l_cell .nil pass0 (pa_cons (pv 0) (pa_cons (pe_op op_add (pv 1) (pv 3)) pa_nil))) (pa_cons (pe_op op_add (pe_op op_add (pv 1) (pv 3)) pe_int) pa_nil))) (pg_name (i := 4) sc_l_numbers.nd rfl (by first | exact Or.inl rfl | exact Or.inr rfl)))
      (pss_one (ps_expr (pe_bm PySem.F.plainAttrs_list PySem.F.slot_list_append PySem.F.type_list_append mt_append (pv 2) (pa_cons (pe_ix ix_list (pe_lst (pa_cons (pe_op op_mod (pv 4) pe_int) (pa_cons (pe_op op_sub (pe_op op_mod (pv 4) pe_int) pe_int) (pa_cons (pe_op op_sub (pe_op op_mod (pv 4) (pe_op op_add (pe_op op_mul pe_int (pe_op op_pow pe_int pe_int)) pe_int)) (pe_op op_pow pe_int pe_int)) pa_nil)))) (pe_op op_mod (pe_op op_fdivW (pv 4) (pe_op op_pow pe_int pe_int)) pe_int) (fun _ _ => rfl)) pa_nil))))))
      (pss_one (ps_ret (pv 2)))))
theorem ok_law {P : Program} {w : World} {K : PySem.W.Frag} {mg : Str → Option Value} {base : Heap} {A : Ads} (T : Txt K mg A) (G_moved : FnOk P w K mg base CX0 1 A.f_moved A.d_moved ["one", "goal", "most"] (sp_moved K A)) (G_agree : FnOk P w K mg base CX0 1 A.f_agree A.d_agree ["numbers", "value", "threshold"] (sp_agree K A)) (G_middle : FnOk P w K mg base CX0 1 A.f_middle A.d_middle ["numbers", "near"] (sp_middle K A)) (G_l_may : FnOk P w K mg base CX0 1 A.f_l_may A.d_l_may ["_law_row", "_law_number"] (sp_l_may K A)) (G_l_numbers : FnOk P w K mg base CX0 2 A.f_l_numbers A.d_l_numbers ["_law_script", "_law_k"] (sp_l_numbers K A)) (G_l_drawn : FnOk P w K mg base CX0 1 A.f_l_drawn A.d_l_drawn ["_law_cell_here", "_law_k"] (sp_l_drawn K A)) (G_l_cell : FnOk P w K mg base CX0 1 A.f_l_cell A.d_l_cell ["_law_script", "_law_k"] (sp_l_cell K A)) :
    FnOk P w K mg base CX0 3 A.f_law A.d_law ["_law_script"] (sp_law K A) := by
  refine T.F_law.ok sc_law (fun vs H Q E h => len_law h) (fun cdv _ outer s H vs Q E hr h => ⟨t_law K A E, ?_, pure_law T vs H Q E h⟩)
  exact (pss_cons (ps_for PassesOwn.never rfl (pi_range1 (by rfl) T.n_range (pa_cons (pe_callB (call_max2 rfl) (by rfl) T.n_max PyProof.Rows.boot_max (pa_cons pe_int (pa_cons (pe_callB (call_min2 rfl) (by rfl) T.n_min PyProof.Rows.boot_min (pa_cons pe_int (pa_cons (pe_callB call_len_seq (by rfl) T.n_len PySem.boot_len (pa_cons (pv 0) pa_nil)) pa_nil))) pa_nil))) pa_nil)) (pg_name (i := 1) sc_law.nd rfl (by first | exact Or.inl rfl | exact Or.inr rfl)) (pss_cons (ps_asg (pe_call G_l_drawn (hr.mono (by decide)) rfl T.g_l_drawn T.F_l_drawn.kp T.b_l_drawn .nil pass0 (pa_cons (pe_call G_l_cell (hr.mono (by decide)) rfl T.g_l_cell T.F_l_cell.kp T.b_l_cell .nil pass0 (pa_cons (pv 0) (pa_cons (pv 1) pa_nil))) (pa_cons (pe_op op_add (pv 1) pe_int) pa_nil))) (pg_name (i := 2) sc_law.nd rfl (by first | exact Or.inl rfl | exact Or.inr rfl)))
      (pss_cons (ps_asg (pe_call G_l_numbers (hr.mono (by decide)) rfl T.g_l_numbers T.F_l_numbers.kp T.b_l_numbers .nil pass0 (pa_cons (pv 0) (pa_cons (pe_op op_mul pe_int (pv 1)) pa_nil))) (pg_name (i := 3) sc_law.nd rfl (by first | exact Or.inl rfl | exact Or.inr rfl)))
      (pss_cons (ps_asg (pe_ix ix_list (pe_lst (pa_cons (pe_op op_sub (pe_op op_add (pe_ix ix_list (pv 3) (pe_op op_mod (pe_op op_fdivW (pv 2) pe_int) (pe_callB call_len_seq (by rfl) T.n_len PySem.boot_len (pa_cons (pv 3) pa_nil))) (fun _ _ => rfl)) (pe_op op_mod (pe_op op_fdivW (pv 2) pe_int) pe_int)) pe_int) (pa_cons (pe_op op_sub (pe_op op_mod (pe_op op_fdivW (pv 2) pe_int) pe_int) pe_int) (pa_cons (pe_op op_pow pe_int pe_int) pa_nil)))) (pe_op op_mod (pv 2) pe_int) (fun _ _ => rfl)) (pg_name (i := 4) sc_law.nd rfl (by first | exact Or.inl rfl | exact Or.inr rfl)))
      (pss_cons (ps_asg (pe_callB cr_sorted (by rfl) T.n_sorted PyProof.Rows.boot_sorted (pa_cons (pe_lc (own := [("_law_one", 6)]) rfl sc_law.nd (pi_list (pv 3)) (blkOk_by (own := [("_law_one", 6)]) (N := ["_law_script", "_law_k", "_law_more", "_law_row", "_law_near", "_law_some", "_law_one", "_law_due", "_law_handed", "_law_found", "_law_threshold", "_law_j", "_law_most"]) (sc := defScope s_law) (by decide +kernel)) (fun _ _ _ _ _ => (pg_name (i := 6) sc_law.nd rfl (by first | exact Or.inl rfl | exact Or.inr rfl))) (fun _ _ _ _ _ => (pts_one (pt_val (pe_call G_l_may (hr.mono (by decide)) rfl T.g_l_may T.F_l_may.kp T.b_l_may .nil pass0 (pa_cons (pv 3) (pa_cons (pv 6) pa_nil)))))) (fun _ _ _ _ _ => (pv 6))) pa_nil)) (pg_name (i := 5) sc_law.nd rfl (by first | exact Or.inl rfl | exact Or.inr rfl)))
      (pss_cons (ps_asg (pe_ix ix_list (pv 5) pe_int (fun _ _ => rfl)) (pg_name (i := 7) sc_law.nd rfl (by first | exact Or.inl rfl | exact Or.inr rfl)))
      (pss_cons (ps_for PassesOwn.never rfl (pi_list (pv 5)) (pg_name (i := 6) sc_law.nd rfl (by first | exact Or.inl rfl | exact Or.inr rfl)) (pss_one (ps_if (pt_cmpR op_lt (pe_callB call_abs (by rfl) T.n_abs PyProof.Rows.boot_abs (pa_cons (pe_op op_sub (pv 6) (pv 4)) pa_nil)) (pe_callB call_abs (by rfl) T.n_abs PyProof.Rows.boot_abs (pa_cons (pe_op op_sub (pv 7) (pv 4)) pa_nil)) (nomark _)) (pss_one (ps_asg (pv 6) (pg_name (i := 7) sc_law.nd rfl (by first | exact Or.inl rfl | exact Or.inr rfl)))) pss_nil)))
      (pss_cons (ps_asg (pe_callTy call_list_of (by rfl) T.n_list PyProof.Rows.boot_list (pa_cons (pv 3) pa_nil)) (pg_name (i := 8) sc_law.nd rfl (by first | exact Or.inl rfl | exact Or.inr rfl)))
      (pss_cons (ps_asg (pe_call G_middle (hr.mono (by decide)) rfl T.g_middle T.F_middle.kp T.b_middle .nil pass0 (pa_cons (pv 8) (pa_cons (pv 4) pa_nil))) (pg_name (i := 9) sc_law.nd rfl (by first | exact Or.inl rfl | exact Or.inr rfl)))
      (pss_cons (ps_if (PW.pt (pw_or (pt_val (pe_callB call_isi (by rfl) T.n_isinstance PyProof.Rows.boot_isinstance (pa_cons (pv 9) (pa_cons (pe_bltn (v := .ty "bool") (by rfl) T.n_bool (by decide +kernel) rfl) pa_nil)))) (pw_or (pt_not (pt_val (pe_callB call_isi (by rfl) T.n_isinstance PyProof.Rows.boot_isinstance (pa_cons (pv 9) (pa_cons (pe_bltn (v := .ty "int") (by rfl) T.n_int (by decide +kernel) rfl) pa_nil))))) (pw_or (pt_cmpR op_ne (pv 9) (pv 7) (nomark _)) (pw_or1 (pt_cmpR (op_neD hr.units) (pv 8) (pv 3) (nomark _))))))) (pss_one (ps_ret pe_bl)) pss_nil)
      (pss_cons (ps_asg (pe_ix ix_list (pe_lst (pa_cons pe_int (pa_cons (pe_op op_mod (pe_op op_fdivW (pv 2) (pe_op op_pow pe_int pe_int)) pe_int) (pa_cons (pe_op op_pow pe_int pe_int) pa_nil)))) (pe_op op_mod (pe_op op_fdivW (pv 2) (pe_op op_pow pe_int pe_int)) pe_int) (fun _ _ => rfl)) (pg_name (i := 10) sc_law.nd rfl (by first | exact Or.inl rfl | exact Or.inr rfl)))
      (pss_cons (ps_asg (pe_call G_agree (hr.mono (by decide)) rfl T.g_agree T.F_agree.kp T.b_agree .nil pass0 (pa_cons (pv 8) (pa_cons (pv 4) (pa_cons (pv 10) pa_nil)))) (pg_name (i := 9) sc_law.nd rfl (by first | exact Or.inl rfl | exact Or.inr rfl)))
      (pss_cons (ps_if (PW.pt (pw_or (pt_not (pt_val (pe_callB call_isi (by rfl) T.n_isinstance PyProof.Rows.boot_isinstance (pa_cons (pv 9) (pa_cons (pe_bltn (v := .ty "list") (by rfl) T.n_list (by decide +kernel) rfl) pa_nil))))) (pw_or1 (pt_cmpR (op_neD hr.units) (pv 8) (pv 3) (nomark _))))) (pss_one (ps_ret pe_bl)) pss_nil)
      (pss_cons (ps_if (pt_cmpR (op_neD hr.units) (pv 9) (pe_lc (own := [("_law_j", 11)]) rfl sc_law.nd (pi_range1 (by rfl) T.n_range (pa_cons (pe_callB call_len_seq (by rfl) T.n_len PySem.boot_len (pa_cons (pv 3) pa_nil)) pa_nil)) (blkOk_by (own := [("_law_j", 11)]) (N := ["_law_script", "_law_k", "_law_more", "_law_row", "_law_near", "_law_some", "_law_one", "_law_due", "_law_handed", "_law_found", "_law_threshold", "_law_j", "_law_most"]) (sc := defScope s_law) (by decide +kernel)) (fun _ _ _ _ _ => (pg_name (i := 11) sc_law.nd rfl (by first | exact Or.inl rfl | exact Or.inr rfl))) (fun _ _ _ _ _ => (pts_one (pt_chain op_le op_le (pe_un un_neg (pv 10)) (pe_op op_sub (pe_ix ix_list (pv 3) (pv 11) (fun _ _ => rfl)) (pv 4)) (pv 10)))) (fun _ _ _ _ _ => (pv 11))) (nomark _)) (pss_one (ps_ret pe_bl)) pss_nil)
      (pss_cons (ps_asg (pe_ix ix_list (pe_lst (pa_cons pe_int (pa_cons pe_int (pa_cons (pe_op op_mod (pe_op op_fdivW (pv 2) (pe_op op_pow pe_int pe_int)) pe_int) (pa_cons (pe_op op_pow pe_int pe_int) pa_nil))))) (pe_op op_mod (pe_op op_fdivW (pv 2) (pe_op op_pow pe_int pe_int)) pe_int) (fun _ _ => rfl)) (pg_name (i := 12) sc_law.nd rfl (by first | exact Or.inl rfl | exact Or.inr rfl)))
      (pss_cons (ps_asg (pe_call G_moved (hr.mono (by decide)) rfl T.g_moved T.F_moved.kp T.b_moved .nil pass0 (pa_cons (pe_ix ix_list (pv 3) pe_int (fun _ _ => rfl)) (pa_cons (pv 4) (pa_cons (pv 12) pa_nil)))) (pg_name (i := 9) sc_law.nd rfl (by first | exact Or.inl rfl | exact Or.inr rfl)))
      (pss_one (ps_if (PW.pt (pw_or (pt_cmpR op_gt (pe_callB call_abs (by rfl) T.n_abs PyProof.Rows.boot_abs (pa_cons (pe_op op_sub (pv 9) (pe_ix ix_list (pv 3) pe_int (fun _ _ => rfl))) pa_nil)) (pv 12) (nomark _)) (pw_or1 (pt_cmpR op_ne (pe_callB call_abs (by rfl) T.n_abs PyProof.Rows.boot_abs (pa_cons (pe_op op_sub (pv 9) (pv 4)) pa_nil)) (pe_callB (call_max2 rfl) (by rfl) T.n_max PyProof.Rows.boot_max (pa_cons pe_int (pa_cons (pe_op op_sub (pe_callB call_abs (by rfl) T.n_abs PyProof.Rows.boot_abs (pa_cons (pe_op op_sub (pe_ix ix_list (pv 3) pe_int (fun _ _ => rfl)) (pv 4)) pa_nil)) (pv 12)) pa_nil))) (nomark _))))) (pss_one (ps_ret pe_bl)) pss_nil))))))))))))))))))
      (pss_one (ps_ret pe_bl)))
theorem ok_all {P : Program} {w : World} {K : PySem.W.Frag} {mg : Str → Option Value} {base : Heap} {A : Ads} (T : Txt K mg A) : FnOk P w K mg base CX0 3 A.f_law A.d_law ["_law_script"] (spL K) := by
  have G_middle := ok_middle (P := P) (w := w) (base := base) T 
  have G_moved := ok_moved (P := P) (w := w) (base := base) T 
  have G_agree := ok_agree (P := P) (w := w) (base := base) T 
  have G_l_cell := ok_l_cell (P := P) (w := w) (base := base) T 
  have G_l_drawn := ok_l_drawn (P := P) (w := w) (base := base) T 
  have G_l_may := ok_l_may (P := P) (w := w) (base := base) T 
  have G_l_numbers := ok_l_numbers (P := P) (w := w) (base := base) T G_l_drawn G_l_cell
  have G_law := ok_law (P := P) (w := w) (base := base) T G_moved G_agree G_middle G_l_may G_l_numbers G_l_drawn G_l_cell
  exact G_law
theorem fin_mk {P : Program} {w : World} {K : PySem.W.Frag} {h : Heap} {mg : Str → Option Value} {fa : Addr}
    {f_middle : Addr} {od_middle an_middle : Option Addr} {sl_middle : Array (Option Value)} {oc_middle kV_middle dc_middle pm_middle cd_middle ct_middle : Value}
    {f_moved : Addr} {od_moved an_moved : Option Addr} {sl_moved : Array (Option Value)} {oc_moved kV_moved dc_moved pm_moved cd_moved ct_moved : Value}
    {f_agree : Addr} {od_agree an_agree : Option Addr} {sl_agree : Array (Option Value)} {oc_agree kV_agree dc_agree pm_agree cd_agree ct_agree : Value}
    {f_l_cell : Addr} {od_l_cell an_l_cell : Option Addr} {sl_l_cell : Array (Option Value)} {oc_l_cell kV_l_cell dc_l_cell pm_l_cell cd_l_cell ct_l_cell : Value}
    {f_l_drawn : Addr} {od_l_drawn an_l_drawn : Option Addr} {sl_l_drawn : Array (Option Value)} {oc_l_drawn kV_l_drawn dc_l_drawn pm_l_drawn cd_l_drawn ct_l_drawn : Value}
    {f_l_numbers : Addr} {od_l_numbers an_l_numbers : Option Addr} {sl_l_numbers : Array (Option Value)} {oc_l_numbers kV_l_numbers dc_l_numbers pm_l_numbers cd_l_numbers ct_l_numbers : Value}
    {f_l_may : Addr} {od_l_may an_l_may : Option Addr} {sl_l_may : Array (Option Value)} {oc_l_may kV_l_may dc_l_may pm_l_may cd_l_may ct_l_may : Value}
    {f_law : Addr} {od_law an_law : Option Addr} {sl_law : Array (Option Value)} {oc_law kV_law dc_law pm_law cd_law ct_law : Value}
    (X : K.In h) (G : h.Ns mainGlobals mg) (hfa : mg "law" = some (.ref fa))
    (n_abs : PySem.W.nsIn K mainGlobals "abs" = some none)
    (n_bool : PySem.W.nsIn K mainGlobals "bool" = some none)
    (n_enumerate : PySem.W.nsIn K mainGlobals "enumerate" = some none)
    (n_int : PySem.W.nsIn K mainGlobals "int" = some none)
    (n_isinstance : PySem.W.nsIn K mainGlobals "isinstance" = some none)
    (n_len : PySem.W.nsIn K mainGlobals "len" = some none)
    (n_list : PySem.W.nsIn K mainGlobals "list" = some none)
    (n_max : PySem.W.nsIn K mainGlobals "max" = some none)
    (n_min : PySem.W.nsIn K mainGlobals "min" = some none)
    (n_range : PySem.W.nsIn K mainGlobals "range" = some none)
    (n_sorted : PySem.W.nsIn K mainGlobals "sorted" = some none)
    (a_middle : PySem.W.nsIn K mainGlobals "middle" = some (some (.ref f_middle)))
    (l_middle : K.lookup f_middle = some ⟨oc_middle, od_middle, .func (PySem.W.fnOf "middle" "middle" (defArgs s_middle) (defBody s_middle) (defScope s_middle) .none kV_middle dc_middle pm_middle an_middle cd_middle ct_middle), sl_middle⟩)
    (o_middle : PySem.W.codeIn K cd_middle "middle" = true)
    (k_middle : PySem.W.keepIn K (.ref f_middle) = true)
    (a_moved : PySem.W.nsIn K mainGlobals "moved" = some (some (.ref f_moved)))
    (l_moved : K.lookup f_moved = some ⟨oc_moved, od_moved, .func (PySem.W.fnOf "moved" "moved" (defArgs s_moved) (defBody s_moved) (defScope s_moved) .none kV_moved dc_moved pm_moved an_moved cd_moved ct_moved), sl_moved⟩)
    (o_moved : PySem.W.codeIn K cd_moved "moved" = true)
    (k_moved : PySem.W.keepIn K (.ref f_moved) = true)
    (a_agree : PySem.W.nsIn K mainGlobals "agree" = some (some (.ref f_agree)))
    (l_agree : K.lookup f_agree = some ⟨oc_agree, od_agree, .func (PySem.W.fnOf "agree" "agree" (defArgs s_agree) (defBody s_agree) (defScope s_agree) .none kV_agree dc_agree pm_agree an_agree cd_agree ct_agree), sl_agree⟩)
    (o_agree : PySem.W.codeIn K cd_agree "agree" = true)
    (k_agree : PySem.W.keepIn K (.ref f_agree) = true)
    (a_l_cell : PySem.W.nsIn K mainGlobals "_law_cell" = some (some (.ref f_l_cell)))
    (l_l_cell : K.lookup f_l_cell = some ⟨oc_l_cell, od_l_cell, .func (PySem.W.fnOf "_law_cell" "_law_cell" (defArgs s_l_cell) (defBody s_l_cell) (defScope s_l_cell) .none kV_l_cell dc_l_cell pm_l_cell an_l_cell cd_l_cell ct_l_cell), sl_l_cell⟩)
    (o_l_cell : PySem.W.codeIn K cd_l_cell "_law_cell" = true)
    (k_l_cell : PySem.W.keepIn K (.ref f_l_cell) = true)
    (a_l_drawn : PySem.W.nsIn K mainGlobals "_law_drawn" = some (some (.ref f_l_drawn)))
    (l_l_drawn : K.lookup f_l_drawn = some ⟨oc_l_drawn, od_l_drawn, .func (PySem.W.fnOf "_law_drawn" "_law_drawn" (defArgs s_l_drawn) (defBody s_l_drawn) (defScope s_l_drawn) .none kV_l_drawn dc_l_drawn pm_l_drawn an_l_drawn cd_l_drawn ct_l_drawn), sl_l_drawn⟩)
    (o_l_drawn : PySem.W.codeIn K cd_l_drawn "_law_drawn" = true)
    (k_l_drawn : PySem.W.keepIn K (.ref f_l_drawn) = true)
    (a_l_numbers : PySem.W.nsIn K mainGlobals "_law_numbers" = some (some (.ref f_l_numbers)))
    (l_l_numbers : K.lookup f_l_numbers = some ⟨oc_l_numbers, od_l_numbers, .func (PySem.W.fnOf "_law_numbers" "_law_numbers" (defArgs s_l_numbers) (defBody s_l_numbers) (defScope s_l_numbers) .none kV_l_numbers dc_l_numbers pm_l_numbers an_l_numbers cd_l_numbers ct_l_numbers), sl_l_numbers⟩)
    (o_l_numbers : PySem.W.codeIn K cd_l_numbers "_law_numbers" = true)
    (k_l_numbers : PySem.W.keepIn K (.ref f_l_numbers) = true)
    (a_l_may : PySem.W.nsIn K mainGlobals "_law_may" = some (some (.ref f_l_may)))
    (l_l_may : K.lookup f_l_may = some ⟨oc_l_may, od_l_may, .func (PySem.W.fnOf "_law_may" "_law_may" (defArgs s_l_may) (defBody s_l_may) (defScope s_l_may) .none kV_l_may dc_l_may pm_l_may an_l_may cd_l_may ct_l_may), sl_l_may⟩)
    (o_l_may : PySem.W.codeIn K cd_l_may "_law_may" = true)
    (k_l_may : PySem.W.keepIn K (.ref f_l_may) = true)
    (a_law : PySem.W.nsIn K mainGlobals "law" = some (some (.ref f_law)))
    (l_law : K.lookup f_law = some ⟨oc_law, od_law, .func (PySem.W.fnOf "law" "law" (defArgs s_law) (defBody s_law) (defScope s_law) .none kV_law dc_law pm_law an_law cd_law ct_law), sl_law⟩)
    (o_law : PySem.W.codeIn K cd_law "law" = true)
    (k_law : PySem.W.keepIn K (.ref f_law) = true) :
    ∃ fd : FuncData, (∀ (s : Shared) (v : Value), BindsTo s fd ⟨[v], []⟩ [("_law_script", v)]) ∧ ∀ base : Heap, K.In base → base.Ns mainGlobals mg → FnOk P w K mg base CX0 3 fa fd ["_law_script"] (spL K) := by
  have e := hfa.symm.trans (PySem.W.mg_of X G a_law)
  cases e
  have F_middle := fun_mk (st := s_middle) l_middle o_middle k_middle
  have b_middle := F_middle.binds (ps := ["numbers", "near"]) fun _ _ _ _ _ _ us hl => match us, hl with | [_, _], _ => rfl
  have F_moved := fun_mk (st := s_moved) l_moved o_moved k_moved
  have b_moved := F_moved.binds (ps := ["one", "goal", "most"]) fun _ _ _ _ _ _ us hl => match us, hl with | [_, _, _], _ => rfl
  have F_agree := fun_mk (st := s_agree) l_agree o_agree k_agree
  have b_agree := F_agree.binds (ps := ["numbers", "value", "threshold"]) fun _ _ _ _ _ _ us hl => match us, hl with | [_, _, _], _ => rfl
  have F_l_cell := fun_mk (st := s_l_cell) l_l_cell o_l_cell k_l_cell
  have b_l_cell := F_l_cell.binds (ps := ["_law_script", "_law_k"]) fun _ _ _ _ _ _ us hl => match us, hl with | [_, _], _ => rfl
  have F_l_drawn := fun_mk (st := s_l_drawn) l_l_drawn o_l_drawn k_l_drawn
  have b_l_drawn := F_l_drawn.binds (ps := ["_law_cell_here", "_law_k"]) fun _ _ _ _ _ _ us hl => match us, hl with | [_, _], _ => rfl
  have F_l_numbers := fun_mk (st := s_l_numbers) l_l_numbers o_l_numbers k_l_numbers
  have b_l_numbers := F_l_numbers.binds (ps := ["_law_script", "_law_k"]) fun _ _ _ _ _ _ us hl => match us, hl with | [_, _], _ => rfl
  have F_l_may := fun_mk (st := s_l_may) l_l_may o_l_may k_l_may
  have b_l_may := F_l_may.binds (ps := ["_law_row", "_law_number"]) fun _ _ _ _ _ _ us hl => match us, hl with | [_, _], _ => rfl
  have F_law := fun_mk (st := s_law) l_law o_law k_law
  have b_law := F_law.binds (ps := ["_law_script"]) fun _ _ _ _ _ _ us hl => match us, hl with | [_], _ => rfl
  have T : Txt K mg { f_middle := f_middle, d_middle := _, f_moved := f_moved, d_moved := _, f_agree := f_agree, d_agree := _, f_l_cell := f_l_cell, d_l_cell := _, f_l_drawn := f_l_drawn, d_l_drawn := _, f_l_numbers := f_l_numbers, d_l_numbers := _, f_l_may := f_l_may, d_l_may := _, f_law := fa, d_law := _ } :=
    { n_abs := PySem.W.mg_none_of X G n_abs,
      n_bool := PySem.W.mg_none_of X G n_bool,
      n_enumerate := PySem.W.mg_none_of X G n_enumerate,
      n_int := PySem.W.mg_none_of X G n_int,
      n_isinstance := PySem.W.mg_none_of X G n_isinstance,
      n_len := PySem.W.mg_none_of X G n_len,
      n_list := PySem.W.mg_none_of X G n_list,
      n_max := PySem.W.mg_none_of X G n_max,
      n_min := PySem.W.mg_none_of X G n_min,
      n_range := PySem.W.mg_none_of X G n_range,
      n_sorted := PySem.W.mg_none_of X G n_sorted,
      F_middle := F_middle, b_middle := b_middle,
      g_middle := PySem.W.mg_of X G a_middle,
      F_moved := F_moved, b_moved := b_moved,
      g_moved := PySem.W.mg_of X G a_moved,
      F_agree := F_agree, b_agree := b_agree,
      g_agree := PySem.W.mg_of X G a_agree,
      F_l_cell := F_l_cell, b_l_cell := b_l_cell,
      g_l_cell := PySem.W.mg_of X G a_l_cell,
      F_l_drawn := F_l_drawn, b_l_drawn := b_l_drawn,
      g_l_drawn := PySem.W.mg_of X G a_l_drawn,
      F_l_numbers := F_l_numbers, b_l_numbers := b_l_numbers,
      g_l_numbers := PySem.W.mg_of X G a_l_numbers,
      F_l_may := F_l_may, b_l_may := b_l_may,
      g_l_may := PySem.W.mg_of X G a_l_may,
      F_law := F_law, b_law := b_law,
      g_law := PySem.W.mg_of X G a_law }
  exact ⟨PySem.W.fnOf "law" "law" (defArgs s_law) (defBody s_law) (defScope s_law) .none kV_law dc_law pm_law an_law cd_law ct_law, fun s v => .of_eq rfl, fun base _ _ => ok_all T⟩
end MV
open PySem PySem.W PyProof.Rows
set_option maxHeartbeats 0 in
theorem PySem.Challenge.cw_midvalue_k10_values_holds : PySem.Challenge.rw_midvalue_k10_values.Holds := by
  w_on; o_law; k_head; (case hw => w_witness2)
  k_fill
  refine L2.walk_of (l := PySem.Challenge.rw_midvalue_k10_values) (n := 63) (k := 3) (x := "_law_script") (CX := fun _ => L2.CX0) (sp := fun w => MV.spL _) rfl (by decide) rfl ⟨rfl, by decide, by decide⟩ (fun w h Y => PySem.W.kIn_of Y) ?F (fun _ _ a ns hl _ hS => ⟨a, ns, rfl, hS, hl, fun _ => rfl⟩) (fun _ _ _ _ _ h => h)
  case F =>
    intro w mg fa h KX G hmg
    refine' MV.fin_mk KX G hmg ?n_abs ?n_bool ?n_enumerate ?n_int ?n_isinstance ?n_len ?n_list ?n_max ?n_min ?n_range ?n_sorted ?a_middle ?l_middle ?o_middle ?k_middle ?a_moved ?l_moved ?o_moved ?k_moved ?a_agree ?l_agree ?o_agree ?k_agree ?a_l_cell ?l_l_cell ?o_l_cell ?k_l_cell ?a_l_drawn ?l_l_drawn ?o_l_drawn ?k_l_drawn ?a_l_numbers ?l_l_numbers ?o_l_numbers ?k_l_numbers ?a_l_may ?l_l_may ?o_l_may ?k_l_may ?a_law ?l_law ?o_law ?k_law
    (case n_abs => k_is)
    (case n_bool => k_is)
    (case n_enumerate => k_is)
    (case n_int => k_is)
    (case n_isinstance => k_is)
    (case n_len => k_is)
    (case n_list => k_is)
    (case n_max => k_is)
    (case n_min => k_is)
    (case n_range => k_is)
    (case n_sorted => k_is)
    (case a_middle => k_is)
    (case l_middle => k_is)
    (case o_middle => k_is)
    (case k_middle => k_is)
    (case a_moved => k_is)
    (case l_moved => k_is)
    (case o_moved => k_is)
    (case k_moved => k_is)
    (case a_agree => k_is)
    (case l_agree => k_is)
    (case o_agree => k_is)
    (case k_agree => k_is)
    (case a_l_cell => k_is)
    (case l_l_cell => k_is)
    (case o_l_cell => k_is)
    (case k_l_cell => k_is)
    (case a_l_drawn => k_is)
    (case l_l_drawn => k_is)
    (case o_l_drawn => k_is)
    (case k_l_drawn => k_is)
    (case a_l_numbers => k_is)
    (case l_l_numbers => k_is)
    (case o_l_numbers => k_is)
    (case k_l_numbers => k_is)
    (case a_l_may => k_is)
    (case l_l_may => k_is)
    (case o_l_may => k_is)
    (case k_l_may => k_is)
    (case a_law => k_is)
    (case l_law => k_is)
    (case o_law => k_is)
    (case k_law => k_is)
