import PyProof.Rows.All
import Wide.All
import OpenK.AllK
import Wide.FinOn
import HandS.ForMost
import HandS.ForExc
import HandS.Evl
import HandS.Wide
import HandS.Walk
import HandS.IsInst
import HandS.Small
import HandS.ExcIs
import HandS.ExcValue
import HandS.Hot
import HandS.HotCalls
import KE.GoesComp
import HandS.CallSlots
import PySem.Challenge.RW_midvalue_k18_desk_refusals
set_option Elab.async false
set_option linter.all false
set_option maxRecDepth 100000
set_option maxHeartbeats 4000000
namespace MV
open PySem PySem.Spec PyProof.Rows L2 Evl

/-! ### operators by name -/
abbrev oAdd : R2 := rI0 fun i j => .int (i + j)
abbrev oSub : R2 := rI0 fun i j => .int (i - j)
abbrev oMul : R2 := rI CMul fun i j => .int (i * j)
abbrev oMulW : R2 := rI CMulW fun i j => .int (i * j)
abbrev oMod : R2 := rI (fun _ j => 0 < j) fun i j => .int (i % j)
abbrev oDivW : R2 := rI CDivW fun i j => .int (i / j)
abbrev oPow : R2 := rI CPow fun i j => .int (i ^ j.toNat)
abbrev oShl : R2 := rI CPow fun i j => .int (i * 2 ^ j.toNat)
abbrev oLt : R2 := rI0 fun i j => .bl (decide (i < j))
abbrev oLe : R2 := rI0 fun i j => .bl (decide (i ≤ j))
abbrev oGt : R2 := rI0 fun i j => .bl (decide (j < i))
abbrev oGe : R2 := rI0 fun i j => .bl (decide (j ≤ i))
abbrev oNeg : V → Hp → VK → Prop := rU fun i => .int (-i)
def oIsN : R2 := fun x y H Q => y = .non ∧ Q (.bl (decide (x = .non))) H
def oNotN : R2 := fun x y H Q => y = .non ∧ Q (.bl (!decide (x = .non))) H
def oAddS : R2 := fun x y H Q => ∃ i j, x = .str i ∧ y = .str j ∧ i.length + j.length ≤ sizeLine ∧ Q (.str (i ++ j)) H
def rAbs : List V → Hp → VK → Prop := fun xs H Q => ∃ i, xs = [.int i] ∧ Q (.int (if i < 0 then -i else i)) H
def rMin2 : List V → Hp → VK → Prop := fun xs H Q => ∃ i j, xs = [.int i, .int j] ∧ Q (.int (if j < i then j else i)) H
def rInt1 : List V → Hp → VK → Prop := fun xs H Q => (∃ i, xs = [.int i] ∧ Q (.int i) H) ∨ ∃ k, xs = [.bl k] ∧ Q (.int (if k then 1 else 0)) H
def tRaise (E : XK) (cls : Value) : TS := fun _ _ H => E cls none H

section
variable {K : PySem.W.Frag} {σ : L2.St} {H H' H0 : Hp} {ta tb tc te tx : TE} {t u : TT} {x y z v : V} {r r' : R2} {a b i j : Int} {p : Addr} {xs ys : List V} {ns ms : List Int}

/-! ### values of operators -/
theorem rv_eqI : RV rEq (.int a) (.int b) H (.bl (decide (a = b))) := fun H1 _ Q q => ⟨rfl, by
  have e : decide (V.int a = V.int b) = decide (a = b) := decide_eq_decide.mpr ⟨fun h => V.int.inj h, fun h => by rw [h]⟩
  rw [e]; exact q H1 (Ex.refl H1)⟩
theorem rv_neI : RV rNe (.int a) (.int b) H (.bl (!decide (a = b))) := fun H1 _ Q q => ⟨rfl, by
  have e : decide (V.int a = V.int b) = decide (a = b) := decide_eq_decide.mpr ⟨fun h => V.int.inj h, fun h => by rw [h]⟩
  rw [e]; exact q H1 (Ex.refl H1)⟩
theorem rv_eqS {s t : Str} : RV rEq (.str s) (.str t) H (.bl (decide (s = t))) := fun H1 _ Q q => ⟨rfl, by
  have e : decide (V.str s = V.str t) = decide (s = t) := decide_eq_decide.mpr ⟨fun h => V.str.inj h, fun h => by rw [h]⟩
  rw [e]; exact q H1 (Ex.refl H1)⟩
theorem rv_neS {s t : Str} : RV rNe (.str s) (.str t) H (.bl (!decide (s = t))) := fun H1 _ Q q => ⟨rfl, by
  have e : decide (V.str s = V.str t) = decide (s = t) := decide_eq_decide.mpr ⟨fun h => V.str.inj h, fun h => by rw [h]⟩
  rw [e]; exact q H1 (Ex.refl H1)⟩
theorem rv_neB {s t : Bool} : RV rNe (.bl s) (.bl t) H (.bl (!decide (s = t))) := fun H1 _ Q q => ⟨rfl, by
  have e : decide (V.bl s = V.bl t) = decide (s = t) := decide_eq_decide.mpr ⟨fun h => V.bl.inj h, fun h => by rw [h]⟩
  rw [e]; exact q H1 (Ex.refl H1)⟩
theorem rv_isN : RV oIsN x .non H (.bl (decide (x = .non))) := fun H1 _ _ q => ⟨rfl, q H1 (Ex.refl H1)⟩
theorem rv_notN : RV oNotN x .non H (.bl (!decide (x = .non))) := fun H1 _ _ q => ⟨rfl, q H1 (Ex.refl H1)⟩
theorem rv_addS {s t : Str} (h : s.length + t.length ≤ sizeLine) : RV oAddS (.str s) (.str t) H (.str (s ++ t)) := fun H1 _ _ q => ⟨s, t, rfl, rfl, h, q H1 (Ex.refl H1)⟩
theorem at_ints (h0 : 0 ≤ i) (h1 : i < ns.length) : atI (ns.map V.int) i = some (.int (ns.getD i.toNat 0)) := by
  obtain ⟨k, rfl⟩ := Int.eq_ofNat_of_zero_le h0
  have hk : k < ns.length := by omega
  refine atI_nat ?_
  rw [List.getElem?_map, List.getElem?_eq_getElem hk, Int.toNat_natCast, List.getD_eq_getElem?_getD, List.getElem?_eq_getElem hk]
  rfl
theorem at_vals (h0 : 0 ≤ i) (h1 : i < xs.length) : atI xs i = some (xs.getD i.toNat .non) := by
  obtain ⟨k, rfl⟩ := Int.eq_ofNat_of_zero_le h0
  have hk : k < xs.length := by omega
  refine atI_nat ?_
  rw [List.getElem?_eq_getElem hk, Int.toNat_natCast, List.getD_eq_getElem?_getD, List.getElem?_eq_getElem hk]
  rfl
theorem rv_ixInts (h : SqL K H p (ns.map V.int)) (h0 : 0 ≤ i) (h1 : i < ns.length) : RV (rIxL K) (.ref p) (.int i) H (.int (ns.getD i.toNat 0)) := rv_ixL h (at_ints h0 h1)
/-- a written list of whole numbers at a place -/
theorem ev_menu (hl : EvL ta σ H (ns.map V.int)) (hi : Ev tb σ H (.int i)) (h0 : 0 ≤ i) (h1 : i < ns.length) : Ev (tOp (rIxL K) ta tb) σ H (.int (ns.getD i.toNat 0)) :=
  ev_opL1 hl (fun _ e => hi.mono e) fun _ _ h _ => rv_ixL (sq_of h) (at_ints h0 h1)
theorem ev_menuV (hl : EvL ta σ H xs) (hi : Ev tb σ H (.int i)) (h0 : 0 ≤ i) (h1 : i < xs.length) : Ev (tOp (rIxL K) ta tb) σ H (xs.getD i.toNat .non) :=
  ev_opL1 hl (fun _ e => hi.mono e) fun _ _ h _ => rv_ixL (sq_of h) (at_vals h0 h1)
theorem el_is (h : EvL te σ H xs) (e : xs = ys) : EvL te σ H ys := e ▸ h

theorem ev_chain {c1 c2 : Bool} (ha : Ev ta σ H x) (hb : Ev tb σ H y) (hc : Ev tc σ H z) (h1 : RV r x y H (.bl c1)) (h2 : RV r' y z H (.bl c2)) : Ev (tChain r r' ta tb tc) σ H (.bl (c1 && c2)) := fun H1 e1 Q q =>
  ha H1 e1 _ fun H2 e2 => hb H2 (e1.trans e2) _ fun H3 e3 => h1 H3 ((e1.trans e2).trans e3) _ fun H4 e4 => ⟨c1, rfl, by
    have e5 := ((e1.trans e2).trans e3).trans e4
    cases c1 with
    | true =>
      rw [if_pos rfl]
      exact hc H4 e5 _ fun H5 e6 => h2 H5 (e5.trans e6) _ fun H6 e7 => q H6 ((((e2.trans e3).trans e4).trans e6).trans e7)
    | false =>
      rw [if_neg Bool.false_ne_true]
      exact q H4 ((e2.trans e3).trans e4)⟩

/-! ### values of calls -/
theorem rc_of {rr : List V → Hp → VK → Prop} {vs : List V} (h : ∀ H1, Ex H H1 → ∀ Q : VK, Q z H1 → rr vs H1 Q) : RC rr vs H z := fun H1 e Q q => h H1 e Q (q H1 (Ex.refl H1))
theorem rc_len (h : SqL K H p xs) : RC (rLenS K) [.ref p] H (.int (xs.length : Int)) := rc_of fun _ e _ q => ⟨p, xs, rfl, .inl (ex_l e h), q⟩
theorem rc_lenT (h : SqT K H p xs) : RC (rLenS K) [.ref p] H (.int (xs.length : Int)) := rc_of fun _ e _ q => ⟨p, xs, rfl, .inr (ex_t e h), q⟩
theorem rc_abs : RC rAbs [.int i] H (.int (if i < 0 then -i else i)) := rc_of fun _ _ _ q => ⟨i, rfl, q⟩
theorem rc_min2 : RC rMin2 [.int i, .int j] H (.int (if j < i then j else i)) := rc_of fun _ _ _ q => ⟨i, j, rfl, q⟩
theorem rc_max2 : RC rMax2 [.int i, .int j] H (.int (if j > i then j else i)) := rc_of fun _ _ _ q => ⟨i, j, rfl, q⟩
theorem rc_int : RC rInt1 [.int i] H (.int i) := rc_of fun _ _ _ q => .inl ⟨i, rfl, q⟩
theorem rc_intB {k : Bool} : RC rInt1 [.bl k] H (.int (if k then 1 else 0)) := rc_of fun _ _ _ q => .inr ⟨k, rfl, q⟩
theorem rc_all {bs : List Bool} (h : SqL K H p (bs.map V.bl)) : RC (rAll K) [.ref p] H (.bl (bs.all id)) := rc_of fun _ e _ q => ⟨p, bs, rfl, ex_l e h, q⟩
theorem rc_sum (h : SqL K H p (ns.map V.int)) : RC (rSum K) [.ref p] H (.int ns.sum) := rc_of fun _ e _ q => ⟨p, ns, rfl, ex_l e h, q⟩

/-! ### sorted -/
def srt (ns : List Int) : List Int := ns.mergeSort (fun a b => decide (a ≤ b))
theorem srt_perm (ns : List Int) : (srt ns).Perm ns := List.mergeSort_perm ns _
theorem srt_pw (ns : List Int) : (srt ns).Pairwise (· ≤ ·) := by
  have h := List.pairwise_mergeSort (le := fun a b : Int => decide (a ≤ b)) (fun a b c h1 h2 => by simp only [decide_eq_true_eq] at *; omega) (fun a b => by simp only [Bool.or_eq_true, decide_eq_true_eq]; omega) ns
  exact h.imp fun h => by simpa using h
theorem srt_len (ns : List Int) : (srt ns).length = ns.length := (srt_perm ns).length_eq
theorem srt_mem {ns : List Int} {n : Int} : n ∈ srt ns ↔ n ∈ ns := (srt_perm ns).mem_iff
theorem srt_uniq (h1 : ms.Perm ns) (h2 : ms.Pairwise (· ≤ ·)) : ms = srt ns :=
  List.Perm.eq_of_pairwise (le := (· ≤ ·)) (fun a b _ _ h1 h2 => Int.le_antisymm h1 h2) h2 (srt_pw ns) (h1.trans (srt_perm ns).symm)
theorem rcl_sorted (h : SqL K H p (ns.map V.int)) (hl : ns.length < 64) : RCL (rSorted K) [.ref p] H ((srt ns).map V.int) := fun H1 e Q q =>
  ⟨p, ns, rfl, ex_l e h, hl, fun ns' l hp hs hn => by
    have e1 := srt_uniq hp hs
    subst e1
    exact q l _ hn (Ex.new hn) upd_same⟩

/-! ### lists compared -/
/-- a flat value as data -/
def vD : V → PyData
  | .non => .none
  | .bl b => .bool b
  | .int i => .int i
  | .str s => .str s
  | _ => .none
def flat4 : V → Bool
  | .non | .bl _ | .int _ => true
  | .str s => SeqAt.shaped (.str s)
  | _ => false
theorem dp_flat (h : flat4 x = true) : Dp K H x (vD x) := by
  cases x with
  | non => exact .non
  | bl b => exact .bl b
  | int i => exact .int i
  | str s => exact .str s
  | _ => cases h
theorem dpAll_flat : ∀ {xs : List V}, xs.all flat4 = true → DpAll K H xs (xs.map vD)
  | [], _ => .nil
  | x :: xs, h => by
    rw [List.all_cons, Bool.and_eq_true] at h
    exact .cons (dp_flat h.1) (dpAll_flat h.2)
theorem lay_flat (h : flat4 x = true) : (vD x).canLay0 = true ∧ (vD x).depth = 0 := by
  cases x with
  | non => exact ⟨by simp [vD, PyData.canLay0], by simp [vD, PyData.depth]⟩
  | bl b => exact ⟨by simp [vD, PyData.canLay0], by simp [vD, PyData.depth]⟩
  | int i => exact ⟨by simp [vD, PyData.canLay0], by simp [vD, PyData.depth]⟩
  | str s => exact ⟨SeqAt.canLay_of_shaped h, by simp [vD, PyData.depth]⟩
  | _ => cases h
theorem lay_flats : ∀ {xs : List V}, xs.all flat4 = true → PyData.canLayAll0 (xs.map vD) = true ∧ PyData.depthAll (xs.map vD) = 0
  | [], _ => ⟨by simp [PyData.canLayAll0], by simp [PyData.depthAll]⟩
  | x :: xs, h => by
    rw [List.all_cons, Bool.and_eq_true] at h
    have h1 := lay_flat h.1
    have h2 := lay_flats h.2
    exact ⟨by rw [List.map_cons, PyData.canLayAll0, h1.1, h2.1]; rfl, by rw [List.map_cons, PyData.depthAll, h1.2, h2.2]; rfl⟩
theorem shaped_list (h : xs.all flat4 = true) : SeqAt.shaped (.list (xs.map vD)) = true := by
  obtain ⟨h1, h2⟩ := lay_flats h
  show ((PyData.list (xs.map vD)).canLay0 && decide ((PyData.list (xs.map vD)).depth ≤ 64)) = true
  rw [PyData.canLay0, PyData.depth, h1, h2]
  rfl
theorem shaped_tup (h : xs.all flat4 = true) : SeqAt.shaped (.tuple (xs.map vD)) = true := by
  obtain ⟨h1, h2⟩ := lay_flats h
  show ((PyData.tuple (xs.map vD)).canLay0 && decide ((PyData.tuple (xs.map vD)).depth ≤ 64)) = true
  rw [PyData.canLay0, PyData.depth, h1, h2]
  rfl
theorem ints_flat (ns : List Int) : (ns.map V.int).all flat4 = true := by
  rw [List.all_eq_true]
  intro x hx
  obtain ⟨n, _, rfl⟩ := List.mem_map.mp hx
  rfl
/-- a list and the empty list -/
theorem rv_eqNil {q : Addr} (h : SqL K H p xs) (hf : xs.all flat4 = true) (h2 : SqL K H q []) : RV (rEqD K) (.ref p) (.ref q) H (.bl (decide (xs = []))) := fun H1 e Q k => by
  refine ⟨.list (xs.map vD), .list [], .lst (ex_l e h) (dpAll_flat hf), .lst (ex_l e h2) .nil, shaped_list hf, by decide, ?_⟩
  have e2 : PyData.eqv (.list (xs.map vD)) (.list []) = decide (xs = []) := by
    cases xs with
    | nil => simp [PyData.eqv, PyData.eqvAll]
    | cons x r => simp [PyData.eqv, PyData.eqvAll]
  rw [e2]
  exact k H1 (Ex.refl H1)
theorem rv_neNil {q : Addr} (h : SqL K H p xs) (hf : xs.all flat4 = true) (h2 : SqL K H q []) : RV (rNeD K) (.ref p) (.ref q) H (.bl (!decide (xs = []))) := fun H1 e Q k => by
  refine ⟨.list (xs.map vD), .list [], .lst (ex_l e h) (dpAll_flat hf), .lst (ex_l e h2) .nil, shaped_list hf, by decide, ?_⟩
  have e2 : PyData.eqv (.list (xs.map vD)) (.list []) = decide (xs = []) := by
    cases xs with
    | nil => simp [PyData.eqv, PyData.eqvAll]
    | cons x r => simp [PyData.eqv, PyData.eqvAll]
  rw [e2]
  exact k H1 (Ex.refl H1)
/-- two lists of the same flat items -/
theorem rv_neSame {q : Addr} (h : SqL K H p xs) (hf : xs.all flat4 = true) (h2 : SqL K H q xs) : RV (rNeD K) (.ref p) (.ref q) H (.bl false) := fun H1 e Q k => by
  refine ⟨.list (xs.map vD), .list (xs.map vD), .lst (ex_l e h) (dpAll_flat hf), .lst (ex_l e h2) (dpAll_flat hf), shaped_list hf, shaped_list hf, ?_⟩
  have e2 : PyData.eqv (.list (xs.map vD)) (.list (xs.map vD)) = true := PySem.SeqAt.eqv_refl _ (SeqAt.canLay_of_shaped (shaped_list hf))
  rw [e2]
  exact k H1 (Ex.refl H1)
theorem ev_eqNil (ha : Ev ta σ H (.ref p)) (h : SqL K H p xs) (hf : xs.all flat4 = true) : Ev (tOp (rEqD K) ta (tLst tNil)) σ H (.bl (decide (xs = []))) :=
  ev_opL ha (el_lst ea_nil (by decide)) fun _ _ h1 e1 => rv_eqNil (ex_l e1 h) hf (sq_of h1)
theorem ev_neNil (ha : Ev ta σ H (.ref p)) (h : SqL K H p xs) (hf : xs.all flat4 = true) : Ev (tOp (rNeD K) ta (tLst tNil)) σ H (.bl (!decide (xs = []))) :=
  ev_opL ha (el_lst ea_nil (by decide)) fun _ _ h1 e1 => rv_neNil (ex_l e1 h) hf (sq_of h1)

/-! ### comprehensions over enumerate -/
theorem el_lcE {A : TA} {p : Addr} {xs : List V} {g : TG} {vs : List Nat} (f : Nat → Bool) (v : Nat → V) (ha : EvA A σ H [.ref p]) (hx : SqL K H p xs) (hz : xs.length ≤ 40000) {i1 i2 : Nat} (hg : g = gTup K 2 (gCons (gName i1) (gCons (gName i2) gNil)))
    (hw : ∀ y z, wipe (((wipe σ vs).set i1 (some y)).set i2 (some z)) vs = wipe σ vs)
    (ht : ∀ (i : Nat) (x : V) H1, Ex H H1 → xs[i]? = some x → EvT t (((wipe σ vs).set i1 (some (.int i))).set i2 (some x)) H1 (f i))
    (he : ∀ (i : Nat) (x : V) H1, Ex H H1 → xs[i]? = some x → f i = true → Ev te (((wipe σ vs).set i1 (some (.int i))).set i2 (some x)) H1 (v i)) :
    EvL (tLc (iEnum K A) g t te vs) σ H (Evl.given xs.length f v) := fun H0 e Q q => ha H0 e _ fun H1 e1 => ⟨p, xs, rfl, ex_l (e.trans e1) hx, fun Dl hD => by
  subst hg
  refine lc_it (walk_enum (K := K) (a := p) (xs := xs)) (Cw H1 f v Dl) ⟨hD, Ex.new hD, upd_same⟩ (fun i H' _ pc => ex_l ((e.trans e1).trans pc.2.1) hx) (fun i y H2 H2' hi pc hy => ?_) (fun H' pc => q Dl H' (fresh_back e1 pc.1) (e1.trans pc.2.1) pc.2.2)
  obtain ⟨T, x1, x2, rfl, nT, rfl, f1, f2⟩ := hy
  have ex1 : V.int (i : Nat) = x1 := Option.some.inj f1
  subst ex1
  have p2 : Cw H1 f v Dl i (upd H2 T (.tup [.int (i : Nat), x2])) := by
    obtain ⟨c1, c2, c3⟩ := pc
    refine ⟨c1, c2.trans (Ex.new nT), ?_⟩
    rw [upd_ne (ne_of_none c3 nT)]
    exact c3
  exact ⟨T, _, rfl, .inl (.inl upd_same), rfl, _, _, rfl, _, _, rfl, rfl, hw _ _, cw_turn p2 (by omega) (ht i x2 H1 (e.trans e1) f2) (fun hf => he i x2 H1 (e.trans e1) f2 hf)⟩⟩
end
end MV
namespace MV
open PySem PySem.Spec PyProof.Rows L2 Evl
theorem cmul_r {i j : Int} (h1 : -18446744073709551616 < j) (h2 : j < 18446744073709551616) : CMul i j := .inr ⟨h1, h2⟩
theorem cmul_l {i j : Int} (h1 : -18446744073709551616 < i) (h2 : i < 18446744073709551616) : CMul i j := .inl ⟨h1, h2⟩
theorem cdiv_c {i j : Int} (h1 : 0 < j) (h2 : j.natAbs.log2 < 9000) : CDivW i j := ⟨h1, h2⟩
theorem cdiv_s {i j : Int} (h1 : 0 < j) (h2 : j < 18446744073709551616) : CDivW i j := wide_div (b := 64) h1 (by omega) (by decide) (by decide)
theorem cpow_c {i j : Int} (h1 : 0 ≤ j) (h2 : j ≤ 1000000) (h3 : i.natAbs < 2 ^ 64) : CPow i j := ⟨h1, h2, h3⟩
end MV
namespace MV
open PySem PySem.Spec PyProof.Rows L2 Evl
def toInt : V → Int
  | .int i => i
  | _ => 0
def toInts (vs : List V) : List Int := vs.map toInt
section
variable {K : PySem.W.Frag} {σ : L2.St} {H : Hp} {ta : TA} {tb : TE} {vs : List V} {i : Int}
/-- a written list of whole numbers at a place that lies in it -/
theorem ev_menuL (h : EvA ta σ H vs) (hi : Ev tb σ H (.int i)) (e : vs = (toInts vs).map V.int) (h0 : 0 ≤ i) (h1 : i < (vs.length : Int)) (hs : vs.length ≤ 100) : Ev (tOp (rIxL K) (tLst ta) tb) σ H (.int ((toInts vs).getD i.toNat 0)) := by
  have h2 : EvL (tLst ta) σ H ((toInts vs).map V.int) := e ▸ el_lst h (by omega)
  exact ev_menu h2 hi h0 (by unfold toInts; rw [List.length_map]; exact h1)
theorem ev_menuG (h : EvA ta σ H vs) (hi : Ev tb σ H (.int i)) (h0 : 0 ≤ i) (h1 : i < (vs.length : Int)) (hs : vs.length ≤ 100) : Ev (tOp (rIxL K) (tLst ta) tb) σ H (vs.getD i.toNat .non) :=
  ev_menuV (el_lst h (by omega)) hi h0 h1
end
/-- a turn's list grows -/
theorem exGrow {H H' H1 : Hp} {p : Addr} {o : HO} (e : Ex H H') (e1 : Ex H' H1) (hp : H p = none) : Ex H (upd H1 p o) := (e.trans e1).mut hp
theorem wipe0 (σ : L2.St) : wipe σ [] = σ := rfl
end MV
namespace MV
open PySem PySem.Spec PyProof.Rows L2 Evl
section
variable {K : PySem.W.Frag} {σ : L2.St} {H H' : Hp} {ta tb te : TE} {t : TT} {x y z v : V} {D : Ends} {tz tu : TS} {P : List V → Prop} {xs ys vs : List V}
/-- a new list, of which P is known -/
def EvLP (te : TE) (σ : L2.St) (H : Hp) (P : List V → Prop) : Prop := ∀ H1, Ex H H1 → ∀ Q : VK, (∀ xs p H2, P xs → H1 p = none → Ex H1 H2 → H2 p = some (.lst xs) → Q (.ref p) H2) → te σ H1 Q
theorem q_asgLP {i : Nat} (h : EvLP te σ H P) (k : ∀ xs p H1, P xs → H p = none → Ex H H1 → H1 p = some (.lst xs) → tz D (σ.set i (some (.ref p))) H1) : tSeq (tAsg te (gName i)) tz D σ H := h H (Ex.refl H) _ fun xs p H1 hP hp e h1 => k xs p H1 hP hp e h1
theorem elp_call {sp : Sp} {dvs : List V} {E : XK} {ta : TA} (h : EvA ta σ H vs) (hs : ∀ H1, Ex H H1 → ∀ Q : VK, (∀ xs p H2, P xs → H1 p = none → Ex H1 H2 → H2 p = some (.lst xs) → Q (.ref p) H2) → ∀ E : XK, sp (vs ++ dvs) H1 Q E) : EvLP (tCall sp dvs E ta) σ H P := fun H1 e Q q =>
  h H1 e _ fun H2 e2 => hs H2 (e.trans e2) Q (fun xs p H3 hP hp e3 h3 => q xs p H3 hP (fresh_back e2 hp) (e2.trans e3) h3) E
/-- a call of one new list that gives a new list | a value -/
theorem el_cbN {rr : List V → Hp → VK → Prop} (ha : EvL ta σ H xs) (hr : ∀ p H1, Ex H H1 → H1 p = some (.lst xs) → RCL rr [.ref p] H1 ys) : EvL (tCB rr (tCons ta tNil)) σ H ys := fun H1 e Q q =>
  ha H1 e _ fun p H2 hp e2 h2 => hr p H2 (e.trans e2) h2 H2 (Ex.refl H2) Q fun p3 H3 hp3 e3 h3 => q p3 H3 (fresh_back e2 hp3) (e2.trans e3) h3
theorem ev_cbN {rr : List V → Hp → VK → Prop} (ha : EvL ta σ H xs) (hr : ∀ p H1, Ex H H1 → H1 p = some (.lst xs) → RC rr [.ref p] H1 z) : Ev (tCB rr (tCons ta tNil)) σ H z := fun H1 e Q q =>
  ha H1 e _ fun p H2 hp e2 h2 => hr p H2 (e.trans e2) h2 H2 (Ex.refl H2) Q fun H3 e3 => q H3 (e2.trans e3)
theorem ev_andB {a b : Bool} (h1 : Ev ta σ H (.bl a)) (h2 : Ev tb σ H (.bl b)) : Ev (tAndV ta tb) σ H (.bl (a && b)) := ev_andV h1 fun _ => h2
theorem ev_orB {a b : Bool} (h1 : Ev ta σ H (.bl a)) (h2 : Ev tb σ H (.bl b)) : Ev (tOrV ta tb) σ H (.bl (a || b)) := ev_orV h1 fun _ => h2
theorem et_andB {a b : Bool} {t u : TT} (h1 : EvT t σ H a) (h2 : EvT u σ H b) : EvT (tAnd t u) σ H (a && b) := et_and h1 fun _ => h2
theorem et_orB {a b : Bool} {t u : TT} (h1 : EvT t σ H a) (h2 : EvT u σ H b) : EvT (tOr t u) σ H (a || b) := et_or h1 fun _ => h2

theorem given_take (xs : List V) (p : V → Bool) (g : V → V) : ∀ i, i ≤ xs.length → Evl.given i (fun i => p (xs.getD i .non)) (fun i => g (xs.getD i .non)) = ((xs.take i).filter p).map g
  | 0, _ => rfl
  | i + 1, h => by
    have hi : i < xs.length := h
    have e : xs.getD i .non = xs[i] := by rw [List.getD_eq_getElem?_getD, List.getElem?_eq_getElem hi]; rfl
    have e2 : xs.take (i + 1) = xs.take i ++ [xs[i]] := by rw [List.take_add_one, List.getElem?_eq_getElem hi]; rfl
    have ih := given_take xs p g i (by omega)
    rw [e2, List.filter_append, List.map_append, ← ih]
    cases hp : p xs[i] with
    | true =>
      rw [Evl.given_yes (by show p (xs.getD i .non) = true; rw [e]; exact hp)]
      show _ ++ [g (xs.getD i .non)] = _
      rw [e, List.filter_cons, hp]
      rfl
    | false =>
      rw [Evl.given_no (by show p (xs.getD i .non) = false; rw [e]; exact hp), List.filter_cons, hp]
      simp
theorem given_list (xs : List V) (p : V → Bool) (g : V → V) : Evl.given xs.length (fun i => p (xs.getD i .non)) (fun i => g (xs.getD i .non)) = (xs.filter p).map g := by
  rw [given_take xs p g xs.length (Nat.le_refl _), List.take_length]
/-- [g(x) for x in xs if p(x)] -/
theorem el_lcM {a : Addr} {tl : TE} {j : Nat} {vs : List Nat} (p : V → Bool) (g : V → V) (h : Ev tl σ H (.ref a)) (hx : SqL K H a xs) (hz : xs.length ≤ 40000) (hw : ∀ x, wipe ((wipe σ vs).set j (some x)) vs = wipe σ vs)
    (ht : ∀ x H1, Ex H H1 → x ∈ xs → EvT t ((wipe σ vs).set j (some x)) H1 (p x)) (he : ∀ x H1, Ex H H1 → x ∈ xs → p x = true → Ev te ((wipe σ vs).set j (some x)) H1 (g x)) :
    EvL (tLc (iList K tl) (gName j) t te vs) σ H ((xs.filter p).map g) := by
  rw [← given_list]
  have get : ∀ {i : Nat} {x : V}, xs[i]? = some x → xs.getD i .non = x ∧ x ∈ xs := fun {i x} e => ⟨by rw [List.getD_eq_getElem?_getD, e]; rfl, List.mem_of_getElem? e⟩
  refine el_lcL (fun i => p (xs.getD i .non)) (fun i => g (xs.getD i .non)) h hx hz hw (fun i x H1 e1 hi => ?_) (fun i x H1 e1 hi hf => ?_)
  · obtain ⟨e, m⟩ := get hi
    show EvT t _ H1 (p (xs.getD i .non))
    rw [e]
    exact ht x H1 e1 m
  · obtain ⟨e, m⟩ := get hi
    show Ev te _ H1 (g (xs.getD i .non))
    rw [e]
    exact he x H1 e1 m (by rw [← e]; exact hf)
theorem ints_filter (ns : List Int) (p : V → Bool) (q : Int → Bool) (h : ∀ n, p (.int n) = q n) : ((ns.map V.int).filter p).map id = (ns.filter q).map V.int := by
  rw [List.map_id, List.filter_map]
  congr 1
  exact List.filter_congr fun n _ => h n
/-- [n for n in ns if q(n)], whole numbers -/
theorem el_lcI {a : Addr} {ns : List Int} {tl : TE} {j : Nat} {vs : List Nat} (q : Int → Bool) (h : Ev tl σ H (.ref a)) (hx : SqL K H a (ns.map V.int)) (hz : ns.length ≤ 40000) (hw : ∀ x, wipe ((wipe σ vs).set j (some x)) vs = wipe σ vs)
    (ht : ∀ n H1, Ex H H1 → n ∈ ns → EvT t ((wipe σ vs).set j (some (.int n))) H1 (q n)) (he : ∀ n H1, Ex H H1 → n ∈ ns → Ev te ((wipe σ vs).set j (some (.int n))) H1 (.int n)) :
    EvL (tLc (iList K tl) (gName j) t te vs) σ H ((ns.filter q).map V.int) := by
  rw [← ints_filter ns (fun x => q (toInt x)) q fun _ => rfl]
  refine el_lcM (fun x => q (toInt x)) id h hx (by rw [List.length_map]; exact hz) hw (fun x H1 e1 hm => ?_) (fun x H1 e1 hm _ => ?_)
  · obtain ⟨n, hn, rfl⟩ := List.mem_map.mp hm
    exact ht n H1 e1 hn
  · obtain ⟨n, hn, rfl⟩ := List.mem_map.mp hm
    exact he n H1 e1 hn
/-! ### isinstance -/
theorem rc_isi {c : V} {tt u : Value} {b : Bool} (hc : ClsV c u) (ht : ∀ H1, Ex H H1 → TyX K H1 x tt) (hk : PySem.W.kitOne K tt u = some b) : RC (rIsi K) [x, c] H (.bl b) := rc_of fun H1 e _ q => ⟨x, c, tt, u, b, rfl, hc, ht H1 e, hk, q⟩
theorem isi_int_bool {i : Int} : RC (rIsi K) [.int i, .ty "bool"] H (.bl false) := rc_isi (.ty _) (fun _ _ => .base (.int i)) (kit_ty (by decide +kernel))
theorem isi_int_int {i : Int} : RC (rIsi K) [.int i, .ty "int"] H (.bl true) := rc_isi (.ty _) (fun _ _ => .base (.int i)) (kit_ty (by decide +kernel))
theorem isi_list_list {p : Addr} (h : H p = some (.lst xs)) : RC (rIsi K) [.ref p, .ty "list"] H (.bl true) := rc_isi (.ty _) (fun _ e => .base (.lst (e p _ h))) (kit_ty (by decide +kernel))
theorem isi_tup_tup {p : Addr} (h : H p = some (.tup xs)) : RC (rIsi K) [.ref p, .ty "tuple"] H (.bl true) := rc_isi (.ty _) (fun _ e => .base (.tup (e p _ h))) (kit_ty (by decide +kernel))
theorem isi_list_tup {p : Addr} (h : H p = some (.lst xs)) : RC (rIsi K) [.ref p, .ty "tuple"] H (.bl false) := rc_isi (.ty _) (fun _ e => .base (.lst (e p _ h))) (kit_ty (by decide +kernel))
end
end MV
namespace MV
open PySem PySem.Spec PyProof.Rows L2 Evl
section
variable {σ : L2.St} {H : Hp} {sp : Sp} {E : XK} {ta : TA} {vs xs : List V} {z : V} {P : List V → Prop}
theorem ev_call0 (h : EvA ta σ H vs) (hs : SpV sp vs H z) : Ev (tCall sp [] E ta) σ H z := ev_call h (by rw [List.append_nil]; exact hs)
theorem el_call0 (h : EvA ta σ H vs) (hs : SpL sp vs H xs) : EvL (tCall sp [] E ta) σ H xs := el_call h (by rw [List.append_nil]; exact hs)
theorem elp_call0 (h : EvA ta σ H vs) (hs : ∀ H1, Ex H H1 → ∀ Q : VK, (∀ xs p H2, P xs → H1 p = none → Ex H1 H2 → H2 p = some (.lst xs) → Q (.ref p) H2) → ∀ E : XK, sp vs H1 Q E) : EvLP (tCall sp [] E ta) σ H P := elp_call h (by rw [List.append_nil]; exact hs)
end
end MV
namespace MV
open PySem PySem.Spec PyProof.Rows L2 Evl
section
variable {K : PySem.W.Frag} {σ : L2.St} {H : Hp} {ta te : TE} {D : Ends} {tz : TS} {xs : List V} {P : V → Prop}
/-- with a value of which only P is told on -/
theorem s_appX {l : Addr} (hl : H l = some (.lst xs)) (ha : Ev ta σ H (.ref l)) (h : ∃ v, Ev te σ H v ∧ P v) (hz : xs.length < 100000) (k : ∀ v H1, P v → Ex H H1 → D.nx σ (upd H1 l (.lst (xs ++ [v])))) :
    tDrop (tBM K "list" rAppend ta (tCons te tNil)) D σ H := by
  obtain ⟨v, hv, hp⟩ := h
  exact s_app hl ha hv hz fun H1 e => k v H1 hp e
theorem q_asgX {i : Nat} (h : ∃ v, Ev te σ H v ∧ P v) (k : ∀ v H1, P v → Ex H H1 → tz D (σ.set i (some v)) H1) : tSeq (tAsg te (gName i)) tz D σ H := by
  obtain ⟨v, hv, hp⟩ := h
  exact q_asg hv fun H1 e => k v H1 hp e
end
abbrev IsI (v : V) : Prop := ∃ i : Int, v = .int i
end MV
namespace MV
open PySem PySem.Spec PyProof.Rows L2 Evl
section
variable {K : PySem.W.Frag} {σ : L2.St} {H H' : Hp} {ta to tv te : TE} {a C dx : Addr} {fs fs' : List (Str × V)} {f m : Str} {x y z v : V} {D : Ends} {tz tu tw : TS} {sp : Sp} {E : XK} {ar : TA} {vs xs : List V} {t u : TT} {b : Bool}
/-! ### attributes, methods -/
theorem ev_fld (h : Ev ta σ H (.ref a)) (ho : H a = some (.ins C dx fs)) (c : Cls K C) (n : NoAttr K C f) (l : fs.lookup f = some v) : Ev (tFld K ta f) σ H v := fun H1 e Q q =>
  h H1 e _ fun H2 e2 => ⟨a, C, dx, fs, v, rfl, e2 a _ (e a _ ho), c, n, l, q H2 e2⟩
theorem ev_meth (h : Ev to σ H (.ref a)) (ho : H a = some (.ins C dx fs)) (l : fs.lookup m = none) (ha : EvA ar σ H vs) (hs : SpV sp (.ref a :: vs) H z) : Ev (tMeth C m sp [] E to ar) σ H z := fun H1 e Q q =>
  h H1 e _ fun H2 e2 => ⟨a, dx, fs, rfl, e2 a _ (e a _ ho), l, ha H2 (e.trans e2) _ fun H3 e3 => by
    rw [List.append_nil]
    exact hs H3 ((e.trans e2).trans e3) Q (fun H4 e4 => q H4 ((e2.trans e3).trans e4)) E⟩
theorem s_fld (hv : Ev tv σ H y) (ha : Ev ta σ H (.ref a)) (ho : H a = some (.ins C dx fs)) (hc : Cls K C) (hn : NoAttr K C f) (hl : fs.length < 1000) (hp : putF f y fs = fs') (k : ∀ H1, Ex H H1 → D.nx σ (upd H1 a (.ins C dx fs'))) : sFld K ta tv f D σ H :=
  hv H (Ex.refl H) _ fun H1 e1 => ha H1 e1 _ fun H2 e2 => ⟨a, C, dx, fs, rfl, (e1.trans e2) a _ ho, hc, hn, hl, by rw [hp]; exact k H2 (e1.trans e2)⟩
theorem q_fld (hv : Ev tv σ H y) (ha : Ev ta σ H (.ref a)) (ho : H a = some (.ins C dx fs)) (hc : Cls K C) (hn : NoAttr K C f) (hl : fs.length < 1000) (hp : putF f y fs = fs') (k : ∀ H1, Ex H H1 → tz D σ (upd H1 a (.ins C dx fs'))) : tSeq (sFld K ta tv f) tz D σ H :=
  s_fld (D := { D with nx := tz D }) hv ha ho hc hn hl hp k
/-- a call whose promise is read by hand -/
theorem s_dropC (ha : EvA ar σ H vs) (k : ∀ H1, Ex H H1 → sp vs H1 (fun _ H2 => D.nx σ H2) E) : tDrop (tCall sp [] E ar) D σ H := ha H (Ex.refl H) _ fun H1 e1 => by
  rw [List.append_nil]
  exact k H1 e1
theorem q_dropC (ha : EvA ar σ H vs) (k : ∀ H1, Ex H H1 → sp vs H1 (fun _ H2 => tz D σ H2) E) : tSeq (tDrop (tCall sp [] E ar)) tz D σ H := s_dropC (D := { D with nx := tz D }) ha k
theorem q_asgC {i : Nat} (ha : EvA ar σ H vs) (k : ∀ H1, Ex H H1 → sp vs H1 (fun v H2 => tz D (σ.set i (some v)) H2) E) : tSeq (tAsg (tCall sp [] E ar) (gName i)) tz D σ H := ha H (Ex.refl H) _ fun H1 e1 => by
  rw [List.append_nil]
  exact k H1 e1
theorem s_retC (ha : EvA ar σ H vs) (k : ∀ H1, Ex H H1 → sp vs H1 D.rt E) : tRet (tCall sp [] E ar) D σ H := ha H (Ex.refl H) _ fun H1 e1 => by
  rw [List.append_nil]
  exact k H1 e1
theorem s_dropM (h : Ev to σ H (.ref a)) (ho : H a = some (.ins C dx fs)) (l : fs.lookup m = none) (ha : EvA ar σ H vs) (k : ∀ H1, Ex H H1 → sp (.ref a :: vs) H1 (fun _ H2 => D.nx σ H2) E) : tDrop (tMeth C m sp [] E to ar) D σ H :=
  h H (Ex.refl H) _ fun H1 e1 => ⟨a, dx, fs, rfl, e1 a _ ho, l, ha H1 e1 _ fun H2 e2 => by
    rw [List.append_nil]
    exact k H2 (e1.trans e2)⟩
theorem q_dropM (h : Ev to σ H (.ref a)) (ho : H a = some (.ins C dx fs)) (l : fs.lookup m = none) (ha : EvA ar σ H vs) (k : ∀ H1, Ex H H1 → sp (.ref a :: vs) H1 (fun _ H2 => tz D σ H2) E) : tSeq (tDrop (tMeth C m sp [] E to ar)) tz D σ H :=
  s_dropM (D := { D with nx := tz D }) h ho l ha k
theorem q_asgM {i : Nat} (h : Ev to σ H (.ref a)) (ho : H a = some (.ins C dx fs)) (l : fs.lookup m = none) (ha : EvA ar σ H vs) (k : ∀ H1, Ex H H1 → sp (.ref a :: vs) H1 (fun v H2 => tz D (σ.set i (some v)) H2) E) : tSeq (tAsg (tMeth C m sp [] E to ar) (gName i)) tz D σ H :=
  h H (Ex.refl H) _ fun H1 e1 => ⟨a, dx, fs, rfl, e1 a _ ho, l, ha H1 e1 _ fun H2 e2 => by
    rw [List.append_nil]
    exact k H2 (e1.trans e2)⟩
/-- a method that raises, whatever is wanted -/
theorem s_retFM {g : Str} (h : Ev to σ H (.ref a)) (ho : H a = some (.ins C dx fs)) (l : fs.lookup m = none) (ha : EvA ar σ H vs) (k : ∀ H1, Ex H H1 → ∀ Q : VK, sp (.ref a :: vs) H1 Q E) : tRet (tFld K (tMeth C m sp [] E to ar) g) D σ H :=
  h H (Ex.refl H) _ fun H1 e1 => ⟨a, dx, fs, rfl, e1 a _ ho, l, ha H1 e1 _ fun H2 e2 => by
    rw [List.append_nil]
    exact k H2 (e1.trans e2) _⟩
/-- a tuple told apart into five names -/
theorem q_tup5 {p : Addr} {v1 v2 v3 v4 v5 : V} {i1 i2 i3 i4 i5 : Nat} (h : Ev te σ H (.ref p)) (ht : SqT K H p [v1, v2, v3, v4, v5])
    (k : ∀ H1, Ex H H1 → tz D (((((σ.set i1 (some v1)).set i2 (some v2)).set i3 (some v3)).set i4 (some v4)).set i5 (some v5)) H1) :
    tSeq (tAsg te (gTup K 5 (gCons (gName i1) (gCons (gName i2) (gCons (gName i3) (gCons (gName i4) (gCons (gName i5) gNil))))))) tz D σ H :=
  h H (Ex.refl H) _ fun H1 e1 => ⟨p, _, rfl, ex_t e1 ht, rfl, v1, _, rfl, v2, _, rfl, v3, _, rfl, v4, _, rfl, v5, _, rfl, rfl, k H1 e1⟩
theorem q_tup2 {p : Addr} {v1 v2 : V} {i1 i2 : Nat} (h : Ev te σ H (.ref p)) (ht : SqT K H p [v1, v2])
    (k : ∀ H1, Ex H H1 → tz D ((σ.set i1 (some v1)).set i2 (some v2)) H1) :
    tSeq (tAsg te (gTup K 2 (gCons (gName i1) (gCons (gName i2) gNil)))) tz D σ H :=
  h H (Ex.refl H) _ fun H1 e1 => ⟨p, _, rfl, ex_t e1 ht, rfl, v1, _, rfl, v2, _, rfl, rfl, k H1 e1⟩
theorem s_raise {cls : Value} (q : ∀ H1, Ex H H1 → E cls none H1) : tRaise E cls D σ H := q H (Ex.refl H)
/-- two ways of one value -/
theorem ev_ifB {tt : TT} (h : EvT tt σ H b) (h1 : Ev ta σ H x) (h2 : Ev te σ H y) : Ev (tIf tt ta te) σ H (if b = true then x else y) := by
  cases b with
  | true => exact ev_if h (fun _ => h1) (fun z => nomatch z)
  | false => exact ev_if h (fun z => nomatch z) (fun _ => h2)
/-- what the and's second part may lean on -/
theorem ev_andIf {a1 b1 : Bool} (h1 : Ev ta σ H (.bl a1)) (h2 : a1 = true → Ev te σ H (.bl b1)) : Ev (tAndV ta te) σ H (.bl (a1 && b1)) := ev_andV h1 h2
end
/-- kept but at one place -/
def But (s : Addr) (H H' : Hp) : Prop := ∀ b o, b ≠ s → H b = some o → H' b = some o
/-- kept but at the places of fp -/
def Buts (fp : List Addr) (H H' : Hp) : Prop := ∀ b o, b ∉ fp → H b = some o → H' b = some o
theorem Buts.refl (fp : List Addr) (H : Hp) : Buts fp H H := fun _ _ _ h => h
theorem Buts.trans {fp : List Addr} {H H1 H2 : Hp} (a : Buts fp H H1) (b : Buts fp H1 H2) : Buts fp H H2 := fun x o h e => b x o h (a x o h e)
theorem Buts.of {fp : List Addr} {H H' : Hp} (e : Ex H H') : Buts fp H H' := fun b o _ h => e b o h
theorem Buts.but {fp : List Addr} {s : Addr} {H H' : Hp} (hs : s ∈ fp) (e : But s H H') : Buts fp H H' := fun b o hb h => e b o (fun z => hb (z ▸ hs)) h
theorem Buts.mono {fp fq : List Addr} {H H' : Hp} (h : ∀ b ∈ fp, b ∈ fq) (e : Buts fp H H') : Buts fq H H' := fun b o hb => e b o fun z => hb (h b z)
theorem But.of {s : Addr} {H H' : Hp} (e : Ex H H') : But s H H' := fun b o _ h => e b o h
theorem But.upd {s : Addr} {H H' : Hp} {o : HO} (e : Ex H H') : But s H (upd H' s o) := fun b u hb h => by rw [upd_ne hb]; exact e b u h
theorem But.trans {s : Addr} {H H1 H2 : Hp} (a : But s H H1) (b : But s H1 H2) : But s H H2 := fun x o h e => b x o h (a x o h e)
theorem Buts.seq {K : PySem.W.Frag} {fp : List Addr} {H H' : Hp} {a : Addr} {xs : List V} (e : Buts fp H H') (ha : a ∉ fp) (h : SqL K H a xs) : SqL K H' a xs := by
  rcases h with (h | ⟨o, h⟩) | h
  · exact .inl (.inl (e _ _ ha h))
  · exact .inl (.inr ⟨o, e _ _ ha h⟩)
  · exact .inr h
theorem Buts.tup {K : PySem.W.Frag} {fp : List Addr} {H H' : Hp} {a : Addr} {xs : List V} (e : Buts fp H H') (ha : a ∉ fp) (h : SqT K H a xs) : SqT K H' a xs := by
  rcases h with (h | ⟨o, h⟩) | h
  · exact .inl (.inl (e _ _ ha h))
  · exact .inl (.inr ⟨o, e _ _ ha h⟩)
  · exact .inr h
end MV
namespace MV
open PySem PySem.Spec PyProof.Rows L2 Evl
section
variable {K : PySem.W.Frag} {σ : L2.St} {H H' : Hp} {te : TE} {D : Ends} {tz tu : TS} {ar : TA} {xs : List V}
/-- for i, x in enumerate(xs) -/
theorem s_forE {p : Addr} {i1 i2 : Nat} (h : EvA ar σ H [.ref p]) (hx : SqL K H p xs) (Pv : Nat → L2.St → Hp → Prop) (h0 : ∀ H1, Ex H H1 → Pv 0 σ H1) (hl : ∀ i σ' H', i ≤ xs.length → Pv i σ' H' → SqL K H' p xs)
    (hs : ∀ i x σ' H', xs[i]? = some x → Pv i σ' H' → ∀ H2, Ex H' H2 → tu { D with nx := Pv (i + 1), ct := Pv (i + 1), bk := D.nx } ((σ'.set i1 (some (.int (i : Nat)))).set i2 (some x)) H2) (hd : ∀ σ' H', Pv xs.length σ' H' → D.nx σ' H') :
    tFor (iEnum K ar) (gTup K 2 (gCons (gName i1) (gCons (gName i2) gNil))) tu D σ H := h H (Ex.refl H) _ fun H1 e => ⟨p, xs, rfl, ex_l e hx, by
  refine for_it (walk_enum (K := K) (a := p) (xs := xs)) Pv (h0 H1 e) hl (fun i y σ' H2 H2' hi pc hy => ?_) hd
  obtain ⟨T, x1, x2, rfl, nT, rfl, f1, f2⟩ := hy
  have ex1 : V.int (i : Nat) = x1 := Option.some.inj f1
  subst ex1
  exact ⟨T, _, rfl, .inl (.inl upd_same), rfl, _, _, rfl, _, _, rfl, rfl, hs i x2 σ' H2 f2 pc _ (Ex.new nT)⟩⟩
theorem q_forE {p : Addr} {i1 i2 : Nat} (h : EvA ar σ H [.ref p]) (hx : SqL K H p xs) (Pv : Nat → L2.St → Hp → Prop) (h0 : ∀ H1, Ex H H1 → Pv 0 σ H1) (hl : ∀ i σ' H', i ≤ xs.length → Pv i σ' H' → SqL K H' p xs)
    (hs : ∀ i x σ' H', xs[i]? = some x → Pv i σ' H' → ∀ H2, Ex H' H2 → tu { D with nx := Pv (i + 1), ct := Pv (i + 1), bk := tz D } ((σ'.set i1 (some (.int (i : Nat)))).set i2 (some x)) H2) (hd : ∀ σ' H', Pv xs.length σ' H' → tz D σ' H') :
    tSeq (tFor (iEnum K ar) (gTup K 2 (gCons (gName i1) (gCons (gName i2) gNil))) tu) tz D σ H := s_forE (D := { D with nx := tz D }) h hx Pv h0 hl hs hd
/-- a comprehension over a range whose turns may change the heap -/
theorem lc_R1 {n : Int} {j : Nat} {vs : List Nat} (h : EvA ar σ H [.int n]) (hn : 0 ≤ n ∧ n ≤ 10000) (hw : ∀ x, wipe ((wipe σ vs).set j (some x)) vs = wipe σ vs) (Pv : Nat → List V → Addr → Hp → Prop)
    (h0 : ∀ H1 Dl, Ex H H1 → H1 Dl = none → Pv 0 [] Dl (upd H1 Dl (.lst []))) (hs : ∀ (i : Nat) acc Dl H', (i : Int) < n → acc.length = i → H' Dl = some (.lst acc) → Pv i acc Dl H' → ∀ Q : VK, (∀ y H4, H4 Dl = some (.lst acc) → Pv (i + 1) (acc ++ [y]) Dl (upd H4 Dl (.lst (acc ++ [y]))) → Q y H4) → te ((wipe σ vs).set j (some (.int (i : Int)))) H' Q)
    {Q : VK} (k : ∀ acc Dl H', acc.length = n.toNat → H' Dl = some (.lst acc) → Pv n.toNat acc Dl H' → Q (.ref Dl) H') : tLc (iRng1 ar) (gName j) tYes te vs σ H Q :=
  h H (Ex.refl H) _ fun H1 e1 => ⟨n, rfl, by omega, by omega, fun Dl hD =>
    lc_range (lo := 0) (n := n.toNat) (fun i H' => ∃ acc : List V, acc.length = i ∧ H' Dl = some (.lst acc) ∧ Pv i acc Dl H') ⟨[], rfl, upd_same, h0 H1 Dl e1 hD⟩ (fun i H' hi ⟨acc, a1, a2, a3⟩ => by
      have e0 : (0 : Int) + (i : Int) = (i : Int) := Int.zero_add _
      show wipe ((wipe σ vs).set j (some (.int ((0 : Int) + (i : Int))))) vs = wipe σ vs ∧ te ((wipe σ vs).set j (some (.int ((0 : Int) + (i : Int))))) H' fun y H4 => ∃ acc, H4 Dl = some (.lst acc) ∧ acc.length < sizeLine ∧ ∃ acc' : List V, acc'.length = i + 1 ∧ (upd H4 Dl (.lst (acc ++ [y]))) Dl = some (.lst acc') ∧ Pv (i + 1) acc' Dl (upd H4 Dl (.lst (acc ++ [y])))
      rw [e0]
      refine ⟨hw _, ?_⟩
      exact hs i acc Dl H' (by omega) a1 a2 a3 _ fun y H4 h4 p4 => ⟨acc, h4, by rw [sizeLine_eq]; omega, acc ++ [y], by rw [List.length_append, a1]; rfl, upd_same, p4⟩) fun H' ⟨acc, a1, a2, a3⟩ => k acc Dl H' a1 a2 a3⟩
end
end MV
namespace MV
open PySem PySem.Spec PyProof.Rows L2 Evl
section
variable {K : PySem.W.Frag} {σ : L2.St} {H : Hp} {ta te : TE} {D : Ends} {tz : TS} {xs : List V} {P : List V → Prop}
theorem s_appLP {l : Addr} (hl : H l = some (.lst xs)) (ha : Ev ta σ H (.ref l)) (h : EvLP te σ H P) (hz : xs.length < 100000) (k : ∀ ys p H1, P ys → H p = none → Ex H H1 → H1 p = some (.lst ys) → D.nx σ (upd H1 l (.lst (xs ++ [.ref p])))) :
    tDrop (tBM K "list" rAppend ta (tCons te tNil)) D σ H := ha H (Ex.refl H) _ fun H1 e1 =>
  ⟨.inl ⟨rfl, xs, sq_of (e1 l _ hl)⟩, h H1 e1 _ fun ys p H2 hP hp e2 h2 => ⟨l, xs, .ref p, rfl, rfl, e2 l _ (e1 l _ hl), sz_lt hz, k ys p H2 hP (fresh_back e1 hp) (e1.trans e2) h2⟩⟩
end
end MV
namespace MV
open PySem PySem.Spec PyProof.Rows L2 Evl
section
variable {K : PySem.W.Frag} {σ : L2.St} {H H' : Hp} {te ta tl : TE} {D : Ends} {tz tu tw : TS} {xs ys : List V} {p q : Addr}
theorem elp_of {P : List V → Prop} (h : EvL te σ H xs) (hp : P xs) : EvLP te σ H P := fun H1 e Q k => h H1 e Q fun p H2 hn e2 h2 => k xs p H2 hp hn e2 h2
/-- a comprehension over a list whose turns may change the heap -/
theorem lc_L1 {a : Addr} {j : Nat} {vs : List Nat} (h : Ev tl σ H (.ref a)) (hx : SqL K H a xs) (hz : xs.length ≤ 10000) (hw : ∀ x, wipe ((wipe σ vs).set j (some x)) vs = wipe σ vs) (Pv : Nat → List V → Addr → Hp → Prop)
    (h0 : ∀ H1 Dl, Ex H H1 → H1 Dl = none → Pv 0 [] Dl (upd H1 Dl (.lst []))) (hl : ∀ i acc Dl H', H' Dl = some (.lst acc) → Pv i acc Dl H' → SqL K H' a xs)
    (hs : ∀ (i : Nat) x acc Dl H', xs[i]? = some x → acc.length = i → H' Dl = some (.lst acc) → Pv i acc Dl H' → ∀ Q : VK, (∀ y H4, H4 Dl = some (.lst acc) → Pv (i + 1) (acc ++ [y]) Dl (upd H4 Dl (.lst (acc ++ [y]))) → Q y H4) → te ((wipe σ vs).set j (some x)) H' Q)
    {Q : VK} (k : ∀ acc Dl H', acc.length = xs.length → H' Dl = some (.lst acc) → Pv xs.length acc Dl H' → Q (.ref Dl) H') : tLc (iList K tl) (gName j) tYes te vs σ H Q :=
  h H (Ex.refl H) _ fun H1 e1 => ⟨a, rfl, ⟨xs, ex_l e1 hx⟩, fun Dl hD =>
    lc_list (xs := xs) (fun i H' => ∃ acc : List V, acc.length = i ∧ H' Dl = some (.lst acc) ∧ Pv i acc Dl H') ⟨[], rfl, upd_same, h0 H1 Dl e1 hD⟩ (fun i H' _ ⟨acc, _, a2, a3⟩ => hl i acc Dl H' a2 a3) (fun i x H' hi ⟨acc, a1, a2, a3⟩ => by
      have hi' := (List.getElem?_eq_some_iff.mp hi).1
      show wipe ((wipe σ vs).set j (some x)) vs = wipe σ vs ∧ te ((wipe σ vs).set j (some x)) H' fun y H4 => ∃ acc, H4 Dl = some (.lst acc) ∧ acc.length < sizeLine ∧ ∃ acc' : List V, acc'.length = i + 1 ∧ (upd H4 Dl (.lst (acc ++ [y]))) Dl = some (.lst acc') ∧ Pv (i + 1) acc' Dl (upd H4 Dl (.lst (acc ++ [y])))
      refine ⟨hw _, ?_⟩
      exact hs i x acc Dl H' hi a1 a2 a3 _ fun y H4 h4 p4 => ⟨acc, h4, by rw [sizeLine_eq]; omega, acc ++ [y], by rw [List.length_append, a1]; rfl, upd_same, p4⟩) fun H' ⟨acc, a1, a2, a3⟩ => k acc Dl H' a1 a2 a3⟩
theorem q_asgR {i : Nat} (k : te σ H fun v H1 => tz D (σ.set i (some v)) H1) : tSeq (tAsg te (gName i)) tz D σ H := k
/-- objects made one after the other, each from an item of a list -/
theorem lc_objs {β : Type} [Inhabited β] (own : β → List Addr) (rep : β → V) (P : Nat → β → Hp → Prop) {a : Addr} {j : Nat} {vs : List Nat} (h : Ev tl σ H (.ref a)) (hx : SqL K H a xs) (hz : xs.length ≤ 10000) (hw : ∀ x, wipe ((wipe σ vs).set j (some x)) vs = wipe σ vs)
    (hk : ∀ i b H1 H2 Dl, H Dl = none → P i b H1 → But Dl H1 H2 → Dl ∉ own b → P i b H2) (ho : ∀ i b H1, P i b H1 → ∀ x ∈ own b, H1 x ≠ none)
    (hs : ∀ (i : Nat) x H1, xs[i]? = some x → Ex H H1 → ∀ Q : VK, (∀ b H2, Ex H1 H2 → (∀ x ∈ own b, H1 x = none) → P i b H2 → Q (rep b) H2) → te ((wipe σ vs).set j (some x)) H1 Q)
    {Q : VK} (k : ∀ (B : Nat → β) Dl H1, H Dl = none → Ex H H1 → H1 Dl = some (.lst ((List.range xs.length).map fun i => rep (B i))) → (∀ i, i < xs.length → P i (B i) H1 ∧ (∀ x ∈ own (B i), H x = none ∧ x ≠ Dl)) → (∀ i i', i < xs.length → i' < xs.length → i ≠ i' → ∀ x ∈ own (B i), x ∉ own (B i')) → Q (.ref Dl) H1) :
    tLc (iList K tl) (gName j) tYes te vs σ H Q := by
  refine lc_L1 h hx hz hw (fun n acc Dl H1 => H Dl = none ∧ Ex H H1 ∧ ∃ B : Nat → β, acc = (List.range n).map (fun i => rep (B i)) ∧ (∀ i, i < n → P i (B i) H1 ∧ (∀ x ∈ own (B i), H x = none ∧ x ≠ Dl)) ∧ ∀ i i', i < n → i' < n → i ≠ i' → ∀ x ∈ own (B i), x ∉ own (B i'))
    (fun H1 Dl e1 hD => ⟨fresh_back e1 hD, e1.trans (Ex.new hD), fun _ => default, rfl, fun i hi => absurd hi (by omega), fun i _ hi => absurd hi (by omega)⟩)
    (fun i acc Dl H1 _ ⟨_, e, _⟩ => ex_l e hx) ?hs ?hk
  case hs =>
    intro n x acc Dl H1 hxn hacc hDl ⟨hn, e, B, ea, hP, hd⟩ Q' k'
    refine hs n x H1 hxn e Q' fun b H2 e2 hf hPb => ?_
    have hDb : Dl ∉ own b := fun z => by have := hf Dl z; rw [hDl] at this; cases this
    have eU : But Dl H2 (upd H2 Dl (.lst (acc ++ [rep b]))) := But.upd (Ex.refl H2)
    have fr : ∀ i, i < n → ∀ x ∈ own (B i), x ∉ own b := fun i hi x hx hb => ho i (B i) H1 (hP i hi).1 x hx (hf x hb)
    refine k' _ H2 (e2 _ _ hDl) ⟨hn, (e.trans e2).mut hn, fun i => if i = n then b else B i, ?_, fun i hi => ?_, fun i i' hi hi' hne x hx => ?_⟩
    · rw [List.range_succ, List.map_append, ea]
      congr 1
      · refine List.map_congr_left fun i hi => ?_
        have : i < n := List.mem_range.mp hi
        show rep (B i) = rep (if i = n then b else B i)
        rw [if_neg (by omega)]
      · show [rep b] = [rep (if n = n then b else B n)]
        rw [if_pos rfl]
    · by_cases c : i = n
      · subst c
        show P i (if i = i then b else B i) _ ∧ ∀ x ∈ own (if i = i then b else B i), H x = none ∧ x ≠ Dl
        rw [if_pos rfl]
        exact ⟨hk i b H2 _ Dl hn hPb eU hDb, fun x hx => ⟨fresh_back e (hf x hx), fun z => hDb (z ▸ hx)⟩⟩
      · show P i (if i = n then b else B i) _ ∧ ∀ x ∈ own (if i = n then b else B i), H x = none ∧ x ≠ Dl
        rw [if_neg c]
        obtain ⟨h1, h2⟩ := hP i (by omega)
        have hDi : Dl ∉ own (B i) := fun z => (h2 Dl z).2 rfl
        exact ⟨hk i _ H1 _ Dl hn h1 ((But.of e2).trans eU) hDi, h2⟩
    · have hx' : x ∈ own (if i = n then b else B i) := hx
      show x ∉ own (if i' = n then b else B i')
      by_cases c : i = n
      · rw [if_pos c] at hx'
        rw [if_neg (by omega)]
        exact fun z => fr i' (by omega) x z hx'
      · rw [if_neg c] at hx'
        by_cases c' : i' = n
        · rw [if_pos c']
          exact fr i (by omega) x hx'
        · rw [if_neg c']
          exact hd i i' (by omega) (by omega) hne x hx'
  case hk =>
    intro acc Dl H1 hacc hDl ⟨hn, e, B, ea, hP, hd⟩
    subst ea
    exact k B Dl H1 hn e hDl hP hd
/-! ### tests told part by part -/
theorem q_orW {t u : TT} (h1 : EvT t σ H false) (k : ∀ H1, Ex H H1 → tSeq (tIfS u tu tw) tz D σ H1) : tSeq (tIfS (tOr t u) tu tw) tz D σ H := h1 H (Ex.refl H) _ fun H1 e => by
  show (if false = true then _ else _)
  rw [if_neg (by decide)]
  exact k H1 e
theorem s_orW {t u : TT} (h1 : EvT t σ H false) (k : ∀ H1, Ex H H1 → tIfS u tu tw D σ H1) : tIfS (tOr t u) tu tw D σ H := h1 H (Ex.refl H) _ fun H1 e => by
  show (if false = true then _ else _)
  rw [if_neg (by decide)]
  exact k H1 e
theorem rv_neTup (h : SqT K H p xs) (hf : xs.all flat4 = true) (h2 : SqT K H q xs) : RV (rNeD K) (.ref p) (.ref q) H (.bl false) := fun H1 e Q k => by
  refine ⟨.tuple (xs.map vD), .tuple (xs.map vD), .tup (ex_t e h) (dpAll_flat hf), .tup (ex_t e h2) (dpAll_flat hf), shaped_tup hf, shaped_tup hf, ?_⟩
  have e2 : PyData.eqv (.tuple (xs.map vD)) (.tuple (xs.map vD)) = true := PySem.SeqAt.eqv_refl _ (SeqAt.canLay_of_shaped (shaped_tup hf))
  rw [e2]
  exact k H1 (Ex.refl H1)
/-- found != stepped(..)[:2], the two alike -/
theorem q_neCut {i : Nat} {sp : Sp} {E : XK} {ar : TA} {vs : List V} (h : σ[i]? = some (some (.ref p))) (ha : EvA ar σ H vs) (hf : xs.all flat4 = true)
    (k : ∀ H1, Ex H H1 → ∀ Q : VK, (∀ q ys H2, SqT K H2 q ys → ¬ (HT.sIx ys.length 0 none = 0 ∧ HT.sIx ys.length ys.length (some 2) = ys.length) → cutV ys none (some 2) = xs → SqT K H2 p xs → (∀ H3, Ex H2 H3 → tz D σ H3) → Q (.ref q) H2) → sp vs H1 Q E) :
    tSeq (tIfS (tTest (tOp (rNeD K) (tVar i) (tSl (rSlT K) (tCall sp [] E ar) tNoPart (tPart (tC (.int 2)))))) tu tNext) tz D σ H := by
  refine ⟨.ref p, h, ?_⟩
  refine ha H (Ex.refl H) _ fun H1 e1 => ?_
  rw [List.append_nil]
  refine k H1 e1 _ fun q ys H2 hq hn hc hp kz => ?_
  refine ⟨2, rfl, q, ys, rfl, hq, hn, fun r hr => ?_⟩
  have e2 : Ex H2 (upd H2 r (.tup (cutV ys none (some 2)))) := Ex.new hr
  rw [hc] at e2 ⊢
  refine rv_neTup (ex_t e2 hp) hf (st_of upd_same) _ (Ex.refl _) _ fun H3 e3 => ⟨false, rfl, ?_⟩
  exact kz H3 (e2.trans e3)
theorem q_clear {i : Nat} (h : σ[i]? = some (some (.ref p))) (hp : H p = some (.lst xs)) (k : tz D σ (upd H p (.lst []))) : tSeq (tDrop (tBM0 K "list" rClear (tVar i))) tz D σ H :=
  ⟨.ref p, h, .inl ⟨rfl, xs, sq_of hp⟩, p, xs, rfl, rfl, hp, k⟩
theorem Buts.mut {fp : List Addr} {o : HO} (e : Buts fp H H') (h : H p = none) : Buts fp H (upd H' p o) := fun b u hb hu => by
  have : b ≠ p := fun z => by rw [z, h] at hu; cases hu
  rw [upd_ne this]
  exact e b u hb hu
theorem ev_neTup {tb : TE} (ha : EvU ta σ H xs) (hb : EvU tb σ H xs) (hf : xs.all flat4 = true) : Ev (tOp (rNeD K) ta tb) σ H (.bl false) := ev_opUU ha hb fun p q H1 h1 h2 _ => rv_neTup (st_of h1) hf (st_of h2)
theorem q_joinSet {c : TT} {t u : TS} {i : Nat} {x : V} (h : ∀ D' : Ends, (∀ y H1, y = x → Ex H H1 → D'.nx (σ.set i (some y)) H1) → tIfS c t u D' σ H) (k : ∀ H1, Ex H H1 → tz D (σ.set i (some x)) H1) : tSeq (tIfS c t u) tz D σ H :=
  h { D with nx := tz D } fun y H1 e eH => by
    subst e
    exact k H1 eH
end
end MV
namespace MV
open PySem PySem.Spec PyProof.Rows L2 Evl
/-! ### xs.count(y) of flat things -/
def rCntF (K : PySem.W.Frag) : V → List V → Hp → VK → Prop := fun x xs H Q => ∃ (p : Addr) (ys : List V) (y : V), x = .ref p ∧ xs = [y] ∧ SqL K H p ys ∧ flatV y = true ∧ ys.all flatV = true ∧ Q (.int ((ys.countP fun z => eqV z y : Nat) : Int)) H
theorem count_eqU {x : V} : ∀ {xs : List V} {us : List Value}, Vals xs us → xs.all flatV = true → us.countP (eqU x) = xs.countP fun y => eqV y x
  | _, _, .nil, _ => rfl
  | y :: xs, u :: us, .cons r t, f => by
    rw [List.all_cons, Bool.and_eq_true] at f
    rw [List.countP_cons, List.countP_cons, count_eqU t f.2, eqU_of r f.1]
theorem mt_countF {X : Cx} : MtR X "list.count" (rCntF X.K) := by
  intro pins s σ H x xs v us Q I rx rxs h
  obtain ⟨p, ys, y, rfl, rfl, hs, fy, fys, q⟩ := h
  cases rx
  cases rxs with
  | cons ry rt =>
    rename_i uy ut
    cases rt
    obtain ⟨its, rv, ⟨⟨cls, dd, data, sl⟩, n, ho, hc, hdn, hd⟩, hlen⟩ := I.list hs
    simp only at hc hd
    subst hc hd
    refine call_meets PySem.F.slot_list_count ⟨_, ho, rfl⟩ PySem.F.entry_list_count (PySem.F.args_list_count_2 _ _)
      (SeqAt.list_countAt p its.toArray n dd sl uy (eqU y)) ⟨ho, fun u hu => mem_eqAt ry fy rv fys u (by simpa using hu), ?_⟩
    have ec : its.toArray.toList.countP (eqU y) = ys.countP fun z => eqV z y := count_eqU rv fys
    refine ⟨.int ((ys.countP fun z => eqV z y : Nat) : Int), H, I.tok _, ⟨s.toks, ?_⟩, q⟩
    show Value.int ((its.toArray.toList.countP (eqU y) : Nat) : Int) s.toks = Value.int ((ys.countP fun z => eqV z y : Nat) : Int) s.toks
    rw [ec]
section
variable {K : PySem.W.Frag} {σ : L2.St} {H : Hp} {to : TE} {p : Addr} {ys : List V} {y : V} {te : TE}
theorem ev_count (ho : Ev to σ H (.ref p)) (hs : SqL K H p ys) (h : Ev te σ H y) (fy : flatV y = true) (fys : ys.all flatV = true) (ht : ∀ H1, Ex H H1 → tyV K "list" (.ref p) H1) : Ev (tBM K "list" (rCntF K) to (tCons te tNil)) σ H (.int ((ys.countP fun z => eqV z y : Nat) : Int)) := fun H1 e Q q =>
  ho H1 e _ fun H2 e2 => ⟨ht H2 (e.trans e2), h H2 (e.trans e2) _ fun H3 e3 => ⟨p, ys, y, rfl, rfl, ex_l ((e.trans e2).trans e3) hs, fy, fys, q H3 (e2.trans e3)⟩⟩
theorem ty_list (h : H p = some (.lst ys)) : tyV K "list" (.ref p) H := .inl ⟨rfl, ys, sq_of h⟩
end
end MV
namespace MVH
open PySem PySem.Spec PyProof.Rows L2 HotX
/-! ### a list walked while an exception is handled -/
section
variable {prog : Program} {w : World} {A : Around} {E : Value → Shared → Prop} {s : Shared}
theorem end_hot {it l x1 : Addr} {i : Nat} {items : Array Value} {Q : Option Value → Shared → Prop} (hot : HotAt A x1 s.heap) (hne : x1 ≠ it) (hit : s.heap.IsListIter it l i) (hl : s.heap.IsList l items) (hx : items[i]? = none)
    (hQ : ∀ h', Heap.ExtBut it s.heap h' → Q none { s with heap := h' }) : wpAny (model prog w) A (pyNext (.ref it)) Q E s := by
  obtain ⟨o, ho, hc, hd⟩ := id hit; obtain ⟨ol, hol, _, nl, hdl⟩ := hl; obtain ⟨hh, o1, vs1, h1, d1, c1⟩ := hot
  unfold pyNext
  refine wpAny_bind (wpAny_attempt (wpAny_callSpecial?_slot (name := Str.ofString "__next__") hit.typeIs slot_listiter_next (wpAny_call_entry slot_listiter_next hit.typeIs entry_listiter_next ?_ (args_listiter_next _))))
  show wpAny _ _ (field (.ref it) 0 >>= _) _ _ s
  refine wpAny_bind (wpAny_field ho hd (x := .ref l) rfl ?_); show wpAny _ _ (if (Value.ref l == Value.none) = true then _ else _) _ _ s
  rw [if_neg (by exact Bool.false_ne_true)]
  show wpAny _ _ (field (.ref it) 1 >>= _) _ _ s
  refine wpAny_bind (wpAny_field ho hd (x := .int i 0) rfl ?_); show wpAny _ _ (seqItems? (.ref l) >>= _) _ _ s
  refine wpAny_bind (wpAny_seqItems hol hdl ?_); simp only [Int.toNat_natCast, hx]
  refine wpAny_bind (wpAny_rule (wpAny_bind (wpAny_setField ho hd (by simp) ?_))); show wpAny _ _ (newExc (.type "StopIteration") [] >>= _) _ _ _
  refine wpAny_bind ?_; simp only [newExc, newTuple]
  refine wpAny_bind (wpAny_newObj_type ?_ (by size_fits)); refine wpAny_bind (m := firstArgMember _ _) (wpAny_of_eq (a := Value.none) (by first | rfl | (simp only [firstArgMember]; rfl)) ?_); refine wpAny_newObj_type ?_ (by size_fits)
  have k1 := Heap.SameBut.update (h := s.heap) (a := it) (f := Obj.mapFields (·.setIfInBounds 0 Value.none))
  have hk : (s.heap.update it (Obj.mapFields (·.setIfInBounds 0 Value.none))).get? x1 = some o1 := (k1.2 x1 hne).trans h1
  refine raiseNew_hot ⟨hh, o1, vs1, Heap.get?_push_of_some _ (Heap.get?_push_of_some _ hk), d1, c1⟩ (Nat.ne_of_lt (Heap.lt_size (Heap.get?_push_of_some _ hk))) (Heap.get?_push_size _ rfl) rfl (by first | (simp; done) | (simp; omega)) ?_
  refine wpAny_bind (wpAny_isInstance (T := "StopIteration") (b := true) ⟨_, Heap.get?_update_self _ (Heap.get?_push_size _ rfl) rfl, rfl⟩ isSubtype_stop ?_)
  refine wpAny_pure (hQ _ fun b u hb e => ?_)
  have hb2 := (k1.2 b hb).trans e
  rw [Heap.get?_update_other _ _ (Nat.ne_of_gt (Heap.lt_size (Heap.get?_push_of_some _ hb2)))]
  exact Heap.get?_push_of_some _ (Heap.get?_push_of_some _ hb2)
/-- the walk of a list: the list, and the handled one, stay -/
def StL (I l x1 : Addr) (its : Array Value) (i : Nat) (h : Heap) : Prop := h.IsListIter I l i ∧ h.IsList l its ∧ I ≠ l ∧ x1 ≠ I ∧ ∃ o vs, h.get? x1 = some o ∧ o.data = .fields vs ∧ vs[2]? = some .none
theorem list_walks {I l x1 : Addr} {its : Array Value} (hh : A.handled = some (.ref x1)) : Walks prog w A I [I, l, x1] [I] its.size (fun i v => its[i]? = some v) (StL I l x1 its) where
  sub := by simp
  frame := fun i h h' ⟨a, ⟨ol, b1, b2⟩, n1, n2, ⟨o, vs, c1, c2⟩⟩ k => ⟨a.at fun u e => k I (by simp) u e, ⟨ol, k l (by simp) _ b1, b2⟩, n1, n2, o, vs, k x1 (by simp) _ c1, c2⟩
  item := fun i s Q E hi ⟨a, b, n1, n2, ⟨o, vs, c1, c2⟩⟩ hQ => wpAny_pyNext_list_item (x := its[i]) a b (by simp [hi]) fun h' a' sb => by
    obtain ⟨ol, b1, b2⟩ := b
    exact hQ its[i] h' s.toks (by simp [hi]) ⟨a', ⟨ol, (sb.2 l n1.symm).trans b1, b2⟩, n1, n2, o, vs, (sb.2 x1 n2).trans c1, c2⟩ fun c u hc e => (sb.2 c (by simpa using hc)).trans e
  done := fun s Q E ⟨a, b, n1, n2, ⟨o, vs, c1, c2⟩⟩ hQ => end_hot ⟨hh, o, vs, c1, c2⟩ n2 a b (by simp) fun h' eb => hQ h' s.toks fun c u hc e => eb c u (by simpa using hc) e
  self := fun i s Q E ⟨a, _⟩ q => wpAny_pyIter_listiter a q
end
section
variable {X : Cx}
/-- sum(xs) while an exception is handled -/
theorem cr_sumH (hot : L2H.HotC X) : CallR X (.builtin "sum") (rSum X.K) := by
  intro pins s σ H vs us Q I r h
  obtain ⟨a, ns, rfl, hs, q⟩ := h
  obtain ⟨its, rv, hl, _⟩ := I.list hs
  obtain ⟨x1, hh, o1, vs1, g1, d1, c1⟩ := hot.at I
  rw [Vals.ref1 r]
  have hi := rv.ints
  obtain ⟨xs, e⟩ := hi.allInts.items
  have hn : numsOf (intItems xs).toList = ns := by rw [← e]; exact hi.numsOf
  rw [nums_intItems] at hn
  have hl' : s.heap.IsList a (intItems xs) := e ▸ hl.isList
  refine call_sum_walkG (iter_intList hl' fun s2 e2 st hfp hne => ?_)
  subst e2
  have x1lt := Heap.lt_size g1
  refine ⟨_, _, _, _, _, _, numAt xs, rfl, list_walks (A := X.A.in1) (l := a) (x1 := x1) (its := intItems xs) hh, ⟨st.1, st.2, hne.symm, Nat.ne_of_lt x1lt, o1, vs1, Heap.get?_push_of_some _ g1, d1, c1⟩, fun b hb => ?_, fun _ _ => intItems_at, fun h' tk t' hk => ?_⟩
  · simp only [List.mem_cons, List.not_mem_nil, or_false] at hb
    rcases hb with z | z | z
    · exact hfp b (by simp [z])
    · exact hfp b (by simp [z])
    · rw [z]
      show x1 < (s.heap.push _).objs.size
      rw [Heap.size_push]
      exact Nat.lt_succ_of_lt x1lt
  · have ez : preSum (numAt xs) (intItems xs).size = ns.sum := by
      rw [preSum_eq, List.take_of_length_le (by simp [intItems]), hn]
    rw [ez]
    exact ⟨.int ns.sum, H, I.kept (t' := tk) (old_kept hk), ⟨t', rfl⟩, q⟩
end
/-! ### [int(b) for b in bs] while an exception is handled -/
section
variable {X : Cx} {pins : List (Addr × Obj)} {σ : L2.St} {H : Hp} {s2 s3 : Shared} {scope : Scope} {y : Str} {iy : Nat} {C D I0 : Addr}
theorem names_local {env : Env} (hloc : ∀ z ∈ scope.names, z.2 = .local ∨ z.2 = .globalImplicit) {x : Str} {k : NameKind} (h : (relabel scope env).names.lookup x = some k) : ∃ z ∈ scope.names, z.1 = x ∧ z.2 = k := by
  have hm : (x, k) ∈ (relabel scope env).names := PySem.mem_of_lookup h
  unfold relabel at hm
  obtain ⟨⟨n, k0⟩, hz, e⟩ := List.mem_map.mp hm
  have hk : k0 = .local ∨ k0 = .globalImplicit := hloc _ hz
  rcases hk with rfl | rfl
  · have e' : (n, NameKind.local) = (x, k) := e
    cases e'
    exact ⟨_, hz, rfl, rfl⟩
  · have e' : (n, NameKind.globalImplicit) = (x, k) := e
    cases e'
    exact ⟨_, hz, rfl, rfl⟩
theorem names_not {env : Env} (hloc : ∀ z ∈ scope.names, z.2 = .local ∨ z.2 = .globalImplicit) {x : Str} {k : NameKind} (h : (relabel scope env).names.lookup x = some k) (h1 : k ≠ .local) (h2 : k ≠ .globalImplicit) : False := by
  obtain ⟨z, hz, _, e⟩ := names_local hloc h
  rcases hloc z hz with w | w
  · exact h1 (e.symm.trans w)
  · exact h2 (e.symm.trans w)
theorem blk_inv (hcalm : X.calm = false) (hN : X.N.Nodup) (ok : BlkOk X.N X.env.scope scope [(y, iy)]) (hloc : ∀ z ∈ scope.names, z.2 = .local ∨ z.2 = .globalImplicit) (I2 : Inv X pins σ H s2) (hf : FpOk X pins H I0) (hI : I0 < s2.heap.objs.size) (cb : CompBegins s2 D C s3) :
    Inv (X.blk s2 H scope (compEnvC scope [] C X.env) [I0]) [] (wipe σ [iy]) H s3 := by
  obtain ⟨⟨h, tk, rfl⟩, old, newD, newC, ne, names⟩ := cb
  obtain ⟨f0, f1, f2, f3, f4, f5⟩ := hf
  have neC : I0 ≠ C := Nat.ne_of_lt (Nat.lt_of_lt_of_le hI newC)
  have okB : (X.blk s2 H scope (compEnvC scope [] C X.env) [I0]).Ok :=
    { mod := I2.ok.mod
      kind := ok.kind
      glob := I2.ok.glob
      blt := I2.ok.blt
      above := newC
      inj := fun x z c e => by cases e
      has := fun x hx => by
        rcases hx with e | e
        · exact (names_not (env := X.env) hloc e (by decide) (by decide)).elim
        · exact (names_not (env := X.env) hloc e (by decide) (by decide)).elim
      cab := fun x c _ e => by cases e
      hd := fun z => absurd (hcalm.symm.trans z) (by decide)
      frames := I2.ok.frames
      stk := .inl rfl
      exf := fun b hb => by
        rw [List.mem_singleton.mp hb]
        exact ⟨neC, fun x c e => by cases e⟩
      bs := I2.bs
      bsz := Nat.le_trans I2.ok.bsz I2.sz
      noex := fun b o e hb => by
        rw [List.mem_singleton.mp hb] at e
        rcases f3 with z | z
        · exact I2.ok.noex _ _ e z
        · exact Nat.lt_irrefl _ (Nat.lt_of_lt_of_le (Heap.lt_size (I2.ok.bs _ _ e).1) z)
      exfs := fun b hb hm => by
        rw [List.mem_singleton.mp hb] at hm
        rcases List.mem_cons.mp (I2.stkSub _ hm) with z | z
        · exact f1 z
        · exact f2 z
      funs := I2.stack
      frf := I2.stkFree }
  exact
    { ok := okB
      os := rfl
      bare := I2.bare
      base := ⟨fun b o e _ _ _ => old b o e, fun b o e _ _ _ => ⟨o.slots, old b o e⟩, fun b o e n _ => n, fun b o e _ => ⟨o, old b o e⟩, fun _ _ e => e, fun _ _ _ e => e, fun b ps e => ⟨#[], by simpa using e⟩⟩
      loc := ⟨_, names, fun i x v e1 e2 e3 => by
        exfalso
        have hx : ∃ z ∈ scope.names, z.1 = x ∧ z.2 = .local := by
          rcases e3 with e | e | e
          · exact names_local (env := X.env) hloc e
          · exact (names_not (env := X.env) hloc e (by decide) (by decide)).elim
          · exact (names_not (env := X.env) hloc e (by decide) (by decide)).elim
        obtain ⟨z, hz, rfl, hzl⟩ := hx
        rcases ok.own z hz (.inl hzl) with w | w
        · simp only [List.map_cons, List.map_nil, List.mem_singleton] at w
          have hi : i = iy := nodup_ix hN e1 (by rw [w]; exact ok.ix (y, iy) (by simp))
          exact (wipe_some e2).2 (by simp [hi])
        · exact w (List.mem_of_getElem? e1)⟩
      cell := fun x c e => by cases e
      free := I2.hok.fresh newC
      freeC := fun x c e => by cases e
      pin := fun p hp => by simp at hp
      hok := fun b u e => (I2.hok b u e).stay (fun c w _ q => old c w q) (fun _ q => q) fun _ _ q => q
      len := by rw [wipe_length]; exact I2.len }
theorem vals_bools : ∀ {bs : List Bool} {us : List Value}, Vals (bs.map V.bl) us → us = bs.map Value.bool
  | [], _, h => by cases h; rfl
  | b :: bs, _, h => by
    cases h with
    | cons r t =>
      cases r
      rw [vals_bools t]
      rfl
/-- what stands elsewhere than at the new list and the iterator stays -/
theorem blk_keep {h' : Heap} {tk : Nat} {σ' : L2.St} {s : Shared} (I : Inv (X.blk s2 H scope (compEnvC scope [] C X.env) [I0]) [] σ' H s) (hD : H D = none) (hI : H I0 = none) (nD : D ≠ C) (nI : I0 ≠ C) (newD : s2.heap.objs.size ≤ D)
    (k : ∀ b o, b ∉ D :: [I0] → s.heap.get? b = some o → h'.get? b = some o) : Inv (X.blk s2 H scope (compEnvC scope [] C X.env) [I0]) [] σ' H { s with heap := h', toks := tk } := by
  have nH : ∀ b u, H b = some u → b ∉ D :: [I0] := fun b u e z => by
    rcases List.mem_cons.mp z with w | w
    · rw [w, hD] at e; cases e
    · rw [List.mem_singleton.mp w, hI] at e; cases e
  refine I.call (ch := [D, I0]) (d' := s.drawn) ⟨fun b o e _ _ hc => k b o hc e, fun b o e _ _ hc => ⟨o.slots, k b o hc e⟩, fun b o e n _ => n, fun b o e hc => ⟨o, k b o hc e⟩, fun _ _ e => e, fun _ _ _ e => e, fun b ps e => ⟨#[], by simpa using e⟩⟩ (fun b u e => (I.hok b u e).stay (fun c w hc q => k c w ?_ q) (fun _ q => q) fun _ _ q => q) I.bare fun b hb => ?_
  · rcases hc with z | z
    · rw [z]; exact nH b u e
    · exact nH c _ z
  · rcases List.mem_cons.mp hb with z | z
    · exact ⟨.inr (by rw [z]; exact newD), by rw [z]; exact nD, fun x c e => (by cases e), fun p hp => by simp at hp⟩
    · exact ⟨.inl (by simp [List.mem_singleton.mp z]), by rw [List.mem_singleton.mp z]; exact nI, fun x c e => (by cases e), fun p hp => by simp at hp⟩
def bInt (b : Bool) : Int := if b = true then 1 else 0
/-- [int(y) for y in f], f a list of booleans -/
def tHotInts (jf : Nat) : TE := fun σ H Q => ∃ (l : Addr) (bs : List Bool), σ[jf]? = some (some (.ref l)) ∧ H l = some (.lst (bs.map V.bl)) ∧ ∀ p, H p = none → Q (.ref p) (upd H p (.lst (bs.map fun b => V.int (bInt b))))
theorem clo_nil {cells : List (Str × Addr)} : ∀ {names : List (Str × NameKind)}, (∀ z ∈ names, z.2 = .local ∨ z.2 = .globalImplicit) → cloFrom cells names [] = []
  | [], _ => rfl
  | (n, k) :: r, h => by
    have hk : k = .local ∨ k = .globalImplicit := h (n, k) (by simp)
    have hr : cloFrom cells r [] = [] := clo_nil fun z hz => h z (by simp [hz])
    rcases hk with rfl | rfl <;> exact hr
theorem pe_hotInts {tg elt iter : Expr} {pos : Pos} {jf : Nat} (hcalm : X.calm = false) (hot : L2H.HotC X) (hN : X.N.Nodup) (ok : BlkOk X.N X.env.scope scope [(y, iy)]) (hloc : ∀ z ∈ scope.names, z.2 = .local ∨ z.2 = .globalImplicit) (hi : PE X iter (tVar jf))
    (hg : ∀ (s : Shared) (H : Hp) (C : Addr) (cl : List (Str × Addr)) (fp : List Addr), PG (X.blk s H scope (compEnvC scope cl C X.env) fp) tg (gName iy)) (he : ∀ (s : Shared) (H : Hp) (C : Addr) (cl : List (Str × Addr)) (fp : List Addr), PE (X.blk s H scope (compEnvC scope cl C X.env) fp) elt (tCB MV.rInt1 (tCons (tVar iy) tNil)))
    (hfs : ∀ x, foldedSetIterable iter X.env x = pure x := by intro _; rfl) : PE X (.ListComp elt [⟨tg, iter, [], 0⟩] scope pos) (tHotInts jf) := by
  refine ⟨fun pins s σ H Q I h => ?_⟩
  obtain ⟨l, bs, hσ, hl, q⟩ := h
  have hclos := closure_ok (env := X.env) (scope := scope) fun z hz e => absurd e (by rcases hloc z hz with w | w <;> rw [w] <;> decide)
  rw [clo_nil hloc] at hclos
  refine ListComp_goes hclos (fun z hz => by rcases hloc z hz with w | w <;> rw [w] <;> decide) ok.kind (fun z hz e => by rw [ok.uniq z hz, e]) ?_ hfs
  refine thn (hi.run pins s σ H (fun v H1 => v = .ref l ∧ H = H1) I ⟨_, hσ, rfl, rfl⟩) fun xv s1 ⟨v, H1, I1, r, ⟨e1, e2⟩⟩ => ?_
  subst e1 e2
  cases r
  obtain ⟨its, rv, pl, hz⟩ := I1.list (.inl (.inl hl))
  have eb := vals_bools rv
  subst eb
  obtain ⟨⟨x1, ox⟩, ⟨hh, vs1, d1, c1⟩, hp⟩ := hot
  obtain ⟨g1, n1, nL1, nf1, _⟩ := I1.pin (x1, ox) (List.mem_append_left _ hp)
  refine wpAny_pyIter_list pl.isList ?_
  have hnew : H s1.heap.objs.size = none := I1.hok.fresh (Nat.le_refl _)
  have hf : FpOk X pins H s1.heap.objs.size := I1.fpOk (Nat.le_refl _) hnew
  have x1lt := Heap.lt_size g1
  have llt : l < s1.heap.objs.size := by obtain ⟨_, e, _⟩ := pl.isList; exact Heap.lt_size e
  have I2 : Inv X pins σ H { s1 with heap := s1.heap.push { cls := .type "list_iterator", data := .fields #[.ref l, .int 0 0] } } := I1.kept (t' := s1.toks) fun b o e => Heap.get?_push_of_some _ e
  have g2 : (s1.heap.push { cls := .type "list_iterator", data := .fields #[.ref l, .int 0 0] }).get? x1 = some ox := Heap.get?_push_of_some _ g1
  have st0 : StL s1.heap.objs.size l x1 (bs.map Value.bool).toArray 0 (s1.heap.push { cls := .type "list_iterator", data := .fields #[.ref l, .int 0 0] }) := ⟨⟨_, Heap.get?_push_size _ rfl, rfl, rfl⟩, pl.isList.push _, Nat.ne_of_gt llt, Nat.ne_of_lt x1lt, ox, vs1, g2, d1, c1⟩
  have hsz : s1.heap.objs.size < (s1.heap.push { cls := .type "list_iterator", data := .fields #[.ref l, .int 0 0] }).objs.size := by rw [Heap.size_push]; exact Nat.lt_succ_self _
  have ds2 : ({ s1 with heap := s1.heap.push { cls := .type "list_iterator", data := .fields #[.ref l, .int 0 0] } } : Shared).heap = s1.heap.push { cls := .type "list_iterator", data := .fields #[.ref l, .int 0 0] } := rfl
  rw [← ds2] at g2 st0 hsz
  generalize ({ s1 with heap := s1.heap.push { cls := .type "list_iterator", data := .fields #[.ref l, .int 0 0] } } : Shared) = s2 at g2 st0 hsz I2 ⊢
  generalize s1.heap.objs.size = I0 at hnew hf st0 hsz ⊢
  have hls : (bs.map Value.bool).toArray.size = bs.length := by simp
  refine ⟨I0, [I0, l, x1], [I0], (bs.map Value.bool).toArray.size, fun i v _ => (bs.map Value.bool).toArray[i]? = some v, StL I0 l x1 (bs.map Value.bool).toArray, rfl, Goes.ofWalks (list_walks hh) (fun i v s Q E st q => by
    obtain ⟨⟨o, e, c, d⟩, _⟩ := st
    exact go_of e c d (by decide) q), by rw [hls]; rw [List.length_map] at hz; exact hz, st0, fun b hb => ?_, fun D C s3 cb => ?_⟩
  · simp only [List.mem_cons, List.not_mem_nil, or_false] at hb
    rcases hb with z | z | z
    · rw [z]; exact hsz
    · rw [z]
      obtain ⟨_, e, _⟩ := st0.2.1
      exact Heap.lt_size e
    · rw [z]; exact Heap.lt_size g2
  have newD := cb.newD
  have newC := cb.newC
  have nD := cb.ne
  have hD : H D = none := I2.hok.fresh newD
  have nI : I0 ≠ C := Nat.ne_of_lt (Nat.lt_of_lt_of_le hsz newC)
  have nID : I0 ≠ D := Nat.ne_of_lt (Nat.lt_of_lt_of_le hsz newD)
  have nfD : D ∉ frs X.stack := fun hm => by
    rcases List.mem_cons.mp (I2.stkSub _ hm) with z | z
    · exact Nat.lt_irrefl _ (Nat.lt_of_lt_of_le (z ▸ I2.lt) newD)
    · exact I2.nofs newD z
  have nfI : I0 ∉ frs X.stack := fun hm => by
    rcases List.mem_cons.mp (I2.stkSub _ hm) with z | z
    · exact hf.2.1 z
    · exact hf.2.2.1 z
  have nf1' : x1 ∉ frs X.stack := fun hm => by
    rcases List.mem_cons.mp (I2.stkSub _ hm) with z | z
    · exact nL1 z
    · exact nf1 z
  have n1I : x1 ≠ I0 := st0.2.2.2.1
  refine ⟨fun i ys s => Inv (X.blk s2 H scope (compEnvC scope [] C X.env) [I0]) [] (wipe σ [iy]) H s ∧ Vals ((bs.take i).map fun b => V.int (bInt b)) ys, ⟨blk_inv hcalm hN ok hloc I2 hf hsz cb, .nil⟩, fun i ys s h' tk ⟨G1, G2⟩ k _ => ⟨blk_keep G1 hD hnew nD nI newD k, G2⟩, fun i v ys s hin hY hSt ⟨G1, G2⟩ hPl => ?_, fun ys s ⟨G1, G2⟩ hPl => ?_⟩
  · have hib : i < bs.length := by rw [← hls]; exact hin
    have hv : v = .bool bs[i] := by
      have hY : (bs.map Value.bool).toArray[i]? = some v := hY
      rw [List.getElem?_toArray, List.getElem?_map, List.getElem?_eq_getElem hib] at hY
      exact (Option.some.inj hY).symm
    subst hv
    obtain ⟨⟨oI, eI, cI, dI⟩, hlI, n2, n3, hx1⟩ := hSt
    obtain ⟨nn, eD⟩ := hPl
    have J : Inv (X.blk s2 H scope (compEnvC scope [] C X.env) [I0]) [(I0, oI), (D, { cls := .type "list", data := .seq ys.toArray nn })] (wipe σ [iy]) H s := G1.pins_of fun p hp => by
      rcases List.mem_cons.mp hp with z | z
      · rw [z]; exact ⟨eI, hnew, nI, nfI, fun v z => by rw [dI] at z; cases z⟩
      · rw [List.mem_singleton.mp z]; exact ⟨eD, hD, nD, nfD, fun v z => by cases z⟩
    refine thnF ((hg s2 H C [] [I0]).run _ s _ H (.bl bs[i]) (.bool bs[i]) (fun σ' H' => σ' = (wipe σ [iy]).set iy (some (.bl bs[i])) ∧ H = H') J rfl ⟨rfl, rfl⟩) fun _ s4 ⟨σ4, H4, J4, ⟨e4, e5⟩⟩ => ?_
    subst e4 e5
    refine wpAny_of_eq (a := true) rfl ?_
    rw [if_pos rfl]
    have hiyl : iy < (wipe σ [iy]).length := by
      rw [wipe_length, I2.len]
      exact (List.getElem?_eq_some_iff.mp (ok.ix (y, iy) (by simp))).1
    refine thnF ((he s2 H C [] [I0]).run _ s4 _ H (fun v H' => v = .int (bInt bs[i]) ∧ H = H') J4 ⟨.bl bs[i], by rw [List.getElem?_set_self hiyl], .inr ⟨bs[i], rfl, rfl, rfl⟩⟩) fun x s6 ⟨v, H6, J6, r6, ⟨e6, e7⟩⟩ => ?_
    subst e6 e7
    have q1 := (J6.pin (I0, oI) (by simp)).1
    have q2 := (J6.pin (D, { cls := .type "list", data := .seq ys.toArray nn }) (by simp)).1
    obtain ⟨its6, rv6, pl6, _⟩ := J6.list (a := l) (.inl (.inl hl))
    have eb6 := vals_bools rv6
    subst eb6
    refine ⟨⟨(J6.unpinned (pins := [])).weak (by rw [List.length_set]) fun j w e => ?_, ?_⟩, ⟨⟨oI, q1, cI, dI⟩, pl6.isList, n2, n3, ox, vs1, J6.base.keep x1 ox g2 n1 nf1' (by simpa using n1I), d1, c1⟩, nn, q2⟩
    · have hj : iy ≠ j := fun z => (wipe_some e).2 (by simp [z])
      rw [List.getElem?_set_ne hj]
      exact e
    · rw [List.take_add_one, List.getElem?_eq_getElem hib, List.map_append]
      exact G2.append (.cons r6 .nil)
  · have ht : bs.take (bs.map Value.bool).toArray.size = bs := by rw [hls]; exact List.take_length
    rw [ht] at G2
    obtain ⟨m, hn, _⟩ := id G1.loc
    refine ⟨m, hn, fun h' sb => ⟨.ref D, upd H D (.lst (bs.map fun b => V.int (bInt b))), ?_, rfl, q D hD⟩⟩
    obtain ⟨nn, eD⟩ := hPl
    have nH : ∀ b u, H b = some u → b ≠ D := fun b u e z => by rw [z, hD] at e; cases e
    have nHC : ∀ b u, H b = some u → b ≠ C := fun b u e z => by
      have := I2.hok.lt e
      rw [z] at this
      exact Nat.lt_irrefl _ (Nat.lt_of_lt_of_le this newC)
    have old : ∀ b o, s2.heap.get? b = some o → b ≠ C ∧ b ≠ D := fun b o e => ⟨Nat.ne_of_lt (Nat.lt_of_lt_of_le (Heap.lt_size e) newC), Nat.ne_of_lt (Nat.lt_of_lt_of_le (Heap.lt_size e) newD)⟩
    have B := G1.base
    refine I2.call' (s' := { s with heap := h' }) (ch := [I0]) G1.os ⟨fun b o e n hb hc => ?_, fun b o e n hb hc => ?_, fun b o e n _ => ?_, fun b o e hc => ?_, fun b xs e => ?_, fun b o u e => ?_, fun b ps e => ⟨#[], ?_⟩⟩ (fun b u e => ?_) G1.bare fun b hb => ?_
    · exact (sb.2 b (old b o e).1).trans (B.keep b o e n hb hc)
    · obtain ⟨sl, q'⟩ := B.slot b o e n hb hc
      exact ⟨sl, (sb.2 b (old b o e).1).trans q'⟩
    · rw [upd_ne (old b o e).2]; exact n
    · obtain ⟨o', q'⟩ := B.there b o e hc
      exact ⟨o', (sb.2 b (old b o e).1).trans q'⟩
    · rw [upd_ne (nH _ _ e)]; exact e
    · rw [upd_ne (nH _ _ e)]; exact e
    · rw [upd_ne (nH _ _ e)]; simpa using e
    · by_cases hb : b = D
      · subst hb
        rw [upd_same] at e
        cases e
        exact ⟨by rw [List.length_map] at hz ⊢; exact hz, ys, nn, G2, (sb.2 b nD).trans eD⟩
      · rw [upd_ne hb] at e
        exact (G1.hok b u e).stay (fun c w hc q' => (sb.2 c (by
          rcases hc with z | z
          · rw [z]; exact nHC b u e
          · exact nHC c _ z)).trans q') (fun c q' => by rw [upd_ne (nH _ _ q')]; exact q') fun c xs q' => by rw [upd_ne (nH _ _ q')]; exact q'
    · rw [List.mem_singleton.mp hb]
      exact ⟨hf.2.2.2.1, hf.2.1, hf.2.2.2.2.1, hf.2.2.2.2.2⟩
end
end MVH
namespace MV
open PySem PySem.Spec PyProof.Rows L2 Evl MVH
/-! ### raised things whose context is None (L2N) -/
theorem passLN {X : Cx} : Passes (L2N.CX X.prog X.w) X E0 := fun _ _ _ _ _ _ _ h => by
  obtain ⟨_, _, _, _, _, _, _, _, _, _, _, _, q⟩ := h
  exact False.elim q
theorem takesN0 {X : Cx} : L2N.Takes X (fun _ _ _ _ => False) := fun _ _ x => by
  obtain ⟨_, _, _, _, _, _, _, _, _, _, _, _, _, _, _, _, q⟩ := x
  exact False.elim q
theorem takesN_len {X : Cx} {W : WX} (tk : L2N.Takes X W) : L2N.Takes X (fun cls d σ H => σ.length = X.N.length → W cls d σ H) := fun u s' ⟨a, B, sI, pins, σ, H, cls, d, e, I, nb, up, sky, na, os, ag, w⟩ =>
  tk u s' ⟨a, B, sI, pins, σ, H, cls, d, e, I, nb, up, sky, na, os, ag, w I.len⟩
theorem okN {P : Program} {w : World} {K : PySem.W.Frag} {mg : Str → Option Value} {base : Heap} {x qual : Str} {st : Stmt} {f : Addr} {fd : FuncData} {N ps : List Str} {k : Nat} {sp : Sp} (F : Fun K x qual st f fd) (S : FnScope N ps (defScope st)) (len : ∀ vs H Q E, sp vs H Q E → vs.length = ps.length)
    (hb : ∀ (cdv : Value) (A : Around) (outer : List Env) (s : Shared) (H : Hp) (vs : List V) (Q : VK) (E : XK), Room k (A.deeper (envOfC qual (defScope st) s.heap.objs.size f cdv)) → sp vs H Q E → ∃ t, PSs (cxOf (L2N.CX P w) P w K mg base N qual (defScope st) f cdv A outer s H E) (defBody st) t ∧ t { nx := fun _ H' => Q .non H', rt := Q } (start N vs) H) : FnOk P w K mg base (L2N.CX P w) (k + 1) f fd ps sp := by
  obtain ⟨oc, od, kV, doc, pm, an, cdv, ct, osl, rfl, lk, hcd⟩ := F.ex
  exact fn_of lk hcd S len fun A outer s H vs Q E hr hsp => hb cdv A outer s H vs Q E hr hsp
/-! ### isinstance of a pinned one -/
def rIsP (K : PySem.W.Frag) (C a : Addr) : List V → Hp → VK → Prop := fun xs H Q => ∃ (c : V) (cv : Value) (b : Bool), xs = [.ref a, c] ∧ ClsV c cv ∧ PySem.W.kitOne K (.ref C) cv = some b ∧ Q (.bl b) H
theorem call_isP {X : Cx} {p : Addr × Obj} {C : Addr} (hp : p ∈ X.pn) (hz : Zc (.ref C) none p.2) (hf : ∃ vs, p.2.data = .fields vs) (hC : ExcC X.K C) : CallR X (.builtin "isinstance") (rIsP X.K C p.1) := by
  intro pins s σ H xs us Q I r h
  obtain ⟨c, cv, b, rfl, hcv, e, q⟩ := h
  obtain ⟨a, oe⟩ := p
  cases r with
  | cons rx rr =>
    cases rr with
    | cons rt rr =>
      cases rr
      cases rx
      have ec := hcv.eq rt
      subst ec
      obtain ⟨hget, _⟩ := I.pin (a, oe) (List.mem_append_left _ hp)
      obtain ⟨vs, hv⟩ := hf
      have J : PySem.W.InstAt s.heap a oe C none := by
        obtain ⟨oc, od, oda, osl⟩ := oe
        obtain ⟨h1, h2⟩ := hz
        dsimp only at h1 h2 hv
        subst h1 h2 hv
        exact ⟨hget, rfl, rfl, trivial⟩
      exact PySem.W.kia_one (PySem.W.handS_kitx_exc hC.hg hC.hk hC.hs hC.hd hC.ha hC.hn hC.ht hC.hm) I.kIn J e (fun z => nomatch z) fun tk => ⟨.bl b, H, I.kept (t' := tk) fun _ _ z => z, rfl, q⟩
theorem rc_isP {K : PySem.W.Frag} {H : Hp} {a C : Addr} {c : V} {cv : Value} {b : Bool} (hc : ClsV c cv) (hk : PySem.W.kitOne K (.ref C) cv = some b) : RC (rIsP K C a) [.ref a, c] H (.bl b) := rc_of fun H1 e _ q => ⟨c, cv, b, rfl, hc, hk, q⟩
theorem el_hotInts {σ : L2.St} {H : Hp} {l : Addr} {bs : List Bool} {jf : Nat} (hσ : σ[jf]? = some (some (.ref l))) (hl : H l = some (.lst (bs.map V.bl))) : EvL (tHotInts jf) σ H (bs.map fun b => V.int (bInt b)) := fun H1 e Q q => ⟨l, bs, hσ, e _ _ hl, fun p hp => q p _ hp (Ex.new hp) upd_same⟩
/-- a def called while p's exception is handled, p known to its body -/
theorem fn_pin {P : Program} {w : World} {K : PySem.W.Frag} {mg : Str → Option Value} {base : Heap} {x qual : Str} {st : Stmt} {f : Addr} {fd : FuncData} {N ps : List Str} {k : Nat} (F : Fun K x qual st f fd) (S : FnScope N ps (defScope st)) {A : Around} {outer : List Env} {s : Shared} {H : Hp} {args : Args} {us : List Value} {vs : List V} {Q : VK} {E : XK} {p : Addr × Obj}
    (hr : L2H.RoomH (k + 1) A) (hot : L2H.Hot1 A p) (hpin : L2H.PinOk outer H s p) (e0 : Env0 P w K mg base A outer s H) (hb : BindsTo s fd args (ps.zip us)) (r : Vals vs us) (hl : vs.length = ps.length)
    (body : ∀ cdv : Value, ∃ t, PSs (L2H.cxH CX0 P w K mg base N qual (defScope st) f cdv A outer s H E p) (defBody st) t ∧ t { nx := fun _ H' => Q .non H', rt := Q } (L2.start N vs) H) : codeAny (model P w) A (.call (.ref f) args) (CR CX0 outer P w H s Q E) s := by
  obtain ⟨oc, od, kV, doc, pm, an, cdv, ct, osl, rfl, lk, hcd⟩ := F.ex
  have KX : K.In s.heap := e0.mod.kin.keeps fun b o e => (e0.bs b o e).1
  have hkind : ∀ z ∈ ps.zip us, (defScope st).names.lookup z.1 = some .local ∨ ((defScope st).names.lookup z.1 = some .cell ∧ ((cellsFrom (s.heap.objs.size + 1) (defScope st).names []).lookup z.1).isSome = true) := by
    intro z hz; obtain ⟨n, v⟩ := z
    have hn := S.par n (List.of_mem_zip hz).1
    exact hn.imp id fun q => ⟨q, PySem.W.cellsFrom_some _ _ _ (.inl q)⟩
  refine codeAny_call_function hr.depth (KX _ _ lk) rfl S.co S.gen rfl (PySem.W.codeRec_of KX hcd) (hb _ _ _ _ (wpAny_newFunctionEnv_cells S.kind hkind fun env he s1 xc => ?_))
  subst he
  refine ⟨(e0.mod.nolimit.keeps fun b o e => (e0.bs b o e).1).keeps xc.toInCall.keep, codeAny_func ?_⟩
  obtain ⟨t, ht, hq⟩ := body cdv
  have I : Inv (L2H.cxH CX0 P w K mg base N qual (defScope st) f cdv A outer s H E p) [] (L2.start N vs) H s1 := L2H.inv_startH S hpin e0 hl r xc
  refine wpAny_mono (ht.run [] s1 _ H _ I hq) (fun fl s' hs => ?_) fun e s' hs => hs
  cases fl with
  | ret u => exact let ⟨v, _, H', J, rv, q⟩ := hs; ⟨v, H', J.os, J.bare, J.base, J.hok, rv, q⟩
  | next => exact let ⟨_, H', J, q⟩ := hs; ⟨.non, H', J.os, J.bare, J.base, J.hok, rfl, q⟩
  | brk => exact let ⟨_, _, _, q⟩ := hs; False.elim q
  | cont => exact let ⟨_, _, _, q⟩ := hs; False.elim q
/-- f(e), e the exception that the suite holds; w comes back -/
def tWordOf (i : Nat) (a : Addr) (w : Str) : TE := fun σ H Q => σ[i]? = some (some (.ref a)) ∧ ∀ H', Ex H H' → Q (.str w) H'
theorem pe_callP {X : Cx} {a : Addr} {oe : Obj} {pn : List (Addr × Obj)} {C : Addr} {k : Nat} {f : Addr} {fd : FuncData} {ps : List Str} {x y : Str} {i : Nat} {p p2 pos : Pos} {wd : Str} (hz : L2N.Zn (.ref C) none oe) (hf : ∃ vs, oe.data = .fields vs)
    (F : ∀ (A : Around) (outer : List Env) (s : Shared) (H : Hp) (args : Args) (us : List Value) (Q : VK), L2H.RoomH k A → L2H.Hot1 A (a, oe) → L2H.PinOk outer H s (a, oe) → Env0 X.prog X.w X.K X.mg X.base A outer s H → BindsTo s fd args (ps.zip us) → Vals [.ref a] us → (∀ H', Ex H H' → Q (.str wd) H') → codeAny (model X.prog X.w) A (.call (.ref f) args) (CR CX0 outer X.prog X.w H s Q E0) s)
    (hr : Room k X.A) (hg : Gl (X.suite a ((a, oe) :: pn)) x) (hm : X.mg x = some (.ref f)) (hk : PySem.W.keepIn X.K (.ref f) = true) (hb : Binds X.K fd ps []) (hl : ps.length = 1) (hy : PE (X.suite a ((a, oe) :: pn)) (.Name y p2) (tVar i))
    (hdb : (x == ("__debug__" : Str)) = false := by decide) (he : starEach [.Name y p2] X.env = (false, eval (.Name y p2) X.env) :: starEach [] X.env := by rfl) (hpl : (backTo pos (starEach [] X.env)).any (·.1) = false := by rfl) : PE (X.suite a ((a, oe) :: pn)) (.Call (.Name x p) [.Name y p2] [] pos) (tWordOf i a wd) := by
  refine ⟨fun pins s σ H Q I h => ?_⟩
  obtain ⟨h1, h2⟩ := h
  refine wpAny_Call_Name_kw (ld_glob I hg hm ?_ hdb)
  have ha : PA (X.suite a ((a, oe) :: pn)) [.Name y p2] (tCons (tVar i) tNil) := pa_cons hy pa_nil
  refine PySem.W.callWith_K (h₀ := X.base) I.ok.mod.kin hk (thn (ha.run pos pins s σ H (fun vs H1 => vs = [.ref a] ∧ H = H1) I ⟨_, h1, rfl, rfl⟩) fun us s1 ⟨vs, H1, I1, r, ⟨q1, q2⟩⟩ => ⟨I1.kIn, ?_⟩) he hpl
  subst q1
  subst q2
  obtain ⟨e1, n1, nL, nf, nc⟩ := I1.pin (a, oe) (List.mem_append.mpr (.inl List.mem_cons_self))
  have hus : us.length = ps.length := by rw [← r.length, hl]; rfl
  have hbt := hb s1 us I1.kIn (by rw [List.append_nil]; exact hus)
  rw [List.append_nil] at hbt
  have hot : L2H.Hot1 (X.suite a ((a, oe) :: pn)).A (a, oe) := by
    obtain ⟨fs, hfs⟩ := hf
    exact ⟨rfl, fs, hfs, hz.2.2 fs hfs⟩
  have hpin : L2H.PinOk X.stack H s1 (a, oe) := ⟨e1, n1, fun hm' => (List.mem_cons.mp (I1.stkSub a hm')).elim nL nf, nc⟩
  refine wpAny_call (codeAny_mono (F (X.suite a ((a, oe) :: pn)).A X.stack s1 H ⟨us, []⟩ us Q ⟨hr.dp, hr.un⟩ hot hpin I1.env0 hbt r h2) fun r s' hq => ?_)
  cases r with
  | error e => exact False.elim hq
  | ok fl =>
    cases fl with
    | ret u => exact I1.after hq
    | next => exact False.elim hq
    | brk => exact False.elim hq
    | cont => exact False.elim hq
/-! ### try: .. except X as e: return f(e) -/
def EL (n : Nat) (W : WX) : XK := fun cls d H => ∀ σ : L2.St, σ.length = n → W cls d σ H
/-- what the clause wishes; wE: which class has which word -/
def tsW (wE : Addr → Str → Prop) (i : Nat) (a : Addr) (cls : Value) (d : Option Addr) : TS := fun D σ H => ∃ C w, cls = .ref C ∧ d = none ∧ wE C w ∧ σ[i]? = some (some (.ref a)) ∧ ∀ H', Ex H H' → D.rt (.str w) H'
theorem pss_retW {X : Cx} {wE : Addr → Str → Prop} {i : Nat} {a : Addr} {cls : Value} {d : Option Addr} {e : Expr} {pos : Pos} (h : ∀ C w, cls = .ref C → d = none → wE C w → PE X e (tWordOf i a w)) : PSs X [.Return (some e) pos] (tsW wE i a cls d) :=
  ⟨fun pins s σ H D I ⟨C, w, h1, h2, h3, h4, h5⟩ => (pss_one (ps_ret (h C w h1 h2 h3))).run pins s σ H D I ⟨h4, h5⟩⟩
def tTryW (K : PySem.W.Frag) (c : Value) (i : Nat) (wE : Addr → Str → Prop) (tb : WX → TS) : TS := fun D σ H => tb (wAs K c i (tsW wE i) (fun _ _ _ _ => False) D) D σ H
end MV
namespace MV
open PySem PySem.Spec PyProof.Rows L2 Evl
/-! ### texts, by name -/
abbrev oInS : R2 := fun x y H Q => ∃ (c : Nat) (z : Str), x = .str ⟨#[c]⟩ ∧ y = .str z ∧ Q (.bl (decide (c ∈ z.cps.toList))) H
abbrev rSplitT : V → List V → Hp → VK → Prop := fun x xs H Q => ∃ a b, x = .str a ∧ xs = [.str b] ∧ (b.length == 0) = false ∧ a.length + 2 ≤ sizeLine ∧ rNewStrs (Txt.split a b) H Q
abbrev rStripT : V → List V → Hp → VK → Prop := fun x xs H Q => ∃ a b, x = .str a ∧ xs = [.str b] ∧ a.length ≤ sizeLine ∧ Q (.str (Txt.stripChars a b)) H
abbrev rJoinT (K : PySem.W.Frag) : V → List V → Hp → VK → Prop := fun x xs H Q => ∃ a p, ∃ ys : List Str, x = .str a ∧ xs = [.ref p] ∧ (SqL K H p (ys.map V.str) ∨ SqT K H p (ys.map V.str)) ∧ (ys.map (·.length)).sum + ys.length * a.length ≤ 16777216 ∧ Q (.str (Txt.join a ys)) H
abbrev rStrInt : List V → Hp → VK → Prop := fun xs H Q => ∃ i : Int, xs = [.int i] ∧ i.natAbs.log2 < 1920 ∧ Q (.str (toString i)) H
abbrev rIntStr : List V → Hp → VK → Prop := fun xs H Q => ∃ a n, xs = [.str a] ∧ PySem.intText? a = some n ∧ a.length ≤ 640 ∧ Q (.int n) H
abbrev rTupS (K : PySem.W.Frag) : List V → Hp → VK → Prop := fun xs H Q => ∃ p ys, xs = [.ref p] ∧ ((SqL K H p ys ∧ ∀ l, H l = none → Q (.ref l) (upd H l (.tup ys))) ∨ (SqT K H p ys ∧ Q (.ref p) H))
abbrev rLenStr : List V → Hp → VK → Prop := fun xs H Q => ∃ z : Str, xs = [.str z] ∧ z.length ≤ sizeLine ∧ Q (.int z.length) H
theorem mt_stripChars {X : Cx} : MtR X "str.strip" rStripT := by
  intro pins s σ H x xs v us Q I rx rs h
  obtain ⟨a, b, rfl, rfl, hz, h⟩ := h
  obtain ⟨t, rfl⟩ := rx
  cases rs with
  | cons r1 rs =>
    cases rs
    obtain ⟨u, rfl⟩ := r1
    exact PySem.SC.stripChars (fun t' k => ⟨.str _, H, I.tok k, ⟨t', rfl⟩, h⟩) hz
def tFalse : TS := fun _ _ _ => False
theorem pss_false {X : Cx} {b : List Stmt} : PSs X b tFalse := ⟨fun _ _ _ _ _ _ h => False.elim h⟩
section
variable {K : PySem.W.Frag} {σ : L2.St} {H : Hp} {ta tb : TE} {x y : Str} {p : Addr} {ys : List Str} {i : Int}
theorem el_split (ha : Ev ta σ H (.str x)) (hb : Ev tb σ H (.str y)) (hy : (y.length == 0) = false) (hz : x.length + 2 ≤ 100000) : EvL (tM1 rSplitT ta tb) σ H ((Txt.split x y).map V.str) := fun H1 e Q q =>
  ha H1 e _ fun H2 e2 => ⟨⟨x, rfl⟩, hb H2 (e.trans e2) _ fun H3 e3 => ⟨x, y, rfl, rfl, hy, sz_of hz, fun l hl => q l _ (fresh_back (e2.trans e3) hl) ((e2.trans e3).trans (Ex.new hl)) upd_same⟩⟩
theorem ev_strip (ha : Ev ta σ H (.str x)) (hb : Ev tb σ H (.str y)) (hz : x.length ≤ 100000) : Ev (tM1 rStripT ta tb) σ H (.str (Txt.stripChars x y)) := fun H1 e Q q =>
  ha H1 e _ fun H2 e2 => ⟨⟨x, rfl⟩, hb H2 (e.trans e2) _ fun H3 e3 => ⟨x, y, rfl, rfl, sz_of hz, q H3 (e2.trans e3)⟩⟩
theorem ev_join (ha : Ev ta σ H (.str x)) (hb : EvL tb σ H (ys.map V.str)) (hz : (ys.map (·.length)).sum + ys.length * x.length ≤ 16777216) : Ev (tM1 (rJoinT K) ta tb) σ H (.str (Txt.join x ys)) := fun H1 e Q q =>
  ha H1 e _ fun H2 e2 => ⟨⟨x, rfl⟩, hb H2 (e.trans e2) _ fun p H3 np e3 hp => ⟨x, p, ys, rfl, rfl, .inl (sq_of hp), hz, q H3 (e2.trans e3)⟩⟩
theorem ev_joinV (ha : Ev ta σ H (.str x)) (hb : Ev tb σ H (.ref p)) (hp : SqL K H p (ys.map V.str)) (hz : (ys.map (·.length)).sum + ys.length * x.length ≤ 16777216) : Ev (tM1 (rJoinT K) ta tb) σ H (.str (Txt.join x ys)) := fun H1 e Q q =>
  ha H1 e _ fun H2 e2 => ⟨⟨x, rfl⟩, hb H2 (e.trans e2) _ fun H3 e3 => ⟨x, p, ys, rfl, rfl, .inl (ex_l ((e.trans e2).trans e3) hp), hz, q H3 (e2.trans e3)⟩⟩
theorem rc_str (h : i.natAbs.log2 < 1920) : RC rStrInt [.int i] H (.str (toString i)) := rc_of fun _ _ _ q => ⟨i, rfl, h, q⟩
theorem rc_intS {n : Int} (h : PySem.intText? x = some n) (hl : x.length ≤ 640) : RC rIntStr [.str x] H (.int n) := rc_of fun _ _ _ q => ⟨x, n, rfl, h, hl, q⟩
end
end MV
namespace MV
open PySem PySem.Spec PyProof.Rows L2 Evl
/-! ### a list comprehension whose element may raise -/
/-- what is wanted behind the block -/
def PostX (M : Model) (A : Around) (E : Value → Shared → Prop) (use : Option (Value → Sem Unit)) (Q : Value → Shared → Prop) (acc : Value) (cenv : Env) (r : Result) (s' : Shared) : Prop :=
  match r, use with
  | .ok _, none => ∃ m, s'.heap.Ns cenv.locals m ∧ ∀ h', Heap.SameBut cenv.locals s'.heap h' → Q acc { s' with heap := h' }
  | .ok _, some u => wpAny M A (u acc) (fun _ s'' => ∃ m, s''.heap.Ns cenv.locals m ∧ ∀ h', Heap.SameBut cenv.locals s''.heap h' → Q .none { s'' with heap := h' }) E s'
  | .error x, _ => ∃ m, s'.heap.Ns cenv.locals m ∧ ∀ h', Heap.SameBut cenv.locals s'.heap h' → wpAny M A (passOn "comprehension.variables-let-go" x cenv : Sem Value) (fun _ _ => False) E { s' with heap := h' }
section
variable {M : Model} {A : Around} {E : Value → Shared → Prop} {s : Shared} {env : Env}
theorem comp_free {e : Expr} {scope : Scope} {pos : Pos} {newAcc first : Sem Value} {g : Comprehension} {gs : List Comprehension} {cl : List (Str × Addr)} {use : Option (Value → Sem Unit)} {Q : Value → Shared → Prop}
    (hcl : clausesOf e = g :: gs) (hs : ∀ x, foldedSetIterable g.iter env x = pure x) (hclos : closureFor scope env = pure cl)
    (hkind : scope.kind = .function) (hnames : ∀ x ∈ scope.names, x.2 = .local → scope.names.lookup x.1 = some .local)
    (h : wpAny M A first (fun x s₁ => wpAny M A (pyIter x) (fun it s₂ => wpAny M A newAcc (fun acc s₃ =>
      wpAny M A (newFunctionEnv scope env.globals cl [] env.qual none .none (some env)) (fun cenv s₄ =>
        codeAny M A (.compStart e 0 it acc { cenv with scope := relabel scope env }) (PostX M A E use Q acc { cenv with scope := relabel scope env }) s₄) E s₃) E s₂) E s₁) E s) :
    wpAny M A (comprehension e scope env pos newAcc false first use) Q E s := by
  unfold comprehension
  rw [hclos, hcl]
  refine wpAny_bind (wpAny_mono h (fun x s₁ h₁ => wpAny_bind (wpAny_standAt (wpAny_bind (wpAny_of_eq (hs x) (wpAny_bind (wpAny_holding (wpAny_mono h₁ (fun it s₂ h₂ =>
    wpAny_standIf (wpAny_bind (wpAny_mono h₂ (fun acc s₃ h₃ => wpAny_bind (wpAny_pure (wpAny_bind (wpAny_mono h₃ (fun cenv s₄ h₄ => ?_) fun _ _ h' => h')))) fun _ _ h' => h')))
      fun _ _ h' => h'))))))) fun _ _ h' => h')
  dsimp only
  have hv : ∀ x ∈ (scope.names.filter fun x => (x.2 == .local || x.2 == .cell) && x.1 != (".0" : Str)).reverse, x.2 = .local →
      Env.kindOf { cenv with scope := relabel scope env } x.1 = some .local := fun x hx hl => lookup_relabel_local (hnames x (List.mem_filter.mp (List.mem_reverse.mp hx)).1 hl)
  have hv' : ∀ x ∈ (scope.names.filter fun x => (x.2 == .local || x.2 == .cell) && x.1 != (".0" : Str)).reverse.drop 1 ++ (scope.names.filter fun x => (x.2 == .local || x.2 == .cell) && x.1 != (".0" : Str)).reverse.take 1,
      x.2 = .local → Env.kindOf { cenv with scope := relabel scope env } x.1 = some .local := fun x hx hl => by
    rcases List.mem_append.mp hx with h1 | h1
    · exact hv x (List.mem_of_mem_drop h1) hl
    · exact hv x (List.mem_of_mem_take h1) hl
  refine wpAny_holding (wpAny_bind (wpAny_attempt (wpAny_holding (wpAny_run (codeAny_mono h₄ fun r s' hr => ?_)))))
  cases r with
  | ok f =>
    cases use with
    | none =>
      obtain ⟨m, hn, hr⟩ := hr
      exact wpAny_bind (wpAny_holding (wpAny_comp_letGo (cenv := { cenv with scope := relabel scope env }) hkind _ s' m hv hn fun h' m' _ hs' => wpAny_pure (hr h' hs')))
    | some u =>
      refine wpAny_bind (wpAny_rule (wpAny_bind (wpAny_holding (wpAny_mono hr (fun _ s'' hr' => ?_) fun _ _ h' => h'))))
      obtain ⟨m, hn, hr'⟩ := hr'
      exact wpAny_bind (wpAny_comp_letGo (cenv := { cenv with scope := relabel scope env }) hkind _ s'' m hv' hn fun h' m' _ hs' => wpAny_pure (hr' h' hs'))
  | error x =>
    have hr' : ∃ m, s'.heap.Ns cenv.locals m ∧ ∀ h', Heap.SameBut cenv.locals s'.heap h' → wpAny M A (passOn "comprehension.variables-let-go" x { cenv with scope := relabel scope env } : Sem Value) (fun _ _ => False) E { s' with heap := h' } := by cases use <;> exact hr
    obtain ⟨m, hn, hr⟩ := hr'
    exact wpAny_bind (wpAny_holding (wpAny_comp_letGo (cenv := { cenv with scope := relabel scope env }) hkind _ s' m hv hn fun h' m' _ hs' => wpAny_mono (hr h' hs') (fun _ _ f => f.elim) fun _ _ y => y))
end
theorem frames_but {base h h' : Heap} {C : Addr} (k : ∀ b, b ≠ C → h'.get? b = h.get? b) : ∀ {l : List Env}, h.FunFrames base l → C ∉ frs l → h'.FunFrames base l
  | [], _, _ => trivial
  | env :: l, h, hC => by
    obtain ⟨hk, ⟨L, o, hf, hn, ho, hd⟩, hr⟩ := h
    have hL : L ∈ frs (env :: l) := List.mem_filterMap.mpr ⟨env, List.mem_cons_self, hf⟩
    exact ⟨hk, ⟨L, o, hf, hn, (k L fun z => hC (z ▸ hL)).trans ho, hd⟩, frames_but k hr fun hm => hC (by
      obtain ⟨e, he, q⟩ := List.mem_filterMap.mp hm
      exact List.mem_filterMap.mpr ⟨e, List.mem_cons_of_mem _ he, q⟩)⟩
section
variable {X : Cx} {E : XK}
/-- the block's context, with what may be raised in it -/
abbrev blkX (X : Cx) (E : XK) (s : Shared) (H : Hp) (scope : Scope) (cenv : Env) (fp : List Addr) : Cx :=
  { X.blk s H scope cenv fp with xe := fun u s' => ∃ (pins : List (Addr × Obj)) (σ : L2.St) (H' : Hp) (s0 : Shared), Inv (X.blk s H scope cenv fp) pins σ H' s0 ∧ L2N.CX X.prog X.w X.stack H' s0 E u s' }
section
variable {s : Shared} {H : Hp} {scope : Scope} {cenv : Env} {fp : List Addr} {pins : List (Addr × Obj)} {σ : L2.St} {H' : Hp} {s' : Shared}
theorem of_blkX (I : Inv (blkX X E s H scope cenv fp) pins σ H' s') : Inv (X.blk s H scope cenv fp) pins σ H' s' :=
  ⟨⟨I.ok.mod, I.ok.kind, I.ok.glob, I.ok.blt, I.ok.above, I.ok.inj, I.ok.has, I.ok.cab, I.ok.hd, I.ok.frames, I.ok.stk, I.ok.exf, I.ok.bs, I.ok.bsz, I.ok.noex, I.ok.exfs, I.ok.funs, I.ok.frf⟩, I.os, I.bare, I.base, I.loc, I.cell, I.free, I.freeC, I.pin, I.hok, I.len⟩
theorem to_blkX (I : Inv (X.blk s H scope cenv fp) pins σ H' s') : Inv (blkX X E s H scope cenv fp) pins σ H' s' :=
  ⟨⟨I.ok.mod, I.ok.kind, I.ok.glob, I.ok.blt, I.ok.above, I.ok.inj, I.ok.has, I.ok.cab, I.ok.hd, I.ok.frames, I.ok.stk, I.ok.exf, I.ok.bs, I.ok.bsz, I.ok.noex, I.ok.exfs, I.ok.funs, I.ok.frf⟩, I.os, I.bare, I.base, I.loc, I.cell, I.free, I.freeC, I.pin, I.hok, I.len⟩
theorem passBX : Passes (L2N.CX (blkX X E s H scope cenv fp).prog (blkX X E s H scope cenv fp).w) (blkX X E s H scope cenv fp) E := fun pins σ H s _ _ I c => ⟨pins, σ, H, s, of_blkX I, c⟩
end
variable {pins : List (Addr × Obj)} {σ : L2.St} {H : Hp} {s : Shared}
/-- on a ground given -/
theorem of_ground {B : Heap} {H' : Hp} {s' : Shared} (I : Inv X pins σ H s) (st : B.StaysIn s'.heap) (hok : HOk X.prog X.w H' B) (ub : UB (frs X.stack) H H' s.heap B s'.heap) (ag : AllBare s'.gens) :
    ∃ sI : Shared, Inv X pins σ H' sI ∧ (∀ b o, sI.heap.get? b = some o → b ∉ frs X.stack → B.get? b = some o) ∧ sI.heap.UpToSlots s'.heap ∧ sI.os = s.os := by
  obtain ⟨G, g1, g2⟩ := restrict s'.heap fun b => (B.get? b).isSome || decide (b ∈ frs X.stack)
  have gB : ∀ b o, B.get? b = some o → G.get? b = some o := fun b o e => by
    rw [g1 b (by simp [e])]
    exact st b o e
  have gF : ∀ b, b ∈ frs X.stack → G.get? b = s'.heap.get? b := fun b hb => g1 b (by simp [hb])
  have og : ∀ b o, G.get? b = some o → s'.heap.get? b = some o ∧ ((B.get? b).isSome = true ∨ b ∈ frs X.stack) := fun b o e => by
    cases q : ((B.get? b).isSome || decide (b ∈ frs X.stack)) with
    | false => rw [g2 b q] at e; cases e
    | true =>
      rw [g1 b q] at e
      exact ⟨e, by simpa [Bool.or_eq_true] using q⟩
  refine ⟨{ s with heap := G, gens := s'.gens, drawn := s'.drawn, toks := s'.toks }, ?_, fun b o e hb => ?_, Heap.UpToSlots.of_keeps fun b o e => (og b o e).1, rfl⟩
  · refine I.call (ch := []) ⟨fun b o e n hb _ => gB b o (ub.keep b o e n hb), fun b o e n hb _ => ?_, fun b o e n _ => ub.free b o e n, fun b o e _ => ?_, ub.tups, ub.frzs, ub.tbls⟩ (hok.kept gB) ag (fun _ z => nomatch z)
    · obtain ⟨sl, q⟩ := ub.slot b o e hb
      exact ⟨sl, by rw [gF b hb]; exact q⟩
    · by_cases hb : b ∈ frs X.stack
      · obtain ⟨sl, q⟩ := ub.slot b o e hb
        exact ⟨_, by rw [gF b hb]; exact q⟩
      · obtain ⟨o', q⟩ := ub.there b o e hb
        exact ⟨o', gB b o' q⟩
  · obtain ⟨e', h⟩ := og b o e
    rcases h with h | h
    · obtain ⟨o', q⟩ := Option.isSome_iff_exists.mp h
      have z := st b o' q
      rw [e'] at z; cases z
      exact q
    · exact absurd h hb
/-- what the element raises comes out of the comprehension -/
theorem lcx_error {s3 : Shared} {H3 : Hp} {scope : Scope} {cl : List (Str × Addr)} {fp : List Addr} {ce : Env} {use : Option (Value → Sem Unit)} {Qf : Value → Shared → Prop} {acc : Value} (I3 : Inv X pins σ H3 s3)
    (hs : X.stack = X.env :: X.outer) (hf : X.env.frame = some X.env.locals) (tk : L2N.Takes X (fun cls d _ H => E cls d H)) (hce : ce = compEnvC scope cl s3.heap.objs.size X.env) (f3 : ∀ b ∈ fp, FpOk X pins H3 b)
    {pins' : List (Addr × Obj)} {σ' : L2.St} {H' : Hp} {s0 : Shared} {u : Value} {s' : Shared} (I0 : Inv (X.blk s3 H3 scope ce fp) pins' σ' H' s0) (c : L2N.CX X.prog X.w X.stack H' s0 E u s') :
    notedBy (model X.prog X.w) X.A ce (fun e s'' => PostX (model X.prog X.w) X.A X.xe use Qf acc ce (.error e) s'') u s' := by
  have cL : ce.locals = s3.heap.objs.size := by subst hce; rfl
  have cF : ce.frame = some X.env.locals := by subst hce; exact hf
  obtain ⟨m, ⟨oC, esC, epC, hC, dC, rC⟩, _⟩ := I0.loc
  have nHC : H' ce.locals = none := I0.free
  rw [cL] at nHC
  have hC : s0.heap.get? s3.heap.objs.size = some oC := by rw [← cL]; exact hC
  generalize hCC : s3.heap.objs.size = C at *
  obtain ⟨a, B, H2, cls, d, rfl, fl, hok, ub, na, os, ag, hE⟩ := c
  have nf : C ∉ frs X.stack := fun hm => by
    rcases List.mem_cons.mp (I3.stkSub _ hm) with z | z
    · have := I3.lt
      rw [hCC, z] at this
      exact Nat.lt_irrefl _ this
    · exact I3.nofs (Nat.le_of_eq hCC) z
  have nH2C : H2 C = none := ub.free C oC hC nHC
  have hg : ∀ {h : Heap} {b : Addr} {o : Obj}, h.get? b = some o → b ≠ C → (PySem.W.hideAll h [C]).get? b = some o := fun {h b o} e n => PySem.W.hideAll_get [C] e (by simpa using n)
  have hr : ∀ {h : Heap} {b : Addr} {o : Obj}, (PySem.W.hideAll h [C]).get? b = some o → b ≠ C ∧ h.get? b = some o := fun {h b o} e => ⟨fun z => (by rw [z, PySem.W.hideAll_none [C] (by simp)] at e; cases e), PySem.W.of_hideAll [C] e⟩
  have hn : ∀ {h : Heap} {b : Addr}, h.get? b = none → (PySem.W.hideAll h [C]).get? b = none := fun {h b} e => by
    cases q : (PySem.W.hideAll h [C]).get? b with
    | none => rfl
    | some o => rw [(hr q).2] at e; cases e
  have lt3 : ∀ {b : Addr} {o : Obj}, s3.heap.get? b = some o → b ≠ C := fun {b o} e z => by
    have := Heap.lt_size e
    rw [hCC, z] at this
    exact Nat.lt_irrefl _ this
  have stay : ∀ {Ha : Hp} {h : Heap}, Ha C = none → HOk X.prog X.w Ha h → HOk X.prog X.w Ha (PySem.W.hideAll h [C]) := fun {Ha h} n hk b u e => (hk b u e).stay (fun c w hc q => hg q (by
    rcases hc with z | z
    · intro y
      rw [← z, y, n] at e
      cases e
    · intro y
      rw [y, n] at z
      cases z)) (fun _ q => q) fun _ _ q => q
  have U := I0.base
  have I7 : Inv X pins σ H' { s0 with heap := PySem.W.hideAll s0.heap [C] } := I3.call' (ch := fp) I0.os
    ⟨fun b o e n hb hc => hg (U.keep b o e n hb hc) (lt3 e), fun b o e n hb hc => let ⟨sl, q⟩ := U.slot b o e n hb hc; ⟨sl, hg q (lt3 e)⟩, U.free, fun b o e hc => let ⟨o', q⟩ := U.there b o e hc; ⟨o', hg q (lt3 e)⟩, U.tups, U.frzs, U.tbls⟩
    (stay nHC I0.hok) I0.bare fun b hb => ⟨(f3 b hb).2.2.2.1, (f3 b hb).2.1, (f3 b hb).2.2.2.2.1, (f3 b hb).2.2.2.2.2⟩
  have st : (PySem.W.hideAll B [C]).StaysIn s'.heap := fun b o e => fl.1 b o (hr e).2
  obtain ⟨sI, J, nb, up, hos⟩ := of_ground (s' := s') (B := PySem.W.hideAll B [C]) I7 st (stay nH2C hok)
    ⟨fun b o e n hb => hg (ub.keep b o (hr e).2 n hb) (hr e).1, fun b o e hb => ub.slot b o (hr e).2 hb, fun b o e n => ub.free b o (hr e).2 n, fun b o e hb => let ⟨o', q⟩ := ub.there b o (hr e).2 hb; ⟨o', hg q (hr e).1⟩, ub.tups, ub.frzs, ub.tbls⟩ ag
  have fl' : HandSPX.FlyingZ (PySem.W.hideAll B [C]) X.stack a (L2N.Zn cls d) s'.heap := by
    obtain ⟨k1, k2, k3, oe, vs, T, oT, ts, he, hz, hd, h1, hnT, r⟩ := fl
    exact ⟨st, hn k2, funFrames_none k3 fun L hL => hn (k3.mem hL).1, oe, vs, T, oT, ts, he, hz, hd, h1, hn hnT, r⟩
  have hfr : X.A.frames = some (X.env :: X.outer) := by rw [I3.ok.frames, hs]
  show wpAny _ X.A (noteFrame (.ref a) ce) _ _ s'
  rw [show noteFrame (.ref a) ce = noteFrame (.ref a) X.env by subst hce; rfl]
  refine PXN.looks_onZ L2N.Zn.steady hfr hf (by rw [← hs]; exact fl') fun h1 hh1 up1 => ?_
  obtain ⟨sl, hC1⟩ := up1 C oC (fl.1 C oC (ub.keep C oC hC nHC nf)) (fun vs z => by rw [dC] at z; cases z)
  refine ⟨m, ⟨{ oC with slots := sl }, esC, epC, by rw [cL]; exact hC1, dC, rC⟩, fun h' sb => ?_⟩
  rw [cL] at sb
  obtain ⟨k1, k2, k3, oe, vs, T, oT, ts, he, hz, hd, h1', hnT, hTe, hT, hdT, h3⟩ := hh1
  have naC : a ≠ C := fun z => by
    rw [z] at he
    have he : h1.get? C = some oe := he
    rw [hC1] at he
    cases he
    have hd : oC.data = .fields vs := hd
    rw [dC] at hd
    cases hd
  have nTC : T ≠ C := fun z => by
    rw [z] at hT
    have hT : h1.get? C = some oT := hT
    rw [hC1] at hT
    cases hT
    have hdT : oC.data = .fields ts := hdT
    rw [dC] at hdT
    cases hdT
  have he2 : h'.get? a = some oe := (sb.2 a naC).trans he
  have hh2 : HandSPX.HeldZ (PySem.W.hideAll B [C]) (X.env :: X.outer) a (L2N.Zn cls d) X.env.locals h' :=
    ⟨fun b o e => (sb.2 b (hr e).1).trans (k1 b o e), k2, frames_but sb.2 k3 (by rw [← hs]; exact nf), oe, vs, T, oT, ts, he2, hz, hd, h1', hnT, hTe, (sb.2 T nTC).trans hT, hdT, h3⟩
  unfold PySem.passOn
  refine wpAny_bind (wpAny_field he2 hd h1' ?_)
  rw [if_neg (show ¬ ((Value.ref T == Value.none) = true) from by simp)]
  have fin : wpAny (model X.prog X.w) X.A (setFlight (.ref a) ce.frame) (fun _ s4 => wpAny (model X.prog X.w) X.A (throw (.ref a) : Sem Value) (fun _ _ => False) X.xe s4) X.xe { s' with heap := h' } := by
    rw [cF]
    refine HandSPX.setFlight_onZ hh2 fun h4 hh4 up4 => wpAny_throw (tk _ _ ?_)
    refine ⟨a, PySem.W.hideAll B [C], sI, pins, σ, H2, cls, d, rfl, J, nb, fun b o e hnf => ?_, .inr (.inr (by rw [hs]; exact hh4)), na, os.trans hos.symm, ag, hE⟩
    have hbC : b ≠ C := fun z => by
      have := nb b o e (fun hm => nf (z ▸ hm))
      exact (hr this).1 z
    obtain ⟨s1, q1⟩ := up b o e hnf
    obtain ⟨s2, q2⟩ := up1 b _ q1 hnf
    obtain ⟨s4, q4⟩ := up4 b _ ((sb.2 b hbC).trans q2) hnf
    exact ⟨s4, q4⟩
  first
    | exact wpAny_bind (wpAny_pure (wpAny_bind fin))
    | exact wpAny_bind fin
theorem lcx_core {pins : List (Addr × Obj)} {s : Shared} {σ : L2.St} {H : Hp} {Q : VK} {elt tg iter : Expr} {ifs : List Expr} {scope : Scope} {own : List (Str × Nat)} {pos pos' : Pos} {wi : TI} {g : TG} {tt : TT} {te : TE} {use : Option (Value → Sem Unit)} {Qf : Value → Shared → Prop}
    (hsk : X.stack = X.env :: X.outer) (hfk : X.env.frame = some X.env.locals) (tk : L2N.Takes X (fun cls d _ H => E cls d H)) (hc : X.calm = true) (hN : X.N.Nodup) (I : Inv X pins σ H s) (hi : PI X tg iter wi) (ok : BlkOk X.N X.env.scope scope own)
    (hg : ∀ (s : Shared) (H : Hp) (C : Addr) (cl : List (Str × Addr)) (fp : List Addr), PG (X.blk s H scope (compEnvC scope cl C X.env) fp) tg g) (ht : ∀ (s : Shared) (H : Hp) (C : Addr) (cl : List (Str × Addr)) (fp : List Addr), PTs (X.blk s H scope (compEnvC scope cl C X.env) fp) ifs tt)
    (he : ∀ (s : Shared) (H : Hp) (C : Addr) (cl : List (Str × Addr)) (fp : List Addr), PE (blkX X E s H scope (compEnvC scope cl C X.env) fp) elt te) (hs : ∀ x, foldedSetIterable iter X.env x = pure x)
    (h : tLc wi g tt te (own.map (·.2)) σ H Q)
    (hRR : ∀ D C s' m H', Inv X pins σ H' s' → Q (.ref D) H' → s'.heap.Ns C m → FpOk X pins H' C → ∀ cenv : Env, cenv.locals = C → PostX (model X.prog X.w) X.A X.xe use Qf (.ref D) cenv (.ok .next) s') :
    wpAny (model X.prog X.w) X.A (comprehension (.ListComp elt [⟨tg, iter, ifs, 0⟩] scope pos) scope X.env pos' (newList []) false (eval iter X.env) use) Qf X.xe s := by
  have hfree : ∀ y ∈ scope.names, y.2 = .free → ∃ c, X.env.cells.lookup y.1 = some c := fun y hy e => by
    rcases ok.free y hy e with k | k
    · exact I.ok.has _ (.inl k)
    · exact I.ok.has _ (.inr k)
  refine comp_free (use := use) rfl hs (closure_ok hfree) ok.kind (fun y hy e => by rw [ok.uniq y hy, e])
    (thn (hi.run pins s σ H _ I h) fun xv s1 hx => thn hx fun itv s2 h2 => ?_)
  obtain ⟨it, fp, tn, J, H2, e, I2, T, st2, f2, q⟩ := h2
  subst e
  refine wpAny_newObj_type (newEnv_comp ?_) (by show 0 ≤ sizeLine; decide)
  generalize hD : s2.heap.objs.size = D
  have hDn : H2 D = none := I2.hok.fresh (Nat.le_of_eq hD)
  obtain ⟨W, ⟨m0, w0⟩, turn⟩ := q D hDn
  -- the new list
  generalize hs3 : ({ s2 with heap := s2.heap.push { cls := .type "list", data := .seq ([] : List Value).toArray } } : Shared) = s3
  have I3 : Inv X pins σ (upd H2 D (.lst [])) s3 := by
    rw [← hs3]
    refine I2.laid (t' := s2.toks) (fun b o e => Heap.get?_push_of_some _ e) (Nat.le_of_eq hD) ⟨Nat.zero_le _, [], 0, .nil, ?_⟩
    rw [← hD]
    exact Heap.get?_push_size _ rfl
  have h3 : s3.heap = s2.heap.push { cls := .type "list", data := .seq ([] : List Value).toArray } := by rw [← hs3]
  have sz : ∀ b ∈ fp, b < s2.heap.objs.size := fun b hb => by
    obtain ⟨o, e, _⟩ := T.obj _ _ st2 b hb
    exact Heap.lt_size e
  have f3 : ∀ b ∈ fp, FpOk X pins (upd H2 D (.lst [])) b ∧ b < s3.heap.objs.size := fun b hb => by
    have hlt := sz b hb
    refine ⟨⟨?_, (f2 b hb).2⟩, by rw [h3, Heap.size_push]; exact Nat.lt_succ_of_lt hlt⟩
    rw [upd_ne (by rw [← hD]; exact Nat.ne_of_lt hlt)]
    exact (f2 b hb).1
  have st3 : tn 0 s3.heap := T.keep _ _ _ st2 fun b _ o e => by rw [h3]; exact Heap.get?_push_of_some _ e
  have I4 := block_start I3 ok hN f3
  have pg := hg s3 (upd H2 D (.lst [])) s3.heap.objs.size (cellsFrom (s3.heap.objs.size + 1) scope.names (cloFrom X.env.cells scope.names [])) fp
  have pt := ht s3 (upd H2 D (.lst [])) s3.heap.objs.size (cellsFrom (s3.heap.objs.size + 1) scope.names (cloFrom X.env.cells scope.names [])) fp
  have pe := he s3 (upd H2 D (.lst [])) s3.heap.objs.size (cellsFrom (s3.heap.objs.size + 1) scope.names (cloFrom X.env.cells scope.names [])) fp
  show codeAny _ _ (.compStart (.ListComp elt [⟨tg, iter, ifs, 0⟩] scope pos) 0 (.ref it) (.ref D) (compEnvC scope (cellsFrom (s3.heap.objs.size + 1) scope.names (cloFrom X.env.cells scope.names [])) s3.heap.objs.size X.env)) (PostX (model X.prog X.w) X.A X.xe use Qf (.ref D) (compEnvC scope (cellsFrom (s3.heap.objs.size + 1) scope.names (cloFrom X.env.cells scope.names [])) s3.heap.objs.size X.env)) { s3 with heap := pushCells (s3.heap.push { cls := .type "dict", data := .dict #[] }) scope.names }
  have nfp : ∀ b ∈ fp, (upd H2 D (.lst [])) b = none := fun b hb => (f3 b hb).1.1
  generalize hce : compEnvC scope (cellsFrom (s3.heap.objs.size + 1) scope.names (cloFrom X.env.cells scope.names [])) s3.heap.objs.size X.env = ce at I4 pg pt pe ⊢
  have hce' := hce.symm
  have cL : ce.locals = s3.heap.objs.size := by subst hce; rfl
  generalize hH3 : upd H2 D (.lst []) = H3 at I3 I4 pg pt pe w0 nfp f3
  generalize hs4 : ({ s3 with heap := pushCells (s3.heap.push { cls := .type "dict", data := .dict #[] }) scope.names } : Shared) = s4 at I4 ⊢
  have st4 : tn 0 s4.heap := T.keep _ _ _ st3 fun b _ o e => by rw [← hs4]; exact pushCells_keeps _ _ _ _ (Heap.get?_push_of_some _ e)
  have stat : ∀ {σ' : L2.St} {H' : Hp} {s' : Shared}, Inv (X.blk s3 H3 scope ce fp) [] σ' H' s' → (∀ b ∈ fp, H' b = none) → ∀ b ∈ fp, FpOk (X.blk s3 H3 scope ce fp) [] H' b := fun {σ' H' s'} I' hn b hb =>
    ⟨hn b hb, (I'.ok.exf b hb).1, I'.ok.exfs b hb, .inl hb, fun x c e => (I'.ok.exf b hb).2 x c e, fun p hp => absurd (show p ∈ ([] : List (Addr × Obj)) ++ [] from hp) (by simp)⟩
  have loop : codeAny (model X.prog X.w) X.A (.compLoop (.ListComp elt [⟨tg, iter, ifs, 0⟩] scope pos) 0 (.ref it) (.ref D) ce) (PostX (model X.prog X.w) X.A X.xe use Qf (.ref D) ce) s4 := by
    refine compLoop_any (fun n s' => ∃ i H', Inv (X.blk s3 H3 scope ce fp) [] (wipe σ (own.map (·.2))) H' s' ∧ tn i s'.heap ∧ (∀ b ∈ fp, H' b = none) ∧ W i n H') ?_ m0 ⟨0, H3, I4, st4, nfp, w0⟩
    rintro n s5 ⟨i, H5, I5, st5, n5, w5⟩
    rcases turn i n H5 w5 with ⟨stop, qq⟩ | ⟨go, Nx, hNx, step⟩
    · have td := T.done (X.blk s3 H3 scope ce fp) rfl rfl rfl hc i [] s5 _ H5 (fun _ _ => False) I5 (stat I5 n5) st5 stop
      refine thnF td fun r s6 ⟨hr, I6⟩ => ?_
      subst hr
      -- back in the def's context
      have I7 : Inv X pins σ H5 s6 := I3.call' (ch := fp) I6.os I6.base I6.hok I6.bare fun b hb => ⟨(f3 b hb).1.2.2.2.1, (f3 b hb).1.2.1, (f3 b hb).1.2.2.2.2.1, (f3 b hb).1.2.2.2.2.2⟩
      have nC : H5 s3.heap.objs.size = none := by
        have z : H5 ce.locals = none := I6.free
        rw [cL] at z
        exact z
      obtain ⟨m, hn, _⟩ := I6.loc
      have hn : s6.heap.Ns ce.locals m := hn
      rw [cL] at hn
      exact hRR D s3.heap.objs.size s6 m H5 I7 qq hn (I3.fpOk (Nat.le_refl _) nC) ce cL
    · have ti := T.item (X.blk s3 H3 scope ce fp) rfl rfl rfl hc i [] s5 _ H5 (fun _ _ => False) I5 (stat I5 n5) st5 go
      refine thnF ti fun r s6 ⟨u, hr, h6⟩ => ?_
      subst hr
      refine thnF h6 fun _ s7 ⟨x, H7, I7, r7, y7, st7, n7⟩ => ?_
      have I7' := I7.pinned (stat I7 n7) (T.obj _ _ st7)
      refine thnF (pg.run _ s7 _ H7 x u _ I7' r7 (step x H7 y7)) fun _ s8 ⟨σ8, H8, I8, hw8, q8⟩ => ?_
      refine thnF (pt.run _ s8 σ8 H8 _ I8 q8) fun b s9 ⟨H9, I9, q9⟩ => ?_
      -- the turn's end
      have fin : ∀ {s' : Shared} {H' : Hp}, Inv (X.blk s3 H3 scope ce fp) ([] ++ pinsAt fp s7.heap) σ8 H' s' → Nx H' → ∃ m, m < n ∧ ∃ i H', Inv (X.blk s3 H3 scope ce fp) [] (wipe σ (own.map (·.2))) H' s' ∧ tn i s'.heap ∧ (∀ b ∈ fp, H' b = none) ∧ W i m H' := fun {s' H'} I' nx => by
        obtain ⟨m', hm, w'⟩ := hNx H' nx
        have pin' : ∀ b ∈ fp, ∀ o, s7.heap.get? b = some o → s'.heap.get? b = some o ∧ H' b = none := fun b hb o e =>
          let z := I'.pin (b, o) (List.mem_append_right _ (List.mem_append_right _ (mem_pinsAt hb e)))
          ⟨z.1, z.2.1⟩
        have hl : (wipe σ (own.map (·.2))).length = σ8.length := by rw [← hw8, wipe_length]
        refine ⟨m', hm, i + 1, H', (I'.unpinned (pins := [])).weak hl (fun j v e => ?_), T.keep _ _ _ st7 fun b hb o e => (pin' b hb o e).1, fun b hb => ?_, w'⟩
        · rw [← hw8] at e
          exact (wipe_some e).1
        · obtain ⟨o, e, _⟩ := T.obj _ _ st7 b hb
          exact (pin' b hb o e).2
      cases b with
      | false =>
        simp only [Bool.false_eq_true, if_false] at q9 ⊢
        exact fin I9 q9
      | true =>
        simp only [if_true] at q9 ⊢
        refine wpAny_mono (pe.run _ s9 σ8 H9 _ (to_blkX I9) q9) (fun z s10 ⟨yv, H10, I10', r10, acc, hD10, hz10, nx⟩ => ?_) (fun u s10 ⟨p0, σ0, H0, s0, I0, c0⟩ => lcx_error I3 hsk hfk tk hce' (fun b hb => (f3 b hb).1) I0 c0)
        have I10 := of_blkX I10'
        exact app_ok (X := X.blk s3 H3 scope ce fp) I10 hD10 hz10 r10 fun s11 I11 => fin I11 nx
  exact codeAny_compStart_list loop (T.self X.A 0 _ _ _ st4 loop)
theorem pe_lcX {elt tg iter : Expr} {ifs : List Expr} {scope : Scope} {own : List (Str × Nat)} {pos : Pos} {wi : TI} {g : TG} {tt : TT} {te : TE} (hsk : X.stack = X.env :: X.outer) (hfk : X.env.frame = some X.env.locals) (tk : L2N.Takes X (fun cls d _ H => E cls d H)) (hc : X.calm = true) (hN : X.N.Nodup) (hi : PI X tg iter wi) (ok : BlkOk X.N X.env.scope scope own)
    (hg : ∀ (s : Shared) (H : Hp) (C : Addr) (cl : List (Str × Addr)) (fp : List Addr), PG (X.blk s H scope (compEnvC scope cl C X.env) fp) tg g) (ht : ∀ (s : Shared) (H : Hp) (C : Addr) (cl : List (Str × Addr)) (fp : List Addr), PTs (X.blk s H scope (compEnvC scope cl C X.env) fp) ifs tt)
    (he : ∀ (s : Shared) (H : Hp) (C : Addr) (cl : List (Str × Addr)) (fp : List Addr), PE (blkX X E s H scope (compEnvC scope cl C X.env) fp) elt te) (hs : ∀ x, foldedSetIterable iter X.env x = pure x := by intro _; rfl) :
    PE X (.ListComp elt [⟨tg, iter, ifs, 0⟩] scope pos) (tLc wi g tt te (own.map (·.2))) := by
  refine ⟨fun pins s σ H Q I h => ?_⟩
  rw [eval_ListComp]
  refine lcx_core hsk hfk tk hc hN I hi ok hg ht he hs h fun D C s' m H' I' q hn f ce hce => ⟨m, by rw [hce]; exact hn, fun h'' sb => ?_⟩
  rw [hce] at sb
  obtain ⟨f0, f1, f2, f3, f4, f5⟩ := f
  exact ⟨.ref D, H', I'.turned (t' := s'.toks) (fun b o hb e => (sb.2 b hb).trans e) f0 f1 f3 f4 f5, rfl, q⟩
theorem ps_setLcX {i : Nat} {y : Str} {py : Pos} {elt tg iter : Expr} {ifs : List Expr} {scope : Scope} {own : List (Str × Nat)} {pos spos : Pos} {wi : TI} {g : TG} {tt : TT} {te : TE} (hsk : X.stack = X.env :: X.outer) (hfk : X.env.frame = some X.env.locals) (tk : L2N.Takes X (fun cls d _ H => E cls d H)) (hc : X.calm = true) (hN : X.N.Nodup) (hy : X.N[i]? = some y) (hyl : X.env.scope.names.lookup y = some .local)
    (hsw : swapsWith (.ListComp elt [⟨tg, iter, ifs, 0⟩] scope pos) (some (.Name y py)) spos.line X.env = pure true) (hi : PI X tg iter wi) (ok : BlkOk X.N X.env.scope scope own)
    (hg : ∀ (s : Shared) (H : Hp) (C : Addr) (cl : List (Str × Addr)) (fp : List Addr), PG (X.blk s H scope (compEnvC scope cl C X.env) fp) tg g) (ht : ∀ (s : Shared) (H : Hp) (C : Addr) (cl : List (Str × Addr)) (fp : List Addr), PTs (X.blk s H scope (compEnvC scope cl C X.env) fp) ifs tt)
    (he : ∀ (s : Shared) (H : Hp) (C : Addr) (cl : List (Str × Addr)) (fp : List Addr), PE (blkX X E s H scope (compEnvC scope cl C X.env) fp) elt te) (hs : ∀ x, foldedSetIterable iter X.env x = pure x := by intro _; rfl) :
    PS X (.Assign [.Name y py] (.ListComp elt [⟨tg, iter, ifs, 0⟩] scope pos) spos) (tAsg (tLc wi g tt te (own.map (·.2))) (gName i)) := by
  refine ⟨fun pins s σ H D I h => ?_⟩
  rw [exec_Assign_Name_used _ _ _ _ hsw]
  refine wpAny_bind (wpAny_standAt (wpAny_bind ?_))
  show wpAny _ X.A (do let _ ← comprehension (.ListComp elt [⟨tg, iter, ifs, 0⟩] scope pos) scope X.env (firstIterPos [⟨tg, iter, ifs, 0⟩] pos) (newList []) false (eval iter X.env) (some (assign (.Name y py) X.env))) _ _ s
  have h : tLc wi g tt te (own.map (·.2)) σ H (fun x H1 => gName i x σ H1 D.nx) := h
  refine wpAny_bind (thn (lcx_core (Qf := fun _ s' => SP X pins D .next s') hsk hfk tk hc hN I hi ok hg ht he hs h fun L C s' m H' I' q hn f ce hce => ?_) fun _ s' hq => wpAny_pure (wpAny_pure hq))
  show wpAny _ _ (assign (.Name y py) X.env (.ref L)) _ _ _
  refine wpAny_assign_Name (store_ok2 (v := V.ref L) I' hN hy (.inl hyl) rfl (fun s2 I2 ⟨a, sb, ha⟩ => ?_) (.inr hyl))
  obtain ⟨f0, f1, f2, f3, f4, f5⟩ := f
  have haC : C ≠ a := by
    rcases ha with z | z
    · rw [z]; exact f1
    · exact fun e => f4 y a z e.symm
  refine ⟨m, by rw [hce]; exact hn.sameBut sb haC, fun h3 sb3 => ?_⟩
  rw [hce] at sb3
  exact ⟨_, H', I2.turned (t' := s2.toks) (fun b o hb e => (sb3.2 b hb).trans e) f0 f1 f3 f4 f5, q⟩end
end MV
namespace MV
open PySem PySem.Spec PyProof.Rows L2 Evl MVH
/-! ### o.m(e, ..) where what is raised is wished for at the caller's slots; a clause that goes on -/
section
variable {X : Cx} {CX : CXT} {k : Nat} {f C : Addr} {fd : FuncData} {ps : List Str} {sp : Sp} {dvs : List V} {ds : List Value} {E : L2.St → XK} {x m : Str} {p pos apos : Pos} {e o : Expr} {es : List Expr} {ta : TE} {t : TA}
def tMethS (C : Addr) (m : Str) (sp : Sp) (dvs : List V) (E : L2.St → XK) (ta : TE) (t : TA) : TE := fun σ H Q => ta σ H fun x H1 => ∃ a dx fs, x = .ref a ∧ H1 a = some (.ins C dx fs) ∧ fs.lookup m = none ∧
  t σ H1 fun vs H2 => sp (x :: (vs ++ dvs)) H2 Q (E σ)
theorem pe_methS {pl : Sem Bool} (he : PE X o ta) (c : Cls X.K C) (hm : Meth X.K C m f) (F : FnOk X.prog X.w X.K X.mg X.base CX k f fd ps sp) (hr : Room k X.A) (hb : Binds X.K fd ps ds) (hd : Vals dvs ds) (hx : ∀ σ, PassesAt CX X σ (E σ)) (ha : PA X (e :: es) t)
    (hst : starEach (e :: es) X.env = (false, eval e X.env) :: starEach es X.env := by rfl) (hpl : (backTo pos (starEach es X.env)).any (·.1) = false := by rfl)
    (ht : eval (.Call (.Attribute o m apos) (e :: es) [] pos) X.env = (do
      let ov ← eval o X.env
      standAt apos.atName
      let (f, first) ← holding [ov] (getMethod ov m pl)
      callWith pos f first (backTo pos (starEach (e :: es) X.env)) (backToKw pos (keywordEach [] X.env))) := by rfl) :
    PE X (.Call (.Attribute o m apos) (e :: es) [] pos) (tMethS C m sp dvs E ta t) := by
  refine ⟨fun pins s σ H Q I h => ?_⟩
  refine PySem.W.methodCall_KW (pl := pl) (thn (he.run pins s σ H _ I h) fun u s1 ⟨x, H1, I1, rx, a, dx, fs, ex, ea, l, q⟩ => ?_) ht
  subst ex
  obtain rfl : u = Value.ref a := rx
  refine getmeth_ok I1 ea c hm l ?_
  refine PySem.W.callWith_K (first := [.ref a]) (h₀ := X.base) I.ok.mod.kin hm.kp (thn (ha.run pos pins s1 σ H1 _ I1 q) fun us s2 ⟨vs, H2, I2, r, q2⟩ => ⟨I2.kIn, ?_⟩) hst hpl
  exact run_fnSD (us := .ref a :: us) (vs := .ref a :: vs) F hr hb hd (hx σ) I2 (.cons rfl r) q2
end
def tsX (wE : Addr → Str → Prop) (body : Addr → Str → TS) (a : Addr) (cls : Value) (d : Option Addr) : TS := fun D σ H => ∃ C w, cls = .ref C ∧ d = none ∧ wE C w ∧ body a w D σ H
theorem pss_tsX {X : Cx} {wE : Addr → Str → Prop} {body : Addr → Str → TS} {a : Addr} {cls : Value} {d : Option Addr} {b : List Stmt} (h : ∀ C w, cls = .ref C → d = none → wE C w → PSs X b (body a w)) : PSs X b (tsX wE body a cls d) :=
  ⟨fun pins s σ H D I ⟨C, w, h1, h2, h3, q⟩ => (h C w h1 h2 h3).run pins s σ H D I q⟩
def tTryX (K : PySem.W.Frag) (c : Value) (i : Nat) (wE : Addr → Str → Prop) (body : Addr → Str → TS) (tb : WX → TS) : TS := fun D σ H => tb (wAs K c i (tsX wE body) (fun _ _ _ _ => False) D) D σ H
theorem ev_word {σ : L2.St} {H : Hp} {i : Nat} {a : Addr} {w : Str} (h : σ[i]? = some (some (.ref a))) : Ev (tWordOf i a w) σ H (.str w) := fun H1 e Q q => ⟨h, q⟩
end MV
local macro_rules | `(tactic| walk_at "ev1") => `(tactic| (first
  | ((with_reducible apply Evl.ev_var); exact rfl)
  | with_reducible exact Evl.ev_c
  | with_reducible apply MV.ev_menuL
  | with_reducible exact Evl.ea_nil
  | with_reducible apply Evl.ea_cons
  | with_reducible apply MV.ev_chain
  | with_reducible apply Evl.ev_op
  | with_reducible apply Evl.ev_un
  | with_reducible apply Evl.ev_cb
  | with_reducible apply Evl.ev_notV
  | with_reducible apply Evl.et_test
  | with_reducible apply Evl.et_B
  | with_reducible apply Evl.et_not
  | with_reducible exact Evl.rv_I0
  | with_reducible exact Evl.ru_neg
  | with_reducible exact MV.rv_eqI
  | with_reducible exact MV.rv_neI
  | with_reducible exact MV.rv_eqS
  | with_reducible exact MV.rv_neS
  | with_reducible exact MV.rv_isN
  | with_reducible exact MV.rv_notN
  | with_reducible exact MV.rc_abs
  | with_reducible exact MV.rc_min2
  | with_reducible exact MV.rc_max2
  | with_reducible exact MV.rc_int
  | with_reducible exact MV.rc_intB
  | with_reducible exact MV.rc_len (by assumption)
  | with_reducible exact MV.rc_lenT (by assumption)
  | with_reducible exact MV.rv_ixInts (by assumption) (by omega) (by omega)
  | with_reducible exact Evl.rv_I (MV.cmul_r (by omega) (by omega))
  | with_reducible exact Evl.rv_I (MV.cmul_l (by omega) (by omega))
  | with_reducible exact Evl.rv_I (MV.cdiv_s (by omega) (by omega))
  | with_reducible exact Evl.rv_I (MV.cdiv_c (by decide +kernel) (by decide +kernel))
  | with_reducible exact Evl.rv_I (MV.cpow_c (by decide) (by decide) (by decide))
  | with_reducible exact Evl.rv_I (show (0 : Int) < _ by first | omega | decide +kernel)
  | with_reducible apply Evl.rv_I
  | (show _ = List.map L2.V.int (MV.toInts _); exact rfl)
  | (show (0 : Int) ≤ _; omega)
  | (show (_ : Int) < (List.length _ : Nat); simp only [List.length_cons, List.length_nil]; omega)
  | (show List.length _ ≤ 100; simp only [List.length_cons, List.length_nil]; omega)))
local macro_rules | `(tactic| walk_at "ev1") => `(tactic| with_reducible apply MV.ev_call0)
local macro_rules | `(tactic| walk_at "ev") => `(tactic| repeat' (walk_at "ev1"))
local macro_rules | `(tactic| walk_at "ev1") => `(tactic| (first
  | with_reducible apply MV.ev_andB
  | with_reducible apply MV.ev_orB
  | with_reducible apply MV.et_andB
  | with_reducible apply MV.et_orB
  | with_reducible exact MV.isi_int_bool
  | with_reducible exact MV.isi_int_int
  | with_reducible exact MV.isi_list_list (by assumption)
  | with_reducible exact MV.isi_tup_tup (by assumption)
  | with_reducible exact MV.isi_list_tup (by assumption)))
namespace MV
open PySem PySem.Spec PyProof.Rows L2 Evl MVH
def topS (i : Nat) : Stmt := PySem.Challenge.pw_midvalue_k18_desk_refusals.main.body.getD i (.Pass ⟨0, 0, 0, 0⟩)
structure Ads where
  c_VoteError : Addr
  c_BadSettings : Addr
  c_BadStep : Addr
  c_NoSensor : Addr
  c_BadRow : Addr
  c_Sensor : Addr
  c_Voter : Addr
  c_Desk : Addr
  f_middle : Addr
  d_middle : FuncData
  f_moved : Addr
  d_moved : FuncData
  f_agree : Addr
  d_agree : FuncData
  f_need_settings : Addr
  d_need_settings : FuncData
  f_need_step : Addr
  d_need_step : FuncData
  f_Sensor_init : Addr
  d_Sensor_init : FuncData
  f_Voter_init : Addr
  d_Voter_init : FuncData
  f_Voter_given : Addr
  d_Voter_given : FuncData
  f_Voter_sensor : Addr
  d_Voter_sensor : FuncData
  f_Voter_state : Addr
  d_Voter_state : FuncData
  f_Voter_count : Addr
  d_Voter_count : FuncData
  f_Voter_word : Addr
  d_Voter_word : FuncData
  f_Voter_is_close : Addr
  d_Voter_is_close : FuncData
  f_Voter_watch : Addr
  d_Voter_watch : FuncData
  f_Voter_wait : Addr
  d_Voter_wait : FuncData
  f_Voter_step : Addr
  d_Voter_step : FuncData
  f_need : Addr
  d_need : FuncData
  f_number_of : Addr
  d_number_of : FuncData
  f_said : Addr
  d_said : FuncData
  f_Desk_init : Addr
  d_Desk_init : FuncData
  f_Desk_answer : Addr
  d_Desk_answer : FuncData
  f_class_of : Addr
  d_class_of : FuncData
  f_play : Addr
  d_play : FuncData
  f_l_cell : Addr
  d_l_cell : FuncData
  f_l_drawn : Addr
  d_l_drawn : FuncData
  f_l_none : Addr
  d_l_none : FuncData
  f_l_others : Addr
  d_l_others : FuncData
  f_law : Addr
  d_law : FuncData
abbrev s_middle : Stmt := (topS 7)
abbrev s_moved : Stmt := (topS 8)
abbrev s_agree : Stmt := (topS 9)
abbrev s_need_settings : Stmt := (topS 16)
abbrev s_need_step : Stmt := (topS 17)
abbrev s_Sensor_init : Stmt := (inClass (topS 18) 0)
abbrev s_Voter_init : Stmt := (inClass (topS 19) 0)
abbrev s_Voter_given : Stmt := (inClass (topS 19) 1)
abbrev s_Voter_sensor : Stmt := (inClass (topS 19) 2)
abbrev s_Voter_state : Stmt := (inClass (topS 19) 3)
abbrev s_Voter_count : Stmt := (inClass (topS 19) 4)
abbrev s_Voter_word : Stmt := (inClass (topS 19) 5)
abbrev s_Voter_is_close : Stmt := (inClass (topS 19) 6)
abbrev s_Voter_watch : Stmt := (inClass (topS 19) 7)
abbrev s_Voter_wait : Stmt := (inClass (topS 19) 8)
abbrev s_Voter_step : Stmt := (inClass (topS 19) 9)
abbrev s_need : Stmt := (topS 23)
abbrev s_number_of : Stmt := (topS 24)
abbrev s_said : Stmt := (topS 25)
abbrev s_Desk_init : Stmt := (inClass (topS 26) 0)
abbrev s_Desk_answer : Stmt := (inClass (topS 26) 1)
abbrev s_class_of : Stmt := (topS 27)
abbrev s_play : Stmt := (topS 28)
abbrev s_l_cell : Stmt := (topS 30)
abbrev s_l_drawn : Stmt := (topS 31)
abbrev s_l_none : Stmt := (topS 32)
abbrev s_l_others : Stmt := (topS 33)
abbrev s_law : Stmt := (topS 34)
structure Txt (K : PySem.W.Frag) (mg : Str → Option Value) (A : Ads) : Prop where
  n_ValueError : mg "ValueError" = none
  n_abs : mg "abs" = none
  n_all : mg "all" = none
  n_enumerate : mg "enumerate" = none
  n_int : mg "int" = none
  n_isinstance : mg "isinstance" = none
  n_len : mg "len" = none
  n_max : mg "max" = none
  n_min : mg "min" = none
  n_range : mg "range" = none
  n_sorted : mg "sorted" = none
  n_str : mg "str" = none
  n_tuple : mg "tuple" = none
  c_LEAST : ∃ t, mg "LEAST" = some (.int 3 t)
  c_MOST : ∃ t, mg "MOST" = some (.int 9 t)
  c_MOST_THRESHOLD : ∃ t, mg "MOST_THRESHOLD" = some (.int 1000000 t)
  c_MOST_COUNT : ∃ t, mg "MOST_COUNT" = some (.int 1000 t)
  c_MOST_VALUE : ∃ t, mg "MOST_VALUE" = some (.int 1000000000 t)
  c_FIGURES : ∃ t, mg "FIGURES" = some (.str "0123456789" t)
  c_MOST_FIGURES : ∃ t, mg "MOST_FIGURES" = some (.int 10 t)
  g_VoteError : mg "VoteError" = some (.ref A.c_VoteError)
  x_VoteError : PySem.W.excIn K A.c_VoteError [.type "ValueError", .type "Exception", .type "BaseException", .type "object"] "ValueError.__new__" = true
  k_VoteError : PySem.W.keepIn K (.ref A.c_VoteError) = true
  xb_VoteError : PySem.W.subIn K (.ref A.c_VoteError) (.type "BaseException") = some true
  xt_VoteError : PySem.W.typeIn K (.ref A.c_VoteError) = some (.type "type")
  xi_VoteError : PySem.W.isClsIn K A.c_VoteError = true
  xd_VoteError : PySem.W.hasDictIn K A.c_VoteError = true
  xs_VoteError_VoteError : PySem.W.subIn K (.ref A.c_VoteError) (.ref A.c_VoteError) = some true
  xs_VoteError_BadSettings : PySem.W.subIn K (.ref A.c_VoteError) (.ref A.c_BadSettings) = some false
  xs_VoteError_BadStep : PySem.W.subIn K (.ref A.c_VoteError) (.ref A.c_BadStep) = some false
  xs_VoteError_NoSensor : PySem.W.subIn K (.ref A.c_VoteError) (.ref A.c_NoSensor) = some false
  xs_VoteError_BadRow : PySem.W.subIn K (.ref A.c_VoteError) (.ref A.c_BadRow) = some false
  g_BadSettings : mg "BadSettings" = some (.ref A.c_BadSettings)
  x_BadSettings : PySem.W.excIn K A.c_BadSettings [.type "ValueError", .type "Exception", .type "BaseException", .type "object"] "ValueError.__new__" = true
  k_BadSettings : PySem.W.keepIn K (.ref A.c_BadSettings) = true
  xb_BadSettings : PySem.W.subIn K (.ref A.c_BadSettings) (.type "BaseException") = some true
  xt_BadSettings : PySem.W.typeIn K (.ref A.c_BadSettings) = some (.type "type")
  xi_BadSettings : PySem.W.isClsIn K A.c_BadSettings = true
  xd_BadSettings : PySem.W.hasDictIn K A.c_BadSettings = true
  ec_BadSettings : ExcC K A.c_BadSettings
  kv_BadSettings : PySem.W.kitOne K (.ref A.c_BadSettings) (.type "ValueError") = some true
  ki_BadSettings_BadSettings : PySem.W.kitOne K (.ref A.c_BadSettings) (.ref A.c_BadSettings) = some true
  ki_BadSettings_BadStep : PySem.W.kitOne K (.ref A.c_BadSettings) (.ref A.c_BadStep) = some false
  ki_BadSettings_NoSensor : PySem.W.kitOne K (.ref A.c_BadSettings) (.ref A.c_NoSensor) = some false
  ki_BadSettings_BadRow : PySem.W.kitOne K (.ref A.c_BadSettings) (.ref A.c_BadRow) = some false
  xs_BadSettings_VoteError : PySem.W.subIn K (.ref A.c_BadSettings) (.ref A.c_VoteError) = some true
  xs_BadSettings_BadSettings : PySem.W.subIn K (.ref A.c_BadSettings) (.ref A.c_BadSettings) = some true
  xs_BadSettings_BadStep : PySem.W.subIn K (.ref A.c_BadSettings) (.ref A.c_BadStep) = some false
  xs_BadSettings_NoSensor : PySem.W.subIn K (.ref A.c_BadSettings) (.ref A.c_NoSensor) = some false
  xs_BadSettings_BadRow : PySem.W.subIn K (.ref A.c_BadSettings) (.ref A.c_BadRow) = some false
  g_BadStep : mg "BadStep" = some (.ref A.c_BadStep)
  x_BadStep : PySem.W.excIn K A.c_BadStep [.type "ValueError", .type "Exception", .type "BaseException", .type "object"] "ValueError.__new__" = true
  k_BadStep : PySem.W.keepIn K (.ref A.c_BadStep) = true
  xb_BadStep : PySem.W.subIn K (.ref A.c_BadStep) (.type "BaseException") = some true
  xt_BadStep : PySem.W.typeIn K (.ref A.c_BadStep) = some (.type "type")
  xi_BadStep : PySem.W.isClsIn K A.c_BadStep = true
  xd_BadStep : PySem.W.hasDictIn K A.c_BadStep = true
  ec_BadStep : ExcC K A.c_BadStep
  kv_BadStep : PySem.W.kitOne K (.ref A.c_BadStep) (.type "ValueError") = some true
  ki_BadStep_BadSettings : PySem.W.kitOne K (.ref A.c_BadStep) (.ref A.c_BadSettings) = some false
  ki_BadStep_BadStep : PySem.W.kitOne K (.ref A.c_BadStep) (.ref A.c_BadStep) = some true
  ki_BadStep_NoSensor : PySem.W.kitOne K (.ref A.c_BadStep) (.ref A.c_NoSensor) = some false
  ki_BadStep_BadRow : PySem.W.kitOne K (.ref A.c_BadStep) (.ref A.c_BadRow) = some false
  xs_BadStep_VoteError : PySem.W.subIn K (.ref A.c_BadStep) (.ref A.c_VoteError) = some true
  xs_BadStep_BadSettings : PySem.W.subIn K (.ref A.c_BadStep) (.ref A.c_BadSettings) = some false
  xs_BadStep_BadStep : PySem.W.subIn K (.ref A.c_BadStep) (.ref A.c_BadStep) = some true
  xs_BadStep_NoSensor : PySem.W.subIn K (.ref A.c_BadStep) (.ref A.c_NoSensor) = some false
  xs_BadStep_BadRow : PySem.W.subIn K (.ref A.c_BadStep) (.ref A.c_BadRow) = some false
  g_NoSensor : mg "NoSensor" = some (.ref A.c_NoSensor)
  x_NoSensor : PySem.W.excIn K A.c_NoSensor [.type "ValueError", .type "Exception", .type "BaseException", .type "object"] "ValueError.__new__" = true
  k_NoSensor : PySem.W.keepIn K (.ref A.c_NoSensor) = true
  xb_NoSensor : PySem.W.subIn K (.ref A.c_NoSensor) (.type "BaseException") = some true
  xt_NoSensor : PySem.W.typeIn K (.ref A.c_NoSensor) = some (.type "type")
  xi_NoSensor : PySem.W.isClsIn K A.c_NoSensor = true
  xd_NoSensor : PySem.W.hasDictIn K A.c_NoSensor = true
  ec_NoSensor : ExcC K A.c_NoSensor
  kv_NoSensor : PySem.W.kitOne K (.ref A.c_NoSensor) (.type "ValueError") = some true
  ki_NoSensor_BadSettings : PySem.W.kitOne K (.ref A.c_NoSensor) (.ref A.c_BadSettings) = some false
  ki_NoSensor_BadStep : PySem.W.kitOne K (.ref A.c_NoSensor) (.ref A.c_BadStep) = some false
  ki_NoSensor_NoSensor : PySem.W.kitOne K (.ref A.c_NoSensor) (.ref A.c_NoSensor) = some true
  ki_NoSensor_BadRow : PySem.W.kitOne K (.ref A.c_NoSensor) (.ref A.c_BadRow) = some false
  xs_NoSensor_VoteError : PySem.W.subIn K (.ref A.c_NoSensor) (.ref A.c_VoteError) = some true
  xs_NoSensor_BadSettings : PySem.W.subIn K (.ref A.c_NoSensor) (.ref A.c_BadSettings) = some false
  xs_NoSensor_BadStep : PySem.W.subIn K (.ref A.c_NoSensor) (.ref A.c_BadStep) = some false
  xs_NoSensor_NoSensor : PySem.W.subIn K (.ref A.c_NoSensor) (.ref A.c_NoSensor) = some true
  xs_NoSensor_BadRow : PySem.W.subIn K (.ref A.c_NoSensor) (.ref A.c_BadRow) = some false
  g_BadRow : mg "BadRow" = some (.ref A.c_BadRow)
  x_BadRow : PySem.W.excIn K A.c_BadRow [.type "ValueError", .type "Exception", .type "BaseException", .type "object"] "ValueError.__new__" = true
  k_BadRow : PySem.W.keepIn K (.ref A.c_BadRow) = true
  xb_BadRow : PySem.W.subIn K (.ref A.c_BadRow) (.type "BaseException") = some true
  xt_BadRow : PySem.W.typeIn K (.ref A.c_BadRow) = some (.type "type")
  xi_BadRow : PySem.W.isClsIn K A.c_BadRow = true
  xd_BadRow : PySem.W.hasDictIn K A.c_BadRow = true
  ec_BadRow : ExcC K A.c_BadRow
  kv_BadRow : PySem.W.kitOne K (.ref A.c_BadRow) (.type "ValueError") = some true
  ki_BadRow_BadSettings : PySem.W.kitOne K (.ref A.c_BadRow) (.ref A.c_BadSettings) = some false
  ki_BadRow_BadStep : PySem.W.kitOne K (.ref A.c_BadRow) (.ref A.c_BadStep) = some false
  ki_BadRow_NoSensor : PySem.W.kitOne K (.ref A.c_BadRow) (.ref A.c_NoSensor) = some false
  ki_BadRow_BadRow : PySem.W.kitOne K (.ref A.c_BadRow) (.ref A.c_BadRow) = some true
  xs_BadRow_VoteError : PySem.W.subIn K (.ref A.c_BadRow) (.ref A.c_VoteError) = some true
  xs_BadRow_BadSettings : PySem.W.subIn K (.ref A.c_BadRow) (.ref A.c_BadSettings) = some false
  xs_BadRow_BadStep : PySem.W.subIn K (.ref A.c_BadRow) (.ref A.c_BadStep) = some false
  xs_BadRow_NoSensor : PySem.W.subIn K (.ref A.c_BadRow) (.ref A.c_NoSensor) = some false
  xs_BadRow_BadRow : PySem.W.subIn K (.ref A.c_BadRow) (.ref A.c_BadRow) = some true
  g_Sensor : mg "Sensor" = some (.ref A.c_Sensor)
  cl_Sensor : Cls K A.c_Sensor
  mk_Sensor : Mk K A.c_Sensor A.f_Sensor_init
  na_Sensor_is_out : NoAttr K A.c_Sensor "is_out"
  na_Sensor_many : NoAttr K A.c_Sensor "many"
  g_Voter : mg "Voter" = some (.ref A.c_Voter)
  cl_Voter : Cls K A.c_Voter
  mk_Voter : Mk K A.c_Voter A.f_Voter_init
  na_Voter_threshold : NoAttr K A.c_Voter "threshold"
  na_Voter_rate : NoAttr K A.c_Voter "rate"
  na_Voter_misses : NoAttr K A.c_Voter "misses"
  na_Voter_backs : NoAttr K A.c_Voter "backs"
  na_Voter_sensors : NoAttr K A.c_Voter "sensors"
  na_Voter_last : NoAttr K A.c_Voter "last"
  g_Desk : mg "Desk" = some (.ref A.c_Desk)
  cl_Desk : Cls K A.c_Desk
  mk_Desk : Mk K A.c_Desk A.f_Desk_init
  na_Desk_voter : NoAttr K A.c_Desk "voter"
  na_Desk_many : NoAttr K A.c_Desk "many"
  F_middle : Fun K "middle" "middle" s_middle A.f_middle A.d_middle
  g_middle : mg "middle" = some (.ref A.f_middle)
  b_middle : Binds K A.d_middle ["numbers", "near"] []
  F_moved : Fun K "moved" "moved" s_moved A.f_moved A.d_moved
  g_moved : mg "moved" = some (.ref A.f_moved)
  b_moved : Binds K A.d_moved ["one", "goal", "most"] []
  F_agree : Fun K "agree" "agree" s_agree A.f_agree A.d_agree
  g_agree : mg "agree" = some (.ref A.f_agree)
  b_agree : Binds K A.d_agree ["numbers", "value", "threshold"] []
  F_need_settings : Fun K "need_settings" "need_settings" s_need_settings A.f_need_settings A.d_need_settings
  g_need_settings : mg "need_settings" = some (.ref A.f_need_settings)
  b_need_settings : Binds K A.d_need_settings ["settings"] []
  F_need_step : Fun K "need_step" "need_step" s_need_step A.f_need_step A.d_need_step
  g_need_step : mg "need_step" = some (.ref A.f_need_step)
  b_need_step : Binds K A.d_need_step ["values", "many"] []
  F_Sensor_init : Fun K "__init__" "Sensor.__init__" s_Sensor_init A.f_Sensor_init A.d_Sensor_init
  b_Sensor_init : Binds K A.d_Sensor_init ["self"] []
  F_Voter_init : Fun K "__init__" "Voter.__init__" s_Voter_init A.f_Voter_init A.d_Voter_init
  b_Voter_init : Binds K A.d_Voter_init ["self", "settings", "start"] []
  F_Voter_given : Fun K "given" "Voter.given" s_Voter_given A.f_Voter_given A.d_Voter_given
  m_Voter_given : Meth K A.c_Voter "given" A.f_Voter_given
  b_Voter_given : Binds K A.d_Voter_given ["self"] []
  F_Voter_sensor : Fun K "sensor" "Voter.sensor" s_Voter_sensor A.f_Voter_sensor A.d_Voter_sensor
  m_Voter_sensor : Meth K A.c_Voter "sensor" A.f_Voter_sensor
  b_Voter_sensor : Binds K A.d_Voter_sensor ["self", "place"] []
  F_Voter_state : Fun K "state" "Voter.state" s_Voter_state A.f_Voter_state A.d_Voter_state
  m_Voter_state : Meth K A.c_Voter "state" A.f_Voter_state
  b_Voter_state : Binds K A.d_Voter_state ["self", "place"] []
  F_Voter_count : Fun K "count" "Voter.count" s_Voter_count A.f_Voter_count A.d_Voter_count
  m_Voter_count : Meth K A.c_Voter "count" A.f_Voter_count
  b_Voter_count : Binds K A.d_Voter_count ["self", "place"] []
  F_Voter_word : Fun K "word" "Voter.word" s_Voter_word A.f_Voter_word A.d_Voter_word
  m_Voter_word : Meth K A.c_Voter "word" A.f_Voter_word
  b_Voter_word : Binds K A.d_Voter_word ["self", "numbers", "value"] []
  F_Voter_is_close : Fun K "is_close" "Voter.is_close" s_Voter_is_close A.f_Voter_is_close A.d_Voter_is_close
  m_Voter_is_close : Meth K A.c_Voter "is_close" A.f_Voter_is_close
  b_Voter_is_close : Binds K A.d_Voter_is_close ["self", "thing", "value"] []
  F_Voter_watch : Fun K "watch" "Voter.watch" s_Voter_watch A.f_Voter_watch A.d_Voter_watch
  m_Voter_watch : Meth K A.c_Voter "watch" A.f_Voter_watch
  b_Voter_watch : Binds K A.d_Voter_watch ["self", "one", "is_close"] []
  F_Voter_wait : Fun K "wait" "Voter.wait" s_Voter_wait A.f_Voter_wait A.d_Voter_wait
  m_Voter_wait : Meth K A.c_Voter "wait" A.f_Voter_wait
  b_Voter_wait : Binds K A.d_Voter_wait ["self", "one", "is_close"] []
  F_Voter_step : Fun K "step" "Voter.step" s_Voter_step A.f_Voter_step A.d_Voter_step
  m_Voter_step : Meth K A.c_Voter "step" A.f_Voter_step
  b_Voter_step : Binds K A.d_Voter_step ["self", "values"] []
  F_need : Fun K "need" "need" s_need A.f_need A.d_need
  g_need : mg "need" = some (.ref A.f_need)
  b_need : Binds K A.d_need ["good"] []
  F_number_of : Fun K "number_of" "number_of" s_number_of A.f_number_of A.d_number_of
  g_number_of : mg "number_of" = some (.ref A.f_number_of)
  b_number_of : Binds K A.d_number_of ["text"] []
  F_said : Fun K "said" "said" s_said A.f_said A.d_said
  g_said : mg "said" = some (.ref A.f_said)
  b_said : Binds K A.d_said ["text"] []
  F_Desk_init : Fun K "__init__" "Desk.__init__" s_Desk_init A.f_Desk_init A.d_Desk_init
  b_Desk_init : Binds K A.d_Desk_init ["self"] []
  F_Desk_answer : Fun K "answer" "Desk.answer" s_Desk_answer A.f_Desk_answer A.d_Desk_answer
  m_Desk_answer : Meth K A.c_Desk "answer" A.f_Desk_answer
  b_Desk_answer : Binds K A.d_Desk_answer ["self", "line"] []
  F_class_of : Fun K "class_of" "class_of" s_class_of A.f_class_of A.d_class_of
  g_class_of : mg "class_of" = some (.ref A.f_class_of)
  b_class_of : Binds K A.d_class_of ["error"] []
  F_play : Fun K "play" "play" s_play A.f_play A.d_play
  g_play : mg "play" = some (.ref A.f_play)
  b_play : Binds K A.d_play ["text"] []
  F_l_cell : Fun K "_law_cell" "_law_cell" s_l_cell A.f_l_cell A.d_l_cell
  g_l_cell : mg "_law_cell" = some (.ref A.f_l_cell)
  b_l_cell : Binds K A.d_l_cell ["_law_script", "_law_k"] []
  F_l_drawn : Fun K "_law_drawn" "_law_drawn" s_l_drawn A.f_l_drawn A.d_l_drawn
  g_l_drawn : mg "_law_drawn" = some (.ref A.f_l_drawn)
  b_l_drawn : Binds K A.d_l_drawn ["_law_cell_here", "_law_k"] []
  F_l_none : Fun K "_law_none" "_law_none" s_l_none A.f_l_none A.d_l_none
  g_l_none : mg "_law_none" = some (.ref A.f_l_none)
  b_l_none : Binds K A.d_l_none [] []
  F_l_others : Fun K "_law_others" "_law_others" s_l_others A.f_l_others A.d_l_others
  g_l_others : mg "_law_others" = some (.ref A.f_l_others)
  b_l_others : Binds K A.d_l_others ["_law_is_there"] []
  F_law : Fun K "law" "law" s_law A.f_law A.d_law
  g_law : mg "law" = some (.ref A.f_law)
  b_law : Binds K A.d_law ["_law_script"] []
def spL (K : PySem.W.Frag) : Sp := fun vs H Q _ => ∃ (a : Addr) (ns : List Int), vs = [.ref a] ∧ SqL K H a (ns.map V.int) ∧ ns.length ≤ 63 ∧ ∀ H', Q (.bl true) H'
abbrev sp_law (K : PySem.W.Frag) (A : Ads) : Sp := spL K
def cell (ns : List Int) (k : Int) : Int := if ns = [] then k * 7919 else ns.getD (k % (ns.length : Int)).toNat 0 + k / (ns.length : Int) * 104729
def sp_l_cell (K : PySem.W.Frag) (A : Ads) : Sp := fun vs H Q _ => ∃ (a : Addr) (ns : List Int) (k : Int), vs = [.ref a, .int k] ∧ SqL K H a (ns.map V.int) ∧ ns.length ≤ 63 ∧ RetV (.int (cell ns k)) H Q
def drawn (c k : Int) : Int := ((c * 6364136223846793005 + (k + 1) * 1442695040888963407) % 340282366920938463463374607431768211507) * ((c * 6364136223846793005 + (k + 1) * 1442695040888963407) % 340282366920938463463374607431768211507) % 340282366920938463463374607431768211297
def sp_l_drawn (K : PySem.W.Frag) (A : Ads) : Sp := fun vs H Q _ => ∃ (c k : Int), vs = [.int c, .int k] ∧ RetV (.int (drawn c k)) H Q
theorem drawn_nn (c k : Int) : 0 ≤ drawn c k := Int.emod_nonneg _ (by decide)
theorem drawn_lt (c k : Int) : drawn c k < 340282366920938463463374607431768211297 := Int.emod_lt_of_pos _ (by decide)
theorem len_law {K : PySem.W.Frag} {vs : List V} {H : Hp} {Q : VK} {E : XK} (h : spL K vs H Q E) : vs.length = 1 := by
  obtain ⟨_, _, rfl, _⟩ := h
  rfl
theorem len_l_cell {K : PySem.W.Frag} {A : Ads} {vs : List V} {H : Hp} {Q : VK} {E : XK} (h : sp_l_cell K A vs H Q E) : vs.length = 2 := by
  obtain ⟨_, _, _, rfl, _⟩ := h
  rfl
theorem len_l_drawn {K : PySem.W.Frag} {A : Ads} {vs : List V} {H : Hp} {Q : VK} {E : XK} (h : sp_l_drawn K A vs H Q E) : vs.length = 2 := by
  obtain ⟨_, _, rfl, _⟩ := h
  rfl
def ab (i : Int) : Int := if i < 0 then -i else i
/-- the middle one of numbers, of two the nearer -/
def mid (ns : List Int) (near : Int) : Int :=
  if ((srt ns).length : Int) % 2 = 1 then (srt ns).getD (((srt ns).length : Int) / 2).toNat 0
  else if ab ((srt ns).getD (((srt ns).length : Int) / 2).toNat 0 - near) < ab ((srt ns).getD (((srt ns).length : Int) / 2 - 1).toNat 0 - near) then (srt ns).getD (((srt ns).length : Int) / 2).toNat 0
  else (srt ns).getD (((srt ns).length : Int) / 2 - 1).toNat 0
def mvd (one goal most : Int) : Int := if one < goal then (if one + most < goal then one + most else goal) else (if one - most > goal then one - most else goal)
def agr (ns : List Int) (v t : Int) : List V := Evl.given ns.length (fun i => decide (ab (ns.getD i 0 - v) ≤ t)) fun i => .int (i : Int)
def sp_middle (K : PySem.W.Frag) (A : Ads) : Sp := fun vs H Q _ => ∃ (a : Addr) (ns : List Int) (near : Int), vs = [.ref a, .int near] ∧ SqL K H a (ns.map V.int) ∧ ns ≠ [] ∧ ns.length < 64 ∧ RetV (.int (mid ns near)) H Q
theorem len_middle {K : PySem.W.Frag} {A : Ads} {vs : List V} {H : Hp} {Q : VK} {E : XK} (h : sp_middle K A vs H Q E) : vs.length = 2 := by
  obtain ⟨_, _, _, rfl, _⟩ := h
  rfl
def sp_moved (K : PySem.W.Frag) (A : Ads) : Sp := fun vs H Q _ => ∃ (one goal most : Int), vs = [.int one, .int goal, .int most] ∧ RetV (.int (mvd one goal most)) H Q
def sp_agree (K : PySem.W.Frag) (A : Ads) : Sp := fun vs H Q _ => ∃ (a : Addr) (ns : List Int) (v t : Int), vs = [.ref a, .int v, .int t] ∧ SqL K H a (ns.map V.int) ∧ ns.length ≤ 1000 ∧ RetL (agr ns v t) H Q
theorem len_moved {K : PySem.W.Frag} {A : Ads} {vs : List V} {H : Hp} {Q : VK} {E : XK} (h : sp_moved K A vs H Q E) : vs.length = 3 := by
  obtain ⟨_, _, _, rfl, _⟩ := h
  rfl
theorem len_agree {K : PySem.W.Frag} {A : Ads} {vs : List V} {H : Hp} {Q : VK} {E : XK} (h : sp_agree K A vs H Q E) : vs.length = 3 := by
  obtain ⟨_, _, _, _, rfl, _⟩ := h
  rfl
/-! ### the voter as a plain model -/
structure Vst where
  th : Int
  rate : Int
  mis : Int
  bk : Int
  last : Int
  ss : List (Bool × Int)
def vfs (v : Vst) (l : Addr) : List (Str × V) := [("threshold", .int v.th), ("rate", .int v.rate), ("misses", .int v.mis), ("backs", .int v.bk), ("sensors", .ref l), ("last", .int v.last)]
def sfs (o : Bool) (m : Int) : List (Str × V) := [("is_out", .bl o), ("many", .int m)]
abbrev S0 : Bool × Int := (false, 0)
def oV : Option Int → V
  | none => .non
  | some i => .int i
def clo (th value : Int) : Option Int → Bool
  | none => false
  | some i => decide (ab (i - value) ≤ th)
def okOne : Option Int → Bool
  | none => true
  | some i => decide (ab i ≤ 1000000000)
def okStep (vals : List (Option Int)) (many : Int) : Bool := decide ((vals.length : Int) = many) && vals.all okOne
def okSet (m t r ms b : Int) : Bool := (decide (3 ≤ m) && decide (m ≤ 9)) && ((decide (0 ≤ t) && decide (t ≤ 1000000)) && ((decide (1 ≤ r) && decide (r ≤ 1000000)) && ((decide (1 ≤ ms) && decide (ms ≤ 1000)) && (decide (1 ≤ b) && decide (b ≤ 1000)))))
def isHere (ss : List (Bool × Int)) (vals : List (Option Int)) (i : Nat) : Bool := (!(ss.getD i S0).1) && (vals.getD i none).isSome
def there (ss : List (Bool × Int)) (vals : List (Option Int)) : List Int := ((List.range ss.length).filter (isHere ss vals)).map fun i => (vals.getD i none).getD 0
def valueOf (v : Vst) (vals : List (Option Int)) : Int := if there v.ss vals = [] then v.last else mid (there v.ss vals) v.last
def wordOf (n : Nat) (th : Int) (t : List Int) (value : Int) : Str :=
  if t = [] then "lost" else if t.length = 1 then "single" else if 2 * (agr t value th).length ≤ t.length then "split" else if (agr t value th).length = n then "all" else "most"
def inN (ss : List (Bool × Int)) : Nat := (ss.filter fun s => !s.1).length
def nextW (bk : Int) (any : Bool) (s : Bool × Int) (c : Bool) : Bool × Int := if (s.2 + 1) * (if (c && any) = true then 1 else 0) = bk then (false, 0) else (true, (s.2 + 1) * (if (c && any) = true then 1 else 0))
def nextG (mis : Int) (n : Nat) (s : Bool × Int) (c : Bool) : Bool × Int := if c = true then (false, if s.2 - 1 > 0 then s.2 - 1 else 0) else if mis ≤ s.2 + 1 ∧ 1 < n then (true, 0) else (false, s.2 + 1)
def nextS (v : Vst) (any : Bool) (ss : List (Bool × Int)) (s : Bool × Int) (c : Bool) : Bool × Int := if s.1 = true then nextW v.bk any s c else nextG v.mis (inN ss) s c
def turnS (v : Vst) (any : Bool) (value : Int) (vals : List (Option Int)) (ss : List (Bool × Int)) (i : Nat) : List (Bool × Int) := ss.set i (nextS v any ss (ss.getD i S0) (clo v.th value (vals.getD i none)))
def turns (v : Vst) (any : Bool) (value : Int) (vals : List (Option Int)) (n : Nat) : List (Bool × Int) := (List.range n).foldl (turnS v any value vals) v.ss
def anyHere (v : Vst) (vals : List (Option Int)) : Bool := !decide (there v.ss vals = [])
def stepS (v : Vst) (vals : List (Option Int)) : List (Bool × Int) := turns v (anyHere v vals) (valueOf v vals) vals v.ss.length
def stepV (v : Vst) (vals : List (Option Int)) : Vst := { v with last := mvd v.last (valueOf v vals) v.rate, ss := stepS v vals }
def stepW (v : Vst) (vals : List (Option Int)) : Str := wordOf v.ss.length v.th (there v.ss vals) (valueOf v vals)
def stateW (s : Bool × Int) : Str := if s.1 = true then "out" else if s.2 = 0 then "good" else "suspect"
def freshV (m t r ms b start : Int) : Vst := ⟨t, r, ms, b, start, List.replicate m.toNat S0⟩
/-- at p a voter stands, its sensors at as, their list at l -/
structure VAt (A : Ads) (H : Hp) (p l : Addr) (as : List Addr) (v : Vst) : Prop where
  own : ∃ dx, H p = some (.ins A.c_Voter dx (vfs v l))
  lst : H l = some (.lst (as.map V.ref))
  len : as.length = v.ss.length
  small : as.length ≤ 9
  nd : as.Nodup
  np : p ∉ as
  sens : ∀ i s, as[i]? = some s → ∃ dy, H s = some (.ins A.c_Sensor dy (sfs (v.ss.getD i S0).1 (v.ss.getD i S0).2))
/-! ### promises -/
def sp_need_settings (K : PySem.W.Frag) (A : Ads) : Sp := fun vs H Q E => ∃ (a : Addr) (m t r ms b : Int), vs = [.ref a] ∧ SqT K H a [.int m, .int t, .int r, .int ms, .int b] ∧
  (okSet m t r ms b = true → RetV .non H Q) ∧ (okSet m t r ms b = false → ∀ H', Ex H H' → E (.ref A.c_BadSettings) none H')
def sp_need_step (K : PySem.W.Frag) (A : Ads) : Sp := fun vs H Q E => ∃ (a : Addr) (vals : List (Option Int)) (many : Int), vs = [.ref a, .int many] ∧ SqL K H a (vals.map oV) ∧ vals.length ≤ 40000 ∧
  (okStep vals many = true → RetV .non H Q) ∧ (okStep vals many = false → ∀ H', Ex H H' → E (.ref A.c_BadStep) none H')
def sp_Sensor_init (K : PySem.W.Frag) (A : Ads) : Sp := fun vs H Q _ => ∃ (x dx : Addr), vs = [.ref x] ∧ H x = some (.ins A.c_Sensor dx []) ∧ ∀ H', But x H H' → H' x = some (.ins A.c_Sensor dx (sfs false 0)) → Q .non H'
def sp_Voter_init (K : PySem.W.Frag) (A : Ads) : Sp := fun vs H Q E => ∃ (p dx a : Addr) (m t r ms b start : Int), vs = [.ref p, .ref a, .int start] ∧ H p = some (.ins A.c_Voter dx []) ∧ SqT K H a [.int m, .int t, .int r, .int ms, .int b] ∧
  (okSet m t r ms b = true → ∀ (H' : Hp) (l : Addr) (as : List Addr), But p H H' → (∀ s ∈ as, H s = none) → H l = none → VAt A H' p l as (freshV m t r ms b start) → Q .non H') ∧ (okSet m t r ms b = false → ∀ H', Ex H H' → E (.ref A.c_BadSettings) none H')
def sp_Voter_given (K : PySem.W.Frag) (A : Ads) : Sp := fun vs H Q _ => ∃ (p l : Addr) (as : List Addr) (v : Vst), vs = [.ref p] ∧ VAt A H p l as v ∧ RetV (.int v.last) H Q
def sp_Voter_sensor (K : PySem.W.Frag) (A : Ads) : Sp := fun vs H Q E => ∃ (p l : Addr) (as : List Addr) (v : Vst) (i : Int), vs = [.ref p, .int i] ∧ VAt A H p l as v ∧
  (∀ s, 0 ≤ i → as[i.toNat]? = some s → RetV (.ref s) H Q) ∧ (¬ (0 ≤ i ∧ i < (as.length : Int)) → ∀ H', Ex H H' → E (.ref A.c_NoSensor) none H')
def sp_Voter_state (K : PySem.W.Frag) (A : Ads) : Sp := fun vs H Q E => ∃ (p l : Addr) (as : List Addr) (v : Vst) (i : Int), vs = [.ref p, .int i] ∧ VAt A H p l as v ∧
  (0 ≤ i ∧ i < (as.length : Int) → RetV (.str (stateW (v.ss.getD i.toNat S0))) H Q) ∧ (¬ (0 ≤ i ∧ i < (as.length : Int)) → ∀ H', Ex H H' → E (.ref A.c_NoSensor) none H')
def sp_Voter_count (K : PySem.W.Frag) (A : Ads) : Sp := fun vs H Q E => ∃ (p l : Addr) (as : List Addr) (v : Vst) (i : Int), vs = [.ref p, .int i] ∧ VAt A H p l as v ∧
  (0 ≤ i ∧ i < (as.length : Int) → RetV (.int (v.ss.getD i.toNat S0).2) H Q) ∧ (¬ (0 ≤ i ∧ i < (as.length : Int)) → ∀ H', Ex H H' → E (.ref A.c_NoSensor) none H')
def sp_Voter_word (K : PySem.W.Frag) (A : Ads) : Sp := fun vs H Q _ => ∃ (p l : Addr) (as : List Addr) (v : Vst) (a : Addr) (t : List Int) (value : Int), vs = [.ref p, .ref a, .int value] ∧ VAt A H p l as v ∧ SqL K H a (t.map V.int) ∧ t.length ≤ 100 ∧ RetV (.str (wordOf as.length v.th t value)) H Q
def sp_Voter_is_close (K : PySem.W.Frag) (A : Ads) : Sp := fun vs H Q _ => ∃ (p l : Addr) (as : List Addr) (v : Vst) (x : Option Int) (value : Int), vs = [.ref p, oV x, .int value] ∧ VAt A H p l as v ∧ RetV (.bl (clo v.th value x)) H Q
def sp_Voter_watch (K : PySem.W.Frag) (A : Ads) : Sp := fun vs H Q _ => ∃ (p l : Addr) (as : List Addr) (v : Vst) (s : Addr) (i : Nat) (c : Bool), vs = [.ref p, .ref s, .bl c] ∧ VAt A H p l as v ∧ as[i]? = some s ∧ (v.ss.getD i S0).1 = false ∧
  ∀ H', But s H H' → VAt A H' p l as { v with ss := v.ss.set i (nextG v.mis (inN v.ss) (v.ss.getD i S0) c) } → Q .non H'
def sp_Voter_wait (K : PySem.W.Frag) (A : Ads) : Sp := fun vs H Q _ => ∃ (p l : Addr) (as : List Addr) (v : Vst) (s : Addr) (i : Nat) (c : Bool), vs = [.ref p, .ref s, .bl c] ∧ VAt A H p l as v ∧ as[i]? = some s ∧ (v.ss.getD i S0).1 = true ∧
  ∀ H', But s H H' → VAt A H' p l as { v with ss := v.ss.set i (nextW v.bk true (v.ss.getD i S0) c) } → Q .non H'
def sp_Voter_step (K : PySem.W.Frag) (A : Ads) : Sp := fun vs H Q E => ∃ (p l : Addr) (as : List Addr) (v : Vst) (a : Addr) (vals : List (Option Int)), vs = [.ref p, .ref a] ∧ VAt A H p l as v ∧ SqL K H a (vals.map oV) ∧ vals.length ≤ 40000 ∧ a ∉ p :: as ∧
  (okStep vals as.length = true → ∀ (H' : Hp) (q : Addr), Buts (p :: as) H H' → H q = none → H' q = some (.tup [.int (stepV v vals).last, .str (stepW v vals)]) → VAt A H' p l as (stepV v vals) → Q (.ref q) H') ∧
  (okStep vals as.length = false → ∀ H', Ex H H' → E (.ref A.c_BadStep) none H')
section
variable {K : PySem.W.Frag} {A : Ads} {vs : List V} {H : Hp} {Q : VK} {E : XK}
theorem len_need_settings (h : sp_need_settings K A vs H Q E) : vs.length = 1 := by obtain ⟨_, _, _, _, _, _, rfl, _⟩ := h; rfl
theorem len_need_step (h : sp_need_step K A vs H Q E) : vs.length = 2 := by obtain ⟨_, _, _, rfl, _⟩ := h; rfl
theorem len_Sensor_init (h : sp_Sensor_init K A vs H Q E) : vs.length = 1 := by obtain ⟨_, _, rfl, _⟩ := h; rfl
theorem len_Voter_init (h : sp_Voter_init K A vs H Q E) : vs.length = 3 := by obtain ⟨_, _, _, _, _, _, _, _, _, rfl, _⟩ := h; rfl
theorem len_Voter_given (h : sp_Voter_given K A vs H Q E) : vs.length = 1 := by obtain ⟨_, _, _, _, rfl, _⟩ := h; rfl
theorem len_Voter_sensor (h : sp_Voter_sensor K A vs H Q E) : vs.length = 2 := by obtain ⟨_, _, _, _, _, rfl, _⟩ := h; rfl
theorem len_Voter_state (h : sp_Voter_state K A vs H Q E) : vs.length = 2 := by obtain ⟨_, _, _, _, _, rfl, _⟩ := h; rfl
theorem len_Voter_count (h : sp_Voter_count K A vs H Q E) : vs.length = 2 := by obtain ⟨_, _, _, _, _, rfl, _⟩ := h; rfl
theorem len_Voter_word (h : sp_Voter_word K A vs H Q E) : vs.length = 3 := by obtain ⟨_, _, _, _, _, _, _, rfl, _⟩ := h; rfl
theorem len_Voter_is_close (h : sp_Voter_is_close K A vs H Q E) : vs.length = 3 := by obtain ⟨_, _, _, _, _, _, rfl, _⟩ := h; rfl
theorem len_Voter_watch (h : sp_Voter_watch K A vs H Q E) : vs.length = 3 := by obtain ⟨_, _, _, _, _, _, _, rfl, _⟩ := h; rfl
theorem len_Voter_wait (h : sp_Voter_wait K A vs H Q E) : vs.length = 3 := by obtain ⟨_, _, _, _, _, _, _, rfl, _⟩ := h; rfl
theorem len_Voter_step (h : sp_Voter_step K A vs H Q E) : vs.length = 2 := by obtain ⟨_, _, _, _, _, _, rfl, _⟩ := h; rfl
end
theorem sc_middle : FnScope ["numbers", "near", "row", "half"] ["numbers", "near"] (defScope s_middle) := ⟨rfl, rfl, rfl, by decide +kernel, rfl, by decide +kernel, by decide +kernel⟩
def t_middle (K : PySem.W.Frag) (A : Ads) (E : XK) : TS :=
      (tSeq (tAsg (tCB (rSorted K) (tCons (tVar 0) tNil)) (gName 2))
      (tSeq (tAsg (tOp oDivW (tCB (rLenS K) (tCons (tVar 2) tNil)) (tC (.int 2))) (gName 3))
      (tSeq (tIfS (tTest (tOp rEq (tOp oMod (tCB (rLenS K) (tCons (tVar 2) tNil)) (tC (.int 2))) (tC (.int 1)))) (tRet (tOp (rIxL K) (tVar 2) (tVar 3))) tNext)
      (tSeq (tIfS (tTest (tOp oLt (tCB rAbs (tCons (tOp oSub (tOp (rIxL K) (tVar 2) (tVar 3)) (tVar 1)) tNil)) (tCB rAbs (tCons (tOp oSub (tOp (rIxL K) (tVar 2) (tOp oSub (tVar 3) (tC (.int 1)))) (tVar 1)) tNil)))) (tRet (tOp (rIxL K) (tVar 2) (tVar 3))) tNext)
      (tRet (tOp (rIxL K) (tVar 2) (tOp oSub (tVar 3) (tC (.int 1)))))))))
theorem sc_moved : FnScope ["one", "goal", "most"] ["one", "goal", "most"] (defScope s_moved) := ⟨rfl, rfl, rfl, by decide +kernel, rfl, by decide +kernel, by decide +kernel⟩
def t_moved (K : PySem.W.Frag) (A : Ads) (E : XK) : TS :=
      (tSeq (tIfS (tTest (tOp oGt (tVar 1) (tVar 0))) (tRet (tCB rMin2 (tCons (tVar 1) (tCons (tOp oAdd (tVar 0) (tVar 2)) tNil)))) tNext)
      (tRet (tCB rMax2 (tCons (tVar 1) (tCons (tOp oSub (tVar 0) (tVar 2)) tNil)))))
theorem sc_agree : FnScope ["numbers", "value", "threshold", "place", "number"] ["numbers", "value", "threshold"] (defScope s_agree) := ⟨rfl, rfl, rfl, by decide +kernel, rfl, by decide +kernel, by decide +kernel⟩
def t_agree (K : PySem.W.Frag) (A : Ads) (E : XK) : TS :=
      (tRet (tLc (iEnum K (tCons (tVar 0) tNil)) (gTup K 2 (gCons (gName 3) (gCons (gName 4) gNil))) (tTest (tOp oLe (tCB rAbs (tCons (tOp oSub (tVar 4) (tVar 1)) tNil)) (tVar 2))) (tVar 3) [3, 4]))
theorem sc_need_settings : FnScope ["settings", "many", "threshold", "rate", "misses", "backs"] ["settings"] (defScope s_need_settings) := ⟨rfl, rfl, rfl, by decide +kernel, rfl, by decide +kernel, by decide +kernel⟩
def t_need_settings (K : PySem.W.Frag) (A : Ads) (E : XK) : TS :=
      (tSeq (tAsg (tVar 0) (gTup K 5 (gCons (gName 1) (gCons (gName 2) (gCons (gName 3) (gCons (gName 4) (gCons (gName 5) gNil)))))))
      (tSeq (tIfS (tOr (tNot (tTest (tChain oLe oLe (tC (.int 3)) (tVar 1) (tC (.int 9))))) (tOr (tNot (tTest (tChain oLe oLe (tC (.int 0)) (tVar 2) (tC (.int 1000000))))) (tNot (tTest (tChain oLe oLe (tC (.int 1)) (tVar 3) (tC (.int 1000000))))))) (tRaise E (.ref A.c_BadSettings)) tNext)
      (tIfS (tOr (tNot (tTest (tChain oLe oLe (tC (.int 1)) (tVar 4) (tC (.int 1000))))) (tNot (tTest (tChain oLe oLe (tC (.int 1)) (tVar 5) (tC (.int 1000)))))) (tRaise E (.ref A.c_BadSettings)) tNext)))
theorem sc_need_step : FnScope ["values", "many", "value"] ["values", "many"] (defScope s_need_step) := ⟨rfl, rfl, rfl, by decide +kernel, rfl, by decide +kernel, by decide +kernel⟩
def t_need_step (K : PySem.W.Frag) (A : Ads) (E : XK) : TS :=
      (tSeq (tIfS (tTest (tOp rNe (tCB (rLenS K) (tCons (tVar 0) tNil)) (tVar 1))) (tRaise E (.ref A.c_BadStep)) tNext)
      (tIfS (tNot (tB (tCB (rAll K) (tCons (tLc (iList K (tVar 0)) (gName 2) (tTest (tOp oNotN (tVar 2) (tC .non))) (tOp oLe (tCB rAbs (tCons (tVar 2) tNil)) (tC (.int 1000000000))) [2]) tNil)))) (tRaise E (.ref A.c_BadStep)) tNext))
theorem sc_Sensor_init : FnScope ["self"] ["self"] (defScope s_Sensor_init) := ⟨rfl, rfl, rfl, by decide +kernel, rfl, by decide +kernel, by decide +kernel⟩
def t_Sensor_init (K : PySem.W.Frag) (A : Ads) (E : XK) : TS :=
      (tSeq (sFld K (tVar 0) (tC (.bl false)) "is_out")
      (sFld K (tVar 0) (tC (.int 0)) "many"))
theorem sc_Voter_init : FnScope ["self", "settings", "start", "many", "threshold", "rate", "misses", "backs", "k"] ["self", "settings", "start"] (defScope s_Voter_init) := ⟨rfl, rfl, rfl, by decide +kernel, rfl, by decide +kernel, by decide +kernel⟩
def t_Voter_init (K : PySem.W.Frag) (A : Ads) (E : XK) : TS :=
      (tSeq (tDrop (tCall (sp_need_settings K A) [] E (tCons (tVar 1) tNil)))
      (tSeq (tAsg (tVar 1) (gTup K 5 (gCons (gName 3) (gCons (gName 4) (gCons (gName 5) (gCons (gName 6) (gCons (gName 7) gNil)))))))
      (tSeq (sFld K (tVar 0) (tVar 4) "threshold")
      (tSeq (sFld K (tVar 0) (tVar 5) "rate")
      (tSeq (sFld K (tVar 0) (tVar 6) "misses")
      (tSeq (sFld K (tVar 0) (tVar 7) "backs")
      (tSeq (sFld K (tVar 0) (tLc (iRng1 (tCons (tVar 3) tNil)) (gName 8) tYes (tMake A.c_Sensor (sp_Sensor_init K A) [] E0 tNil) [8]) "sensors")
      (sFld K (tVar 0) (tVar 2) "last"))))))))
theorem sc_Voter_given : FnScope ["self"] ["self"] (defScope s_Voter_given) := ⟨rfl, rfl, rfl, by decide +kernel, rfl, by decide +kernel, by decide +kernel⟩
def t_Voter_given (K : PySem.W.Frag) (A : Ads) (E : XK) : TS :=
      (tRet (tFld K (tVar 0) "last"))
theorem sc_Voter_sensor : FnScope ["self", "place"] ["self", "place"] (defScope s_Voter_sensor) := ⟨rfl, rfl, rfl, by decide +kernel, rfl, by decide +kernel, by decide +kernel⟩
def t_Voter_sensor (K : PySem.W.Frag) (A : Ads) (E : XK) : TS :=
      (tSeq (tIfS (tNot (tTest (tChain oLe oLt (tC (.int 0)) (tVar 1) (tCB (rLenS K) (tCons (tFld K (tVar 0) "sensors") tNil))))) (tRaise E (.ref A.c_NoSensor)) tNext)
      (tRet (tOp (rIxL K) (tFld K (tVar 0) "sensors") (tVar 1))))
theorem sc_Voter_state : FnScope ["self", "place", "one"] ["self", "place"] (defScope s_Voter_state) := ⟨rfl, rfl, rfl, by decide +kernel, rfl, by decide +kernel, by decide +kernel⟩
def t_Voter_state (K : PySem.W.Frag) (A : Ads) (E : XK) : TS :=
      (tSeq (tAsg (tMeth A.c_Voter "sensor" (sp_Voter_sensor K A) [] E (tVar 0) (tCons (tVar 1) tNil)) (gName 2))
      (tSeq (tIfS (tB (tFld K (tVar 2) "is_out")) (tRet (tC (.str "out"))) tNext)
      (tRet (tIf (tTest (tOp rEq (tFld K (tVar 2) "many") (tC (.int 0)))) (tC (.str "good")) (tC (.str "suspect"))))))
theorem sc_Voter_count : FnScope ["self", "place"] ["self", "place"] (defScope s_Voter_count) := ⟨rfl, rfl, rfl, by decide +kernel, rfl, by decide +kernel, by decide +kernel⟩
def t_Voter_count (K : PySem.W.Frag) (A : Ads) (E : XK) : TS :=
      (tRet (tFld K (tMeth A.c_Voter "sensor" (sp_Voter_sensor K A) [] E (tVar 0) (tCons (tVar 1) tNil)) "many"))
theorem sc_Voter_word : FnScope ["self", "numbers", "value", "close"] ["self", "numbers", "value"] (defScope s_Voter_word) := ⟨rfl, rfl, rfl, by decide +kernel, rfl, by decide +kernel, by decide +kernel⟩
def t_Voter_word (K : PySem.W.Frag) (A : Ads) (E : XK) : TS :=
      (tSeq (tIfS (tTest (tOp (rEqD K) (tVar 1) (tLst tNil))) (tRet (tC (.str "lost"))) tNext)
      (tSeq (tIfS (tTest (tOp rEq (tCB (rLenS K) (tCons (tVar 1) tNil)) (tC (.int 1)))) (tRet (tC (.str "single"))) tNext)
      (tSeq (tAsg (tCB (rLenS K) (tCons (tCall (sp_agree K A) [] E0 (tCons (tVar 1) (tCons (tVar 2) (tCons (tFld K (tVar 0) "threshold") tNil)))) tNil)) (gName 3))
      (tSeq (tIfS (tTest (tOp oLe (tOp oMul (tC (.int 2)) (tVar 3)) (tCB (rLenS K) (tCons (tVar 1) tNil)))) (tRet (tC (.str "split"))) tNext)
      (tRet (tIf (tTest (tOp rEq (tVar 3) (tCB (rLenS K) (tCons (tFld K (tVar 0) "sensors") tNil)))) (tC (.str "all")) (tC (.str "most"))))))))
theorem sc_Voter_is_close : FnScope ["self", "thing", "value"] ["self", "thing", "value"] (defScope s_Voter_is_close) := ⟨rfl, rfl, rfl, by decide +kernel, rfl, by decide +kernel, by decide +kernel⟩
def t_Voter_is_close (K : PySem.W.Frag) (A : Ads) (E : XK) : TS :=
      (tRet (tAndV (tOp oNotN (tVar 1) (tC .non)) (tOp oLe (tCB rAbs (tCons (tOp oSub (tVar 1) (tVar 2)) tNil)) (tFld K (tVar 0) "threshold"))))
theorem sc_Voter_watch : FnScope ["self", "one", "is_close", "others", "other"] ["self", "one", "is_close"] (defScope s_Voter_watch) := ⟨rfl, rfl, rfl, by decide +kernel, rfl, by decide +kernel, by decide +kernel⟩
def t_Voter_watch (K : PySem.W.Frag) (A : Ads) (E : XK) : TS :=
      (tSeq (tIfS (tB (tVar 2)) (tSeq (sFld K (tVar 1) (tCB rMax2 (tCons (tC (.int 0)) (tCons (tOp oSub (tFld K (tVar 1) "many") (tC (.int 1))) tNil))) "many")
      tRetN) tNext)
      (tSeq (sFld K (tVar 1) (tOp oAdd (tFld K (tVar 1) "many") (tC (.int 1))) "many")
      (tSeq (tAsg (tLc (iList K (tFld K (tVar 0) "sensors")) (gName 4) (tNot (tB (tFld K (tVar 4) "is_out"))) (tVar 4) [4]) (gName 3))
      (tIfS (tAnd (tTest (tOp oGe (tFld K (tVar 1) "many") (tFld K (tVar 0) "misses"))) (tTest (tOp oGt (tCB (rLenS K) (tCons (tVar 3) tNil)) (tC (.int 1))))) (tSeq (sFld K (tVar 1) (tC (.bl true)) "is_out")
      (sFld K (tVar 1) (tC (.int 0)) "many")) tNext))))
theorem sc_Voter_wait : FnScope ["self", "one", "is_close"] ["self", "one", "is_close"] (defScope s_Voter_wait) := ⟨rfl, rfl, rfl, by decide +kernel, rfl, by decide +kernel, by decide +kernel⟩
def t_Voter_wait (K : PySem.W.Frag) (A : Ads) (E : XK) : TS :=
      (tSeq (sFld K (tVar 1) (tOp oMul (tOp oAdd (tFld K (tVar 1) "many") (tC (.int 1))) (tCB rInt1 (tCons (tVar 2) tNil))) "many")
      (tIfS (tTest (tOp rEq (tFld K (tVar 1) "many") (tFld K (tVar 0) "backs"))) (tSeq (sFld K (tVar 1) (tC (.bl false)) "is_out")
      (sFld K (tVar 1) (tC (.int 0)) "many")) tNext))
theorem sc_Voter_step : FnScope ["self", "values", "numbers", "place", "one", "value", "word", "is_close"] ["self", "values"] (defScope s_Voter_step) := ⟨rfl, rfl, rfl, by decide +kernel, rfl, by decide +kernel, by decide +kernel⟩
def t_Voter_step (K : PySem.W.Frag) (A : Ads) (E : XK) : TS :=
      (tSeq (tDrop (tCall (sp_need_step K A) [] E (tCons (tVar 1) (tCons (tCB (rLenS K) (tCons (tFld K (tVar 0) "sensors") tNil)) tNil))))
      (tSeq (tAsg (tLc (iEnum K (tCons (tFld K (tVar 0) "sensors") tNil)) (gTup K 2 (gCons (gName 3) (gCons (gName 4) gNil))) (tAnd (tNot (tB (tFld K (tVar 4) "is_out"))) (tTest (tOp oNotN (tOp (rIxL K) (tVar 1) (tVar 3)) (tC .non)))) (tOp (rIxL K) (tVar 1) (tVar 3)) [3, 4]) (gName 2))
      (tSeq (tAsg (tFld K (tVar 0) "last") (gName 5))
      (tSeq (tIfS (tTest (tOp (rNeD K) (tVar 2) (tLst tNil))) (tAsg (tCall (sp_middle K A) [] E0 (tCons (tVar 2) (tCons (tFld K (tVar 0) "last") tNil))) (gName 5)) tNext)
      (tSeq (tAsg (tMeth A.c_Voter "word" (sp_Voter_word K A) [] E0 (tVar 0) (tCons (tVar 2) (tCons (tVar 5) tNil))) (gName 6))
      (tSeq (tFor (iEnum K (tCons (tFld K (tVar 0) "sensors") tNil)) (gTup K 2 (gCons (gName 3) (gCons (gName 4) gNil))) (tSeq (tAsg (tMeth A.c_Voter "is_close" (sp_Voter_is_close K A) [] E0 (tVar 0) (tCons (tOp (rIxL K) (tVar 1) (tVar 3)) (tCons (tVar 5) tNil))) (gName 7))
      (tIfS (tB (tFld K (tVar 4) "is_out")) (tDrop (tMeth A.c_Voter "wait" (sp_Voter_wait K A) [] E0 (tVar 0) (tCons (tVar 4) (tCons (tAndV (tVar 7) (tOp (rNeD K) (tVar 2) (tLst tNil))) tNil)))) (tDrop (tMeth A.c_Voter "watch" (sp_Voter_watch K A) [] E0 (tVar 0) (tCons (tVar 4) (tCons (tVar 7) tNil)))))))
      (tSeq (sFld K (tVar 0) (tCall (sp_moved K A) [] E0 (tCons (tFld K (tVar 0) "last") (tCons (tVar 5) (tCons (tFld K (tVar 0) "rate") tNil)))) "last")
      (tRet (tTup (tCons (tFld K (tVar 0) "last") (tCons (tVar 6) tNil)))))))))))
end MV
namespace MV
open PySem PySem.Spec PyProof.Rows L2 Evl
section
variable {K : PySem.W.Frag} {mg : Str → Option Value} {A : Ads}
theorem pure_middle (T : Txt K mg A) (vs : List V) (H : Hp) (Q : VK) (E : XK) (h : sp_middle K A vs H Q E) : t_middle K A E { nx := fun _ H' => Q .non H', rt := Q } (start ["numbers", "near", "row", "half"] vs) H := by
  obtain ⟨a, ns, near, rfl, hS, hne, hl, q⟩ := h
  show t_middle K A E _ [some (.ref a), some (.int near), none, none] H
  have hp : 0 < (srt ns).length := by rw [srt_len]; exact List.length_pos_iff.mpr hne
  refine q_asgL (el_cb (by walk_at "ev") (rcl_sorted hS hl)) fun p H1 np e1 h1 => ?_
  have hS1 : SqL K H1 p ((srt ns).map V.int) := sq_of h1
  have hm : (((srt ns).map V.int).length : Int) = ((srt ns).length : Int) := by rw [List.length_map]
  refine q_asg (v := .int (((srt ns).length : Int) / 2)) ?_ fun H2 e2 => ?_
  · rw [← hm]
    walk_at "ev"
  have hS2 := ex_l e2 hS1
  refine q_when (b := decide (((srt ns).length : Int) % 2 = 1)) ?_ (fun hb H3 e3 => ?_) (fun hb H3 e3 => ?_)
  · rw [← hm]
    walk_at "ev"
  · have hb1 : ((srt ns).length : Int) % 2 = 1 := by simpa using hb
    refine s_ret (v := .int (mid ns near)) ?_ fun H4 e4 => q H4 (((e1.trans e2).trans e3).trans e4)
    have e : mid ns near = (srt ns).getD (((srt ns).length : Int) / 2).toNat 0 := by unfold mid; rw [if_pos hb1]
    rw [e]
    have hS3 := ex_l e3 hS2
    walk_at "ev"
  · have hb1 : ¬ ((srt ns).length : Int) % 2 = 1 := by simpa using hb
    have hS3 := ex_l e3 hS2
    refine q_when (b := decide (ab ((srt ns).getD (((srt ns).length : Int) / 2).toNat 0 - near) < ab ((srt ns).getD (((srt ns).length : Int) / 2 - 1).toNat 0 - near))) ?_ (fun hc H4 e4 => ?_) (fun hc H4 e4 => ?_)
    · unfold ab
      walk_at "ev"
    · have hc1 := of_decide_eq_true hc
      have hS4 := ex_l e4 hS3
      refine s_ret (v := .int (mid ns near)) ?_ fun H5 e5 => q H5 ((((e1.trans e2).trans e3).trans e4).trans e5)
      have e : mid ns near = (srt ns).getD (((srt ns).length : Int) / 2).toNat 0 := by unfold mid; rw [if_neg hb1, if_pos hc1]
      rw [e]
      walk_at "ev"
    · have hc1 := of_decide_eq_false hc
      have hS4 := ex_l e4 hS3
      refine s_ret (v := .int (mid ns near)) ?_ fun H5 e5 => q H5 ((((e1.trans e2).trans e3).trans e4).trans e5)
      have e : mid ns near = (srt ns).getD (((srt ns).length : Int) / 2 - 1).toNat 0 := by unfold mid; rw [if_neg hb1, if_neg hc1]
      rw [e]
      walk_at "ev"
end
end MV
namespace MV
open PySem PySem.Spec PyProof.Rows L2 Evl
theorem spv_middle {K : PySem.W.Frag} {A : Ads} {H : Hp} {a : Addr} {ns : List Int} {near : Int} (hS : SqL K H a (ns.map V.int)) (hn : ns ≠ []) (hl : ns.length < 64) : SpV (sp_middle K A) [.ref a, .int near] H (.int (mid ns near)) := fun H1 e Q q E => ⟨a, ns, near, rfl, ex_l e hS, hn, hl, q⟩
end MV
namespace MV
open PySem PySem.Spec PyProof.Rows L2 Evl
section
variable {K : PySem.W.Frag} {mg : Str → Option Value} {A : Ads}
theorem pure_moved (T : Txt K mg A) (vs : List V) (H : Hp) (Q : VK) (E : XK) (h : sp_moved K A vs H Q E) : t_moved K A E { nx := fun _ H' => Q .non H', rt := Q } (start ["one", "goal", "most"] vs) H := by
  obtain ⟨one, goal, most, rfl, q⟩ := h
  show t_moved K A E _ [some (.int one), some (.int goal), some (.int most)] H
  refine q_when (b := decide (one < goal)) (by walk_at "ev") (fun hb H1 e1 => ?_) (fun hb H1 e1 => ?_)
  · have e : mvd one goal most = if one + most < goal then one + most else goal := by unfold mvd; rw [if_pos (of_decide_eq_true hb)]
    refine s_ret (v := .int (mvd one goal most)) ?_ fun H2 e2 => q H2 (e1.trans e2)
    rw [e]
    walk_at "ev"
  · have e : mvd one goal most = if one - most > goal then one - most else goal := by unfold mvd; rw [if_neg (of_decide_eq_false hb)]
    refine s_ret (v := .int (mvd one goal most)) ?_ fun H2 e2 => q H2 (e1.trans e2)
    rw [e]
    walk_at "ev"
theorem pure_agree (T : Txt K mg A) (vs : List V) (H : Hp) (Q : VK) (E : XK) (h : sp_agree K A vs H Q E) : t_agree K A E { nx := fun _ H' => Q .non H', rt := Q } (start ["numbers", "value", "threshold", "place", "number"] vs) H := by
  obtain ⟨a, ns, v, t, rfl, hS, hl, q⟩ := h
  show t_agree K A E _ [some (.ref a), some (.int v), some (.int t), none, none] H
  have hm : (ns.map V.int).length = ns.length := List.length_map ..
  refine s_retL (xs := agr ns v t) (el_is (el_lcE (xs := ns.map V.int) (fun i => decide (ab (ns.getD i 0 - v) ≤ t)) (fun i => .int (i : Int)) (by walk_at "ev") hS (by omega) rfl (fun _ _ => rfl) (fun i x H1 e1 hx => ?_) (fun i x H1 e1 hx _ => ?_)) ?_) q
  · rw [List.getElem?_map] at hx
    have e : x = .int (ns.getD i 0) := by
      rw [List.getD_eq_getElem?_getD]
      cases hn : ns[i]? with
      | none => rw [hn] at hx; cases hx
      | some n => rw [hn] at hx; exact (Option.some.inj hx).symm
    subst e
    unfold ab
    walk_at "ev"
  · walk_at "ev"
  · unfold agr
    rw [hm]
end
end MV
namespace MV
open PySem PySem.Spec PyProof.Rows L2 Evl
theorem spv_moved {K : PySem.W.Frag} {A : Ads} {H : Hp} {one goal most : Int} : SpV (sp_moved K A) [.int one, .int goal, .int most] H (.int (mvd one goal most)) := fun H1 e Q q E => ⟨one, goal, most, rfl, q⟩
theorem spl_agree {K : PySem.W.Frag} {A : Ads} {H : Hp} {a : Addr} {ns : List Int} {v t : Int} (hS : SqL K H a (ns.map V.int)) (hl : ns.length ≤ 1000) : SpL (sp_agree K A) [.ref a, .int v, .int t] H (agr ns v t) := fun H1 e Q q E => ⟨a, ns, v, t, rfl, ex_l e hS, hl, q⟩
end MV
namespace MV
open PySem PySem.Spec PyProof.Rows L2 Evl
section
variable {K : PySem.W.Frag} {mg : Str → Option Value} {A : Ads} {H H' : Hp} {p l s a : Addr} {as : List Addr} {v : Vst} {σ : L2.St} {ta : TE} {i : Nat}
theorem VAt.ext (h : VAt A H p l as v) (e : Ex H H') : VAt A H' p l as v := by
  obtain ⟨⟨dx, h1⟩, h2, h3, h4, h5, h6, h7⟩ := h
  exact ⟨⟨dx, e _ _ h1⟩, e _ _ h2, h3, h4, h5, h6, fun i s hs => let ⟨dy, q⟩ := h7 i s hs; ⟨dy, e _ _ q⟩⟩
/-- what else is kept keeps the voter -/
theorem VAt.buts {fp : List Addr} (h : VAt A H p l as v) (e : Buts fp H H') (h1 : p ∉ fp) (h2 : l ∉ fp) (h3 : ∀ s ∈ as, s ∉ fp) : VAt A H' p l as v := by
  obtain ⟨⟨dx, q1⟩, q2, q3, q4, q5, q6, q7⟩ := h
  exact ⟨⟨dx, e _ _ h1 q1⟩, e _ _ h2 q2, q3, q4, q5, q6, fun i s hs => let ⟨dy, q⟩ := q7 i s hs; ⟨dy, e _ _ (h3 s (List.mem_of_getElem? hs)) q⟩⟩
theorem VAt.seq (h : VAt A H p l as v) : SqL K H l (as.map V.ref) := sq_of h.lst
theorem VAt.nl (h : VAt A H p l as v) (hs : as[i]? = some s) : l ≠ s := by
  obtain ⟨dy, q⟩ := h.sens i s hs
  exact ne_of h.lst q (by intro z; cases z)
theorem VAt.nlp (h : VAt A H p l as v) : l ≠ p := by
  obtain ⟨dy, q⟩ := h.own
  exact ne_of h.lst q (by intro z; cases z)
/-- what holds another thing than an instance is none of the voter's -/
theorem VAt.free_lst (h : VAt A H p l as v) {xs : List V} (ha : H a = some (.lst xs)) : a ∉ p :: as := by
  intro z
  rcases List.mem_cons.mp z with z | z
  · obtain ⟨dx, q⟩ := h.own
    rw [z, q] at ha
    cases ha
  · obtain ⟨j, hj, e⟩ := List.mem_iff_getElem.mp z
    obtain ⟨dy, q⟩ := h.sens j a (by rw [List.getElem?_eq_getElem hj, e])
    rw [q] at ha
    cases ha
theorem VAt.new (h : VAt A H p l as v) (ha : H a = none) : a ∉ p :: as := by
  intro z
  rcases List.mem_cons.mp z with z | z
  · obtain ⟨dx, q⟩ := h.own
    rw [z, q] at ha
    cases ha
  · obtain ⟨j, hj, e⟩ := List.mem_iff_getElem.mp z
    obtain ⟨dy, q⟩ := h.sens j a (by rw [List.getElem?_eq_getElem hj, e])
    rw [q] at ha
    cases ha
/-- a sensor is stored -/
theorem VAt.set {dy : Addr} {o : Bool} {m : Int} (h : VAt A H p l as v) (hs : as[i]? = some s) : VAt A (upd H s (.ins A.c_Sensor dy (sfs o m))) p l as { v with ss := v.ss.set i (o, m) } := by
  have hm : s ∈ as := List.mem_of_getElem? hs
  have nps : p ≠ s := fun z => h.np (z ▸ hm)
  have hi : i < as.length := (List.getElem?_eq_some_iff.mp hs).1
  obtain ⟨dx, q1⟩ := h.own
  refine ⟨⟨dx, by rw [upd_ne nps]; exact q1⟩, by rw [upd_ne (h.nl hs)]; exact h.lst, by rw [List.length_set]; exact h.len, h.small, h.nd, h.np, fun j t ht => ?_⟩
  by_cases e : j = i
  · subst e
    have e2 : t = s := Option.some.inj (ht.symm.trans hs)
    subst e2
    refine ⟨dy, ?_⟩
    have e3 : (v.ss.set j (o, m)).getD j S0 = (o, m) := by
      rw [List.getD_eq_getElem?_getD, List.getElem?_set_self (by rw [← h.len]; exact hi)]
      rfl
    rw [upd_same, e3]
  · obtain ⟨dz, q⟩ := h.sens j t ht
    have nts : t ≠ s := fun z => by
      subst z
      obtain ⟨hj, ej⟩ := List.getElem?_eq_some_iff.mp ht
      obtain ⟨hi2, ei⟩ := List.getElem?_eq_some_iff.mp hs
      exact e ((List.getElem_inj h.nd).mp (ej.trans ei.symm))
    have e3 : (v.ss.set i (o, m)).getD j S0 = v.ss.getD j S0 := by
      rw [List.getD_eq_getElem?_getD, List.getElem?_set_ne (Ne.symm e), List.getD_eq_getElem?_getD]
    exact ⟨dz, by rw [upd_ne nts, e3]; exact q⟩
theorem VAt.last {dx : Addr} {n : Int} (h : VAt A H p l as v) : VAt A (upd H p (.ins A.c_Voter dx (vfs { v with last := n } l))) p l as { v with last := n } := by
  refine ⟨⟨dx, upd_same⟩, by rw [upd_ne h.nlp]; exact h.lst, h.len, h.small, h.nd, h.np, fun j t ht => ?_⟩
  obtain ⟨dz, q⟩ := h.sens j t ht
  have e : t ≠ p := fun z => h.np (z ▸ List.mem_of_getElem? ht)
  exact ⟨dz, by rw [upd_ne e]; exact q⟩
/-! ### fields -/
theorem ev_v_last (h : Ev ta σ H (.ref p)) (hv : VAt A H p l as v) (T : Txt K mg A) : Ev (tFld K ta "last") σ H (.int v.last) := let ⟨_, q⟩ := hv.own; ev_fld h q T.cl_Voter T.na_Voter_last rfl
theorem ev_v_th (h : Ev ta σ H (.ref p)) (hv : VAt A H p l as v) (T : Txt K mg A) : Ev (tFld K ta "threshold") σ H (.int v.th) := let ⟨_, q⟩ := hv.own; ev_fld h q T.cl_Voter T.na_Voter_threshold rfl
theorem ev_v_rate (h : Ev ta σ H (.ref p)) (hv : VAt A H p l as v) (T : Txt K mg A) : Ev (tFld K ta "rate") σ H (.int v.rate) := let ⟨_, q⟩ := hv.own; ev_fld h q T.cl_Voter T.na_Voter_rate rfl
theorem ev_v_mis (h : Ev ta σ H (.ref p)) (hv : VAt A H p l as v) (T : Txt K mg A) : Ev (tFld K ta "misses") σ H (.int v.mis) := let ⟨_, q⟩ := hv.own; ev_fld h q T.cl_Voter T.na_Voter_misses rfl
theorem ev_v_bk (h : Ev ta σ H (.ref p)) (hv : VAt A H p l as v) (T : Txt K mg A) : Ev (tFld K ta "backs") σ H (.int v.bk) := let ⟨_, q⟩ := hv.own; ev_fld h q T.cl_Voter T.na_Voter_backs rfl
theorem ev_v_sens (h : Ev ta σ H (.ref p)) (hv : VAt A H p l as v) (T : Txt K mg A) : Ev (tFld K ta "sensors") σ H (.ref l) := let ⟨_, q⟩ := hv.own; ev_fld h q T.cl_Voter T.na_Voter_sensors rfl
theorem ev_s_out (h : Ev ta σ H (.ref s)) (hv : VAt A H p l as v) (hs : as[i]? = some s) (T : Txt K mg A) : Ev (tFld K ta "is_out") σ H (.bl (v.ss.getD i S0).1) := let ⟨_, q⟩ := hv.sens i s hs; ev_fld h q T.cl_Sensor T.na_Sensor_is_out rfl
theorem ev_s_many (h : Ev ta σ H (.ref s)) (hv : VAt A H p l as v) (hs : as[i]? = some s) (T : Txt K mg A) : Ev (tFld K ta "many") σ H (.int (v.ss.getD i S0).2) := let ⟨_, q⟩ := hv.sens i s hs; ev_fld h q T.cl_Sensor T.na_Sensor_many rfl
end
end MV
local macro_rules | `(tactic| walk_at "ev1") => `(tactic| (first
  | with_reducible apply MV.ev_v_last
  | with_reducible apply MV.ev_v_th
  | with_reducible apply MV.ev_v_rate
  | with_reducible apply MV.ev_v_mis
  | with_reducible apply MV.ev_v_bk
  | with_reducible apply MV.ev_v_sens
  | with_reducible apply MV.ev_s_out
  | with_reducible apply MV.ev_s_many
  | with_reducible assumption))
namespace MV
open PySem PySem.Spec PyProof.Rows L2 Evl
section
variable {K : PySem.W.Frag} {mg : Str → Option Value} {A : Ads}
theorem pure_need_settings (T : Txt K mg A) (vs : List V) (H : Hp) (Q : VK) (E : XK) (h : sp_need_settings K A vs H Q E) : t_need_settings K A E { nx := fun _ H' => Q .non H', rt := Q } (start ["settings", "many", "threshold", "rate", "misses", "backs"] vs) H := by
  obtain ⟨a, m, t, r, ms, b, rfl, hS, q1, q2⟩ := h
  show t_need_settings K A E _ [some (.ref a), none, none, none, none, none] H
  refine q_tup5 (ev_var rfl) hS fun H1 e1 => ?_
  refine q_when (b := !(decide (3 ≤ m) && decide (m ≤ 9)) || (!(decide (0 ≤ t) && decide (t ≤ 1000000)) || !(decide (1 ≤ r) && decide (r ≤ 1000000)))) (by walk_at "ev") (fun hb H2 e2 => ?_) (fun hb H2 e2 => ?_)
  · refine s_raise fun H3 e3 => q2 ?_ H3 ((e1.trans e2).trans e3)
    unfold okSet
    simp only [Bool.or_eq_true, Bool.not_eq_true', Bool.and_eq_false_imp, decide_eq_true_eq, decide_eq_false_iff_not, Bool.and_eq_true] at hb ⊢
    omega
  · refine s_when (b := !(decide (1 ≤ ms) && decide (ms ≤ 1000)) || !(decide (1 ≤ b) && decide (b ≤ 1000))) (by walk_at "ev") (fun hc H3 e3 => ?_) (fun hc H3 e3 => ?_)
    · refine s_raise fun H4 e4 => q2 ?_ H4 (((e1.trans e2).trans e3).trans e4)
      unfold okSet
      simp only [Bool.or_eq_true, Bool.not_eq_true', Bool.and_eq_false_imp, decide_eq_true_eq, decide_eq_false_iff_not, Bool.and_eq_true] at hc ⊢
      omega
    · refine q1 ?_ H3 ((e1.trans e2).trans e3)
      unfold okSet
      simp only [Bool.or_eq_false_iff, Bool.not_eq_false', Bool.and_eq_true, decide_eq_true_eq] at hb hc ⊢
      omega
theorem oV_non {x : Option Int} : oV x = .non ↔ x = none := by
  cases x with
  | none => exact ⟨fun _ => rfl, fun _ => rfl⟩
  | some i => exact ⟨(fun z => nomatch z), (fun z => nomatch z)⟩
theorem map_oV_flat (vals : List (Option Int)) : (vals.map oV).all flat4 = true := by
  rw [List.all_eq_true]
  intro x hx
  obtain ⟨n, _, rfl⟩ := List.mem_map.mp hx
  cases n <;> rfl
theorem said_key : ∀ vals : List (Option Int), ((vals.map oV).filter (fun x => !decide (x = .non))).map (fun x => V.bl (decide (ab (toInt x) ≤ 1000000000))) = (vals.filterMap fun x => x.map fun i => decide (ab i ≤ 1000000000)).map V.bl
  | [] => rfl
  | none :: r => said_key r
  | some i :: r => congrArg (V.bl (decide (ab i ≤ 1000000000)) :: ·) (said_key r)
theorem said_all : ∀ vals : List (Option Int), (vals.filterMap fun x => x.map fun i => decide (ab i ≤ 1000000000)).all id = vals.all okOne
  | [] => rfl
  | none :: r => said_all r
  | some i :: r => congrArg (decide (ab i ≤ 1000000000) && ·) (said_all r)
theorem pure_need_step (T : Txt K mg A) (vs : List V) (H : Hp) (Q : VK) (E : XK) (h : sp_need_step K A vs H Q E) : t_need_step K A E { nx := fun _ H' => Q .non H', rt := Q } (start ["values", "many", "value"] vs) H := by
  obtain ⟨a, vals, many, rfl, hS, hz, q1, q2⟩ := h
  show t_need_step K A E _ [some (.ref a), some (.int many), none] H
  have hm : (vals.map oV).length = vals.length := List.length_map ..
  refine q_when (b := !decide (((vals.map oV).length : Int) = many)) (by walk_at "ev") (fun hb H1 e1 => ?_) (fun hb H1 e1 => ?_)
  · refine s_raise fun H2 e2 => q2 ?_ H2 (e1.trans e2)
    unfold okStep
    have h1 : ¬ ((vals.length : Int) = many) := by simpa [hm] using hb
    rw [decide_eq_false h1]
    rfl
  · have h1 : (vals.length : Int) = many := by simpa [hm] using hb
    have hS1 := ex_l e1 hS
    have key := said_key vals
    have key2 := said_all vals
    refine s_when (b := !(vals.all okOne)) (et_not (et_B ?_)) (fun hc H2 e2 => ?_) (fun hc H2 e2 => ?_)
    · rw [← key2]
      refine ev_cbN (xs := (vals.filterMap fun x => x.map fun i => decide (ab i ≤ 1000000000)).map V.bl) (el_is (el_lcM (fun x => !decide (x = .non)) (fun x => V.bl (decide (ab (toInt x) ≤ 1000000000))) (by walk_at "ev") hS1 (by omega) (fun _ => rfl) (fun x H3 e3 _ => by walk_at "ev") (fun x H3 e3 hx hp => ?_)) key) fun p2 H3 e3 h3 => rc_all (sq_of h3)
      obtain ⟨y, _, rfl⟩ := List.mem_map.mp hx
      cases y with
      | none => exact absurd hp (by decide)
      | some i =>
        show Ev _ ([some (.ref a), some (.int many), some (.int i)]) H3 (V.bl (decide ((if i < 0 then -i else i) ≤ 1000000000)))
        walk_at "ev"
    · refine s_raise fun H3 e3 => q2 ?_ H3 ((e1.trans e2).trans e3)
      unfold okStep
      rw [decide_eq_true h1]
      simpa using hc
    · refine q1 ?_ H2 (e1.trans e2)
      unfold okStep
      rw [decide_eq_true h1]
      simpa using hc
theorem pure_Sensor_init (T : Txt K mg A) (vs : List V) (H : Hp) (Q : VK) (E : XK) (h : sp_Sensor_init K A vs H Q E) : t_Sensor_init K A E { nx := fun _ H' => Q .non H', rt := Q } (start ["self"] vs) H := by
  obtain ⟨x, dx, rfl, h1, q⟩ := h
  show t_Sensor_init K A E _ [some (.ref x)] H
  refine q_fld (fs' := [("is_out", .bl false)]) ev_c (ev_var rfl) h1 T.cl_Sensor T.na_Sensor_is_out (by decide) rfl fun H1 e1 => ?_
  refine s_fld (fs' := sfs false 0) ev_c (ev_var rfl) upd_same T.cl_Sensor T.na_Sensor_many (by decide) rfl fun H2 e2 => ?_
  exact q _ ((But.upd e1).trans (But.upd e2)) upd_same
/-! ### reading a voter -/
theorem pure_Voter_given (T : Txt K mg A) (vs : List V) (H : Hp) (Q : VK) (E : XK) (h : sp_Voter_given K A vs H Q E) : t_Voter_given K A E { nx := fun _ H' => Q .non H', rt := Q } (start ["self"] vs) H := by
  obtain ⟨p, l, as, v, rfl, hv, q⟩ := h
  show t_Voter_given K A E _ [some (.ref p)] H
  exact s_ret (v := .int v.last) (by walk_at "ev") q
theorem refs_len (as : List Addr) : (as.map V.ref).length = as.length := List.length_map ..
theorem ref_at {as : List Addr} {i : Int} {s : Addr} (h0 : 0 ≤ i) (hs : as[i.toNat]? = some s) : atI (as.map V.ref) i = some (.ref s) := by
  obtain ⟨k, rfl⟩ := Int.eq_ofNat_of_zero_le h0
  refine atI_nat ?_
  rw [Int.toNat_natCast] at hs
  rw [List.getElem?_map, hs]
  rfl
theorem pure_Voter_sensor (T : Txt K mg A) (vs : List V) (H : Hp) (Q : VK) (E : XK) (h : sp_Voter_sensor K A vs H Q E) : t_Voter_sensor K A E { nx := fun _ H' => Q .non H', rt := Q } (start ["self", "place"] vs) H := by
  obtain ⟨p, l, as, v, i, rfl, hv, q1, q2⟩ := h
  show t_Voter_sensor K A E _ [some (.ref p), some (.int i)] H
  have hL : SqL K H l (as.map V.ref) := hv.seq
  have hm := refs_len as
  refine q_when (b := !(decide (0 ≤ i) && decide (i < ((as.map V.ref).length : Int)))) (by walk_at "ev") (fun hb H1 e1 => ?_) (fun hb H1 e1 => ?_)
  · refine s_raise fun H2 e2 => q2 (fun z => ?_) H2 (e1.trans e2)
    simp [hm] at hb
    omega
  · have hb1 : 0 ≤ i ∧ i < (as.length : Int) := by simpa [hm] using hb
    have hk : i.toNat < as.length := by omega
    have hs : as[i.toNat]? = some as[i.toNat] := List.getElem?_eq_getElem hk
    have hv1 := hv.ext e1
    have hL1 := ex_l e1 hL
    exact s_ret (v := .ref as[i.toNat]) (ev_op (by walk_at "ev") (by walk_at "ev") (rv_ixL hL1 (ref_at hb1.1 hs))) fun H2 e2 => q1 _ hb1.1 hs H2 (e1.trans e2)
theorem spv_sensor {H : Hp} {p l : Addr} {as : List Addr} {v : Vst} {i : Int} {s : Addr} (hv : VAt A H p l as v) (h0 : 0 ≤ i) (hs : as[i.toNat]? = some s) : SpV (sp_Voter_sensor K A) [.ref p, .int i] H (.ref s) := fun H1 e Q q E =>
  ⟨p, l, as, v, i, rfl, hv.ext e, (fun t _ ht => by
    have e2 : s = t := Option.some.inj (hs.symm.trans ht)
    subst e2
    exact q), fun hn => absurd ⟨h0, by have := (List.getElem?_eq_some_iff.mp hs).1; omega⟩ hn⟩
theorem own_no {m : Str} {v : Vst} {l : Addr} (h : (vfs v l).lookup m = none) : (vfs v l).lookup m = none := h
theorem pure_Voter_state (T : Txt K mg A) (vs : List V) (H : Hp) (Q : VK) (E : XK) (h : sp_Voter_state K A vs H Q E) : t_Voter_state K A E { nx := fun _ H' => Q .non H', rt := Q } (start ["self", "place", "one"] vs) H := by
  obtain ⟨p, l, as, v, i, rfl, hv, q1, q2⟩ := h
  show t_Voter_state K A E _ [some (.ref p), some (.int i), none] H
  obtain ⟨dx, hp⟩ := hv.own
  by_cases hi : 0 ≤ i ∧ i < (as.length : Int)
  · have hk : i.toNat < as.length := by omega
    have hs : as[i.toNat]? = some as[i.toNat] := List.getElem?_eq_getElem hk
    refine q_asg (v := .ref as[i.toNat]) (ev_meth (ev_var rfl) hp rfl (by walk_at "ev") (spv_sensor hv hi.1 hs)) fun H1 e1 => ?_
    have hv1 := hv.ext e1
    refine q_when (b := (v.ss.getD i.toNat S0).1) (by walk_at "ev") (fun hb H2 e2 => ?_) (fun hb H2 e2 => ?_)
    · refine s_ret (v := .str (stateW (v.ss.getD i.toNat S0))) ?_ fun H3 e3 => q1 hi H3 ((e1.trans e2).trans e3)
      unfold stateW
      rw [if_pos hb]
      exact ev_c
    · have hv2 := hv1.ext e2
      refine s_ret (v := .str (stateW (v.ss.getD i.toNat S0))) (ev_is (ev_ifB (b := decide ((v.ss.getD i.toNat S0).2 = 0)) (by walk_at "ev") ev_c ev_c) ?_) fun H3 e3 => q1 hi H3 ((e1.trans e2).trans e3)
      unfold stateW
      rw [hb]
      by_cases c : (v.ss.getD i.toNat S0).2 = 0
      · rw [decide_eq_true c, if_pos rfl, if_neg (by decide), if_pos c]
      · rw [decide_eq_false c, if_neg (by decide), if_neg (by decide), if_neg c]
  · exact q_asgM (ev_var rfl) hp rfl (by walk_at "ev") fun H1 e1 => ⟨p, l, as, v, i, rfl, hv.ext e1, (fun s h0 hs => absurd ⟨h0, by have := (List.getElem?_eq_some_iff.mp hs).1; omega⟩ hi), fun _ H2 e2 => q2 hi H2 (e1.trans e2)⟩
theorem pure_Voter_count (T : Txt K mg A) (vs : List V) (H : Hp) (Q : VK) (E : XK) (h : sp_Voter_count K A vs H Q E) : t_Voter_count K A E { nx := fun _ H' => Q .non H', rt := Q } (start ["self", "place"] vs) H := by
  obtain ⟨p, l, as, v, i, rfl, hv, q1, q2⟩ := h
  show t_Voter_count K A E _ [some (.ref p), some (.int i)] H
  obtain ⟨dx, hp⟩ := hv.own
  by_cases hi : 0 ≤ i ∧ i < (as.length : Int)
  · have hk : i.toNat < as.length := by omega
    have hs : as[i.toNat]? = some as[i.toNat] := List.getElem?_eq_getElem hk
    exact s_ret (v := .int (v.ss.getD i.toNat S0).2) (ev_s_many (ev_meth (ev_var rfl) hp rfl (by walk_at "ev") (spv_sensor hv hi.1 hs)) hv hs T) (q1 hi)
  · exact s_retFM (ev_var rfl) hp rfl (by walk_at "ev") fun H1 e1 Q' => ⟨p, l, as, v, i, rfl, hv.ext e1, (fun s h0 hs => absurd ⟨h0, by have := (List.getElem?_eq_some_iff.mp hs).1; omega⟩ hi), fun _ H2 e2 => q2 hi H2 (e1.trans e2)⟩
theorem pure_Voter_is_close (T : Txt K mg A) (vs : List V) (H : Hp) (Q : VK) (E : XK) (h : sp_Voter_is_close K A vs H Q E) : t_Voter_is_close K A E { nx := fun _ H' => Q .non H', rt := Q } (start ["self", "thing", "value"] vs) H := by
  obtain ⟨p, l, as, v, x, value, rfl, hv, q⟩ := h
  show t_Voter_is_close K A E _ [some (.ref p), some (oV x), some (.int value)] H
  cases x with
  | none => exact s_ret (v := .bl (clo v.th value none)) (ev_is (ev_andIf (a1 := false) (b1 := false) (ev_is (by walk_at "ev") (by rfl)) (fun z => nomatch z)) (by rfl)) q
  | some i =>
    refine s_ret (v := .bl (clo v.th value (some i))) (ev_is (ev_andIf (a1 := true) (b1 := decide ((if i - value < 0 then -(i - value) else i - value) ≤ v.th)) (ev_is (by walk_at "ev") (by rfl)) fun _ => ?_) (by rfl)) q
    show Ev _ [some (.ref p), some (.int i), some (.int value)] H _
    walk_at "ev"
theorem pure_Voter_word (T : Txt K mg A) (vs : List V) (H : Hp) (Q : VK) (E : XK) (h : sp_Voter_word K A vs H Q E) : t_Voter_word K A E { nx := fun _ H' => Q .non H', rt := Q } (start ["self", "numbers", "value", "close"] vs) H := by
  obtain ⟨p, l, as, v, a, t, value, rfl, hv, hS, hz, q⟩ := h
  show t_Voter_word K A E _ [some (.ref p), some (.ref a), some (.int value), none] H
  refine q_when (et_test (ev_eqNil (ev_var rfl) hS (ints_flat t))) (fun hb H1 e1 => ?_) (fun hb H1 e1 => ?_)
  · have h0 : t = [] := by simpa using hb
    refine s_ret (v := .str (wordOf as.length v.th t value)) ?_ fun H2 e2 => q H2 (e1.trans e2)
    unfold wordOf
    rw [if_pos h0]
    exact ev_c
  have h0 : ¬ t = [] := by simpa using hb
  have hS1 := ex_l e1 hS
  have hm : (t.map V.int).length = t.length := List.length_map ..
  refine q_when (b := decide (((t.map V.int).length : Int) = 1)) (by walk_at "ev") (fun hb H2 e2 => ?_) (fun hb H2 e2 => ?_)
  · have h1 : t.length = 1 := by
      have := of_decide_eq_true hb
      omega
    refine s_ret (v := .str (wordOf as.length v.th t value)) ?_ fun H3 e3 => q H3 ((e1.trans e2).trans e3)
    unfold wordOf
    rw [if_neg h0, if_pos h1]
    exact ev_c
  have h1 : ¬ t.length = 1 := by
    have := of_decide_eq_false hb
    omega
  have hv2 := hv.ext (e1.trans e2)
  have hS2 := ex_l e2 hS1
  refine q_asg (v := .int ((agr t value v.th).length : Int)) (ev_lenN (el_call0 (by walk_at "ev") (spl_agree hS2 (by omega)))) fun H3 e3 => ?_
  have hS3 := ex_l e3 hS2
  refine q_when (b := decide (2 * ((agr t value v.th).length : Int) ≤ ((t.map V.int).length : Int))) (by walk_at "ev") (fun hb H4 e4 => ?_) (fun hb H4 e4 => ?_)
  · have h2 : 2 * (agr t value v.th).length ≤ t.length := by
      have := of_decide_eq_true hb
      omega
    refine s_ret (v := .str (wordOf as.length v.th t value)) ?_ fun H5 e5 => q H5 ((((e1.trans e2).trans e3).trans e4).trans e5)
    unfold wordOf
    rw [if_neg h0, if_neg h1, if_pos h2]
    exact ev_c
  have h2 : ¬ 2 * (agr t value v.th).length ≤ t.length := by
    have := of_decide_eq_false hb
    omega
  have hv4 := hv2.ext (e3.trans e4)
  have hL4 : SqL K H4 l (as.map V.ref) := hv4.seq
  refine s_ret (v := .str (wordOf as.length v.th t value)) (ev_is (ev_ifB (b := decide (((agr t value v.th).length : Int) = ((as.map V.ref).length : Int))) (by walk_at "ev") ev_c ev_c) ?_) fun H5 e5 => q H5 ((((e1.trans e2).trans e3).trans e4).trans e5)
  unfold wordOf
  rw [if_neg h0, if_neg h1, if_neg h2, refs_len]
  by_cases c : (agr t value v.th).length = as.length
  · rw [if_pos c, decide_eq_true (by omega), if_pos rfl]
  · rw [if_neg c, decide_eq_false (by omega), if_neg (by decide)]
end
end MV
namespace MV
open PySem PySem.Spec PyProof.Rows L2 Evl
section
variable {K : PySem.W.Frag} {mg : Str → Option Value} {A : Ads}
theorem sfs_small {o : Bool} {m : Int} : (sfs o m).length < 1000 := by show 2 < 1000; decide
theorem vfs_small {v : Vst} {l : Addr} : (vfs v l).length < 1000 := by show 6 < 1000; decide
theorem given_gen {α : Type} (xs : List α) (d : α) (p : α → Bool) (g : Nat → V) : (Evl.given xs.length (fun i => p (xs.getD i d)) g).length = (xs.filter p).length := by
  have key : ∀ i, i ≤ xs.length → (Evl.given i (fun i => p (xs.getD i d)) g).length = ((xs.take i).filter p).length := by
    intro i
    induction i with
    | zero => intro _; rfl
    | succ i ih =>
      intro h
      have hi : i < xs.length := h
      have e : xs.getD i d = xs[i] := by rw [List.getD_eq_getElem?_getD, List.getElem?_eq_getElem hi]; rfl
      have e2 : xs.take (i + 1) = xs.take i ++ [xs[i]] := by rw [List.take_add_one, List.getElem?_eq_getElem hi]; rfl
      rw [e2, List.filter_append, List.length_append, ← ih (by omega)]
      cases hp : p xs[i] with
      | true =>
        rw [Evl.given_yes (by show p (xs.getD i d) = true; rw [e]; exact hp), List.length_append, List.filter_cons, hp]
        rfl
      | false =>
        rw [Evl.given_no (by show p (xs.getD i d) = false; rw [e]; exact hp), List.filter_cons, hp]
        rfl
  rw [key _ (Nat.le_refl _), List.take_length]
theorem getD_set_self {ss : List (Bool × Int)} {i : Nat} {x : Bool × Int} (h : i < ss.length) : (ss.set i x).getD i S0 = x := by
  rw [List.getD_eq_getElem?_getD, List.getElem?_set_self h]
  rfl
theorem set_set' {ss : List (Bool × Int)} {i : Nat} {x y : Bool × Int} : (ss.set i x).set i y = ss.set i y := List.set_set ..
theorem refs_get {as : List Addr} {i : Nat} {x : V} (h : (as.map V.ref)[i]? = some x) : ∃ s, as[i]? = some s ∧ x = .ref s := by
  rw [List.getElem?_map] at h
  cases e : as[i]? with
  | none => rw [e] at h; cases h
  | some s => rw [e] at h; exact ⟨s, rfl, (Option.some.inj h).symm⟩
theorem inN_set {ss : List (Bool × Int)} {i : Nat} {m : Int} (h : (ss.getD i S0).1 = false) : inN (ss.set i (false, m)) = inN ss := by
  unfold inN
  induction ss generalizing i with
  | nil => rfl
  | cons s r ih =>
    cases i with
    | zero =>
      have e : s.1 = false := h
      show (((false, m) :: r).filter fun s => !s.1).length = ((s :: r).filter fun s => !s.1).length
      rw [List.filter_cons, List.filter_cons, e]
      rfl
    | succ i =>
      have h2 : (r.getD i S0).1 = false := h
      show ((s :: r.set i (false, m)).filter fun s => !s.1).length = ((s :: r).filter fun s => !s.1).length
      rw [List.filter_cons, List.filter_cons]
      split
      · rw [List.length_cons, List.length_cons, ih h2]
      · exact ih h2
theorem pure_Voter_watch (T : Txt K mg A) (vs : List V) (H : Hp) (Q : VK) (E : XK) (h : sp_Voter_watch K A vs H Q E) : t_Voter_watch K A E { nx := fun _ H' => Q .non H', rt := Q } (start ["self", "one", "is_close", "others", "other"] vs) H := by
  obtain ⟨p, l, as, v, s, i, c, rfl, hv, hs, ho, q⟩ := h
  show t_Voter_watch K A E _ [some (.ref p), some (.ref s), some (.bl c), none, none] H
  have hi : i < v.ss.length := by rw [← hv.len]; exact (List.getElem?_eq_some_iff.mp hs).1
  refine q_when (b := c) (by walk_at "ev") (fun hb H1 e1 => ?_) (fun hb H1 e1 => ?_)
  · subst hb
    have hv1 := hv.ext e1
    obtain ⟨dy, hq⟩ := hv1.sens i s hs
    refine q_fld (y := .int (if (v.ss.getD i S0).2 - 1 > 0 then (v.ss.getD i S0).2 - 1 else 0)) (fs' := sfs (v.ss.getD i S0).1 (if (v.ss.getD i S0).2 - 1 > 0 then (v.ss.getD i S0).2 - 1 else 0)) (by walk_at "ev") (ev_var rfl) hq T.cl_Sensor T.na_Sensor_many sfs_small rfl fun H2 e2 => ?_
    refine q _ ((But.of e1).trans (But.upd e2)) ?_
    have hv2 := (hv1.ext e2).set (dy := dy) (o := (v.ss.getD i S0).1) (m := if (v.ss.getD i S0).2 - 1 > 0 then (v.ss.getD i S0).2 - 1 else 0) hs
    rw [ho] at hv2 ⊢
    exact hv2
  · subst hb
    have hv1 := hv.ext e1
    obtain ⟨dy, hq⟩ := hv1.sens i s hs
    refine q_fld (y := .int ((v.ss.getD i S0).2 + 1)) (fs' := sfs (v.ss.getD i S0).1 ((v.ss.getD i S0).2 + 1)) (by walk_at "ev") (ev_var rfl) hq T.cl_Sensor T.na_Sensor_many sfs_small rfl fun H2 e2 => ?_
    have hv2 := (hv1.ext e2).set (dy := dy) (o := (v.ss.getD i S0).1) (m := (v.ss.getD i S0).2 + 1) hs
    rw [ho] at hv2 ⊢
    have hL2 := hv2.seq (K := K)
    have b2 : But s H (upd H2 s (.ins A.c_Sensor dy (sfs false ((v.ss.getD i S0).2 + 1)))) := (But.of e1).trans (But.upd e2)
    generalize upd H2 s (.ins A.c_Sensor dy (sfs false ((v.ss.getD i S0).2 + 1))) = H3 at hv2 hL2 b2 ⊢
    have e9 : (v.ss.set i (false, (v.ss.getD i S0).2 + 1)).getD i S0 = (false, (v.ss.getD i S0).2 + 1) := getD_set_self hi
    have eL : (as.map V.ref).length = (v.ss.set i (false, (v.ss.getD i S0).2 + 1)).length := by rw [refs_len, List.length_set]; exact hv.len
    refine q_asgL (el_lcL (fun j => !((v.ss.set i (false, (v.ss.getD i S0).2 + 1)).getD j S0).1) (fun j => (as.map V.ref).getD j .non) (ev_v_sens (ev_var rfl) hv2 T) hL2 (by rw [refs_len]; have := hv.small; omega) (fun _ => rfl) (fun j x H4 e4 hx => ?_) (fun j x H4 e4 hx _ => ?_)) fun op H4 nop e4 h4 => ?_
    · obtain ⟨t, ht, rfl⟩ := refs_get hx
      have hv4 := hv2.ext e4
      exact et_not (et_B (ev_s_out (ev_var rfl) hv4 ht T))
    · have e : (as.map V.ref).getD j .non = x := by rw [List.getD_eq_getElem?_getD, hx]; rfl
      rw [e]
      exact ev_var rfl
    have hv4 := hv2.ext e4
    have hO4 : SqL K H4 op (Evl.given (as.map V.ref).length (fun j => !((v.ss.set i (false, (v.ss.getD i S0).2 + 1)).getD j S0).1) (fun j => (as.map V.ref).getD j .non)) := sq_of h4
    have eN : (Evl.given (as.map V.ref).length (fun j => !((v.ss.set i (false, (v.ss.getD i S0).2 + 1)).getD j S0).1) (fun j => (as.map V.ref).getD j .non)).length = inN v.ss := by
      rw [eL, given_gen (v.ss.set i (false, (v.ss.getD i S0).2 + 1)) S0 (fun s => !s.1)]
      exact inN_set ho
    have hmany : Ev (tFld K (tVar 1) "many") ([some (.ref p), some (.ref s), some (.bl false), none, none].set 3 (some (.ref op))) H4 (.int ((v.ss.getD i S0).2 + 1)) := by
      have := ev_s_many (σ := [some (.ref p), some (.ref s), some (.bl false), none, none].set 3 (some (.ref op))) (ta := tVar 1) (ev_var rfl) hv4 hs T
      rw [e9] at this
      exact this
    refine s_when (b := decide (v.mis ≤ (v.ss.getD i S0).2 + 1) && decide (1 < (inN v.ss : Int))) (et_andB (et_test (ev_op hmany (ev_v_mis (ev_var rfl) hv4 T) rv_I0)) (et_test (ev_op (ev_cb (ea_cons (ev_var rfl) ea_nil) (by have := rc_len hO4; rw [eN] at this; exact this)) ev_c rv_I0))) (fun hb H5 e5 => ?_) (fun hb H5 e5 => ?_)
    · rw [Bool.and_eq_true, decide_eq_true_eq, decide_eq_true_eq] at hb
      have hv5 := hv4.ext e5
      obtain ⟨dz, hq5⟩ := hv5.sens i s hs
      rw [e9] at hq5
      refine q_fld (y := .bl true) (fs' := sfs true ((v.ss.getD i S0).2 + 1)) ev_c (ev_var rfl) hq5 T.cl_Sensor T.na_Sensor_is_out sfs_small rfl fun H6 e6 => ?_
      have hv6 := (hv5.ext e6).set (dy := dz) (o := true) (m := (v.ss.getD i S0).2 + 1) hs
      refine s_fld (y := .int 0) (fs' := sfs true 0) ev_c (ev_var rfl) upd_same T.cl_Sensor T.na_Sensor_many sfs_small rfl fun H7 e7 => ?_
      have hv7 := (hv6.ext e7).set (dy := dz) (o := true) (m := 0) hs
      refine q _ ((((b2.trans (But.of e4)).trans (But.of e5)).trans (But.upd e6)).trans (But.upd e7)) ?_
      have en : nextG v.mis (inN v.ss) (v.ss.getD i S0) false = (true, 0) := by
        unfold nextG
        rw [if_neg (by decide), if_pos ⟨hb.1, by omega⟩]
      rw [en]
      have hv8 := hv7
      simp only [set_set'] at hv8
      exact hv8
    · refine q _ ((b2.trans (But.of e4)).trans (But.of e5)) ?_
      have en : nextG v.mis (inN v.ss) (v.ss.getD i S0) false = (false, (v.ss.getD i S0).2 + 1) := by
        unfold nextG
        rw [if_neg (by decide), if_neg]
        intro z
        rw [decide_eq_true z.1, decide_eq_true (by omega)] at hb
        cases hb
      rw [en]
      exact hv4.ext e5
theorem pure_Voter_wait (T : Txt K mg A) (vs : List V) (H : Hp) (Q : VK) (E : XK) (h : sp_Voter_wait K A vs H Q E) : t_Voter_wait K A E { nx := fun _ H' => Q .non H', rt := Q } (start ["self", "one", "is_close"] vs) H := by
  obtain ⟨p, l, as, v, s, i, c, rfl, hv, hs, ho, q⟩ := h
  show t_Voter_wait K A E _ [some (.ref p), some (.ref s), some (.bl c)] H
  have hi : i < v.ss.length := by rw [← hv.len]; exact (List.getElem?_eq_some_iff.mp hs).1
  obtain ⟨dy, hq⟩ := hv.sens i s hs
  have hb0 : -18446744073709551616 < (if c = true then (1 : Int) else 0) ∧ (if c = true then (1 : Int) else 0) < 18446744073709551616 := by cases c <;> decide
  refine q_fld (y := .int (((v.ss.getD i S0).2 + 1) * (if c = true then 1 else 0))) (fs' := sfs (v.ss.getD i S0).1 (((v.ss.getD i S0).2 + 1) * (if c = true then 1 else 0))) (ev_op (ev_op (ev_s_many (ev_var rfl) hv hs T) ev_c rv_I0) (ev_cb (ea_cons (ev_var rfl) ea_nil) rc_intB) (rv_I (.inr hb0))) (ev_var rfl) hq T.cl_Sensor T.na_Sensor_many sfs_small rfl fun H1 e1 => ?_
  have hv1 := (hv.ext e1).set (dy := dy) (o := (v.ss.getD i S0).1) (m := ((v.ss.getD i S0).2 + 1) * (if c = true then 1 else 0)) hs
  rw [ho] at hv1 ⊢
  have b1 : But s H (upd H1 s (.ins A.c_Sensor dy (sfs true (((v.ss.getD i S0).2 + 1) * (if c = true then 1 else 0))))) := But.upd e1
  generalize upd H1 s (.ins A.c_Sensor dy (sfs true (((v.ss.getD i S0).2 + 1) * (if c = true then 1 else 0)))) = H2 at hv1 b1 ⊢
  have e9 : (v.ss.set i (true, ((v.ss.getD i S0).2 + 1) * (if c = true then 1 else 0))).getD i S0 = (true, ((v.ss.getD i S0).2 + 1) * (if c = true then 1 else 0)) := getD_set_self hi
  have hmany : Ev (tFld K (tVar 1) "many") [some (.ref p), some (.ref s), some (.bl c)] H2 (.int (((v.ss.getD i S0).2 + 1) * (if c = true then 1 else 0))) := by
    have := ev_s_many (σ := [some (.ref p), some (.ref s), some (.bl c)]) (ta := tVar 1) (ev_var rfl) hv1 hs T
    rw [e9] at this
    exact this
  refine s_when (b := decide (((v.ss.getD i S0).2 + 1) * (if c = true then 1 else 0) = v.bk)) (et_test (ev_op hmany (ev_v_bk (ev_var rfl) hv1 T) rv_eqI)) (fun hb H3 e3 => ?_) (fun hb H3 e3 => ?_)
  · have hv3 := hv1.ext e3
    obtain ⟨dz, hq3⟩ := hv3.sens i s hs
    rw [e9] at hq3
    refine q_fld (y := .bl false) (fs' := sfs false (((v.ss.getD i S0).2 + 1) * (if c = true then 1 else 0))) ev_c (ev_var rfl) hq3 T.cl_Sensor T.na_Sensor_is_out sfs_small rfl fun H4 e4 => ?_
    have hv4 := (hv3.ext e4).set (dy := dz) (o := false) (m := ((v.ss.getD i S0).2 + 1) * (if c = true then 1 else 0)) hs
    refine s_fld (y := .int 0) (fs' := sfs false 0) ev_c (ev_var rfl) upd_same T.cl_Sensor T.na_Sensor_many sfs_small rfl fun H5 e5 => ?_
    have hv5 := (hv4.ext e5).set (dy := dz) (o := false) (m := 0) hs
    refine q _ (((b1.trans (But.of e3)).trans (But.upd e4)).trans (But.upd e5)) ?_
    have en : nextW v.bk true (v.ss.getD i S0) c = (false, 0) := by
      unfold nextW
      rw [Bool.and_true, if_pos (of_decide_eq_true hb)]
    rw [en]
    simp only [set_set'] at hv5
    exact hv5
  · refine q _ (b1.trans (But.of e3)) ?_
    have en : nextW v.bk true (v.ss.getD i S0) c = (true, ((v.ss.getD i S0).2 + 1) * (if c = true then 1 else 0)) := by
      unfold nextW
      rw [Bool.and_true, if_neg (of_decide_eq_false hb)]
    rw [en]
    exact hv1.ext e3
end
end MV
namespace MV
open PySem PySem.Spec PyProof.Rows L2 Evl
section
variable {K : PySem.W.Frag} {mg : Str → Option Value} {A : Ads}
theorem spv_word {H : Hp} {p l a : Addr} {as : List Addr} {v : Vst} {t : List Int} {value : Int} (hv : VAt A H p l as v) (hS : SqL K H a (t.map V.int)) (hz : t.length ≤ 100) : SpV (sp_Voter_word K A) [.ref p, .ref a, .int value] H (.str (wordOf as.length v.th t value)) := fun H1 e Q q E =>
  ⟨p, l, as, v, a, t, value, rfl, hv.ext e, ex_l e hS, hz, q⟩
theorem spv_is_close {H : Hp} {p l : Addr} {as : List Addr} {v : Vst} {x : Option Int} {value : Int} (hv : VAt A H p l as v) : SpV (sp_Voter_is_close K A) [.ref p, oV x, .int value] H (.bl (clo v.th value x)) := fun H1 e Q q E =>
  ⟨p, l, as, v, x, value, rfl, hv.ext e, q⟩
theorem said_at {vals : List (Option Int)} {i : Nat} (hi : i < vals.length) : atI (vals.map oV) (i : Int) = some (oV (vals.getD i none)) := by
  refine atI_nat ?_
  rw [List.getElem?_map, List.getElem?_eq_getElem hi, List.getD_eq_getElem?_getD, List.getElem?_eq_getElem hi]
  rfl
theorem there_len (ss : List (Bool × Int)) (vals : List (Option Int)) : (there ss vals).length ≤ ss.length := by
  unfold there
  rw [List.length_map]
  have h := List.length_filter_le (isHere ss vals) (List.range ss.length)
  rw [List.length_range] at h
  exact h
theorem there_given {ss : List (Bool × Int)} {vals : List (Option Int)} : Evl.given ss.length (isHere ss vals) (fun i => oV (vals.getD i none)) = (there ss vals).map V.int := by
  unfold Evl.given there
  rw [List.map_map]
  refine List.map_congr_left fun i hi => ?_
  have h := (List.mem_filter.mp hi).2
  unfold isHere at h
  rw [Bool.and_eq_true] at h
  obtain ⟨x, hx⟩ := Option.isSome_iff_exists.mp h.2
  show oV (vals.getD i none) = V.int ((vals.getD i none).getD 0)
  rw [hx]
  rfl
theorem turns_succ (v : Vst) (any : Bool) (value : Int) (vals : List (Option Int)) (i : Nat) : turns v any value vals (i + 1) = turnS v any value vals (turns v any value vals i) i := by
  unfold turns
  rw [List.range_succ, List.foldl_append]
  rfl
theorem turns_len (v : Vst) (any : Bool) (value : Int) (vals : List (Option Int)) : ∀ i, (turns v any value vals i).length = v.ss.length
  | 0 => rfl
  | i + 1 => by
    rw [turns_succ]
    unfold turnS
    rw [List.length_set]
    exact turns_len v any value vals i
theorem nextW_any (bk : Int) (any : Bool) (s : Bool × Int) (c : Bool) : nextW bk true s (c && any) = nextW bk any s c := by unfold nextW; simp
theorem Buts.fresh {fp : List Addr} {H H' : Hp} {q : Addr} (e : Buts fp H H') (hq : q ∉ fp) (h : H' q = none) : H q = none := by
  cases z : H q with
  | none => rfl
  | some o =>
    rw [e q o hq z] at h
    cases h
theorem pure_Voter_step (T : Txt K mg A) (vs : List V) (H : Hp) (Q : VK) (E : XK) (h : sp_Voter_step K A vs H Q E) : t_Voter_step K A E { nx := fun _ H' => Q .non H', rt := Q } (start ["self", "values", "numbers", "place", "one", "value", "word", "is_close"] vs) H := by
  obtain ⟨p, l, as, v, a, vals, rfl, hv, hS, hz, haf, q1, q2⟩ := h
  show t_Voter_step K A E _ [some (.ref p), some (.ref a), none, none, none, none, none, none] H
  have hL : SqL K H l (as.map V.ref) := hv.seq
  have hm := refs_len as
  by_cases hok : okStep vals as.length = true
  case neg =>
    have hok0 : okStep vals as.length = false := by simpa using hok
    refine q_dropC (vs := [.ref a, .int ((as.map V.ref).length : Int)]) (by walk_at "ev") fun H1 e1 => ⟨a, vals, _, rfl, ex_l e1 hS, hz, fun hn => ?_, fun _ H2 e2 => q2 hok0 H2 (e1.trans e2)⟩
    rw [hm] at hn
    exact absurd hn hok
  refine q_dropC (vs := [.ref a, .int ((as.map V.ref).length : Int)]) (by walk_at "ev") fun H1 e1 => ⟨a, vals, _, rfl, ex_l e1 hS, hz, fun _ H2 e2 => ?_, fun hn => ?_⟩
  case refine_2 =>
    rw [hm, hok] at hn
    cases hn
  have q1 := q1 hok
  have hlen : vals.length = as.length := by
    unfold okStep at hok
    rw [Bool.and_eq_true, decide_eq_true_eq] at hok
    omega
  have hv2 := hv.ext (e1.trans e2)
  have hS2 := ex_l (e1.trans e2) hS
  have hL2 : SqL K H2 l (as.map V.ref) := hv2.seq
  -- the numbers
  refine q_asgL (xs := (there v.ss vals).map V.int) (el_is (el_lcE (fun i => isHere v.ss vals i) (fun i => oV (vals.getD i none)) (ea_cons (ev_v_sens (ev_var rfl) hv2 T) ea_nil) hL2 (by rw [hm]; have := hv.small; omega) rfl (fun _ _ => rfl) (fun i x H3 e3 hx => ?_) (fun i x H3 e3 hx _ => ?_)) ?_) fun np H3 nnp e3 h3 => ?_
  · obtain ⟨s, hs, rfl⟩ := refs_get hx
    have hi : i < vals.length := by rw [hlen]; exact (List.getElem?_eq_some_iff.mp hs).1
    have hv3 := hv2.ext e3
    have hS3 := ex_l e3 hS2
    refine et_is (et_andB (et_not (et_B (ev_s_out (ev_var rfl) hv3 hs T))) (et_test (ev_op (ev_op (ev_var rfl) (ev_var rfl) (rv_ixL hS3 (said_at hi))) ev_c rv_notN))) ?_
    unfold isHere
    cases vals.getD i none <;> rfl
  · obtain ⟨s, hs, rfl⟩ := refs_get hx
    have hi : i < vals.length := by rw [hlen]; exact (List.getElem?_eq_some_iff.mp hs).1
    exact ev_op (ev_var rfl) (ev_var rfl) (rv_ixL (ex_l e3 hS2) (said_at hi))
  · rw [hm, hv.len]
    exact there_given
  have hv3 := hv2.ext e3
  have hN3 : SqL K H3 np ((there v.ss vals).map V.int) := sq_of h3
  have hS3 := ex_l e3 hS2
  -- value
  refine q_asg (v := .int v.last) (ev_v_last (ev_var rfl) hv3 T) fun H4 e4 => ?_
  have hv4 := hv3.ext e4
  have hN4 := ex_l e4 hN3
  have hS4 := ex_l e4 hS3
  have htl := there_len v.ss vals
  have hs9 := hv.small
  have hl9 := hv.len
  refine q_ifAsg (b := !decide ((there v.ss vals).map V.int = [])) (v := .int (valueOf v vals)) (et_test (ev_neNil (ev_var rfl) hN4 (ints_flat _))) (fun hb => ?_) (fun hb => ?_) fun H5 e5 => ?_
  · have h0 : there v.ss vals ≠ [] := by simpa using hb
    unfold valueOf
    rw [if_neg h0]
    exact ev_call0 (ea_cons (ev_var rfl) (ea_cons (ev_v_last (ev_var rfl) hv4 T) ea_nil)) (spv_middle hN4 h0 (by omega))
  · have h0 : there v.ss vals = [] := by simpa using hb
    unfold valueOf
    rw [if_pos h0]
    rfl
  have hv5 := hv4.ext e5
  have hN5 := ex_l e5 hN4
  have hS5 := ex_l e5 hS4
  -- word
  obtain ⟨dx5, hp5⟩ := hv5.own
  refine q_asg (v := .str (stepW v vals)) (ev_is (ev_meth (ev_var rfl) hp5 rfl (ea_cons (ev_var rfl) (ea_cons (ev_var rfl) ea_nil)) (spv_word hv5 hN5 (by omega))) (by unfold stepW; rw [hl9])) fun H6 e6 => ?_
  have hv6 := hv5.ext e6
  have hN6 := ex_l e6 hN5
  have hS6 := ex_l e6 hS5
  have hL6 : SqL K H6 l (as.map V.ref) := hv6.seq
  have eA : (!decide ((there v.ss vals).map V.int = [])) = anyHere v vals := by
    unfold anyHere
    simp
  -- the sensors, in order
  have hnp : np ∉ p :: as := hv2.new nnp
  refine q_forE (p := l) (xs := as.map V.ref) (ea_cons (ev_v_sens (ev_var rfl) hv6 T) ea_nil) hL6
    (fun i σ H' => ∃ y3 y4 y7, σ = [some (.ref p), some (.ref a), some (.ref np), y3, y4, some (.int (valueOf v vals)), some (.str (stepW v vals)), y7] ∧ Buts (p :: as) H6 H' ∧ VAt A H' p l as { v with ss := turns v (anyHere v vals) (valueOf v vals) vals i })
    (fun H7 e7 => ⟨none, none, none, rfl, Buts.of e7, hv6.ext e7⟩) (fun i σ H7 _ ⟨_, _, _, _, _, hv7⟩ => hv7.seq) (fun i x σ H7 hx ⟨y3, y4, y7, es, b7, hv7⟩ H8 e8 => ?_) (fun σ H7 ⟨y3, y4, y7, es, b7, hv7⟩ => ?_)
  · subst es
    obtain ⟨s, hs, rfl⟩ := refs_get hx
    have hia : i < as.length := (List.getElem?_eq_some_iff.mp hs).1
    have hi : i < vals.length := by omega
    have hv8 := hv7.ext e8
    have hS8 := ex_l e8 (b7.seq haf hS6)
    have hN8 := ex_l e8 (b7.seq hnp hN6)
    obtain ⟨dx8, hp8⟩ := hv8.own
    refine q_asg (v := .bl (clo v.th (valueOf v vals) (vals.getD i none))) (ev_meth (ev_var rfl) hp8 rfl (ea_cons (ev_op (ev_var rfl) (ev_var rfl) (rv_ixL hS8 (said_at hi))) (ea_cons (ev_var rfl) ea_nil)) (spv_is_close (v := { v with ss := turns v (anyHere v vals) (valueOf v vals) vals i }) hv8)) fun H9 e9 => ?_
    have hv9 := hv8.ext e9
    have hN9 := ex_l e9 hN8
    obtain ⟨dx9, hp9⟩ := hv9.own
    have b9 : Buts (p :: as) H6 H9 := b7.trans (Buts.of (e8.trans e9))
    have hsm : s ∈ p :: as := List.mem_cons_of_mem _ (List.mem_of_getElem? hs)
    refine s_if (et_B (ev_s_out (ev_var rfl) hv9 hs T)) (fun hb H10 e10 => ?_) (fun hb H10 e10 => ?_)
    · have hv10 := hv9.ext e10
      have hN10 := ex_l e10 hN9
      obtain ⟨dx10, hp10⟩ := hv10.own
      refine s_dropM (vs := [.ref s, .bl (clo v.th (valueOf v vals) (vals.getD i none) && anyHere v vals)]) (ev_var rfl) hp10 rfl (ea_cons (ev_var rfl) (ea_cons (ev_andB (ev_var rfl) (ev_is (ev_neNil (ev_var rfl) hN10 (ints_flat _)) (by rw [eA]))) ea_nil)) fun H11 e11 => ?_
      refine ⟨p, l, as, _, s, i, _, rfl, hv10.ext e11, hs, hb, fun H12 b12 hv12 => ⟨_, _, _, rfl, b9.trans ((Buts.of (e10.trans e11)).trans (Buts.but hsm b12)), ?_⟩⟩
      have en : turns v (anyHere v vals) (valueOf v vals) vals (i + 1) = (turns v (anyHere v vals) (valueOf v vals) vals i).set i (nextW v.bk true ((turns v (anyHere v vals) (valueOf v vals) vals i).getD i S0) (clo v.th (valueOf v vals) (vals.getD i none) && anyHere v vals)) := by
        rw [turns_succ, nextW_any]
        unfold turnS nextS
        rw [if_pos hb]
      rw [en]
      exact hv12
    · have hv10 := hv9.ext e10
      obtain ⟨dx10, hp10⟩ := hv10.own
      refine s_dropM (vs := [.ref s, .bl (clo v.th (valueOf v vals) (vals.getD i none))]) (ev_var rfl) hp10 rfl (ea_cons (ev_var rfl) (ea_cons (ev_var rfl) ea_nil)) fun H11 e11 => ?_
      refine ⟨p, l, as, _, s, i, _, rfl, hv10.ext e11, hs, hb, fun H12 b12 hv12 => ⟨_, _, _, rfl, b9.trans ((Buts.of (e10.trans e11)).trans (Buts.but hsm b12)), ?_⟩⟩
      have en : turns v (anyHere v vals) (valueOf v vals) vals (i + 1) = (turns v (anyHere v vals) (valueOf v vals) vals i).set i (nextG v.mis (inN (turns v (anyHere v vals) (valueOf v vals) vals i)) ((turns v (anyHere v vals) (valueOf v vals) vals i).getD i S0) (clo v.th (valueOf v vals) (vals.getD i none))) := by
        rw [turns_succ]
        unfold turnS nextS
        rw [if_neg (by rw [hb]; decide)]
      rw [en]
      exact hv12
  · subst es
    rw [hm, hl9] at hv7
    obtain ⟨dx7, hp7⟩ := hv7.own
    -- what is given
    refine q_fld (y := .int (mvd v.last (valueOf v vals) v.rate)) (fs' := vfs { v with last := mvd v.last (valueOf v vals) v.rate, ss := stepS v vals } l) (ev_call0 (ea_cons (ev_v_last (ev_var rfl) hv7 T) (ea_cons (ev_var rfl) (ea_cons (ev_v_rate (ev_var rfl) hv7 T) ea_nil))) spv_moved) (ev_var rfl) hp7 T.cl_Voter T.na_Voter_last vfs_small rfl fun H8 e8 => ?_
    have hv9 : VAt A (upd H8 p (.ins A.c_Voter dx7 (vfs { v with last := mvd v.last (valueOf v vals) v.rate, ss := stepS v vals } l))) p l as (stepV v vals) := (hv7.ext e8).last
    have b9 : Buts (p :: as) H (upd H8 p (.ins A.c_Voter dx7 (vfs { v with last := mvd v.last (valueOf v vals) v.rate, ss := stepS v vals } l))) :=
      (Buts.of (((((e1.trans e2).trans e3).trans e4).trans e5).trans e6)).trans (b7.trans (Buts.but List.mem_cons_self (But.upd e8)))
    generalize upd H8 p (.ins A.c_Voter dx7 (vfs { v with last := mvd v.last (valueOf v vals) v.rate, ss := stepS v vals } l)) = H9 at hv9 b9 ⊢
    refine s_retU (eu_tup (vs := [.int (stepV v vals).last, .str (stepW v vals)]) (ea_cons (ev_v_last (ev_var rfl) hv9 T) (ea_cons (ev_var rfl) ea_nil)) (by show 2 ≤ 100000; decide)) fun q H10 nq e10 h10 => ?_
    exact q1 H10 q (b9.trans (Buts.of e10)) (b9.fresh (hv9.new nq) nq) h10 (hv9.ext e10)
end
end MV
namespace MV
open PySem PySem.Spec PyProof.Rows L2 Evl
section
variable {K : PySem.W.Frag} {mg : Str → Option Value} {A : Ads}
theorem fresh_get (n i : Nat) : (List.replicate n S0).getD i S0 = S0 := by
  rw [List.getD_eq_getElem?_getD]
  by_cases h : i < n
  · rw [List.getElem?_replicate, if_pos h]
    rfl
  · rw [List.getElem?_replicate, if_neg h]
    rfl
/-- what the making of the sensors keeps -/
structure Made (A : Ads) (Hb : Hp) (i : Nat) (acc : List V) (Dl : Addr) (H : Hp) : Prop where
  ex : ∃ as : List Addr, acc = as.map V.ref ∧ as.length = i ∧ as.Nodup ∧ Dl ∉ as ∧ (∀ s ∈ as, Hb s = none) ∧ ∀ s ∈ as, ∃ dy, H s = some (.ins A.c_Sensor dy (sfs false 0))
  kept : Ex Hb H
  new : Hb Dl = none
theorem pure_Voter_init (T : Txt K mg A) (vs : List V) (H : Hp) (Q : VK) (E : XK) (h : sp_Voter_init K A vs H Q E) : t_Voter_init K A E { nx := fun _ H' => Q .non H', rt := Q } (start ["self", "settings", "start", "many", "threshold", "rate", "misses", "backs", "k"] vs) H := by
  obtain ⟨p, dx, a, m, t, r, ms, b, st, rfl, hp, hS, q1, q2⟩ := h
  show t_Voter_init K A E _ [some (.ref p), some (.ref a), some (.int st), none, none, none, none, none, none] H
  by_cases hok : okSet m t r ms b = true
  case neg =>
    have hok0 : okSet m t r ms b = false := by simpa using hok
    exact q_dropC (vs := [.ref a]) (by walk_at "ev") fun H1 e1 => ⟨a, m, t, r, ms, b, rfl, ex_t e1 hS, fun hn => absurd hn hok, fun _ H2 e2 => q2 hok0 H2 (e1.trans e2)⟩
  refine q_dropC (vs := [.ref a]) (by walk_at "ev") fun H1 e1 => ⟨a, m, t, r, ms, b, rfl, ex_t e1 hS, fun _ H2 e2 => ?_, fun hn => absurd (hok.symm.trans hn) (by decide)⟩
  have q1 := q1 hok
  have hm : 3 ≤ m ∧ m ≤ 9 := by
    unfold okSet at hok
    simp only [Bool.and_eq_true, decide_eq_true_eq] at hok
    exact hok.1
  refine q_tup5 (ev_var rfl) (ex_t (e1.trans e2) hS) fun H3 e3 => ?_
  have e13 := (e1.trans e2).trans e3
  refine q_fld (y := .int t) (fs' := [("threshold", .int t)]) (ev_var rfl) (ev_var rfl) (e13 p _ hp) T.cl_Voter T.na_Voter_threshold (by decide) rfl fun H4 e4 => ?_
  have b4 : But p H (upd H4 p (.ins A.c_Voter dx [("threshold", .int t)])) := (But.of e13).trans (But.upd e4)
  refine q_fld (y := .int r) (fs' := [("threshold", .int t), ("rate", .int r)]) (ev_var rfl) (ev_var rfl) upd_same T.cl_Voter T.na_Voter_rate (by show 1 < 1000; decide) rfl fun H5 e5 => ?_
  have b5 := b4.trans (But.upd (o := .ins A.c_Voter dx [("threshold", .int t), ("rate", .int r)]) e5)
  refine q_fld (y := .int ms) (fs' := [("threshold", .int t), ("rate", .int r), ("misses", .int ms)]) (ev_var rfl) (ev_var rfl) upd_same T.cl_Voter T.na_Voter_misses (by show 2 < 1000; decide) rfl fun H6 e6 => ?_
  have b6 := b5.trans (But.upd (o := .ins A.c_Voter dx [("threshold", .int t), ("rate", .int r), ("misses", .int ms)]) e6)
  refine q_fld (y := .int b) (fs' := [("threshold", .int t), ("rate", .int r), ("misses", .int ms), ("backs", .int b)]) (ev_var rfl) (ev_var rfl) upd_same T.cl_Voter T.na_Voter_backs (by show 3 < 1000; decide) rfl fun H7 e7 => ?_
  have b7 := b6.trans (But.upd (o := .ins A.c_Voter dx [("threshold", .int t), ("rate", .int r), ("misses", .int ms), ("backs", .int b)]) e7)
  have hp7 : (upd H7 p (.ins A.c_Voter dx [("threshold", .int t), ("rate", .int r), ("misses", .int ms), ("backs", .int b)])) p = some (.ins A.c_Voter dx [("threshold", .int t), ("rate", .int r), ("misses", .int ms), ("backs", .int b)]) := upd_same
  generalize upd H7 p (.ins A.c_Voter dx [("threshold", .int t), ("rate", .int r), ("misses", .int ms), ("backs", .int b)]) = H8 at b7 hp7 ⊢
  -- the sensors
  show sFld K (tVar 0) _ "sensors" _ _ _
  refine lc_R1 (n := m) (ea_cons (ev_var rfl) ea_nil) (by omega) (fun _ => rfl) (fun i acc Dl H' => Made A H8 i acc Dl H') (fun H9 Dl e9 hD => ⟨⟨[], rfl, rfl, List.nodup_nil, by simp, by simp, by simp⟩, e9.trans (Ex.new hD), fresh_back e9 hD⟩) (fun i acc Dl H' hi hacc hDl M Q' k => ?_) (fun acc Dl H' hacc hDl M => ?_)
  · obtain ⟨⟨as, rfl, hlen, hnd, hDa, hfr, hsen⟩, hk, hnew⟩ := M
    intro x dy hx hdy hne
    refine ⟨x, dy, rfl, upd_same, fun H2 b2 h2 => ⟨rfl, ?_⟩⟩
    have old : ∀ c o, H' c = some o → H2 c = some o := fun c o hc => b2 c o (ne_of_none hc hx) (by rw [upd_ne (ne_of_none hc hx), upd_ne (ne_of_none hc hdy)]; exact hc)
    have nxD : x ≠ Dl := (ne_of_none hDl hx).symm
    have hxa : x ∉ as := fun z => by
      obtain ⟨dz, q⟩ := hsen x z
      rw [q] at hx
      cases hx
    refine k _ H2 (old _ _ hDl) ⟨⟨as ++ [x], by rw [List.map_append]; rfl, by rw [List.length_append, hlen]; rfl, ?_, ?_, ?_, ?_⟩, ?_, hnew⟩
    · exact List.nodup_append.mpr ⟨hnd, by simp, fun a ha b hb => by rw [List.mem_singleton.mp hb]; exact fun z => hxa (z ▸ ha)⟩
    · intro z
      rcases List.mem_append.mp z with z | z
      · exact hDa z
      · exact nxD (List.mem_singleton.mp z).symm
    · intro s hs
      rcases List.mem_append.mp hs with z | z
      · exact hfr s z
      · rw [List.mem_singleton.mp z]
        exact fresh_back hk hx
    · intro s hs
      rcases List.mem_append.mp hs with z | z
      · obtain ⟨dz, q⟩ := hsen s z
        have nsD : s ≠ Dl := fun w => hDa (w ▸ z)
        exact ⟨dz, by rw [upd_ne nsD]; exact old _ _ q⟩
      · rw [List.mem_singleton.mp z]
        exact ⟨dy, by rw [upd_ne nxD]; exact h2⟩
    · exact (hk.trans old).mut hnew
  · obtain ⟨⟨as, rfl, hlen, hnd, hDa, hfr, hsen⟩, hk, hnew⟩ := M
    refine ⟨.ref p, rfl, p, A.c_Voter, dx, _, rfl, hk _ _ hp7, T.cl_Voter, T.na_Voter_sensors, by show 4 < 1000; decide, ?_⟩
    show sFld K (tVar 0) (tVar 2) "last" _ _ _
    have ef : putF "sensors" (V.ref Dl) [(("threshold" : Str), V.int t), ("rate", .int r), ("misses", .int ms), ("backs", .int b)] = ([("threshold", .int t), ("rate", .int r), ("misses", .int ms), ("backs", .int b), ("sensors", .ref Dl)] : List (Str × V)) := rfl
    rw [ef]
    have npD : p ≠ Dl := ne_of_none hp7 hnew
    refine s_fld (y := .int st) (fs' := vfs (freshV m t r ms b st) Dl) (ev_var rfl) (ev_var rfl) upd_same T.cl_Voter T.na_Voter_last (by show 5 < 1000; decide) rfl fun H9 e9 => ?_
    have hpa : p ∉ as := fun z => by
      have := hfr p z
      rw [hp7] at this
      cases this
    refine q1 _ Dl as (b7.trans ((But.of hk).trans ((But.upd (Ex.refl H')).trans (But.upd e9)))) (fun s hs => ?_) ?_ ⟨⟨dx, upd_same⟩, ?_, ?_, by omega, hnd, hpa, fun i s hs => ?_⟩
    · have nsp : s ≠ p := fun z => hpa (z ▸ hs)
      cases z : H s with
      | none => rfl
      | some o =>
        have := b7 s o nsp z
        rw [hfr s hs] at this
        cases this
    · cases z : H Dl with
      | none => rfl
      | some o =>
        have := b7 Dl o npD.symm z
        rw [hnew] at this
        cases this
    · rw [upd_ne npD.symm]
      exact e9 _ _ (by rw [upd_ne npD.symm]; exact hDl)
    · rw [hlen]
      show m.toNat = (List.replicate m.toNat S0).length
      rw [List.length_replicate]
    · have hsm := List.mem_of_getElem? hs
      obtain ⟨dy, q⟩ := hsen s hsm
      have nsp : s ≠ p := fun z => hpa (z ▸ hsm)
      refine ⟨dy, ?_⟩
      rw [upd_ne nsp]
      refine e9 _ _ ?_
      rw [upd_ne nsp]
      show H' s = some (.ins A.c_Sensor dy (sfs ((List.replicate m.toNat S0).getD i S0).1 ((List.replicate m.toNat S0).getD i S0).2))
      rw [fresh_get]
      exact q
end
end MV
namespace MV
open PySem PySem.Spec PyProof.Rows L2 Evl TL
/-! ### whole numbers as texts -/
abbrev numS (n : Int) : Str := Str.ofString (toString n)
def figL (n : Int) : List Nat := numL n.natAbs
def figS (n : Int) : Str := ⟨(figL n).toArray⟩
theorem tl_fig (n : Int) : tl (figS n) = figL n := rfl
theorem tl_pos {n : Int} (h : 0 ≤ n) : tl (numS n) = figL n := by
  obtain ⟨m, rfl⟩ := Int.eq_ofNat_of_zero_le h
  exact tl_num m
theorem tl_neg {n : Int} (h : n < 0) : tl (numS n) = 45 :: figL n := by
  obtain ⟨m, rfl⟩ : ∃ m : Nat, n = Int.negSucc m := ⟨n.natAbs - 1, by omega⟩
  have e1 : toString (Int.negSucc m) = "-" ++ toString (((m + 1 : Nat) : Int)) := rfl
  have e2 := tl_num (m + 1)
  unfold numS tl
  rw [e1, signs_ofString, String.toList_append, List.map_append]
  unfold tl at e2
  rw [signs_ofString] at e2
  rw [e2]
  rfl
theorem str_ext {x y : Str} (h : tl x = tl y) : x = y := by
  obtain ⟨a⟩ := x
  obtain ⟨b⟩ := y
  have : a = b := Array.toList_inj.mp h
  rw [this]
theorem num_fig {n : Int} (h : 0 ≤ n) : numS n = figS n := str_ext ((tl_pos h).trans (tl_fig n).symm)
theorem fig_ne (n : Int) : figL n ≠ [] := numL_ne _
theorem fig_len {n : Int} (h : n.natAbs < 10 ^ 10) : (figL n).length ≤ 10 := numL_len (by decide) h
theorem fig_head : ∀ {m : Nat}, 1 ≤ m → (numL m).head? ≠ some 48 := by
  intro m
  induction m using Nat.strongRecOn with
  | _ m ih =>
    intro h
    by_cases c : m < 10
    · rw [numL_lt c]
      intro e
      have : 48 + m = 48 := Option.some.inj e
      omega
    · rw [numL_step (by omega)]
      have hne := numL_ne (m / 10)
      have h2 := ih (m / 10) (by omega) (by omega)
      cases hn : numL (m / 10) with
      | nil => exact absurd hn hne
      | cons a r =>
        rw [hn] at h2
        exact h2
theorem int_back {n : Int} (h : n.natAbs < 10 ^ 10) : PySem.intText? (numS n) = some n := by
  by_cases c : n < 0
  · have e := intText_neg (x := numS n) (cs := figL n) (tl_neg c) (numL_digits _) (fig_ne n) (by
      have := fig_len h
      show (numS n).cps.size ≤ 4300
      have e2 : (numS n).cps.size = (tl (numS n)).length := (Array.length_toList).symm
      rw [e2, tl_neg c, List.length_cons]
      omega)
    rw [e]
    unfold figL
    rw [numL_val]
    congr 1
    omega
  · obtain ⟨m, rfl⟩ := Int.eq_ofNat_of_zero_le (Int.not_lt.mp c)
    exact int_num (Nat.le_trans (fig_len h) (by decide))
end MV
namespace MV
open PySem PySem.Spec PyProof.Rows L2 Evl MVH
/-! ### the desk, with what it refuses -/
def saidS : Option Int → Str
  | none => "none"
  | some n => numS n
abbrev Small10 (n : Int) : Prop := n.natAbs < 10 ^ 10
def figOf (x : Str) : Str := if cutS x none (some 1) = ("-" : Str) then cutS x (some 1) none else x
def okA (x : Str) : Bool := (decide (1 ≤ (figOf x).length) && decide ((figOf x).length ≤ 10)) && (figOf x).cps.toList.all fun c => decide (c ∈ (Str.ofString "0123456789").cps.toList)
def okB (x : Str) : Bool := (match (figOf x).cps.toList with | c :: _ => !decide ((⟨#[c]⟩ : Str) = "0") | [] => false) || decide (x = "0")
def okF (x : Str) : Bool := okA x && okB x
/-- which class: BadRow, BadSettings, BadStep, NoSensor -/
def clsA (A : Ads) : Nat → Addr
  | 0 => A.c_BadRow
  | 1 => A.c_BadSettings
  | 2 => A.c_BadStep
  | _ => A.c_NoSensor
def sp_need (K : PySem.W.Frag) (A : Ads) : Sp := fun vs H Q E => ∃ g : Bool, vs = [.bl g] ∧ (g = true → RetV .non H Q) ∧ (g = false → ∀ H', Ex H H' → E (.ref A.c_BadRow) none H')
def sp_number_of (K : PySem.W.Frag) (A : Ads) : Sp := fun vs H Q E => (∃ n : Int, vs = [.str (numS n)] ∧ Small10 n ∧ RetV (.int n) H Q) ∨ (∃ x : Str, vs = [.str x] ∧ x.length ≤ 200 ∧ okF x = false ∧ ∀ H', Ex H H' → E (.ref A.c_BadRow) none H')
def sp_said (K : PySem.W.Frag) (A : Ads) : Sp := fun vs H Q E => (∃ x : Option Int, vs = [.str (saidS x)] ∧ (∀ n, x = some n → Small10 n) ∧ RetV (oV x) H Q) ∨ (∃ x : Str, vs = [.str x] ∧ x.length ≤ 200 ∧ okF x = false ∧ ¬ x = ("none" : Str) ∧ ∀ H', Ex H H' → E (.ref A.c_BadRow) none H')
def dfs (v : V) (m : Int) : List (Str × V) := [("voter", v), ("many", .int m)]
def sp_Desk_init (K : PySem.W.Frag) (A : Ads) : Sp := fun vs H Q _ => ∃ (x dx : Addr), vs = [.ref x] ∧ H x = some (.ins A.c_Desk dx []) ∧ ∀ H', But x H H' → H' x = some (.ins A.c_Desk dx (dfs .non 0)) → Q .non H'
section
variable {K : PySem.W.Frag} {A : Ads} {vs : List V} {H : Hp} {Q : VK} {E : XK}
theorem len_need (h : sp_need K A vs H Q E) : vs.length = 1 := by obtain ⟨_, rfl, _⟩ := h; rfl
theorem len_number_of (h : sp_number_of K A vs H Q E) : vs.length = 1 := by rcases h with ⟨_, rfl, _⟩ | ⟨_, rfl, _⟩ <;> rfl
theorem len_said (h : sp_said K A vs H Q E) : vs.length = 1 := by rcases h with ⟨_, rfl, _⟩ | ⟨_, rfl, _⟩ <;> rfl
theorem len_Desk_init (h : sp_Desk_init K A vs H Q E) : vs.length = 1 := by obtain ⟨_, _, rfl, _⟩ := h; rfl
end
theorem sc_need : FnScope ["good"] ["good"] (defScope s_need) := ⟨rfl, rfl, rfl, by decide +kernel, rfl, by decide +kernel, by decide +kernel⟩
def t_need (K : PySem.W.Frag) (A : Ads) (E : XK) : TS :=
      (tIfS (tNot (tB (tVar 0))) (tRaise E (.ref A.c_BadRow)) tNext)
theorem sc_number_of : FnScope ["text", "figures", "sign"] ["text"] (defScope s_number_of) := ⟨rfl, rfl, rfl, by decide +kernel, rfl, by decide +kernel, by decide +kernel⟩
def t_number_of (K : PySem.W.Frag) (A : Ads) (E : XK) : TS :=
      (tSeq (tAsg (tIf (tTest (tOp rEq (tSl rSlS (tVar 0) tNoPart (tPart (tC (.int 1)))) (tC (.str "-")))) (tSl rSlS (tVar 0) (tPart (tC (.int 1))) tNoPart) (tVar 0)) (gName 1))
      (tSeq (tDrop (tCall (sp_need K A) [] E (tCons (tAndV (tChain oLe oLe (tC (.int 1)) (tCB rLenStr (tCons (tVar 1) tNil)) (tC (.int 10))) (tCB (rAll K) (tCons (tLc (iStr (tVar 1)) (gName 2) tYes (tOp oInS (tVar 2) (tC (.str "0123456789"))) [2]) tNil))) tNil)))
      (tSeq (tDrop (tCall (sp_need K A) [] E (tCons (tOrV (tOp rNe (tOp rIxS (tVar 1) (tC (.int 0))) (tC (.str "0"))) (tOp rEq (tVar 0) (tC (.str "0")))) tNil)))
      (tRet (tCB rIntStr (tCons (tVar 0) tNil))))))
theorem sc_said : FnScope ["text"] ["text"] (defScope s_said) := ⟨rfl, rfl, rfl, by decide +kernel, rfl, by decide +kernel, by decide +kernel⟩
def t_said (K : PySem.W.Frag) (A : Ads) (E : XK) : TS :=
      (tSeq (tIfS (tTest (tOp rEq (tVar 0) (tC (.str "none")))) (tRet (tC .non)) tNext)
      (tRet (tCall (sp_number_of K A) [] E (tCons (tVar 0) tNil))))
theorem sc_Desk_init : FnScope ["self"] ["self"] (defScope s_Desk_init) := ⟨rfl, rfl, rfl, by decide +kernel, rfl, by decide +kernel, by decide +kernel⟩
def t_Desk_init (K : PySem.W.Frag) (A : Ads) (E : XK) : TS :=
      (tSeq (sFld K (tVar 0) (tC .non) "voter")
      (sFld K (tVar 0) (tC (.int 0)) "many"))
end MV
namespace MV
open PySem PySem.Spec PyProof.Rows L2 Evl TL
/-! ### rows that are refused, plainly -/
def valL (l : List Nat) : Nat := l.foldl (fun a c => 10 * a + (c - 48)) 0
def rdN (x : Str) : Int := match x.cps.toList with
  | 45 :: r => -(valL r : Int)
  | l => (valL l : Int)
def numOf (x : Str) : Option Int := if x = numS (rdN x) ∧ (rdN x).natAbs < 10 ^ 10 then some (rdN x) else none
theorem numOf_spec {x : Str} {n : Int} (h : numOf x = some n) : x = numS n ∧ Small10 n := by
  unfold numOf at h
  split at h
  · rename_i c
    cases h
    exact c
  · cases h
def fineN (x : Str) : Bool := decide (x.length ≤ 200) && (!okF x || (numOf x).isSome)
theorem fine_bad {x : Str} (h : fineN x = true) (hn : numOf x = none) : x.length ≤ 200 ∧ okF x = false := by
  unfold fineN at h
  rw [hn, Bool.and_eq_true, decide_eq_true_eq] at h
  refine ⟨h.1, ?_⟩
  have := h.2
  simpa using this
def sdOf (x : Str) : Option (Option Int) := if x = "none" then some none else (numOf x).map some
def fineS (x : Str) : Bool := decide (x = "none") || fineN x
def setB (ns : List Int) : Bool := match ns with
  | [m, t, r, ms, b, _] => okSet m t r ms b
  | _ => true
def clsV (xs : List Str) : Option Nat := if xs.all fineN = true then (if (xs.all fun x => (numOf x).isSome) = true then (if setB (xs.map fun x => (numOf x).getD 0) = false then some 1 else none) else some 0) else none
def clsS (n : Nat) (xs : List Str) : Option Nat := if xs.all fineS = true then (if (xs.all fun x => (sdOf x).isSome) = true then (if okStep (xs.map fun x => (sdOf x).getD none) n = false then some 2 else none) else some 0) else none
def clsP (n : Nat) (x : Str) : Option Nat := if fineN x = true then (match numOf x with
  | some i => if ¬ (0 ≤ i ∧ i < (n : Int)) then some 3 else none
  | none => some 0) else none
/-- the class of a refusal: mv the number of the voter's sensors -/
def clsR (mv : Option Nat) : List Str → Option Nat
  | [] => none
  | w :: xs =>
    if w = "voter" then (if xs.length = 6 then clsV xs else some 0)
    else match mv with
      | none => some 0
      | some n => if w = "step" then (if xs.length = n then clsS n xs else some 0) else if w = "given" then (if xs.length = 0 then none else some 0) else if w = "sensor" ∧ xs.length = 1 then clsP n (xs.headD "") else some 0
theorem clsR_cons {mv : Option Nat} {w : Str} {xs : List Str} : clsR mv (w :: xs) = if w = "voter" then (if xs.length = 6 then clsV xs else some 0)
    else match mv with
      | none => some 0
      | some n => if w = "step" then (if xs.length = n then clsS n xs else some 0) else if w = "given" then (if xs.length = 0 then none else some 0) else if w = "sensor" ∧ xs.length = 1 then clsP n (xs.headD "") else some 0 := rfl
theorem range_map {α β : Type} (xs : List α) (d : α) (f : α → β) : (List.range xs.length).map (fun i => f (xs.getD i d)) = xs.map f := by
  refine List.ext_getElem (by rw [List.length_map, List.length_range, List.length_map]) fun i h1 h2 => ?_
  rw [List.getElem_map, List.getElem_map, List.getElem_range, List.getD_eq_getElem?_getD, List.getElem?_eq_getElem (by rw [List.length_map] at h2; exact h2)]
  rfl
end MV
namespace MV
open PySem PySem.Spec PyProof.Rows L2 Evl TL
section
variable {K : PySem.W.Frag} {mg : Str → Option Value} {A : Ads}
theorem pure_need (T : Txt K mg A) (vs : List V) (H : Hp) (Q : VK) (E : XK) (h : sp_need K A vs H Q E) : t_need K A E { nx := fun _ H' => Q .non H', rt := Q } (start ["good"] vs) H := by
  obtain ⟨g, rfl, q1, q2⟩ := h
  show t_need K A E _ [some (.bl g)] H
  refine s_when (b := !g) (et_not (et_B (ev_var rfl))) (fun hb H1 e1 => ?_) (fun hb H1 e1 => ?_)
  · exact s_raise fun H2 e2 => q2 (by simpa using hb) H2 (e1.trans e2)
  · exact q1 (by simpa using hb) H1 e1
section
variable {σ : L2.St} {H : Hp} {ta te : TE} {z : Str} {j : Nat} {vs : List Nat}
/-- a comprehension over a text -/
theorem el_lcS {w : Nat → V} (h : Ev ta σ H (.str z)) (hz : z.cps.size ≤ 40000) (hw : ∀ x, wipe ((wipe σ vs).set j (some x)) vs = wipe σ vs) (he : ∀ (i c : Nat) H1, Ex H H1 → z.cps[i]? = some c → Ev te ((wipe σ vs).set j (some (.str ⟨#[c]⟩))) H1 (w i)) : EvL (tLc (iStr ta) (gName j) tYes te vs) σ H ((List.range z.cps.size).map w) := fun H0 e Q q =>
  h H0 e _ fun H1 e1 => ⟨z, rfl, fun Dl hD => by
    refine lc_it (walk_str (z := z)) (Cw H1 (fun _ => true) w Dl) ⟨hD, Ex.new hD, upd_same⟩ (fun i H' _ pc => trivial) (fun i y H2 H2' hi pc hy => ?_) (fun H' pc => ?_)
    · obtain ⟨rfl, c, hc, rfl⟩ := hy
      refine ⟨hw _, ?_⟩
      exact cw_turn (t := tYes) pc (by omega) (fun H5 _ Q' q' => q' H5 (Ex.refl H5)) (fun _ => he i c H1 (e.trans e1) hc)
    · have e9 : Evl.given z.cps.size (fun _ => true) w = (List.range z.cps.size).map w := by
        unfold Evl.given
        rw [List.filter_eq_self.mpr (fun _ _ => rfl)]
      obtain ⟨p1, p2, p3⟩ := pc
      rw [e9] at p3
      exact q Dl H' (fresh_back e1 p1) (e1.trans p2) p3⟩
end
theorem digits_in : ∀ c : Nat, (48 ≤ c ∧ c ≤ 57) → decide (c ∈ (Str.ofString "0123456789").cps.toList) = true := by
  intro c h
  have : c = 48 ∨ c = 49 ∨ c = 50 ∨ c = 51 ∨ c = 52 ∨ c = 53 ∨ c = 54 ∨ c = 55 ∨ c = 56 ∨ c = 57 := by omega
  rcases this with rfl | rfl | rfl | rfl | rfl | rfl | rfl | rfl | rfl | rfl <;> decide +kernel
theorem cut_first {z : Str} : tl (cutS z none (some 1)) = (tl z).take 1 := by
  have e : HT.sIx z.length z.length (some 1) = min 1 z.length := HT.sIx_nat _ _ 1
  show ((z.cps.toList.drop 0).take (HT.sIx z.length z.length (some 1) - 0)) = _
  rw [e, List.drop_zero, Nat.sub_zero]
  show (tl z).take (min 1 z.length) = _
  rw [len_tl]
  cases tl z with
  | nil => rfl
  | cons a r => simp
theorem cut_rest {z : Str} : tl (cutS z (some 1) none) = (tl z).drop 1 := by
  have e : HT.sIx z.length 0 (some 1) = min 1 z.length := HT.sIx_nat _ 0 1
  show ((z.cps.toList.drop (HT.sIx z.length 0 (some 1))).take (z.length - HT.sIx z.length 0 (some 1))) = _
  rw [e]
  show ((tl z).drop (min 1 z.length)).take (z.length - min 1 z.length) = _
  rw [len_tl, ← List.length_drop, List.take_length]
  cases tl z with
  | nil => rfl
  | cons a r => simp
theorem first_neg (n : Int) : decide (cutS (numS n) none (some 1) = ("-" : Str)) = decide (n < 0) := by
  refine decide_eq_decide.mpr ⟨fun h => ?_, fun h => ?_⟩
  · refine Int.not_le.mp fun c => ?_
    have := congrArg tl h
    rw [cut_first, tl_pos c] at this
    have hd := numL_digits n.natAbs
    cases hf : figL n with
    | nil => exact fig_ne n hf
    | cons a r =>
      rw [hf] at this
      have e : a = 45 := (List.cons.inj this).1
      have := hd a (by show a ∈ figL n; rw [hf]; simp)
      omega
  · refine str_ext ?_
    rw [cut_first, tl_neg h]
    show [45] = tl ("-" : Str)
    decide +kernel
theorem figS_of (n : Int) : (if n < 0 then cutS (numS n) (some 1) none else numS n) = figS n := by
  split
  · rename_i h
    refine str_ext ?_
    rw [cut_rest, tl_neg h]
    rfl
  · rename_i h
    exact num_fig (Int.not_lt.mp h)
theorem number_good (T : Txt K mg A) {n : Int} {H : Hp} {Q : VK} {E : XK} (hn : Small10 n) (q : RetV (.int n) H Q) : t_number_of K A E { nx := fun _ H' => Q .non H', rt := Q } [some (.str (numS n)), none, none] H := by
  have hfl := fig_len hn
  have hnl : (numS n).length ≤ 11 := by
    rw [len_tl]
    by_cases c : n < 0
    · rw [tl_neg c, List.length_cons]; omega
    · rw [tl_pos (Int.not_lt.mp c)]; omega
  have ssl : ∀ (lo hi : Option Int) (t1 t2 : TO) (H1 : Hp) (σ : L2.St), σ[0]? = some (some (.str (numS n))) → EvO t1 σ H1 lo → EvO t2 σ H1 hi → Ev (tSl rSlS (tVar 0) t1 t2) σ H1 (.str (cutS (numS n) lo hi)) := fun lo hi t1 t2 H1 σ hσ h1 h2 H2 e Q' q' =>
    ⟨.str (numS n), hσ, h1 H2 e _ fun H3 e3 => h2 H3 (e.trans e3) _ fun H4 e4 => ⟨numS n, rfl, sz_of (by omega), q' H4 (e3.trans e4)⟩⟩
  refine q_asg (v := .str (figS n)) ?_ fun H1 e1 => ?_
  · refine ev_is (ev_ifB (b := decide (n < 0)) (et_is (et_test (ev_op (ssl none (some 1) _ _ H _ rfl eo_none (eo_some ev_c)) ev_c rv_eqS)) (first_neg n)) (ssl (some 1) none _ _ H _ rfl (eo_some ev_c) eo_none) (ev_var rfl)) ?_
    rw [← figS_of n]
    by_cases c : n < 0
    · rw [decide_eq_true c, if_pos rfl, if_pos c]
    · rw [decide_eq_false c, if_neg (by decide), if_neg c]
  have hsz : (figS n).cps.size = (figL n).length := by show (figL n).toArray.size = _; simp
  have hpos : 1 ≤ (figL n).length := List.length_pos_iff.mpr (fig_ne n)
  have hgl : ((figS n).length : Int) = ((figL n).length : Int) := by rw [len_tl]; rfl
  -- one to ten figures
  refine q_dropC (vs := [.bl true]) (ea_cons (ev_is (ev_andIf (a1 := true) (b1 := true) (ev_is (ev_chain (y := .int ((figS n).length : Int)) ev_c (ev_cb (ea_cons (ev_var rfl) ea_nil) (rc_of fun _ _ _ q => ⟨figS n, rfl, sz_of (by rw [len_tl]; show (figL n).length ≤ 100000; omega), q⟩)) ev_c rv_I0 rv_I0) ?_) fun _ => ?_) (by rfl)) ea_nil) fun H2 e2 => ⟨true, rfl, fun _ H3 e3 => ?_, fun z => nomatch z⟩
  · rw [hgl, decide_eq_true (show (1 : Int) ≤ ((figL n).length : Int) by omega), decide_eq_true (show ((figL n).length : Int) ≤ 10 by omega)]
    rfl
  · refine ev_is (ev_cbN (el_is (el_lcS (z := figS n) (w := fun _ => V.bl true) (ev_var rfl) (by rw [hsz]; omega) (fun _ => rfl) fun i c H3 e3 hc => ?_) (ys := (List.replicate (figL n).length true).map V.bl) ?_) fun p H3 e3 h3 => rc_all (sq_of h3)) ?_
    · have hm : c ∈ figL n := List.mem_of_getElem? (by rw [show (figS n).cps = (figL n).toArray from rfl, List.getElem?_toArray] at hc; exact hc)
      have hd := numL_digits n.natAbs c hm
      exact ev_is (ev_op (ev_var rfl) ev_c (rv_val fun _ _ Q' q' => ⟨c, _, rfl, rfl, q'⟩)) (by rw [digits_in c hd])
    · rw [hsz, List.map_replicate, List.map_const', List.length_range]
    · rw [show (List.replicate (figL n).length true).all id = true by simp]
  -- no nought ahead
  have hc0 : ∃ c r, figL n = c :: r := by
    cases hf : figL n with
    | nil => exact absurd hf (fig_ne n)
    | cons a r => exact ⟨a, r, rfl⟩
  obtain ⟨c, r, hcr⟩ := hc0
  refine q_dropC (vs := [.bl true]) (ea_cons (ev_is (ev_orB (ev_op (ev_op (ev_var rfl) ev_c (rv_ixS (c := c) (by rw [len_tl]; show (figL n).length ≤ 100000; omega) (atI_nat (j := 0) (by show (figL n)[0]? = some c; rw [hcr]; rfl)))) ev_c rv_neS) (ev_op (ev_var rfl) ev_c rv_eqS)) ?_) ea_nil) fun H4 e4 => ⟨true, rfl, fun _ H5 e5 => ?_, fun z => nomatch z⟩
  · congr 1
    by_cases h0 : n = 0
    · subst h0
      have : numS 0 = ("0" : Str) := rfl
      rw [decide_eq_true this, Bool.or_true]
    · have hne : ¬ (⟨#[c]⟩ : Str) = ("0" : Str) := fun z => by
        have hh := fig_head (m := n.natAbs) (by omega)
        have e := congrArg tl z
        have e2 : c = 48 := (List.cons.inj (e.trans (by decide +kernel : tl ("0" : Str) = [48]))).1
        refine hh ?_
        show (figL n).head? = some 48
        rw [hcr, e2]
        rfl
      rw [decide_eq_false hne]
      rfl
  exact s_ret (ev_cb (ea_cons (ev_var rfl) ea_nil) (rc_intS (int_back hn) (by omega))) fun H6 e6 => q H6 (((((e1.trans e2).trans e3).trans e4).trans e5).trans e6)
theorem cut_len {z : Str} : (cutS z (some 1) none).length ≤ z.length := by
  rw [len_tl, len_tl, cut_rest, List.length_drop]
  omega
theorem fig_le {x : Str} : (figOf x).length ≤ x.length := by
  unfold figOf
  split
  · exact cut_len
  · exact Nat.le_refl _
theorem number_bad (T : Txt K mg A) {x : Str} {H : Hp} {Q : VK} {E : XK} (hl : x.length ≤ 200) (hb : okF x = false) (q : ∀ H', Ex H H' → E (.ref A.c_BadRow) none H') : t_number_of K A E { nx := fun _ H' => Q .non H', rt := Q } [some (.str x), none, none] H := by
  have ssl : ∀ (lo hi : Option Int) (t1 t2 : TO) (H1 : Hp) (σ : L2.St), σ[0]? = some (some (.str x)) → EvO t1 σ H1 lo → EvO t2 σ H1 hi → Ev (tSl rSlS (tVar 0) t1 t2) σ H1 (.str (cutS x lo hi)) := fun lo hi t1 t2 H1 σ hσ h1 h2 H2 e Q' q' =>
    ⟨.str x, hσ, h1 H2 e _ fun H3 e3 => h2 H3 (e.trans e3) _ fun H4 e4 => ⟨x, rfl, sz_of (by omega), q' H4 (e3.trans e4)⟩⟩
  refine q_asg (v := .str (figOf x)) ?_ fun H1 e1 => ?_
  · refine ev_is (ev_ifB (b := decide (cutS x none (some 1) = ("-" : Str))) (et_test (ev_op (ssl none (some 1) _ _ H _ rfl eo_none (eo_some ev_c)) ev_c rv_eqS)) (ssl (some 1) none _ _ H _ rfl (eo_some ev_c) eo_none) (ev_var rfl)) ?_
    unfold figOf
    by_cases c : cutS x none (some 1) = ("-" : Str)
    · rw [decide_eq_true c, if_pos rfl, if_pos c]
    · rw [decide_eq_false c, if_neg (by decide), if_neg c]
  have hfl : (figOf x).length ≤ 200 := Nat.le_trans fig_le hl
  have hb : (okA x && okB x) = false := hb
  unfold okA okB at hb
  generalize figOf x = z at *
  have hsz : z.cps.size = z.length := rfl
  let f : Nat → Bool := fun c => decide (c ∈ (Str.ofString "0123456789").cps.toList)
  have h1 : ∀ H1, Ev (tChain oLe oLe (tC (.int 1)) (tCB rLenStr (tCons (tVar 1) tNil)) (tC (.int 10))) [some (.str x), some (.str z), none] H1 (.bl (decide (1 ≤ z.length) && decide (z.length ≤ 10))) := fun H1 => by
    refine ev_is (ev_chain (y := .int (z.length : Int)) ev_c (ev_cb (ea_cons (ev_var rfl) ea_nil) (rc_of fun _ _ _ q => ⟨z, rfl, sz_of (by omega), q⟩)) ev_c rv_I0 rv_I0) ?_
    rw [decide_eq_decide.mpr (show (1 : Int) ≤ (z.length : Int) ↔ 1 ≤ z.length by omega), decide_eq_decide.mpr (show (z.length : Int) ≤ 10 ↔ z.length ≤ 10 by omega)]
  have h2 : ∀ H1, Ev (tCB (rAll K) (tCons (tLc (iStr (tVar 1)) (gName 2) tYes (tOp oInS (tVar 2) (tC (.str "0123456789"))) [2]) tNil)) [some (.str x), some (.str z), none] H1 (.bl (z.cps.toList.all f)) := fun H1 => by
    refine ev_is (ev_cbN (el_is (el_lcS (z := z) (w := fun i => V.bl (f (z.cps.toList.getD i 0))) (ev_var rfl) (by rw [hsz]; omega) (fun _ => rfl) fun i c H3 e3 hc => ?_) (ys := (z.cps.toList.map f).map V.bl) ?_) fun p H3 e3 h3 => rc_all (sq_of h3)) ?_
    · have hc' : z.cps.toList[i]? = some c := by rw [Array.getElem?_toList]; exact hc
      rw [List.getD_eq_getElem?_getD, hc']
      exact ev_op (ev_var rfl) ev_c (rv_val fun _ _ Q' q' => ⟨c, _, rfl, rfl, q'⟩)
    · rw [List.map_map, ← Array.length_toList]
      exact range_map z.cps.toList 0 fun c => V.bl (f c)
    · congr 1
      induction z.cps.toList with
      | nil => rfl
      | cons a r ih => show (f a && _) = (f a && _); rw [ih]
  refine q_dropC (vs := [.bl ((decide (1 ≤ z.length) && decide (z.length ≤ 10)) && z.cps.toList.all f)]) (ea_cons (ev_andIf (h1 H1) fun _ => h2 H1) ea_nil) fun H2 e2 => ⟨_, rfl, fun hA H3 e3 => ?_, fun _ H3 e3 => q H3 ((e1.trans e2).trans e3)⟩
  have hA2 := hA
  rw [Bool.and_eq_true, Bool.and_eq_true, decide_eq_true_eq, decide_eq_true_eq] at hA2
  rw [hA, Bool.true_and] at hb
  cases hcs : z.cps.toList with
  | nil =>
    have : z.length = 0 := by show z.cps.size = 0; rw [← Array.length_toList, hcs]; rfl
    omega
  | cons c r =>
    rw [hcs] at hb
    refine q_dropC (vs := [.bl false]) (ea_cons (ev_is (ev_orB (ev_op (ev_op (ev_var rfl) ev_c (rv_ixS (c := c) (by omega) (atI_nat (j := 0) (by rw [hcs]; rfl)))) ev_c rv_neS) (ev_op (ev_var rfl) ev_c rv_eqS)) (congrArg V.bl hb)) ea_nil) fun H4 e4 => ⟨false, rfl, (fun w => absurd w (by decide)), fun _ H5 e5 => q H5 ((((e1.trans e2).trans e3).trans e4).trans e5)⟩
theorem pure_number_of (T : Txt K mg A) (vs : List V) (H : Hp) (Q : VK) (E : XK) (h : sp_number_of K A vs H Q E) : t_number_of K A E { nx := fun _ H' => Q .non H', rt := Q } (start ["text", "figures", "sign"] vs) H := by
  rcases h with ⟨n, rfl, hn, q⟩ | ⟨x, rfl, hl, hb, q⟩
  · exact number_good T hn q
  · exact number_bad T hl hb q
theorem num_not_none (n : Int) : ¬ numS n = ("none" : Str) := fun z => by
  have e := congrArg tl z
  have e2 : tl ("none" : Str) = [110, 111, 110, 101] := by decide +kernel
  rw [e2] at e
  by_cases c : n < 0
  · rw [tl_neg c] at e
    exact absurd (List.cons.inj e).1 (by decide)
  · rw [tl_pos (Int.not_lt.mp c)] at e
    have := numL_digits n.natAbs 110 (by show 110 ∈ figL n; rw [e]; simp)
    omega
theorem pure_said (T : Txt K mg A) (vs : List V) (H : Hp) (Q : VK) (E : XK) (h : sp_said K A vs H Q E) : t_said K A E { nx := fun _ H' => Q .non H', rt := Q } (start ["text"] vs) H := by
  rcases h with ⟨x, rfl, hx, q⟩ | ⟨x, rfl, hl, hb, hne, q⟩
  · show t_said K A E _ [some (.str (saidS x))] H
    cases x with
    | none =>
      refine q_when (b := true) (et_is (et_test (ev_op (ev_var rfl) ev_c rv_eqS)) (decide_eq_true rfl)) (fun _ H1 e1 => ?_) (fun hb => absurd hb (by decide))
      exact s_ret ev_c fun H2 e2 => q H2 (e1.trans e2)
    | some n =>
      refine q_when (b := false) (et_is (et_test (ev_op (ev_var rfl) ev_c rv_eqS)) (decide_eq_false (num_not_none n))) (fun hb => absurd hb (by decide)) fun _ H1 e1 => ?_
      exact s_retC (vs := [.str (numS n)]) (ea_cons (ev_var rfl) ea_nil) fun H2 e2 => .inl ⟨n, rfl, hx n rfl, fun H3 e3 => q H3 ((e1.trans e2).trans e3)⟩
  · show t_said K A E _ [some (.str x)] H
    refine q_when (b := false) (et_is (et_test (ev_op (ev_var rfl) ev_c rv_eqS)) (decide_eq_false hne)) (fun hb => absurd hb (by decide)) fun _ H1 e1 => ?_
    exact s_retC (vs := [.str x]) (ea_cons (ev_var rfl) ea_nil) fun H2 e2 => .inr ⟨x, rfl, hl, hb, fun H3 e3 => q H3 ((e1.trans e2).trans e3)⟩
theorem pure_Desk_init (T : Txt K mg A) (vs : List V) (H : Hp) (Q : VK) (E : XK) (h : sp_Desk_init K A vs H Q E) : t_Desk_init K A E { nx := fun _ H' => Q .non H', rt := Q } (start ["self"] vs) H := by
  obtain ⟨x, dx, rfl, hx, q⟩ := h
  show t_Desk_init K A E _ [some (.ref x)] H
  refine q_fld (y := .non) (fs' := [("voter", .non)]) ev_c (ev_var rfl) hx T.cl_Desk T.na_Desk_voter (by decide) rfl fun H1 e1 => ?_
  refine s_fld (y := .int 0) (fs' := dfs .non 0) ev_c (ev_var rfl) upd_same T.cl_Desk T.na_Desk_many (by show 1 < 1000; decide) rfl fun H2 e2 => ?_
  exact q _ ((But.upd e1).trans (But.upd e2)) upd_same
end
end MV
namespace MV
open PySem PySem.Spec PyProof.Rows L2 Evl TL
/-! ### lines of the desk -/
inductive Line
  | voter (m t r ms b s : Int)
  | step (vals : List (Option Int))
  | given
  | sensor (i : Nat)
def wordsL : Line → List Str
  | .voter m t r ms b s => ["voter", numS m, numS t, numS r, numS ms, numS b, numS s]
  | .step vals => "step" :: vals.map saidS
  | .given => ["given"]
  | .sensor i => ["sensor", numS i]
def lineS (l : Line) : Str := Txt.join " " (wordsL l)
theorem wordsL_ne (l : Line) : wordsL l ≠ [] := by cases l <;> exact fun z => nomatch z
theorem num_free {n : Int} {s : Nat} (h : s < 45 ∨ 57 < s) : s ∉ tl (numS n) := fun hm => by
  by_cases c : n < 0
  · rw [tl_neg c] at hm
    rcases List.mem_cons.mp hm with z | z
    · omega
    · have := numL_digits n.natAbs s z
      omega
  · rw [tl_pos (Int.not_lt.mp c)] at hm
    have := numL_digits n.natAbs s hm
    omega
theorem said_free {x : Option Int} {s : Nat} (h : s = 32 ∨ s = 10) : s ∉ tl (saidS x) := by
  cases x with
  | some n => exact num_free (by omega)
  | none => rcases h with rfl | rfl <;> decide +kernel
theorem words_free (l : Line) {s : Nat} (h : s = 32 ∨ s = 10) : ∀ p ∈ wordsL l, s ∉ tl p := by
  intro p hp
  cases l with
  | voter m t r ms b st =>
    simp only [wordsL, List.mem_cons, List.not_mem_nil, or_false] at hp
    rcases hp with rfl | rfl | rfl | rfl | rfl | rfl | rfl
    · rcases h with rfl | rfl <;> decide +kernel
    all_goals exact num_free (by omega)
  | step vals =>
    rcases List.mem_cons.mp hp with rfl | hp
    · rcases h with rfl | rfl <;> decide +kernel
    · obtain ⟨x, _, rfl⟩ := List.mem_map.mp hp
      exact said_free h
  | given =>
    rw [List.mem_singleton.mp hp]
    rcases h with rfl | rfl <;> decide +kernel
  | sensor i =>
    simp only [wordsL, List.mem_cons, List.not_mem_nil, or_false] at hp
    rcases hp with rfl | rfl
    · rcases h with rfl | rfl <;> decide +kernel
    · exact num_free (by omega)
theorem tl_sp : tl (" " : Str) = [32] := by decide +kernel
theorem tl_nl : tl ("\n" : Str) = [10] := by decide +kernel
theorem line_split (l : Line) : Txt.split (lineS l) " " = wordsL l := split_join tl_sp (by decide +kernel) (wordsL_ne l) (words_free l (.inl rfl))
theorem joinL_mem {S : List Nat} {c : Nat} : ∀ {ps : List (List Nat)}, c ∈ joinL S ps → c ∈ S ∨ ∃ p ∈ ps, c ∈ p
  | [], h => nomatch h
  | [p], h => .inr ⟨p, by simp, h⟩
  | p :: q :: r, h => by
    rcases List.mem_append.mp h with z | z
    · exact .inr ⟨p, by simp, z⟩
    · rcases List.mem_append.mp z with z | z
      · exact .inl z
      · rcases joinL_mem z with w | ⟨p', hp', hc⟩
        · exact .inl w
        · exact .inr ⟨p', List.mem_cons_of_mem _ hp', hc⟩
theorem line_no_nl (l : Line) : 10 ∉ tl (lineS l) := fun h => by
  unfold lineS at h
  rw [join_eq, tl_join, tl_sp] at h
  rcases joinL_mem h with z | ⟨p, hp, hc⟩
  · simp at z
  · obtain ⟨w, hw, rfl⟩ := List.mem_map.mp hp
    exact words_free l (.inr rfl) w hw hc
theorem lines_split {ls : List Line} (h : ls ≠ []) : Txt.split (Txt.join "\n" (ls.map lineS)) "\n" = ls.map lineS := split_join tl_nl (by decide +kernel) (fun z => h (List.map_eq_nil_iff.mp z)) fun p hp => by
  obtain ⟨l, _, rfl⟩ := List.mem_map.mp hp
  exact line_no_nl l
theorem joinL_len {S : List Nat} {n : Nat} : ∀ {ps : List (List Nat)}, (∀ p ∈ ps, p.length ≤ n) → (joinL S ps).length ≤ ps.length * (n + S.length)
  | [], _ => Nat.zero_le _
  | [p], h => by
    show p.length ≤ 1 * (n + S.length)
    have := h p (by simp)
    omega
  | p :: q :: r, h => by
    have h1 := h p (by simp)
    have h2 := joinL_len (S := S) (ps := q :: r) fun z hz => h z (List.mem_cons_of_mem _ hz)
    show (p ++ (S ++ joinL S (q :: r))).length ≤ _
    rw [List.length_append, List.length_append, List.length_cons, Nat.succ_mul]
    omega
theorem joinL_ends {S : List Nat} : ∀ {ps : List (List Nat)}, ps ≠ [] → (∀ p ∈ ps, p ≠ []) → (∃ c, (joinL S ps).head? = some c ∧ ∃ p ∈ ps, c ∈ p) ∧ ∃ c, (joinL S ps).reverse.head? = some c ∧ ∃ p ∈ ps, c ∈ p
  | [], h, _ => absurd rfl h
  | [p], _, hp => by
    have hne := hp p (by simp)
    refine ⟨?_, ?_⟩
    · cases hq : p with
      | nil => exact absurd hq hne
      | cons a r => exact ⟨a, rfl, p, by simp [hq], by simp [hq]⟩
    · have hr : p.reverse ≠ [] := fun z => hne (List.reverse_eq_nil_iff.mp z)
      cases hq : p.reverse with
      | nil => exact absurd hq hr
      | cons a r =>
        refine ⟨a, by show p.reverse.head? = some a; rw [hq]; rfl, p, by simp, ?_⟩
        have : a ∈ p.reverse := by rw [hq]; simp
        exact List.mem_reverse.mp this
  | p :: q :: r, _, hp => by
    have hne := hp p (by simp)
    obtain ⟨_, c2, e2, p2, hp2, hc2⟩ := joinL_ends (S := S) (ps := q :: r) (by simp) fun z hz => hp z (List.mem_cons_of_mem _ hz)
    refine ⟨?_, c2, ?_, p2, List.mem_cons_of_mem _ hp2, hc2⟩
    · cases hq : p with
      | nil => exact absurd hq hne
      | cons a t => exact ⟨a, rfl, p, by simp [hq], by simp [hq]⟩
    · show (p ++ (S ++ joinL S (q :: r))).reverse.head? = some c2
      rw [List.reverse_append, List.reverse_append]
      cases hq : (joinL S (q :: r)).reverse with
      | nil => rw [hq] at e2; cases e2
      | cons a t =>
        rw [hq] at e2
        exact e2
theorem num_ne (n : Int) : tl (numS n) ≠ [] := by
  by_cases c : n < 0
  · rw [tl_neg c]; simp
  · rw [tl_pos (Int.not_lt.mp c)]; exact fig_ne n
theorem words_ne (l : Line) : ∀ p ∈ wordsL l, tl p ≠ [] := by
  intro p hp
  cases l with
  | voter m t r ms b st =>
    simp only [wordsL, List.mem_cons, List.not_mem_nil, or_false] at hp
    rcases hp with rfl | rfl | rfl | rfl | rfl | rfl | rfl
    · decide +kernel
    all_goals exact num_ne _
  | step vals =>
    rcases List.mem_cons.mp hp with rfl | hp
    · decide +kernel
    · obtain ⟨x, _, rfl⟩ := List.mem_map.mp hp
      cases x with
      | some n => exact num_ne n
      | none => decide +kernel
  | given =>
    rw [List.mem_singleton.mp hp]
    decide +kernel
  | sensor i =>
    simp only [wordsL, List.mem_cons, List.not_mem_nil, or_false] at hp
    rcases hp with rfl | rfl
    · decide +kernel
    · exact num_ne _
theorem strip_same {x : Str} (h1 : ∀ c, (tl x).head? = some c → c ≠ 32) (h2 : ∀ c, (tl x).reverse.head? = some c → c ≠ 32) : Txt.stripChars x " " = x := by
  have hg : ∀ c : Nat, c ≠ 32 → (" " : Str).cps.contains c = false := fun c hc => by
    have e : (" " : Str).cps = #[32] := by decide +kernel
    rw [e]
    simp [hc]
  have t0 : ∀ l : List Nat, (∀ c, l.head? = some c → c ≠ 32) → l.takeWhile (" " : Str).cps.contains = [] := fun l hl => by
    cases l with
    | nil => rfl
    | cons a r => rw [List.takeWhile_cons, if_neg (by rw [hg a (hl a rfl)]; decide)]
  have e0 : stripLo (" " : Str).cps.contains true x = 0 := by
    unfold stripLo
    rw [if_pos rfl, show x.cps.toList.takeWhile (" " : Str).cps.contains = [] from t0 (tl x) h1]
    rfl
  have e3 : stripHi (" " : Str).cps.contains true x 0 = x.length := by
    unfold stripHi
    rw [if_pos rfl, show (x.cps.toList.drop 0).reverse.takeWhile (" " : Str).cps.contains = [] from t0 (tl x).reverse h2]
    rfl
  unfold Txt.stripChars Txt.stripBy stripSame
  rw [e0, e3]
  exact if_pos (by simp)
theorem line_strip (l : Line) : Txt.stripChars (lineS l) " " = lineS l ∧ ¬ lineS l = ("" : Str) := by
  have ht : tl (lineS l) = joinL [32] ((wordsL l).map tl) := by unfold lineS; rw [join_eq, tl_join, tl_sp]
  obtain ⟨⟨c1, e1, p1, hp1, hc1⟩, c2, e2, p2, hp2, hc2⟩ := joinL_ends (S := [32]) (ps := (wordsL l).map tl) (fun z => wordsL_ne l (List.map_eq_nil_iff.mp z)) fun p hp => by
    obtain ⟨w, hw, rfl⟩ := List.mem_map.mp hp
    exact words_ne l w hw
  have fr : ∀ p ∈ (wordsL l).map tl, ∀ c ∈ p, c ≠ 32 := fun p hp c hc z => by
    obtain ⟨w, hw, rfl⟩ := List.mem_map.mp hp
    exact words_free l (.inl rfl) w hw (z ▸ hc)
  refine ⟨strip_same (fun c h => ?_) (fun c h => ?_), fun z => ?_⟩
  · rw [ht, e1] at h
    exact Option.some.inj h ▸ fr p1 hp1 c1 hc1
  · rw [ht, e2] at h
    exact Option.some.inj h ▸ fr p2 hp2 c2 hc2
  · have := congrArg tl z
    rw [ht] at this
    rw [this] at e1
    cases e1
/-! ### small lines -/
def smallL : Line → Prop
  | .voter m t r ms b s => Small10 m ∧ Small10 t ∧ Small10 r ∧ Small10 ms ∧ Small10 b ∧ Small10 s
  | .step vals => vals.length ≤ 9 ∧ ∀ x ∈ vals, ∀ n, x = some n → Small10 n
  | .given => True
  | .sensor i => i < 100
theorem num_len {n : Int} (h : Small10 n) : (tl (numS n)).length ≤ 11 := by
  have := fig_len h
  by_cases c : n < 0
  · rw [tl_neg c, List.length_cons]; omega
  · rw [tl_pos (Int.not_lt.mp c)]; omega
theorem line_len {l : Line} (h : smallL l) : (lineS l).length ≤ 130 := by
  have ht : tl (lineS l) = joinL [32] ((wordsL l).map tl) := by unfold lineS; rw [join_eq, tl_join, tl_sp]
  have hw : ∀ p ∈ (wordsL l).map tl, p.length ≤ 11 := by
    intro p hp
    obtain ⟨w, hw, rfl⟩ := List.mem_map.mp hp
    cases l with
    | voter m t r ms b st =>
      obtain ⟨a1, a2, a3, a4, a5, a6⟩ := h
      simp only [wordsL, List.mem_cons, List.not_mem_nil, or_false] at hw
      rcases hw with rfl | rfl | rfl | rfl | rfl | rfl | rfl
      · decide +kernel
      all_goals exact num_len (by assumption)
    | step vals =>
      rcases List.mem_cons.mp hw with rfl | hw
      · decide +kernel
      · obtain ⟨x, hx, rfl⟩ := List.mem_map.mp hw
        cases x with
        | some n => exact num_len (h.2 _ hx n rfl)
        | none => decide +kernel
    | given =>
      rw [List.mem_singleton.mp hw]
      decide +kernel
    | sensor i =>
      simp only [wordsL, List.mem_cons, List.not_mem_nil, or_false] at hw
      rcases hw with rfl | rfl
      · decide +kernel
      · have h : i < 100 := h
        exact num_len (by show ((i : Int)).natAbs < 10 ^ 10; omega)
  have hl : ((wordsL l).map tl).length ≤ 10 := by
    rw [List.length_map]
    cases l with
    | voter => show 7 ≤ 10; decide
    | step vals =>
      show (vals.map saidS).length + 1 ≤ 10
      rw [List.length_map]
      have := h.1
      omega
    | given => show 1 ≤ 10; decide
    | sensor => show 2 ≤ 10; decide
  have := joinL_len (S := [32]) hw
  rw [len_tl, ht]
  have e : ([32] : List Nat).length = 1 := rfl
  rw [e] at this
  omega
/-- what the desk answers, and the voter behind it -/
def ansV : Line → Vst → Vst
  | .step vals, v => stepV v vals
  | .voter m t r ms b s, _ => freshV m t r ms b s
  | _, v => v
def ansS : Line → Vst → Str
  | .voter .., _ => "ok"
  | .step vals, v => numS (stepV v vals).last ++ " " ++ stepW v vals
  | .given, v => numS v.last
  | .sensor i, v => stateW (v.ss.getD i S0) ++ " " ++ numS (v.ss.getD i S0).2
end MV
namespace MV
open PySem PySem.Spec PyProof.Rows L2 Evl TL
/-! ### runs of lines -/
def okLine : Line → Vst → Prop
  | .voter m t r ms b s, _ => okSet m t r ms b = true
  | .step vals, v => okStep vals (v.ss.length : Nat) = true
  | .given, _ => True
  | .sensor i, v => i < v.ss.length
structure Fit (l : Line) (v : Vst) : Prop where
  ok : okLine l v
  small : smallL l
  cnt : ∀ i, Small10 (v.ss.getD i S0).2
  last : Small10 (ansV l v).last
def stR : List Line → Vst → Vst
  | [], v => v
  | l :: r, v => stR r (ansV l v)
def runA : List Line → Vst → List Str
  | [], _ => []
  | l :: r, v => ansS l v :: runA r (ansV l v)
def fitR : List Line → Vst → Prop
  | [], _ => True
  | l :: r, v => Fit l v ∧ fitR r (ansV l v)
theorem stR_snoc (l : Line) : ∀ (ls : List Line) (v : Vst), stR (ls ++ [l]) v = ansV l (stR ls v)
  | [], _ => rfl
  | _ :: r, _ => stR_snoc l r _
theorem runA_snoc (l : Line) : ∀ (ls : List Line) (v : Vst), runA (ls ++ [l]) v = runA ls v ++ [ansS l (stR ls v)]
  | [], _ => rfl
  | a :: r, v => by show _ :: runA (r ++ [l]) (ansV a v) = _ :: (_ ++ _); rw [runA_snoc l r]; rfl
theorem fitR_snoc {l : Line} : ∀ {ls : List Line} {v : Vst}, fitR ls v → Fit l (stR ls v) → fitR (ls ++ [l]) v
  | [], _, _, h => ⟨h, trivial⟩
  | _ :: r, _, h, h2 => ⟨h.1, fitR_snoc (ls := r) h.2 h2⟩
theorem runA_len : ∀ (ls : List Line) (v : Vst), (runA ls v).length = ls.length
  | [], _ => rfl
  | a :: r, v => by show (runA r (ansV a v)).length + 1 = r.length + 1; rw [runA_len r]
theorem fitR_at : ∀ {ls : List Line} {v : Vst} {i : Nat} {l : Line}, fitR ls v → ls[i]? = some l → Fit l (stR (ls.take i) v)
  | [], _, _, _, _, h => nomatch h
  | a :: r, v, 0, l, h, e => by cases (Option.some.inj e : a = l); exact h.1
  | a :: r, v, i + 1, l, h, e => fitR_at (ls := r) (i := i) h.2 e
theorem take_snoc {α : Type} : ∀ {ls : List α} {i : Nat} {l : α}, ls[i]? = some l → ls.take (i + 1) = ls.take i ++ [l]
  | [], _, _, h => nomatch h
  | a :: r, 0, l, e => by cases (Option.some.inj e : a = l); rfl
  | a :: r, i + 1, l, e => by show a :: r.take (i + 1) = a :: (r.take i ++ [l]); rw [take_snoc (ls := r) (i := i) e]
theorem okSet_m {m t r ms b : Int} (h : okSet m t r ms b = true) : (3 ≤ m ∧ m ≤ 9) ∧ (0 ≤ t ∧ t ≤ 1000000) ∧ (1 ≤ r ∧ r ≤ 1000000) ∧ (1 ≤ ms ∧ ms ≤ 1000) ∧ 1 ≤ b ∧ b ≤ 1000 := by
  unfold okSet at h
  simpa only [Bool.and_eq_true, decide_eq_true_eq] using h
end MV
namespace MV
open PySem PySem.Spec PyProof.Rows L2 Evl MVH
structure Own where
  p : Addr
  l : Addr
  as : List Addr
instance : Inhabited Own := ⟨⟨0, 0, []⟩⟩
abbrev Own.all (b : Own) : List Addr := b.p :: b.l :: b.as
/-- tuples of flat things, one behind the other -/
structure TupsAt (H : Hp) (rs : List Addr) (cs : List (List V)) : Prop where
  len : rs.length = cs.length
  row : ∀ (i : Nat) (r : Addr) (c : List V), rs[i]? = some r → cs[i]? = some c → H r = some (.tup c)
/-! ### the desk's answers -/
/-- a desk with a voter -/
structure DeskAt (A : Ads) (H : Hp) (d : Addr) (B : Own) (v : Vst) : Prop where
  own : ∃ dd, H d = some (.ins A.c_Desk dd (dfs (.ref B.p) (v.ss.length : Nat)))
  va : VAt A H B.p B.l B.as v
  nd : d ∉ B.all
/-- a desk, by how many sensors its voter has -/
def DeskB (A : Ads) (H : Hp) (d : Addr) : Option Nat → Prop
  | none => ∃ dd, H d = some (.ins A.c_Desk dd (dfs .non 0))
  | some n => ∃ B v, DeskAt A H d B v ∧ v.ss.length = n
def sp_Desk_answer (K : PySem.W.Frag) (A : Ads) : Sp := fun vs H Q E => (∃ (d : Addr) (l : Line), vs = [.ref d, .str (lineS l)] ∧ smallL l ∧
  ((∃ (dd : Addr) (x : V) (k m t r ms b s : Int), l = .voter m t r ms b s ∧ H d = some (.ins A.c_Desk dd (dfs x k)) ∧ okSet m t r ms b = true ∧ ∀ (H' : Hp) (B : Own), But d H H' → (∀ y ∈ B.all, H y = none) → DeskAt A H' d B (freshV m t r ms b s) → Q (.str "ok") H') ∨
  (∃ (B : Own) (v : Vst), DeskAt A H d B v ∧ Fit l v ∧ (∀ m t r ms b s, l ≠ .voter m t r ms b s) ∧ ∀ H', Buts B.all H H' → DeskAt A H' d B (ansV l v) → Q (.str (ansS l v)) H'))) ∨
  (∃ (d : Addr) (row : Str) (mv : Option Nat) (k : Nat), vs = [.ref d, .str row] ∧ row.length ≤ 200 ∧ (Txt.split row " ").length ≤ 300 ∧ DeskB A H d mv ∧ clsR mv (Txt.split row " ") = some k ∧ ∀ H', Ex H H' → E (.ref (clsA A k)) none H')
theorem len_Desk_answer {K : PySem.W.Frag} {A : Ads} {vs : List V} {H : Hp} {Q : VK} {E : XK} (h : sp_Desk_answer K A vs H Q E) : vs.length = 2 := by
  rcases h with ⟨_, _, rfl, _⟩ | ⟨_, _, _, _, rfl, _⟩ <;> rfl
theorem sc_Desk_answer : FnScope ["self", "line", "words", "numbers", "word", "found", "one", "place"] ["self", "line"] (defScope s_Desk_answer) := ⟨rfl, rfl, rfl, by decide +kernel, rfl, by decide +kernel, by decide +kernel⟩
def t_Desk_answer (K : PySem.W.Frag) (A : Ads) (E : XK) : TS :=
      (tSeq (tAsg (tM1 rSplitT (tVar 1) (tC (.str " "))) (gName 2))
      (tSeq (tIfS (tTest (tOp rEq (tOp (rIxL K) (tVar 2) (tC (.int 0))) (tC (.str "voter")))) (tSeq (tDrop (tCall (sp_need K A) [] E (tCons (tOp rEq (tCB (rLenS K) (tCons (tVar 2) tNil)) (tC (.int 7))) tNil)))
      (tSeq (tAsg (tLc (iList K (tSl (rSlL K) (tVar 2) (tPart (tC (.int 1))) tNoPart)) (gName 4) tYes (tCall (sp_number_of K A) [] E (tCons (tVar 4) tNil)) [4]) (gName 3))
      (tSeq (sFld K (tVar 0) (tMake A.c_Voter (sp_Voter_init K A) [] E (tCons (tCB (rTupS K) (tCons (tSl (rSlL K) (tVar 3) tNoPart (tPart (tC (.int 5)))) tNil)) (tCons (tOp (rIxL K) (tVar 3) (tC (.int 5))) tNil))) "voter")
      (tSeq (sFld K (tVar 0) (tOp (rIxL K) (tVar 3) (tC (.int 0))) "many")
      (tRet (tC (.str "ok"))))))) tNext)
      (tSeq (tDrop (tCall (sp_need K A) [] E (tCons (tOp oNotN (tFld K (tVar 0) "voter") (tC .non)) tNil)))
      (tSeq (tIfS (tTest (tOp rEq (tOp (rIxL K) (tVar 2) (tC (.int 0))) (tC (.str "step")))) (tSeq (tDrop (tCall (sp_need K A) [] E (tCons (tOp rEq (tCB (rLenS K) (tCons (tVar 2) tNil)) (tOp oAdd (tC (.int 1)) (tFld K (tVar 0) "many"))) tNil)))
      (tSeq (tAsg (tMeth A.c_Voter "step" (sp_Voter_step K A) [] E (tFld K (tVar 0) "voter") (tCons (tLc (iList K (tSl (rSlL K) (tVar 2) (tPart (tC (.int 1))) tNoPart)) (gName 6) tYes (tCall (sp_said K A) [] E (tCons (tVar 6) tNil)) [6]) tNil)) (gTup K 2 (gCons (gName 5) (gCons (gName 4) gNil))))
      (tRet (tOp oAddS (tOp oAddS (tCB rStrInt (tCons (tVar 5) tNil)) (tC (.str " "))) (tVar 4))))) tNext)
      (tSeq (tIfS (tTest (tOp rEq (tOp (rIxL K) (tVar 2) (tC (.int 0))) (tC (.str "given")))) (tSeq (tDrop (tCall (sp_need K A) [] E (tCons (tOp rEq (tCB (rLenS K) (tCons (tVar 2) tNil)) (tC (.int 1))) tNil)))
      (tRet (tCB rStrInt (tCons (tMeth A.c_Voter "given" (sp_Voter_given K A) [] E0 (tFld K (tVar 0) "voter") tNil) tNil)))) tNext)
      (tSeq (tDrop (tCall (sp_need K A) [] E (tCons (tAndV (tOp rEq (tOp (rIxL K) (tVar 2) (tC (.int 0))) (tC (.str "sensor"))) (tOp rEq (tCB (rLenS K) (tCons (tVar 2) tNil)) (tC (.int 2)))) tNil)))
      (tSeq (tAsg (tCall (sp_number_of K A) [] E (tCons (tOp (rIxL K) (tVar 2) (tC (.int 1))) tNil)) (gName 7))
      (tRet (tOp oAddS (tOp oAddS (tMeth A.c_Voter "state" (sp_Voter_state K A) [] E (tFld K (tVar 0) "voter") (tCons (tVar 7) tNil)) (tC (.str " "))) (tCB rStrInt (tCons (tMeth A.c_Voter "count" (sp_Voter_count K A) [] E (tFld K (tVar 0) "voter") (tCons (tVar 7) tNil)) tNil)))))))))))
end MV
namespace MV
open PySem PySem.Spec PyProof.Rows L2 Evl
section
variable {K : PySem.W.Frag} {mg : Str → Option Value} {A : Ads} {H H' : Hp} {b : Own} {v : Vst} {σ : L2.St} {rs : List Addr} {cs : List (List V)} {p q a : Addr}
theorem VAt.old (h : VAt A H b.p b.l b.as v) : ∀ x ∈ b.all, H x ≠ none := by
  intro x hx
  rcases List.mem_cons.mp hx with z | z
  · obtain ⟨dx, q⟩ := h.own
    rw [z, q]
    exact fun w => nomatch w
  rcases List.mem_cons.mp z with z | z
  · rw [z, h.lst]
    exact fun w => nomatch w
  · obtain ⟨j, hj, e⟩ := List.mem_iff_getElem.mp z
    obtain ⟨dy, q⟩ := h.sens j x (by rw [List.getElem?_eq_getElem hj, e])
    rw [q]
    exact fun w => nomatch w
theorem VAt.not_tup (h : VAt A H b.p b.l b.as v) : ∀ x ∈ b.all, ∀ c, H x ≠ some (.tup c) := by
  intro x hx c
  rcases List.mem_cons.mp hx with z | z
  · obtain ⟨dx, q⟩ := h.own
    rw [z, q]
    exact fun w => nomatch w
  rcases List.mem_cons.mp z with z | z
  · rw [z, h.lst]
    exact fun w => nomatch w
  · obtain ⟨j, hj, e⟩ := List.mem_iff_getElem.mp z
    obtain ⟨dy, q⟩ := h.sens j x (by rw [List.getElem?_eq_getElem hj, e])
    rw [q]
    exact fun w => nomatch w
theorem VAt.keep {fp : List Addr} (h : VAt A H b.p b.l b.as v) (e : Buts fp H H') (hd : ∀ x ∈ b.all, x ∉ fp) : VAt A H' b.p b.l b.as v :=
  h.buts e (hd _ (by simp)) (hd _ (by simp)) fun s hs => hd _ (by simp [hs])
theorem own_sub {x : Addr} (h : x ∈ b.p :: b.as) : x ∈ b.all := by
  rcases List.mem_cons.mp h with z | z <;> simp [z]
theorem buts_one {x : Addr} (e : But x H H') : Buts [x] H H' := fun b o hb h => e b o (fun z => hb (by simp [z])) h
/-- what is kept but at new places is kept -/
theorem buts_ex {fp : List Addr} {H0 : Hp} (e0 : Ex H0 H) (e : Buts fp H H') (hf : ∀ x ∈ fp, H0 x = none) : Ex H0 H' := fun x o h => e x o (fun z => by rw [hf x z] at h; cases h) (e0 x o h)
theorem TupsAt.nil : TupsAt H [] [] := ⟨rfl, fun i r c h => by simp at h⟩
theorem TupsAt.ext (h : TupsAt H rs cs) (e : Ex H H') : TupsAt H' rs cs := ⟨h.len, fun i r c h1 h2 => e _ _ (h.row i r c h1 h2)⟩
theorem TupsAt.mem (h : TupsAt H rs cs) {r : Addr} (hr : r ∈ rs) : ∃ c, c ∈ cs ∧ H r = some (.tup c) := by
  obtain ⟨i, hi⟩ := List.mem_iff_getElem?.mp hr
  have hl := (List.getElem?_eq_some_iff.mp hi).1
  have hc : i < cs.length := by rw [← h.len]; exact hl
  exact ⟨_, List.getElem_mem hc, h.row i r _ hi (List.getElem?_eq_getElem hc)⟩
theorem TupsAt.keep {fp : List Addr} (h : TupsAt H rs cs) (e : Buts fp H H') (hd : ∀ x ∈ fp, ∀ c, H x ≠ some (.tup c)) : TupsAt H' rs cs := ⟨h.len, fun i r c h1 h2 => e _ _ (fun z => hd r z c (h.row i r c h1 h2)) (h.row i r c h1 h2)⟩
theorem TupsAt.upd {o : HO} {xs : List V} (h : TupsAt H rs cs) (hp : H p = some (.lst xs)) : TupsAt (upd H p o) rs cs := ⟨h.len, fun i r c h1 h2 => by
  have := h.row i r c h1 h2
  rw [upd_ne (ne_of this hp (by intro z; cases z))]
  exact this⟩
theorem TupsAt.push {r : Addr} {c : List V} (h : TupsAt H rs cs) (e : Ex H H') (hr : H' r = some (.tup c)) : TupsAt H' (rs ++ [r]) (cs ++ [c]) := by
  refine ⟨by rw [List.length_append, List.length_append, h.len]; rfl, fun i r' c' h1 h2 => ?_⟩
  by_cases hi : i < rs.length
  · rw [List.getElem?_append_left hi] at h1
    rw [List.getElem?_append_left (by rw [← h.len]; exact hi)] at h2
    exact e _ _ (h.row i r' c' h1 h2)
  · have hj : i = rs.length := by
      have := (List.getElem?_eq_some_iff.mp h1).1
      rw [List.length_append, List.length_singleton] at this
      omega
    subst hj
    rw [List.getElem?_append_right (Nat.le_refl _), Nat.sub_self] at h1
    rw [h.len, List.getElem?_append_right (Nat.le_refl _), Nat.sub_self] at h2
    have e1 : r = r' := Option.some.inj h1
    have e2 : c = c' := Option.some.inj h2
    subst e1
    subst e2
    exact hr
theorem TupsAt.app {rs' : List Addr} {cs' : List (List V)} (h : TupsAt H rs cs) (h' : TupsAt H rs' cs') : TupsAt H (rs ++ rs') (cs ++ cs') := by
  refine ⟨by rw [List.length_append, List.length_append, h.len, h'.len], fun i r c h1 h2 => ?_⟩
  by_cases hi : i < rs.length
  · rw [List.getElem?_append_left hi] at h1
    rw [List.getElem?_append_left (by rw [← h.len]; exact hi)] at h2
    exact h.row i r c h1 h2
  · rw [List.getElem?_append_right (by omega)] at h1
    rw [List.getElem?_append_right (by rw [← h.len]; omega), ← h.len] at h2
    exact h'.row _ r c h1 h2
theorem TupsAt.at (h : TupsAt H rs cs) {i : Nat} {c : List V} (hc : cs[i]? = some c) : ∃ r, rs[i]? = some r ∧ H r = some (.tup c) := by
  have hl : i < rs.length := by rw [h.len]; exact (List.getElem?_eq_some_iff.mp hc).1
  exact ⟨_, List.getElem?_eq_getElem hl, h.row i _ c (List.getElem?_eq_getElem hl) hc⟩
theorem dpAll_tups : ∀ {rs : List Addr} {cs : List (List V)}, TupsAt H rs cs → (∀ c ∈ cs, c.all flat4 = true) → DpAll K H (rs.map V.ref) (cs.map fun c => PyData.tuple (c.map vD))
  | [], [], _, _ => .nil
  | [], _ :: _, h, _ => nomatch h.len
  | _ :: _, [], h, _ => nomatch h.len
  | r :: rs, c :: cs, h, hf => .cons (.tup (st_of (h.row 0 r c rfl rfl)) (dpAll_flat (hf c (by simp)))) (dpAll_tups ⟨by have := h.len; simpa using this, fun i r' c' h1 h2 => h.row (i + 1) r' c' h1 h2⟩ fun c' hc' => hf c' (by simp [hc']))
theorem lay_tups : ∀ {cs : List (List V)}, (∀ c ∈ cs, c.all flat4 = true) → PyData.canLayAll0 (cs.map fun c => PyData.tuple (c.map vD)) = true ∧ PyData.depthAll (cs.map fun c => PyData.tuple (c.map vD)) ≤ 1
  | [], _ => ⟨by simp [PyData.canLayAll0], by simp [PyData.depthAll]⟩
  | c :: cs, h => by
    obtain ⟨h1, h2⟩ := lay_flats (h c (by simp))
    obtain ⟨h3, h4⟩ := lay_tups (cs := cs) fun c' hc' => h c' (by simp [hc'])
    refine ⟨by rw [List.map_cons, PyData.canLayAll0, PyData.canLay0, h1, h3]; rfl, ?_⟩
    rw [List.map_cons, PyData.depthAll, PyData.depth, h2]
    omega
theorem shaped_tups (h : ∀ c ∈ cs, c.all flat4 = true) : SeqAt.shaped (.list (cs.map fun c => PyData.tuple (c.map vD))) = true := by
  obtain ⟨h1, h2⟩ := lay_tups h
  show ((PyData.list _).canLay0 && decide ((PyData.list _).depth ≤ 64)) = true
  rw [PyData.canLay0, PyData.depth, h1, Bool.true_and, decide_eq_true_eq]
  omega
theorem rv_neTups {rs' : List Addr} (hp : H p = some (.lst (rs.map V.ref))) (h : TupsAt H rs cs) (hq : H q = some (.lst (rs'.map V.ref))) (h' : TupsAt H rs' cs) (hf : ∀ c ∈ cs, c.all flat4 = true) : RV (rNeD K) (.ref p) (.ref q) H (.bl false) := fun H1 e Q k => by
  refine ⟨_, _, .lst (sq_of (e _ _ hp)) (dpAll_tups (h.ext e) hf), .lst (sq_of (e _ _ hq)) (dpAll_tups (h'.ext e) hf), shaped_tups hf, shaped_tups hf, ?_⟩
  rw [PySem.SeqAt.eqv_refl _ (SeqAt.canLay_of_shaped (shaped_tups hf))]
  exact k H1 (Ex.refl H1)
/-! ### lists of what sensors say -/
end
end MV
namespace MV
open PySem PySem.Spec PyProof.Rows L2 Evl TL
section
variable {K : PySem.W.Frag} {mg : Str → Option Value} {A : Ads}
theorem DeskAt.ext {H H' : Hp} {d : Addr} {B : Own} {v : Vst} (h : DeskAt A H d B v) (e : Ex H H') : DeskAt A H' d B v := let ⟨dd, q⟩ := h.own; ⟨⟨dd, e _ _ q⟩, h.va.ext e, h.nd⟩
theorem log2_small {n : Int} (h : n.natAbs < 10 ^ 12) : n.natAbs.log2 < 1920 := by
  by_cases c : n.natAbs = 0
  · rw [c]; decide
  · have := (Nat.log2_lt c).mpr (Nat.lt_trans h (by decide : 10 ^ 12 < 2 ^ 1920))
    exact this
theorem ev_numS {σ : L2.St} {H : Hp} {te : TE} {n : Int} (h : Ev te σ H (.int n)) (hn : Small10 n) : Ev (tCB rStrInt (tCons te tNil)) σ H (.str (numS n)) := ev_cb (ea_cons h ea_nil) (rc_str (log2_small (Nat.lt_trans hn (by decide))))
/-- the two kinds of heads differ -/
theorem ev_addS {σ : L2.St} {H : Hp} {ta tb : TE} {x y : Str} (ha : Ev ta σ H (.str x)) (hb : Ev tb σ H (.str y)) (h : x.length + y.length ≤ 100000) : Ev (tOp oAddS ta tb) σ H (.str (x ++ y)) := ev_op ha hb (rv_addS (sz_of h))
theorem num_len' {n : Int} (h : Small10 n) : (numS n).length ≤ 11 := by rw [len_tl]; exact num_len h
theorem app_len (x y : Str) : (x ++ y).length = x.length + y.length := by rw [len_tl, tl_append, List.length_append, ← len_tl, ← len_tl]
theorem state_len (s : Bool × Int) : (stateW s).length ≤ 7 := by
  unfold stateW
  (repeat' split) <;> decide +kernel
theorem word_len (n : Nat) (th : Int) (t : List Int) (value : Int) : (wordOf n th t value).length ≤ 6 := by
  unfold wordOf
  (repeat' split) <;> decide +kernel
/-- words behind the first -/
theorem cut_words {xs : List V} (h : 1 ≤ xs.length) : cutV xs (some 1) none = xs.drop 1 := by
  have e : HT.sIx xs.length 0 (some 1) = 1 := by
    rw [show HT.sIx xs.length 0 (some 1) = min 1 xs.length from HT.sIx_nat _ 0 1]
    omega
  unfold cutV
  rw [e]
  show (xs.drop 1).take (xs.length - 1) = xs.drop 1
  rw [← List.length_drop, List.take_length]
theorem said_map (f : List (Option Int)) : ((f.map saidS).map V.str).length = f.length := by rw [List.length_map, List.length_map]
theorem need_ok {H : Hp} {Q : VK} {E : XK} {b : Bool} (hb : b = true) (k : ∀ H', Ex H H' → Q .non H') : sp_need K A [.bl b] H Q E := ⟨b, rfl, fun _ => k, fun z => absurd (hb.symm.trans z) (by decide)⟩
theorem number_call {σ : L2.St} {H : Hp} {te : TE} {E : XK} {n : Int} (h : Ev te σ H (.str (numS n))) (hn : Small10 n) : Ev (tCall (sp_number_of K A) [] E (tCons te tNil)) σ H (.int n) := ev_call0 (ea_cons h ea_nil) fun H1 e Q q E' => .inl ⟨n, rfl, hn, q⟩
theorem said_call {σ : L2.St} {H : Hp} {te : TE} {E : XK} {x : Option Int} (h : Ev te σ H (.str (saidS x))) (hn : ∀ n, x = some n → Small10 n) : Ev (tCall (sp_said K A) [] E (tCons te tNil)) σ H (oV x) := ev_call0 (ea_cons h ea_nil) fun H1 e Q q E' => .inl ⟨x, rfl, hn, q⟩
theorem ans_given (T : Txt K mg A) {Q : VK} {E : XK} {H : Hp} {d : Addr} {B : Own} {v : Vst} (hd : DeskAt A H d B v) (hlast : Small10 v.last) (q : ∀ H', Ex H H' → Q (.str (numS v.last)) H') : t_Desk_answer K A E { nx := fun _ H' => Q .non H', rt := Q } [some (.ref d), some (.str (lineS .given)), none, none, none, none, none, none] H := by
  refine q_asgL (xs := [.str "given"]) (el_is (el_split (ev_var rfl) ev_c (by decide +kernel) (by have := line_len (l := .given) trivial; omega)) (by rw [line_split]; rfl)) fun wp H1 np e1 hw => ?_
  have hW : SqL K H1 wp [.str "given"] := sq_of hw
  have hd1 := hd.ext e1
  refine q_when (b := false) (et_is (et_test (ev_op (ev_op (ev_var rfl) ev_c (rv_ixL hW (atI_nat (j := 0) rfl))) ev_c rv_eqS)) (by decide +kernel)) (fun hb => absurd hb (by decide)) fun _ H2 e2 => ?_
  have hd2 := hd1.ext e2
  have hW2 := ex_l e2 hW
  obtain ⟨dd, hown⟩ := hd2.own
  refine q_dropC (vs := [.bl true]) (ea_cons (ev_is (ev_op (ev_fld (ev_var rfl) hown T.cl_Desk T.na_Desk_voter rfl) ev_c rv_notN) (by rfl)) ea_nil) fun H3 e3 => need_ok rfl fun H4 e4 => ?_
  have hW4 := ex_l (e3.trans e4) hW2
  have hd4 := hd2.ext (e3.trans e4)
  refine q_when (b := false) (et_is (et_test (ev_op (ev_op (ev_var rfl) ev_c (rv_ixL hW4 (atI_nat (j := 0) rfl))) ev_c rv_eqS)) (by decide +kernel)) (fun hb => absurd hb (by decide)) fun _ H5 e5 => ?_
  have hW5 := ex_l e5 hW4
  have hd5 := hd4.ext e5
  refine q_when (b := true) (et_is (et_test (ev_op (ev_op (ev_var rfl) ev_c (rv_ixL hW5 (atI_nat (j := 0) rfl))) ev_c rv_eqS)) (by decide +kernel)) (fun _ H6 e6 => ?_) (fun hb => absurd hb (by decide))
  have hW6 := ex_l e6 hW5
  have hd6 := hd5.ext e6
  refine q_dropC (vs := [.bl true]) (ea_cons (ev_is (ev_op (ev_len (ev_var rfl) hW6) ev_c rv_eqI) (by rfl)) ea_nil) fun H7 e7 => need_ok rfl fun H8 e8 => ?_
  have hd8 := hd6.ext (e7.trans e8)
  obtain ⟨dd8, hown8⟩ := hd8.own
  obtain ⟨dv8, hvown⟩ := hd8.va.own
  refine s_ret (ev_numS (ev_meth (ev_fld (ev_var rfl) hown8 T.cl_Desk T.na_Desk_voter rfl) hvown (by rfl) ea_nil (fun H9 e9 Q' q' E' => ⟨_, _, _, _, rfl, hd8.va.ext e9, q'⟩ : SpV (sp_Voter_given K A) [.ref B.p] H8 (.int v.last))) hlast) fun H9 e9 => q H9 (((((((e1.trans e2).trans e3).trans e4).trans e5).trans e6).trans (e7.trans e8)).trans e9)
theorem ans_sensor (T : Txt K mg A) {Q : VK} {E : XK} {H : Hp} {d : Addr} {B : Own} {v : Vst} {i : Nat} (hd : DeskAt A H d B v) (hi : i < v.ss.length) (hi2 : i < 100) (hc : Small10 (v.ss.getD i S0).2) (q : ∀ H', Ex H H' → Q (.str (stateW (v.ss.getD i S0) ++ " " ++ numS (v.ss.getD i S0).2)) H') : t_Desk_answer K A E { nx := fun _ H' => Q .non H', rt := Q } [some (.ref d), some (.str (lineS (.sensor i))), none, none, none, none, none, none] H := by
  have hin : Small10 (i : Int) := by show ((i : Int)).natAbs < 10 ^ 10; omega
  refine q_asgL (xs := [.str "sensor", .str (numS i)]) (el_is (el_split (ev_var rfl) ev_c (by decide +kernel) (by have := line_len (l := .sensor i) hi2; omega)) (by rw [line_split]; rfl)) fun wp H1 np e1 hw => ?_
  have hW : SqL K H1 wp [.str "sensor", .str (numS i)] := sq_of hw
  have hd1 := hd.ext e1
  refine q_when (b := false) (et_is (et_test (ev_op (ev_op (ev_var rfl) ev_c (rv_ixL hW (atI_nat (j := 0) rfl))) ev_c rv_eqS)) (by decide +kernel)) (fun hb => absurd hb (by decide)) fun _ H2 e2 => ?_
  have hd2 := hd1.ext e2
  have hW2 := ex_l e2 hW
  obtain ⟨dd, hown⟩ := hd2.own
  refine q_dropC (vs := [.bl true]) (ea_cons (ev_is (ev_op (ev_fld (ev_var rfl) hown T.cl_Desk T.na_Desk_voter rfl) ev_c rv_notN) (by rfl)) ea_nil) fun H3 e3 => need_ok rfl fun H4 e4 => ?_
  have hW4 := ex_l (e3.trans e4) hW2
  have hd4 := hd2.ext (e3.trans e4)
  refine q_when (b := false) (et_is (et_test (ev_op (ev_op (ev_var rfl) ev_c (rv_ixL hW4 (atI_nat (j := 0) rfl))) ev_c rv_eqS)) (by decide +kernel)) (fun hb => absurd hb (by decide)) fun _ H5 e5 => ?_
  have hW5 := ex_l e5 hW4
  have hd5 := hd4.ext e5
  refine q_when (b := false) (et_is (et_test (ev_op (ev_op (ev_var rfl) ev_c (rv_ixL hW5 (atI_nat (j := 0) rfl))) ev_c rv_eqS)) (by decide +kernel)) (fun hb => absurd hb (by decide)) fun _ H6 e6 => ?_
  have hW6 := ex_l e6 hW5
  have hd6 := hd5.ext e6
  refine q_dropC (vs := [.bl true]) (ea_cons (ev_is (ev_andB (ev_op (ev_op (ev_var rfl) ev_c (rv_ixL hW6 (atI_nat (j := 0) rfl))) ev_c rv_eqS) (ev_op (ev_len (ev_var rfl) hW6) ev_c rv_eqI)) (by rfl)) ea_nil) fun H7 e7 => need_ok rfl fun H8 e8 => ?_
  have hW8 := ex_l (e7.trans e8) hW6
  have hd8 := hd6.ext (e7.trans e8)
  refine q_asg (v := .int (i : Int)) (number_call (ev_op (ev_var rfl) ev_c (rv_ixL hW8 (atI_nat (j := 1) rfl))) hin) fun H9 e9 => ?_
  have hd9 := hd8.ext e9
  obtain ⟨dd9, hown9⟩ := hd9.own
  obtain ⟨dv9, hvown⟩ := hd9.va.own
  have hia : 0 ≤ (i : Int) ∧ (i : Int) < (B.as.length : Int) := by have := hd9.va.len; omega
  have l1 := state_len (v.ss.getD i S0)
  have l2 := num_len' hc
  have l3 : (" " : Str).length = 1 := by decide +kernel
  refine s_ret (ev_addS (ev_addS (ev_meth (ev_fld (ev_var rfl) hown9 T.cl_Desk T.na_Desk_voter rfl) hvown (by rfl) (ea_cons (ev_var rfl) ea_nil) (fun H10 e10 Q' q' E' => ⟨_, _, _, _, _, rfl, hd9.va.ext e10, fun _ => q', fun hn => absurd hia hn⟩ : SpV (sp_Voter_state K A) [.ref B.p, .int (i : Int)] H9 (.str (stateW (v.ss.getD i S0))))) ev_c (by omega)) (ev_numS (ev_meth (ev_fld (ev_var rfl) hown9 T.cl_Desk T.na_Desk_voter rfl) hvown (by rfl) (ea_cons (ev_var rfl) ea_nil) (fun H10 e10 Q' q' E' => ⟨_, _, _, _, _, rfl, hd9.va.ext e10, fun _ => q', fun hn => absurd hia hn⟩ : SpV (sp_Voter_count K A) [.ref B.p, .int (i : Int)] H9 (.int (v.ss.getD i S0).2))) hc) (by rw [app_len]; omega)) fun H10 e10 => q H10 ((((((((e1.trans e2).trans e3).trans e4).trans e5).trans e6).trans (e7.trans e8)).trans e9).trans e10)
theorem q_asgR2 {te : TE} {g : TG} {tz : TS} {D : Ends} {σ : L2.St} {H : Hp} (k : te σ H fun v H1 => g v σ H1 fun σ' H' => tz D σ' H') : tSeq (tAsg te g) tz D σ H := k
theorem given_map {α : Type} (xs : List α) (d : α) (f : α → V) : Evl.given (xs.map fun x => f x).length (fun _ => true) (fun i => f (xs.getD i d)) = xs.map f := by
  unfold Evl.given
  rw [List.filter_eq_self.mpr (fun _ _ => rfl), List.length_map]
  refine List.ext_getElem (by rw [List.length_map, List.length_range, List.length_map]) fun i h1 h2 => ?_
  rw [List.getElem_map, List.getElem_map, List.getElem_range, List.getD_eq_getElem?_getD, List.getElem?_eq_getElem (by rw [List.length_map] at h2; exact h2)]
  rfl
theorem step_ss_len (v : Vst) (vals : List (Option Int)) : (stepV v vals).ss.length = v.ss.length := turns_len ..
theorem ans_step (T : Txt K mg A) {Q : VK} {E : XK} {H : Hp} {d : Addr} {B : Own} {v : Vst} {vals : List (Option Int)} (hd : DeskAt A H d B v) (hs : smallL (.step vals)) (hok : okStep vals (v.ss.length : Nat) = true) (hg : Small10 (stepV v vals).last) (q : ∀ H', Buts B.all H H' → DeskAt A H' d B (stepV v vals) → Q (.str (numS (stepV v vals).last ++ " " ++ stepW v vals)) H') : t_Desk_answer K A E { nx := fun _ H' => Q .non H', rt := Q } [some (.ref d), some (.str (lineS (.step vals))), none, none, none, none, none, none] H := by
  have hlv : vals.length = v.ss.length := by
    have h := hok
    unfold okStep at h
    rw [Bool.and_eq_true, decide_eq_true_eq] at h
    omega
  have hl9 := hs.1
  refine q_asgL (xs := .str "step" :: vals.map fun x => V.str (saidS x)) (el_is (el_split (ev_var rfl) ev_c (by decide +kernel) (by have := line_len hs; omega)) (by rw [line_split]; show V.str "step" :: (vals.map saidS).map V.str = _; rw [List.map_map]; rfl)) fun wp H1 np e1 hw => ?_
  have hW : SqL K H1 wp (.str "step" :: vals.map fun x => V.str (saidS x)) := sq_of hw
  have hd1 := hd.ext e1
  refine q_when (b := false) (et_is (et_test (ev_op (ev_op (ev_var rfl) ev_c (rv_ixL hW (atI_nat (j := 0) rfl))) ev_c rv_eqS)) (by decide +kernel)) (fun hb => absurd hb (by decide)) fun _ H2 e2 => ?_
  have hd2 := hd1.ext e2
  have hW2 := ex_l e2 hW
  obtain ⟨dd, hown⟩ := hd2.own
  refine q_dropC (vs := [.bl true]) (ea_cons (ev_is (ev_op (ev_fld (ev_var rfl) hown T.cl_Desk T.na_Desk_voter rfl) ev_c rv_notN) (by rfl)) ea_nil) fun H3 e3 => need_ok rfl fun H4 e4 => ?_
  have hW4 := ex_l (e3.trans e4) hW2
  have hd4 := hd2.ext (e3.trans e4)
  refine q_when (b := true) (et_is (et_test (ev_op (ev_op (ev_var rfl) ev_c (rv_ixL hW4 (atI_nat (j := 0) rfl))) ev_c rv_eqS)) (by decide +kernel)) (fun _ H5 e5 => ?_) (fun hb => absurd hb (by decide))
  have hW5 := ex_l e5 hW4
  have hd5 := hd4.ext e5
  obtain ⟨dd5, hown5⟩ := hd5.own
  refine q_dropC (vs := [.bl true]) (ea_cons (ev_is (ev_op (ev_len (ev_var rfl) hW5) (ev_op ev_c (ev_fld (ev_var rfl) hown5 T.cl_Desk T.na_Desk_many rfl) rv_I0) rv_eqI) ?_) ea_nil) fun H6 e6 => need_ok rfl fun H7 e7 => ?_
  · congr 1
    refine decide_eq_true ?_
    rw [List.length_cons, List.length_map]
    omega
  have hW7 := ex_l (e6.trans e7) hW5
  have hd7 := hd5.ext (e6.trans e7)
  obtain ⟨dd7, hown7⟩ := hd7.own
  obtain ⟨dv7, hvown⟩ := hd7.va.own
  have hL : ∀ (σ : L2.St), σ = [some (V.ref d), some (.str (lineS (.step vals))), some (.ref wp), none, none, none, none, none] → EvL (tLc (iList K (tSl (rSlL K) (tVar 2) (tPart (tC (.int 1))) tNoPart)) (gName 6) tYes (tCall (sp_said K A) [] E (tCons (tVar 6) tNil)) [6]) σ H7 (vals.map oV) := fun σ hσ => by
    subst hσ
    refine el_is (el_lcNL (xs := vals.map fun x => V.str (saidS x)) (fun _ => true) (fun i => oV (vals.getD i none)) (el_is (el_sl (ev_var rfl) (eo_some ev_c) eo_none hW7) (by rw [cut_words (by show 1 ≤ _ + 1; omega)]; rfl)) (by rw [List.length_map]; omega) (fun _ => rfl) (fun i x H8 e8 hx => fun H9 _ Q' q' => q' H9 (Ex.refl H9)) (fun i x H8 e8 hx _ => ?_)) ?_
    · rw [List.getElem?_map] at hx
      cases hv : vals[i]? with
      | none => rw [hv] at hx; cases hx
      | some y =>
        rw [hv] at hx
        have ex : V.str (saidS y) = x := Option.some.inj hx
        rw [← ex, List.getD_eq_getElem?_getD, hv]
        exact said_call (ev_var rfl) (hs.2 y (List.mem_of_getElem? hv))
    · have := given_map vals none oV
      rw [List.length_map] at this ⊢
      exact this
  refine q_asgR2 ?_
  refine ⟨.ref d, rfl, d, A.c_Desk, dd7, _, .ref B.p, rfl, hown7, T.cl_Desk, T.na_Desk_voter, rfl, B.p, dv7, _, rfl, hvown, by rfl, ?_⟩
  unfold tCons
  refine hL _ rfl H7 (Ex.refl H7) _ fun lp H8 nlp e8 hlp => ?_
  have hd8 := hd7.ext e8
  refine ⟨B.p, B.l, B.as, v, lp, vals, rfl, hd8.va, sq_of hlp, by omega, fun z => hd7.va.old _ (own_sub z) nlp, fun _ H9 r b9 nr hr hv9 => ?_, fun z => absurd ((by rw [hd8.va.len]; exact hok : okStep vals ((B.as.length : Nat) : Int) = true).symm.trans z) (by decide)⟩
  have b9' : Buts B.all H8 H9 := b9.mono fun x hx => own_sub hx
  refine ⟨r, _, rfl, st_of hr, rfl, _, _, rfl, _, _, rfl, rfl, ?_⟩
  have l1 := num_len' hg
  have l2 : (stepW v vals).length ≤ 6 := word_len ..
  have l3 : (" " : Str).length = 1 := by decide +kernel
  refine s_ret (ev_addS (ev_addS (ev_numS (ev_var rfl) hg) ev_c (by omega)) (ev_var rfl) (by rw [app_len]; omega)) fun H10 e10 => ?_
  have hb : Buts B.all H H10 := ((Buts.of ((((((e1.trans e2).trans e3).trans e4).trans e5).trans e6).trans (e7.trans e8))).trans b9').trans (Buts.of e10)
  obtain ⟨dd8, hown8⟩ := hd8.own
  refine q H10 hb ⟨⟨dd8, ?_⟩, VAt.ext hv9 e10, hd.nd⟩
  rw [step_ss_len]
  exact e10 _ _ (b9' _ _ hd.nd hown8)
theorem eu_tupOf {σ : L2.St} {H : Hp} {te : TE} {xs : List V} (h : EvL te σ H xs) : EvU (tCB (rTupS K) (tCons te tNil)) σ H xs := fun H1 e Q q =>
  h H1 e _ fun p H2 np e2 hp => ⟨p, xs, rfl, .inl ⟨sq_of hp, fun l hl => q l _ (fresh_back e2 hl) (e2.trans (Ex.new hl)) upd_same⟩⟩
/-- o.voter = Voter(tuple, y) -/
theorem q_deskVoter {σ : L2.St} {H : Hp} {D : Ends} {tz : TS} {t1 t2 : TE} {E : XK} {i : Nat} {f : Str} {d dd C : Addr} {fs : List (Str × V)} {m t r ms b sta : Int} (hA : EvU t1 σ H [.int m, .int t, .int r, .int ms, .int b]) (hB : Ev t2 σ H (.int sta)) (hi : σ[i]? = some (some (.ref d))) (ho : H d = some (.ins C dd fs)) (hc : Cls K C) (hn : NoAttr K C f) (hl : fs.length < 1000) (hok : okSet m t r ms b = true)
    (k : ∀ (H' : Hp) (B : Own), Ex H H' → (∀ x ∈ B.all, H x = none) → VAt A H' B.p B.l B.as (freshV m t r ms b sta) → tz D σ (upd H' d (.ins C dd (putF f (.ref B.p) fs)))) :
    tSeq (sFld K (tVar i) (tMake A.c_Voter (sp_Voter_init K A) [] E (tCons t1 (tCons t2 tNil))) f) tz D σ H := by
  refine hA H (Ex.refl H) _ fun tp H1 np e1 hp => ?_
  refine hB H1 e1 _ fun H2 e2 => ?_
  intro x dx hx0 hdx hne
  have ex0 : Ex H2 (upd (upd H2 dx (.own x)) x (.ins A.c_Voter dx [])) := fun c o hc => by
    rw [upd_ne (ne_of_none hc hx0), upd_ne (ne_of_none hc hdx)]
    exact hc
  have e12 := e1.trans e2
  have bk : ∀ z, H2 z = none → H z = none := fun z hz => by
    cases e : H z with
    | none => rfl
    | some o => rw [e12 _ _ e] at hz; cases hz
  have bk0 : ∀ z, (upd (upd H2 dx (.own x)) x (.ins A.c_Voter dx [])) z = none → H2 z = none := fun z hz => by
    cases e : H2 z with
    | none => rfl
    | some o => rw [ex0 _ _ e] at hz; cases hz
  refine ⟨x, dx, tp, m, t, r, ms, b, sta, rfl, upd_same, ex_t ex0 (st_of (e2 _ _ hp)), fun _ H3 l as b3 has hl3 hv => ⟨rfl, ?_⟩, fun hn => absurd (hok.symm.trans hn) (by decide)⟩
  have e3 : Ex H H3 := fun c o hc => b3 c o (ne_of_none (e12 _ _ hc) hx0) (ex0 _ _ (e12 _ _ hc))
  refine ⟨.ref d, hi, d, C, dd, fs, rfl, e3 _ _ ho, hc, hn, hl, k H3 ⟨x, l, as⟩ e3 (fun y hy => ?_) hv⟩
  rcases List.mem_cons.mp hy with z | z
  · rw [z]; exact bk _ hx0
  rcases List.mem_cons.mp z with z | z
  · rw [z]; exact bk _ (bk0 _ hl3)
  · exact bk _ (bk0 _ (has _ z))
theorem fresh_len {m t r ms b s : Int} (h : okSet m t r ms b = true) : (((freshV m t r ms b s).ss.length : Nat) : Int) = m := by
  obtain ⟨h1, _⟩ := okSet_m h
  show ((List.replicate m.toNat S0).length : Int) = m
  rw [List.length_replicate]
  omega
theorem ans_voter (T : Txt K mg A) {Q : VK} {E : XK} {H : Hp} {d dd : Addr} {x0 : V} {k0 m t r ms b s : Int} (ho : H d = some (.ins A.c_Desk dd (dfs x0 k0))) (hs : smallL (.voter m t r ms b s)) (hok : okSet m t r ms b = true) (q : ∀ (H' : Hp) (B : Own), But d H H' → (∀ y ∈ B.all, H y = none) → DeskAt A H' d B (freshV m t r ms b s) → Q (.str "ok") H') : t_Desk_answer K A E { nx := fun _ H' => Q .non H', rt := Q } [some (.ref d), some (.str (lineS (.voter m t r ms b s))), none, none, none, none, none, none] H := by
  refine q_asgL (xs := .str "voter" :: [m, t, r, ms, b, s].map fun n => V.str (numS n)) (el_is (el_split (ev_var rfl) ev_c (by decide +kernel) (by have := line_len hs; omega)) (by rw [line_split]; rfl)) fun wp H1 np e1 hw => ?_
  have hW : SqL K H1 wp (.str "voter" :: [m, t, r, ms, b, s].map fun n => V.str (numS n)) := sq_of hw
  refine q_when (b := true) (et_is (et_test (ev_op (ev_op (ev_var rfl) ev_c (rv_ixL hW (atI_nat (j := 0) rfl))) ev_c rv_eqS)) (by decide +kernel)) (fun _ H2 e2 => ?_) (fun hb => absurd hb (by decide))
  have hW2 := ex_l e2 hW
  refine q_dropC (vs := [.bl true]) (ea_cons (ev_is (ev_op (ev_len (ev_var rfl) hW2) ev_c rv_eqI) (by rfl)) ea_nil) fun H3 e3 => need_ok rfl fun H4 e4 => ?_
  have hW4 := ex_l (e3.trans e4) hW2
  refine q_asgL (xs := [.int m, .int t, .int r, .int ms, .int b, .int s]) (el_is (el_lcNL (xs := [m, t, r, ms, b, s].map fun n => V.str (numS n)) (fun _ => true) (fun i => V.int ([m, t, r, ms, b, s].getD i 0)) (el_is (el_sl (ev_var rfl) (eo_some ev_c) eo_none hW4) (by rw [cut_words (by show 1 ≤ 7; decide)]; rfl)) (by show 6 ≤ 40000; decide) (fun _ => rfl) (fun i x H5 e5 hx => fun H6 _ Q' q' => q' H6 (Ex.refl H6)) (fun i x H5 e5 hx _ => ?_)) (by rfl)) fun vp H5 nv e5 hv5 => ?_
  · rw [List.getElem?_map] at hx
    cases hv : [m, t, r, ms, b, s][i]? with
    | none => rw [hv] at hx; cases hx
    | some y =>
      rw [hv] at hx
      have ex : V.str (numS y) = x := Option.some.inj hx
      have hy : Small10 y := by
        obtain ⟨a1, a2, a3, a4, a5, a6⟩ := hs
        have hm := List.mem_of_getElem? hv
        simp only [List.mem_cons, List.not_mem_nil, or_false] at hm
        rcases hm with rfl | rfl | rfl | rfl | rfl | rfl <;> assumption
      rw [← ex, List.getD_eq_getElem?_getD, hv]
      exact number_call (ev_var rfl) hy
  have e05 := (((e1.trans e2).trans e3).trans e4).trans e5
  have hV5 : SqL K H5 vp [.int m, .int t, .int r, .int ms, .int b, .int s] := sq_of hv5
  refine q_deskVoter (i := 0) (d := d) (m := m) (t := t) (r := r) (ms := ms) (b := b) (sta := s) (eu_tupOf (el_is (el_sl (ev_var rfl) eo_none (eo_some ev_c) hV5) (by rfl))) (ev_op (ev_var rfl) ev_c (rv_ixL hV5 (atI_nat (j := 5) rfl))) rfl (e05 _ _ ho) T.cl_Desk T.na_Desk_voter (by show 2 < 1000; decide) hok fun H6 B e6 hB hv6 => ?_
  have hBn : ∀ y ∈ B.all, H y = none := fun y hy => by
    cases e : H y with
    | none => rfl
    | some o => have := hB y hy; rw [e05 _ _ e] at this; cases this
  have hdB : d ∉ B.all := fun hd => by have := hBn d hd; rw [ho] at this; cases this
  have hvd : vp ≠ d := fun z => by
    rw [z, e05 _ _ ho] at hv5
    cases hv5
  have hV6 : SqL K (upd H6 d (.ins A.c_Desk dd (dfs (.ref B.p) k0))) vp [.int m, .int t, .int r, .int ms, .int b, .int s] := sq_of (by rw [upd_ne hvd]; exact e6 _ _ hv5)
  refine q_fld (y := .int m) (a := d) (C := A.c_Desk) (dx := dd) (fs := dfs (.ref B.p) k0) (fs' := dfs (.ref B.p) m) (ev_op (ev_var rfl) ev_c (rv_ixL hV6 (atI_nat (j := 0) rfl))) (ev_var rfl) upd_same T.cl_Desk T.na_Desk_many (by show 2 < 1000; decide) (by rfl) fun H7 e7 => ?_
  refine s_ret ev_c fun H8 e8 => ?_
  have b6 : Buts [d] H6 (upd H6 d (.ins A.c_Desk dd (dfs (.ref B.p) k0))) := Buts.but (by simp) (But.upd (Ex.refl _))
  have b7 : Buts [d] H7 (upd H7 d (.ins A.c_Desk dd (dfs (.ref B.p) m))) := Buts.but (by simp) (But.upd (Ex.refl _))
  have b68 : Buts [d] H6 H8 := ((b6.trans (Buts.of e7)).trans b7).trans (Buts.of e8)
  have hm : ((freshV m t r ms b s).ss.length : Int) = m := fresh_len hok
  refine q H8 B (fun c o hc h => b68 c o (by simpa using hc) (e6 _ _ (e05 _ _ h))) hBn ⟨⟨dd, ?_⟩, hv6.keep b68 fun x hx z => hdB (by rw [List.mem_singleton.mp z] at hx; exact hx), hdB⟩
  rw [hm]
  exact e8 _ _ upd_same
theorem ans_good (T : Txt K mg A) {d : Addr} {l : Line} {H : Hp} {Q : VK} {E : XK} (hs : smallL l) (h : (∃ (dd : Addr) (x : V) (k m t r ms b s : Int), l = .voter m t r ms b s ∧ H d = some (.ins A.c_Desk dd (dfs x k)) ∧ okSet m t r ms b = true ∧ ∀ (H' : Hp) (B : Own), But d H H' → (∀ y ∈ B.all, H y = none) → DeskAt A H' d B (freshV m t r ms b s) → Q (.str "ok") H') ∨
  (∃ (B : Own) (v : Vst), DeskAt A H d B v ∧ Fit l v ∧ (∀ m t r ms b s, l ≠ .voter m t r ms b s) ∧ ∀ H', Buts B.all H H' → DeskAt A H' d B (ansV l v) → Q (.str (ansS l v)) H')) : t_Desk_answer K A E { nx := fun _ H' => Q .non H', rt := Q } [some (.ref d), some (.str (lineS l)), none, none, none, none, none, none] H := by
  rcases h with ⟨dd, x, k, m, t, r, ms, b, s, rfl, ho, hok, q⟩ | ⟨B, v, hd, f, hn, q⟩
  · exact ans_voter T ho hs hok q
  · cases l with
    | voter m t r ms b s => exact absurd rfl (hn m t r ms b s)
    | step vals => exact ans_step T hd hs f.ok f.last q
    | given => exact ans_given T hd f.last fun H' e => q H' (Buts.of e) (hd.ext e)
    | sensor i => exact ans_sensor T hd f.ok hs (f.cnt i) fun H' e => q H' (Buts.of e) (hd.ext e)
end
end MV
namespace MV
open PySem PySem.Spec PyProof.Rows L2 Evl TL
section
variable {K : PySem.W.Frag} {mg : Str → Option Value} {A : Ads}
/-! ### rows that are refused -/
/-- a comprehension over a list, of which some steps may raise -/
theorem q_lcx {σ : L2.St} {H : Hp} {Q : VK} {xs : List V} {tl te : TE} {j : Nat} {vs : List Nat} {good : Nat → Prop} {w : Nat → V} (h : EvL tl σ H xs) (hz : xs.length ≤ 40000) (hw : ∀ x, wipe ((wipe σ vs).set j (some x)) vs = wipe σ vs)
    (he : ∀ i x H1, Ex H H1 → xs[i]? = some x → (good i ∧ Ev te ((wipe σ vs).set j (some x)) H1 (w i)) ∨ ∀ H2 Q', Ex H1 H2 → te ((wipe σ vs).set j (some x)) H2 Q')
    (k : (∀ i, i < xs.length → good i) → ∀ p H2, H p = none → Ex H H2 → H2 p = some (.lst ((List.range xs.length).map w)) → Q (.ref p) H2) : tLc (iList K tl) (gName j) tYes te vs σ H Q := by
  refine h H (Ex.refl H) _ fun a H1 ha e1 hx => ⟨a, rfl, ⟨xs, sq_of hx⟩, fun Dl hD => ?_⟩
  refine lc_list (xs := xs) (fun i H' => Cw H1 (fun _ => true) w Dl i H' ∧ ∀ j, j < i → good j) ⟨⟨hD, Ex.new hD, upd_same⟩, fun j hj => absurd hj (Nat.not_lt_zero _)⟩ (fun i H' _ p => sq_of (p.1.2.1 a _ hx)) (fun i x H' hi p => ⟨hw x, ?_⟩) (fun H' p => ?_)
  · have hil : i < xs.length := (List.getElem?_eq_some_iff.mp hi).1
    obtain ⟨pc, pg⟩ := p
    rcases he i x H1 e1 hi with ⟨g, ev⟩ | rz
    · obtain ⟨p1, p2, p3⟩ := pc
      show te ((wipe σ vs).set j (some x)) H' _
      refine ev H' p2 _ fun H4 e4 => ⟨given i (fun _ => true) w, e4 Dl _ p3, sz_lt (by have := given_len i (fun _ => true) w; omega), ⟨p1, Ex.mut (p2.trans e4) p1, ?_⟩, fun j hj => ?_⟩
      · rw [given_yes rfl]
        exact upd_same
      · by_cases c : j = i
        · rw [c]; exact g
        · exact pg j (by omega)
    · show te ((wipe σ vs).set j (some x)) H' _
      exact rz H' _ pc.2.1
  · obtain ⟨⟨p1, p2, p3⟩, pg⟩ := p
    have e9 : Evl.given xs.length (fun _ => true) w = (List.range xs.length).map w := by
      unfold Evl.given
      rw [List.filter_eq_self.mpr (fun _ _ => rfl)]
    rw [e9] at p3
    exact k pg Dl H' (fresh_back e1 p1) (e1.trans p2) p3
theorem need_bad {H : Hp} {Q : VK} {E : XK} {b : Bool} (hb : b = false) (q : ∀ H', Ex H H' → E (.ref A.c_BadRow) none H') : sp_need K A [.bl b] H Q E := ⟨b, rfl, fun z => absurd (hb.symm.trans z) (by decide), fun _ => q⟩
theorem number_rz {σ : L2.St} {H : Hp} {te : TE} {E : XK} {x : Str} (h : Ev te σ H (.str x)) (hf : fineN x = true) (hn : numOf x = none) (q : ∀ H', Ex H H' → E (.ref A.c_BadRow) none H') (H2 : Hp) (Q : VK) (e2 : Ex H H2) : tCall (sp_number_of K A) [] E (tCons te tNil) σ H2 Q := by
  obtain ⟨h1, h2⟩ := fine_bad hf hn
  refine (ea_cons h ea_nil) H2 e2 _ fun H1 e1 => ?_
  rw [List.append_nil]
  exact .inr ⟨x, rfl, h1, h2, fun H' e' => q H' ((e2.trans e1).trans e')⟩
theorem number_is {σ : L2.St} {H : Hp} {te : TE} {E : XK} {x : Str} {n : Int} (h : Ev te σ H (.str x)) (hn : numOf x = some n) : Ev (tCall (sp_number_of K A) [] E (tCons te tNil)) σ H (.int n) := by
  obtain ⟨rfl, hs⟩ := numOf_spec hn
  exact number_call h hs
theorem said_rz {σ : L2.St} {H : Hp} {te : TE} {E : XK} {x : Str} (h : Ev te σ H (.str x)) (hf : fineS x = true) (hn : sdOf x = none) (q : ∀ H', Ex H H' → E (.ref A.c_BadRow) none H') (H2 : Hp) (Q : VK) (e2 : Ex H H2) : tCall (sp_said K A) [] E (tCons te tNil) σ H2 Q := by
  have hne : ¬ x = ("none" : Str) := fun z => by unfold sdOf at hn; rw [if_pos z] at hn; cases hn
  have hn2 : numOf x = none := by
    unfold sdOf at hn
    rw [if_neg hne] at hn
    cases h : numOf x with
    | none => rfl
    | some n => rw [h] at hn; cases hn
  have hf2 : fineN x = true := by
    unfold fineS at hf
    rw [decide_eq_false hne, Bool.false_or] at hf
    exact hf
  obtain ⟨h1, h2⟩ := fine_bad hf2 hn2
  refine (ea_cons h ea_nil) H2 e2 _ fun H1 e1 => ?_
  rw [List.append_nil]
  exact .inr ⟨x, rfl, h1, h2, hne, fun H' e' => q H' ((e2.trans e1).trans e')⟩
theorem said_is {σ : L2.St} {H : Hp} {te : TE} {E : XK} {x : Str} {y : Option Int} (h : Ev te σ H (.str x)) (hn : sdOf x = some y) : Ev (tCall (sp_said K A) [] E (tCons te tNil)) σ H (oV y) := by
  unfold sdOf at hn
  split at hn
  · rename_i c
    cases hn
    subst c
    exact said_call (x := none) h fun n z => nomatch z
  · cases hx : numOf x with
    | none => rw [hx] at hn; cases hn
    | some n =>
      rw [hx] at hn
      cases hn
      obtain ⟨rfl, hs⟩ := numOf_spec hx
      exact said_call (x := some n) h fun m z => by cases z; exact hs
/-- o.voter = Voter(tuple, y), refused -/
theorem q_deskVoterX {σ : L2.St} {H : Hp} {D : Ends} {tz : TS} {t1 t2 : TE} {E : XK} {i : Nat} {f : Str} {m t r ms b sta : Int} (hA : EvU t1 σ H [.int m, .int t, .int r, .int ms, .int b]) (hB : Ev t2 σ H (.int sta)) (hok : okSet m t r ms b = false) (q : ∀ H', Ex H H' → E (.ref A.c_BadSettings) none H') :
    tSeq (sFld K (tVar i) (tMake A.c_Voter (sp_Voter_init K A) [] E (tCons t1 (tCons t2 tNil))) f) tz D σ H := by
  refine hA H (Ex.refl H) _ fun tp H1 np e1 hp => ?_
  refine hB H1 e1 _ fun H2 e2 => ?_
  intro x dx hx0 hdx hne
  have ex0 : Ex H2 (upd (upd H2 dx (.own x)) x (.ins A.c_Voter dx [])) := fun c o hc => by
    rw [upd_ne (ne_of_none hc hx0), upd_ne (ne_of_none hc hdx)]
    exact hc
  exact ⟨x, dx, tp, m, t, r, ms, b, sta, rfl, upd_same, ex_t ex0 (st_of (e2 _ _ hp)), fun z => absurd (hok.symm.trans z) (by decide), fun _ H' e' => q H' (((e1.trans e2).trans ex0).trans e')⟩
theorem DeskB.ext {H H' : Hp} {d : Addr} : ∀ {mv : Option Nat}, DeskB A H d mv → Ex H H' → DeskB A H' d mv
  | none, ⟨dd, h⟩, e => ⟨dd, e _ _ h⟩
  | some _, ⟨B, v, h, hn⟩, e => ⟨B, v, h.ext e, hn⟩
theorem six : ∀ {ns : List Int}, ns.length = 6 → ∃ m t r ms b s, ns = [m, t, r, ms, b, s]
  | [m, t, r, ms, b, s], _ => ⟨m, t, r, ms, b, s, rfl⟩
theorem all_getD {xs : List Str} {p : Str → Bool} (h : ∀ i, i < xs.length → p (xs.getD i "") = true) : xs.all p = true := by
  refine List.all_eq_true.mpr fun x hx => ?_
  obtain ⟨i, hi⟩ := List.mem_iff_getElem?.mp hx
  have := h i (List.getElem?_eq_some_iff.mp hi).1
  rw [List.getD_eq_getElem?_getD, hi] at this
  exact this
theorem bad_row (T : Txt K mg A) {Q : VK} {E : XK} {H : Hp} {d : Addr} {row : Str} {mv : Option Nat} {k : Nat} (hl : row.length ≤ 200) (hsl : (Txt.split row " ").length ≤ 300) (hd : DeskB A H d mv) (hc : clsR mv (Txt.split row " ") = some k) (q : ∀ H', Ex H H' → E (.ref (clsA A k)) none H') : t_Desk_answer K A E { nx := fun _ H' => Q .non H', rt := Q } [some (.ref d), some (.str row), none, none, none, none, none, none] H := by
  obtain ⟨w, xs, hws⟩ : ∃ w xs, Txt.split row " " = w :: xs := by
    cases h : Txt.split row " " with
    | nil => rw [h] at hc; cases hc
    | cons w xs => exact ⟨w, xs, rfl⟩
  have hxl : xs.length ≤ 40000 := by
    rw [hws, List.length_cons] at hsl
    omega
  rw [hws] at hc
  refine q_asgL (xs := V.str w :: xs.map V.str) (el_is (el_split (ev_var rfl) ev_c (by decide +kernel) (by omega)) (by rw [hws]; rfl)) fun wp H1 np e1 hw => ?_
  have hW : SqL K H1 wp (V.str w :: xs.map V.str) := sq_of hw
  have hxm : ∀ {i : Nat} {x : V}, (xs.map V.str)[i]? = some x → x = .str (xs.getD i "") ∧ xs.getD i "" ∈ xs := fun {i x} hx => by
    rw [List.getElem?_map] at hx
    cases hv : xs[i]? with
    | none => rw [hv] at hx; cases hx
    | some y =>
      rw [hv] at hx
      rw [List.getD_eq_getElem?_getD, hv]
      exact ⟨(Option.some.inj hx).symm, List.mem_of_getElem? hv⟩
  have hd1 := hd.ext e1
  refine q_when (b := decide (w = "voter")) (et_test (ev_op (ev_op (ev_var rfl) ev_c (rv_ixL hW (atI_nat (j := 0) rfl))) ev_c rv_eqS)) (fun hb H2 e2 => ?_) fun hb H2 e2 => ?_
  · have hw1 : w = "voter" := of_decide_eq_true hb
    have hW2 := ex_l e2 hW
    rw [clsR_cons, if_pos hw1] at hc
    by_cases h6 : xs.length = 6
    · rw [if_pos h6] at hc
      refine q_dropC (vs := [.bl true]) (ea_cons (ev_is (ev_op (ev_len (ev_var rfl) hW2) ev_c rv_eqI) (by congr 1; exact decide_eq_true (by rw [List.length_cons, List.length_map, h6]; rfl))) ea_nil) fun H3 e3 => need_ok rfl fun H4 e4 => ?_
      have hW4 := ex_l (e3.trans e4) hW2
      have e04 := ((e1.trans e2).trans e3).trans e4
      unfold clsV at hc
      split at hc
      rotate_left
      · cases hc
      rename_i hfine
      refine q_asgR2 ?_
      refine q_lcx (xs := xs.map V.str) (good := fun i => (numOf (xs.getD i "")).isSome = true) (w := fun i => V.int ((numOf (xs.getD i "")).getD 0)) (el_is (el_sl (ev_var rfl) (eo_some ev_c) eo_none hW4) (by rw [cut_words (by show 1 ≤ _ + 1; omega)]; rfl)) (by rw [List.length_map]; omega) (fun _ => rfl) (fun i x H5 e5 hx => ?_) (fun hg p H5 np5 e5 hp5 => ?_)
      · obtain ⟨rfl, hm⟩ := hxm hx
        cases hn : numOf (xs.getD i "") with
        | some n => exact .inl ⟨rfl, number_is (ev_var rfl) hn⟩
        | none =>
          have hk : k = 0 := by
            have : ¬ (xs.all fun x => (numOf x).isSome) = true := fun z => by
              have := List.all_eq_true.mp z _ hm
              rw [hn] at this
              cases this
            rw [if_neg this] at hc
            exact (Option.some.inj hc).symm
          subst hk
          exact .inr fun H6 Q' e6 => number_rz (ev_var rfl) (List.all_eq_true.mp hfine _ hm) hn (fun H' e' => q H' ((e04.trans e5).trans e')) H6 Q' e6
      · have hall : (xs.all fun x => (numOf x).isSome) = true := all_getD fun i hi => hg i (by rw [List.length_map]; exact hi)
        rw [if_pos hall] at hc
        split at hc
        rotate_left
        · cases hc
        rename_i hset
        have hk : k = 1 := (Option.some.inj hc).symm
        subst hk
        rw [List.length_map, range_map xs "" fun x => V.int ((numOf x).getD 0)] at hp5
        obtain ⟨m, t, r, ms, b, s, hns⟩ := six (ns := xs.map fun x => (numOf x).getD 0) (by rw [List.length_map, h6])
        have hp6 : H5 p = some (.lst [.int m, .int t, .int r, .int ms, .int b, .int s]) := by
          rw [hp5]
          congr 2
          rw [show (xs.map fun x => V.int ((numOf x).getD 0)) = (xs.map fun x => (numOf x).getD 0).map V.int by rw [List.map_map]; rfl, hns]
          rfl
        have hV5 : SqL K H5 p [.int m, .int t, .int r, .int ms, .int b, .int s] := sq_of hp6
        rw [hns] at hset
        show tSeq _ _ _ _ H5
        exact q_deskVoterX (i := 0) (m := m) (t := t) (r := r) (ms := ms) (b := b) (sta := s) (eu_tupOf (el_is (el_sl (ev_var rfl) eo_none (eo_some ev_c) hV5) (by rfl))) (ev_op (ev_var rfl) ev_c (rv_ixL hV5 (atI_nat (j := 5) rfl))) hset fun H' e' => q H' ((e04.trans e5).trans e')
    · rw [if_neg h6] at hc
      have hk : k = 0 := (Option.some.inj hc).symm
      subst hk
      exact q_dropC (vs := [.bl false]) (ea_cons (ev_is (ev_op (ev_len (ev_var rfl) hW2) ev_c rv_eqI) (by congr 1; exact decide_eq_false (by rw [List.length_cons, List.length_map]; omega))) ea_nil) fun H3 e3 => need_bad rfl fun H4 e4 => q H4 (((e1.trans e2).trans e3).trans e4)
  · have hw1 : ¬ w = "voter" := of_decide_eq_false hb
    have hW2 := ex_l e2 hW
    have hd2 := hd1.ext e2
    have e02 := e1.trans e2
    rw [clsR_cons, if_neg hw1] at hc
    cases mv with
    | none =>
      have hk : k = 0 := (Option.some.inj hc).symm
      subst hk
      obtain ⟨dd, hown⟩ := hd2
      exact q_dropC (vs := [.bl false]) (ea_cons (ev_is (ev_op (ev_fld (ev_var rfl) hown T.cl_Desk T.na_Desk_voter rfl) ev_c rv_notN) (by rfl)) ea_nil) fun H3 e3 => need_bad rfl fun H4 e4 => q H4 ((e02.trans e3).trans e4)
    | some n =>
    have hc : (if w = "step" then (if xs.length = n then clsS n xs else some 0) else if w = "given" then (if xs.length = 0 then none else some 0) else if w = "sensor" ∧ xs.length = 1 then clsP n (xs.headD "") else some 0) = some k := hc
    obtain ⟨B, v, hda2, hvn⟩ := hd2
    obtain ⟨dd2, hown2⟩ := hda2.own
    refine q_dropC (vs := [.bl true]) (ea_cons (ev_is (ev_op (ev_fld (ev_var rfl) hown2 T.cl_Desk T.na_Desk_voter rfl) ev_c rv_notN) (by rfl)) ea_nil) fun H3 e3 => need_ok rfl fun H4 e4 => ?_
    have hW4 := ex_l (e3.trans e4) hW2
    have hda4 := hda2.ext (e3.trans e4)
    have e04 := (e02.trans e3).trans e4
    refine q_when (b := decide (w = "step")) (et_test (ev_op (ev_op (ev_var rfl) ev_c (rv_ixL hW4 (atI_nat (j := 0) rfl))) ev_c rv_eqS)) (fun hb5 H5 e5 => ?_) fun hb5 H5 e5 => ?_
    · have hw5 : w = "step" := of_decide_eq_true hb5
      rw [if_pos hw5] at hc
      have hW5 := ex_l e5 hW4
      have hda5 := hda4.ext e5
      obtain ⟨dd5, hown5⟩ := hda5.own
      have hlen : ∀ b : Bool, b = decide (xs.length = n) → Ev (tOp rEq (tCB (rLenS K) (tCons (tVar 2) tNil)) (tOp oAdd (tC (.int 1)) (tFld K (tVar 0) "many"))) [some (.ref d), some (.str row), some (.ref wp), none, none, none, none, none] H5 (.bl b) := fun b hb => by
        refine ev_is (ev_op (ev_len (ev_var rfl) hW5) (ev_op ev_c (ev_fld (ev_var rfl) hown5 T.cl_Desk T.na_Desk_many rfl) rv_I0) rv_eqI) ?_
        rw [hb]
        congr 1
        exact decide_eq_decide.mpr (by rw [List.length_cons, List.length_map, hvn]; omega)
      by_cases hn : xs.length = n
      · rw [if_pos hn] at hc
        refine q_dropC (vs := [.bl true]) (ea_cons (hlen true (decide_eq_true hn).symm) ea_nil) fun H6 e6 => need_ok rfl fun H7 e7 => ?_
        have hW7 := ex_l (e6.trans e7) hW5
        have hda7 := hda5.ext (e6.trans e7)
        have e07 := ((e04.trans e5).trans e6).trans e7
        obtain ⟨dd7, hown7⟩ := hda7.own
        obtain ⟨dv7, hvown⟩ := hda7.va.own
        unfold clsS at hc
        split at hc
        rotate_left
        · cases hc
        rename_i hfine
        refine q_asgR2 ?_
        refine ⟨.ref d, rfl, d, A.c_Desk, dd7, _, .ref B.p, rfl, hown7, T.cl_Desk, T.na_Desk_voter, rfl, B.p, dv7, _, rfl, hvown, by rfl, ?_⟩
        refine q_lcx (xs := xs.map V.str) (good := fun i => (sdOf (xs.getD i "")).isSome = true) (w := fun i => oV ((sdOf (xs.getD i "")).getD none)) (el_is (el_sl (ev_var rfl) (eo_some ev_c) eo_none hW7) (by rw [cut_words (by show 1 ≤ _ + 1; omega)]; rfl)) (by rw [List.length_map]; omega) (fun _ => rfl) (fun i x H8 e8 hx => ?_) (fun hg p H8 np8 e8 hp8 => ?_)
        · obtain ⟨rfl, hm⟩ := hxm hx
          cases hs : sdOf (xs.getD i "") with
          | some y => exact .inl ⟨rfl, said_is (ev_var rfl) hs⟩
          | none =>
            have hk : k = 0 := by
              have : ¬ (xs.all fun x => (sdOf x).isSome) = true := fun z => by
                have := List.all_eq_true.mp z _ hm
                rw [hs] at this
                cases this
              rw [if_neg this] at hc
              exact (Option.some.inj hc).symm
            subst hk
            exact .inr fun H9 Q' e9 => said_rz (ev_var rfl) (List.all_eq_true.mp hfine _ hm) hs (fun H' e' => q H' ((e07.trans e8).trans e')) H9 Q' e9
        · have hall : (xs.all fun x => (sdOf x).isSome) = true := all_getD fun i hi => hg i (by rw [List.length_map]; exact hi)
          rw [if_pos hall] at hc
          split at hc
          rotate_left
          · cases hc
          rename_i hset
          have hk : k = 2 := (Option.some.inj hc).symm
          subst hk
          rw [List.length_map, range_map xs "" fun x => oV ((sdOf x).getD none)] at hp8
          have hp9 : H8 p = some (.lst ((xs.map fun x => (sdOf x).getD none).map oV)) := by rw [hp8, List.map_map]; rfl
          have hda8 := hda7.ext e8
          refine ⟨B.p, B.l, B.as, v, p, xs.map fun x => (sdOf x).getD none, rfl, hda8.va, sq_of hp9, by rw [List.length_map]; omega, fun z => hda7.va.old _ (own_sub z) np8, fun z => absurd ((by rw [hda8.va.len, hvn]; exact hset : okStep (xs.map fun x => (sdOf x).getD none) ((B.as.length : Nat) : Int) = false).symm.trans z) (by decide), fun _ H' e' => q H' ((e07.trans e8).trans e')⟩
      · rw [if_neg hn] at hc
        have hk : k = 0 := (Option.some.inj hc).symm
        subst hk
        exact q_dropC (vs := [.bl false]) (ea_cons (hlen false (decide_eq_false hn).symm) ea_nil) fun H6 e6 => need_bad rfl fun H7 e7 => q H7 (((e04.trans e5).trans e6).trans e7)
    · have hw5 : ¬ w = "step" := of_decide_eq_false hb5
      rw [if_neg hw5] at hc
      have hW5 := ex_l e5 hW4
      have hda5 := hda4.ext e5
      have e05 := e04.trans e5
      refine q_when (b := decide (w = "given")) (et_test (ev_op (ev_op (ev_var rfl) ev_c (rv_ixL hW5 (atI_nat (j := 0) rfl))) ev_c rv_eqS)) (fun hb6 H6 e6 => ?_) fun hb6 H6 e6 => ?_
      · have hw6 : w = "given" := of_decide_eq_true hb6
        rw [if_pos hw6] at hc
        have hW6 := ex_l e6 hW5
        by_cases hn : xs.length = 0
        · rw [if_pos hn] at hc
          cases hc
        · rw [if_neg hn] at hc
          have hk : k = 0 := (Option.some.inj hc).symm
          subst hk
          exact q_dropC (vs := [.bl false]) (ea_cons (ev_is (ev_op (ev_len (ev_var rfl) hW6) ev_c rv_eqI) (by congr 1; exact decide_eq_false (by rw [List.length_cons, List.length_map]; omega))) ea_nil) fun H7 e7 => need_bad rfl fun H8 e8 => q H8 (((e05.trans e6).trans e7).trans e8)
      · have hw6 : ¬ w = "given" := of_decide_eq_false hb6
        rw [if_neg hw6] at hc
        have hW6 := ex_l e6 hW5
        have hda6 := hda5.ext e6
        have e06 := e05.trans e6
        have hnd : ∀ b : Bool, b = decide (w = "sensor" ∧ xs.length = 1) → Ev (tAndV (tOp rEq (tOp (rIxL K) (tVar 2) (tC (.int 0))) (tC (.str "sensor"))) (tOp rEq (tCB (rLenS K) (tCons (tVar 2) tNil)) (tC (.int 2)))) [some (.ref d), some (.str row), some (.ref wp), none, none, none, none, none] H6 (.bl b) := fun b hb => by
          refine ev_is (ev_andB (ev_op (ev_op (ev_var rfl) ev_c (rv_ixL hW6 (atI_nat (j := 0) rfl))) ev_c rv_eqS) (ev_op (ev_len (ev_var rfl) hW6) ev_c rv_eqI)) ?_
          rw [hb, show decide (((V.str w :: xs.map V.str).length : Int) = 2) = decide (xs.length = 1) from decide_eq_decide.mpr (by rw [List.length_cons, List.length_map]; omega)]
          by_cases c1 : w = "sensor" <;> by_cases c2 : xs.length = 1 <;> simp [c1, c2]
        by_cases hs : w = "sensor" ∧ xs.length = 1
        · rw [if_pos hs] at hc
          obtain ⟨x, hx⟩ : ∃ x, xs = [x] := by
            match xs, hs.2 with
            | [x], _ => exact ⟨x, rfl⟩
          subst hx
          refine q_dropC (vs := [.bl true]) (ea_cons (hnd true (decide_eq_true hs).symm) ea_nil) fun H7 e7 => need_ok rfl fun H8 e8 => ?_
          have hW8 := ex_l (e7.trans e8) hW6
          have hda8 := hda6.ext (e7.trans e8)
          have e08 := (e06.trans e7).trans e8
          have hc : clsP n x = some k := hc
          unfold clsP at hc
          split at hc
          rotate_left
          · cases hc
          rename_i hfine
          cases hnx : numOf x with
          | none =>
            rw [hnx] at hc
            have hk : k = 0 := (Option.some.inj hc).symm
            subst hk
            refine q_asgR2 ?_
            exact number_rz (ev_op (ev_var rfl) ev_c (rv_ixL hW8 (atI_nat (j := 1) rfl))) hfine hnx (fun H' e' => q H' (e08.trans e')) H8 _ (Ex.refl H8)
          | some i =>
            rw [hnx] at hc
            have hc : (if ¬ (0 ≤ i ∧ i < (n : Int)) then some 3 else none) = some k := hc
            split at hc
            rotate_left
            · cases hc
            rename_i hout
            have hk : k = 3 := (Option.some.inj hc).symm
            subst hk
            refine q_asg (v := .int i) (number_is (ev_op (ev_var rfl) ev_c (rv_ixL hW8 (atI_nat (j := 1) rfl))) hnx) fun H9 e9 => ?_
            have hda9 := hda8.ext e9
            obtain ⟨dd9, hown9⟩ := hda9.own
            obtain ⟨dv9, hvown⟩ := hda9.va.own
            refine ⟨.ref d, rfl, d, A.c_Desk, dd9, _, .ref B.p, rfl, hown9, T.cl_Desk, T.na_Desk_voter, rfl, B.p, dv9, _, rfl, hvown, by rfl, ?_⟩
            refine (ea_cons (ev_var rfl) ea_nil) H9 (Ex.refl H9) _ fun H10 e10 => ?_
            refine ⟨B.p, B.l, B.as, v, i, rfl, hda9.va.ext e10, fun z => absurd (by rw [hda9.va.len, hvn] at z; exact z) hout, fun _ H' e' => q H' (((e08.trans e9).trans e10).trans e')⟩
        · rw [if_neg hs] at hc
          have hk : k = 0 := (Option.some.inj hc).symm
          subst hk
          exact q_dropC (vs := [.bl false]) (ea_cons (hnd false (decide_eq_false hs).symm) ea_nil) fun H7 e7 => need_bad rfl fun H8 e8 => q H8 ((e06.trans e7).trans e8)
theorem pure_Desk_answer (T : Txt K mg A) (vs : List V) (H : Hp) (Q : VK) (E : XK) (h : sp_Desk_answer K A vs H Q E) : t_Desk_answer K A E { nx := fun _ H' => Q .non H', rt := Q } (start ["self", "line", "words", "numbers", "word", "found", "one", "place"] vs) H := by
  rcases h with ⟨d, l, rfl, hs, h⟩ | ⟨d, row, mv, k, rfl, hl, hsl, hd, hc, q⟩
  · exact ans_good T hs h
  · exact bad_row T hl hsl hd hc q
end
end MV
namespace MV
open PySem PySem.Spec PyProof.Rows L2 Evl MVH
abbrev wordE (A : Ads) (C : Addr) (w : Str) : Prop := (C = A.c_BadSettings ∧ w = "BadSettings") ∨ (C = A.c_BadStep ∧ w = "BadStep") ∨ (C = A.c_NoSensor ∧ w = "NoSensor") ∨ (C = A.c_BadRow ∧ w = "BadRow")
def wordK : Nat → Str
  | 0 => "BadRow"
  | 1 => "BadSettings"
  | 2 => "BadStep"
  | _ => "NoSensor"
/-- what a row does to a desk: its answer, the voter behind it -/
inductive RowOk : Option Vst → Str → Option Str → Option Vst → Prop
  | blank {s : Option Vst} {row : Str} : Txt.stripChars row " " = "" → row.length ≤ 200 → RowOk s row none s
  | made {s : Option Vst} {m t r ms b st : Int} : smallL (.voter m t r ms b st) → okSet m t r ms b = true → RowOk s (lineS (.voter m t r ms b st)) (some "ok") (some (freshV m t r ms b st))
  | done {v : Vst} {l : Line} : Fit l v → (∀ m t r ms b s, l ≠ .voter m t r ms b s) → RowOk (some v) (lineS l) (some (ansS l v)) (some (ansV l v))
  | bad {s : Option Vst} {row : Str} {k : Nat} : Txt.stripChars row " " ≠ "" → row.length ≤ 200 → (Txt.split row " ").length ≤ 300 → clsR (s.map fun v => v.ss.length) (Txt.split row " ") = some k → RowOk s row (some ("refused: " ++ wordK k)) s
def Runs : Option Vst → List Str → List Str → Prop
  | _, [], ans => ans = []
  | s, row :: r, ans => ∃ a s' ans', RowOk s row a s' ∧ Runs s' r ans' ∧ ans = a.toList ++ ans'
def sp_play (K : PySem.W.Frag) (A : Ads) : Sp := fun vs H Q _ => ∃ (rows ans : List Str), vs = [.str (Txt.join "\n" rows)] ∧ rows ≠ [] ∧ rows.length ≤ 70 ∧ (∀ r ∈ rows, 10 ∉ TL.tl r ∧ r.length ≤ 200) ∧ Runs none rows ans ∧
  ∀ (H' : Hp) (p : Addr), H p = none → Ex H H' → H' p = some (.lst (ans.map V.str)) → Q (.ref p) H'
theorem len_play {K : PySem.W.Frag} {A : Ads} {vs : List V} {H : Hp} {Q : VK} {E : XK} (h : sp_play K A vs H Q E) : vs.length = 1 := by obtain ⟨_, _, rfl, _⟩ := h; rfl
theorem sc_class_of : FnScope ["error"] ["error"] (defScope s_class_of) := ⟨rfl, rfl, rfl, by decide +kernel, rfl, by decide +kernel, by decide +kernel⟩
def t_class_of (K : PySem.W.Frag) (A : Ads) (E : XK) (C a : Addr) : TS :=
      (tSeq (tIfS (tB (tCB (rIsP K C a) (tCons (tVar 0) (tCons (tC (.ref A.c_BadRow)) tNil)))) (tRet (tC (.str "BadRow"))) tNext)
      (tSeq (tIfS (tB (tCB (rIsP K C a) (tCons (tVar 0) (tCons (tC (.ref A.c_BadSettings)) tNil)))) (tRet (tC (.str "BadSettings"))) tNext)
      (tSeq (tIfS (tB (tCB (rIsP K C a) (tCons (tVar 0) (tCons (tC (.ref A.c_BadStep)) tNil)))) (tRet (tC (.str "BadStep"))) tNext)
      (tRet (tC (.str "NoSensor"))))))
theorem sc_play : FnScope ["text", "desk", "answers", "line", "e"] ["text"] (defScope s_play) := ⟨rfl, rfl, rfl, by decide +kernel, rfl, by decide +kernel, by decide +kernel⟩
def t_play (K : PySem.W.Frag) (A : Ads) (E : XK) : TS :=
      (tSeq (tAsg (tMake A.c_Desk (sp_Desk_init K A) [] E0 tNil) (gName 1))
      (tSeq (tAsg (tLst tNil) (gName 2))
      (tSeq (tFor (iList K (tM1 rSplitT (tVar 0) (tC (.str "\n")))) (gName 3) (tSeq (tIfS (tTest (tOp rEq (tM1 rStripT (tVar 3) (tC (.str " "))) (tC (.str "")))) tCont tNext)
      (tTryX K (.ref A.c_VoteError) 4 (wordE A) (fun a w => (tDrop (tBM K "list" rAppend (tVar 2) (tCons (tOp oAddS (tC (.str "refused: ")) (tWordOf 4 a w)) tNil)))) fun W => (tDrop (tBM K "list" rAppend (tVar 2) (tCons (tMethS A.c_Desk "answer" (sp_Desk_answer K A) [] (WE W) (tVar 1) (tCons (tVar 3) tNil)) tNil))))))
      (tRet (tVar 2)))))
end MV
namespace MV
open PySem PySem.Spec PyProof.Rows L2 Evl MVH TL
section
variable {K : PySem.W.Frag} {mg : Str → Option Value} {A : Ads}
theorem exc_of (T : Txt K mg A) {C : Addr} {w : Str} (hw : wordE A C w) : ExcC K C := by
  rcases hw with ⟨rfl, _⟩ | ⟨rfl, _⟩ | ⟨rfl, _⟩ | ⟨rfl, _⟩
  · exact T.ec_BadSettings
  · exact T.ec_BadStep
  · exact T.ec_NoSensor
  · exact T.ec_BadRow
theorem pure_class_of (T : Txt K mg A) {Q : VK} {E : XK} {H : Hp} {a C : Addr} {w : Str} (hw : wordE A C w) (q : ∀ H', Ex H H' → Q (.str w) H') : t_class_of K A E C a { nx := fun _ H' => Q .non H', rt := Q } (start ["error"] [.ref a]) H := by
  show t_class_of K A E C a _ [some (.ref a)] H
  have is : ∀ {D : Addr} {b : Bool} {H1 : Hp}, PySem.W.kitOne K (.ref C) (.ref D) = some b → EvT (tB (tCB (rIsP K C a) (tCons (tVar 0) (tCons (tC (.ref D)) tNil)))) [some (.ref a)] H1 b := fun h => et_B (ev_cb (ea_cons (ev_var rfl) (ea_cons ev_c ea_nil)) (rc_isP (.own _) h))
  rcases hw with ⟨rfl, rfl⟩ | ⟨rfl, rfl⟩ | ⟨rfl, rfl⟩ | ⟨rfl, rfl⟩
  · refine q_when (is T.ki_BadSettings_BadRow) (fun hb => absurd hb (by decide)) fun _ H1 e1 => ?_
    refine q_when (is T.ki_BadSettings_BadSettings) (fun _ H2 e2 => s_ret ev_c fun H3 e3 => q H3 ((e1.trans e2).trans e3)) fun hb => absurd hb (by decide)
  · refine q_when (is T.ki_BadStep_BadRow) (fun hb => absurd hb (by decide)) fun _ H1 e1 => ?_
    refine q_when (is T.ki_BadStep_BadSettings) (fun hb => absurd hb (by decide)) fun _ H2 e2 => ?_
    refine q_when (is T.ki_BadStep_BadStep) (fun _ H3 e3 => s_ret ev_c fun H4 e4 => q H4 (((e1.trans e2).trans e3).trans e4)) fun hb => absurd hb (by decide)
  · refine q_when (is T.ki_NoSensor_BadRow) (fun hb => absurd hb (by decide)) fun _ H1 e1 => ?_
    refine q_when (is T.ki_NoSensor_BadSettings) (fun hb => absurd hb (by decide)) fun _ H2 e2 => ?_
    refine q_when (is T.ki_NoSensor_BadStep) (fun hb => absurd hb (by decide)) fun _ H3 e3 => ?_
    exact s_ret ev_c fun H4 e4 => q H4 (((e1.trans e2).trans e3).trans e4)
  · refine q_when (is T.ki_BadRow_BadRow) (fun _ H1 e1 => s_ret ev_c fun H2 e2 => q H2 (e1.trans e2)) fun hb => absurd hb (by decide)
theorem cls_word (A : Ads) : ∀ k : Nat, wordE A (clsA A k) (wordK k)
  | 0 => .inr (.inr (.inr ⟨rfl, rfl⟩))
  | 1 => .inl ⟨rfl, rfl⟩
  | 2 => .inr (.inl ⟨rfl, rfl⟩)
  | _ + 3 => .inr (.inr (.inl ⟨rfl, rfl⟩))
/-- what comes out of the body reaches the clause -/
theorem clause_at (T : Txt K mg A) {i : Nat} {body : Addr → Str → TS} {D : Ends} {σ : L2.St} {H : Hp} {C : Addr} {w : Str} (hw : wordE A C w)
    (k : ∀ a, H a = none → body a w { nx := fun σ' H' => D.nx (σ'.set i none) H', rt := D.rt, bk := fun σ' H' => D.bk (σ'.set i none) H', ct := fun σ' H' => D.ct (σ'.set i none) H' } (σ.set i (some (.ref a))) H) : wAs K (.ref A.c_VoteError) i (tsX (wordE A) body) (fun _ _ _ _ => False) D (.ref C) none σ H := by
  have hx : PySem.W.exmOne K (.ref C) (.ref A.c_VoteError) = some true := by
    rcases hw with ⟨rfl, _⟩ | ⟨rfl, _⟩ | ⟨rfl, _⟩ | ⟨rfl, _⟩
    · exact PySem.W.exm_ref T.xb_VoteError T.xd_VoteError T.xt_VoteError T.xs_BadSettings_VoteError
    · exact PySem.W.exm_ref T.xb_VoteError T.xd_VoteError T.xt_VoteError T.xs_BadStep_VoteError
    · exact PySem.W.exm_ref T.xb_VoteError T.xd_VoteError T.xt_VoteError T.xs_NoSensor_VoteError
    · exact PySem.W.exm_ref T.xb_VoteError T.xd_VoteError T.xt_VoteError T.xs_BadRow_VoteError
  exact ⟨true, hx, fun _ a ha => ⟨C, w, rfl, rfl, hw, k a ha⟩, fun z => nomatch z⟩
/-- the desk in play -/
def DeskS (A : Ads) (H H' : Hp) (d p ap : Addr) : Option Vst → Prop
  | none => ∃ dd, H' d = some (.ins A.c_Desk dd (dfs .non 0))
  | some v => ∃ B, DeskAt A H' d B v ∧ ∀ x ∈ B.all, H x = none ∧ x ≠ p ∧ x ≠ ap
theorem DeskS.ext {H H' H2 : Hp} {d p ap : Addr} : ∀ {s : Option Vst}, DeskS A H H' d p ap s → Ex H' H2 → DeskS A H H2 d p ap s
  | none, ⟨dd, h⟩, e => ⟨dd, e _ _ h⟩
  | some _, ⟨B, h, hB⟩, e => ⟨B, h.ext e, hB⟩
theorem DeskS.app {H H' : Hp} {d p ap : Addr} {o : HO} (nad : ap ≠ d) : ∀ {s : Option Vst}, DeskS A H H' d p ap s → DeskS A H (upd H' ap o) d p ap s
  | none, ⟨dd, h⟩ => ⟨dd, by rw [upd_ne nad.symm]; exact h⟩
  | some _, ⟨B, h, hB⟩ => by
    obtain ⟨dd, ho⟩ := h.own
    exact ⟨B, ⟨⟨dd, by rw [upd_ne nad.symm]; exact ho⟩, h.va.keep (fp := [ap]) (Buts.but (by simp) (But.upd (Ex.refl _))) fun x hx z => (hB x hx).2.2 (List.mem_singleton.mp z), h.nd⟩, hB⟩
theorem DeskS.b {H H' : Hp} {d p ap : Addr} : ∀ {s : Option Vst}, DeskS A H H' d p ap s → DeskB A H' d (s.map fun v => v.ss.length)
  | none, h => h
  | some v, ⟨B, h, _⟩ => ⟨B, v, h, rfl⟩
theorem DeskS.own {H H' : Hp} {d p ap : Addr} : ∀ {s : Option Vst}, DeskS A H H' d p ap s → ∃ dd x k, H' d = some (.ins A.c_Desk dd (dfs x k))
  | none, ⟨dd, h⟩ => ⟨dd, _, _, h⟩
  | some v, ⟨B, h, _⟩ => let ⟨dd, q⟩ := h.own; ⟨dd, _, _, q⟩
theorem rows_len {rows : List Str} (h : ∀ r ∈ rows, 10 ∉ tl r ∧ r.length ≤ 200) : (Txt.join "\n" rows).length ≤ rows.length * 201 := by
  rw [len_tl, join_eq, tl_join, tl_nl]
  have := joinL_len (S := [10]) (n := 200) (ps := rows.map tl) fun p hp => by
    obtain ⟨w, hw, rfl⟩ := List.mem_map.mp hp
    rw [← len_tl]
    exact (h w hw).2
  rw [List.length_map] at this
  exact this
theorem pure_play (T : Txt K mg A) (vs : List V) (H : Hp) (Q : VK) (E : XK) (h : sp_play K A vs H Q E) : t_play K A E { nx := fun _ H' => Q .non H', rt := Q } (start ["text", "desk", "answers", "line", "e"] vs) H := by
  obtain ⟨rows, ans, rfl, hne, hlen, hrow, hruns, q⟩ := h
  have htl : (Txt.join "\n" rows).length ≤ 70 * 201 := Nat.le_trans (rows_len hrow) (Nat.mul_le_mul_right _ hlen)
  have hsplit : Txt.split (Txt.join "\n" rows) "\n" = rows := split_join tl_nl (by decide +kernel) hne fun p hp => (hrow p hp).1
  show t_play K A E _ [some (.str (Txt.join "\n" rows)), none, none, none, none] H
  refine q_asgR ?_
  intro d dd0 hd0 hdd hne0
  have ex0 : Ex H (upd (upd H dd0 (.own d)) d (.ins A.c_Desk dd0 [])) := fun c o hc => by
    rw [upd_ne (ne_of_none hc hd0), upd_ne (ne_of_none hc hdd)]
    exact hc
  refine ⟨d, dd0, rfl, upd_same, fun H1 b1 hd1 => ⟨rfl, ?_⟩⟩
  have e1 : Ex H H1 := fun c o hc => b1 c o (ne_of_none hc hd0) (ex0 _ _ hc)
  refine q_asgL (xs := []) (el_lst ea_nil (Nat.zero_le _)) fun ap H2 na1 e2 hap => ?_
  have hna : H ap = none := fresh_back e1 na1
  have nad : ap ≠ d := fun z => by rw [z, hd1] at na1; cases na1
  refine q_forNLn (xs := rows.map V.str) (el_is (el_split (ev_var rfl) ev_c (by decide +kernel) (by omega)) (by rw [hsplit]))
    (fun p i σ H' => ∃ y dn rest s, σ = [some (.str (Txt.join "\n" rows)), some (.ref d), some (.ref ap), y, none] ∧ Ex H H' ∧ H' p = some (.lst (rows.map V.str)) ∧ p ≠ ap ∧ p ≠ d ∧ H' ap = some (.lst (dn.map V.str)) ∧ dn.length ≤ i ∧ ans = dn ++ rest ∧ Runs s (rows.drop i) rest ∧ DeskS A H H' d p ap s)
    (fun p H3 np e3 hp => ⟨none, [], ans, none, rfl, (e1.trans e2).trans e3, hp, fun z => (by rw [z, hap] at np; cases np), fun z => (by rw [z, e2 _ _ hd1] at np; cases np), e3 _ _ hap, Nat.le_refl _, rfl, hruns, ⟨_, e3 _ _ (e2 _ _ hd1)⟩⟩)
    (fun p i σ H' _ ⟨_, _, _, _, _, _, hp, _⟩ => sq_of hp) (fun p i x σ H' hx hP => ?_) fun p σ H' hP => ?_
  · obtain ⟨y, dn, rest, s, rfl, e, hp, npa, npd, ha, hdl, hans, hr, hs⟩ := hP
    rw [List.getElem?_map] at hx
    cases hl : rows[i]? with
    | none => rw [hl] at hx; cases hx
    | some row =>
    rw [hl] at hx
    have exx : x = .str row := (Option.some.inj hx).symm
    subst exx
    have hil : i < rows.length := (List.getElem?_eq_some_iff.mp hl).1
    have hdrop : rows.drop i = row :: rows.drop (i + 1) := by
      rw [List.drop_eq_getElem_cons hil]
      congr 1
      have := (List.getElem?_eq_some_iff.mp hl).2
      exact this
    rw [hdrop] at hr
    obtain ⟨a, s', rest', hok, hr', hrest⟩ := hr
    have hrl := (hrow row (List.mem_of_getElem? hl)).2
    have hi70 : i < 70 := Nat.lt_of_lt_of_le hil hlen
    refine q_when (b := decide (Txt.stripChars row " " = "")) (et_test (ev_op (ev_strip (ev_var rfl) ev_c (by omega)) ev_c rv_eqS)) (fun hb H4 e4 => ?_) fun hb H4 e4 => ?_
    · have hblank := of_decide_eq_true hb
      have hsa : a = none ∧ s' = s := by
        cases hok with
        | blank _ _ => exact ⟨rfl, rfl⟩
        | made _ _ => exact absurd hblank (fun z => (line_strip _).2 ((line_strip _).1.symm.trans z))
        | done _ _ => exact absurd hblank (fun z => (line_strip _).2 ((line_strip _).1.symm.trans z))
        | bad h _ _ _ => exact absurd hblank h
      obtain ⟨rfl, rfl⟩ := hsa
      exact ⟨_, dn, rest', s', rfl, e.trans e4, e4 _ _ hp, npa, npd, e4 _ _ ha, Nat.le_succ_of_le hdl, by rw [hans, hrest]; rfl, hr', hs.ext e4⟩
    · have hnb := of_decide_eq_false hb
      have ha4 := e4 _ _ ha
      have hp4 := e4 _ _ hp
      have hs4 := hs.ext e4
      have e04 := e.trans e4
      -- the answer is put behind
      have fin : ∀ (H9 : Hp) (w : Str) (e' : Option V), a = some w → Ex H H9 → H9 p = some (.lst (rows.map V.str)) → H9 ap = some (.lst (dn.map V.str)) → DeskS A H H9 d p ap s' →
          ∃ y dn' rest s, ([some (.str (Txt.join "\n" rows)), some (.ref d), some (.ref ap), some (.str row), none] : L2.St) = [some (.str (Txt.join "\n" rows)), some (.ref d), some (.ref ap), y, none] ∧ Ex H (upd H9 ap (.lst (dn.map V.str ++ [.str w]))) ∧ (upd H9 ap (.lst (dn.map V.str ++ [.str w]))) p = some (.lst (rows.map V.str)) ∧ p ≠ ap ∧ p ≠ d ∧ (upd H9 ap (.lst (dn.map V.str ++ [.str w]))) ap = some (.lst (dn'.map V.str)) ∧ dn'.length ≤ i + 1 ∧ ans = dn' ++ rest ∧ Runs s (rows.drop (i + 1)) rest ∧ DeskS A H (upd H9 ap (.lst (dn.map V.str ++ [.str w]))) d p ap s := fun H9 w _ haw e9 hp9 ha9 hs9 => by
        subst haw
        exact ⟨_, dn ++ [w], rest', s', rfl, e9.mut hna, by rw [upd_ne npa]; exact hp9, npa, npd, by rw [upd_same, List.map_append]; rfl, by rw [List.length_append]; exact Nat.succ_le_succ hdl, by rw [hans, hrest, List.append_assoc]; rfl, hr', hs9.app nad⟩
      obtain ⟨dd, x4, k4, ho4⟩ := hs4.own
      have hsz : (dn.map V.str).length < sizeLine := by rw [List.length_map]; exact sz_lt (by omega)
      show tTryX _ _ _ _ _ _ _ _ _
      refine ⟨.ref ap, rfl, ty_list ha4, .ref d, rfl, d, dd, _, rfl, ho4, by rfl, .str row, rfl, ?_⟩
      cases hok with
      | blank h _ => exact absurd h hnb
      | @made _ m t r ms b st hsm hset =>
        refine .inl ⟨d, _, rfl, hsm, .inl ⟨dd, x4, k4, m, t, r, ms, b, st, rfl, ho4, hset, fun H9 B b9 hB hd9 => ⟨ap, _, _, rfl, rfl, b9 _ _ nad ha4, hsz, fin H9 "ok" none rfl (fun c o hc => b9 _ _ (ne_of_none hc hd0) (e04 _ _ hc)) (b9 _ _ npd hp4) (b9 _ _ nad ha4) ⟨B, hd9, fun x hx => ?_⟩⟩⟩⟩
        have hn := hB x hx
        exact ⟨fresh_back e04 hn, fun z => (by rw [z, hp4] at hn; cases hn), fun z => (by rw [z, ha4] at hn; cases hn)⟩
      | @done v l hf hnv =>
        obtain ⟨B, hB, hBf⟩ := hs4
        refine .inl ⟨d, l, rfl, hf.small, .inr ⟨B, v, hB, hf, hnv, fun H9 b9 hd9 => ⟨ap, _, _, rfl, rfl, b9 _ _ (fun z => (hBf ap z).2.2 rfl) ha4, hsz, fin H9 _ none rfl (fun c o hc => b9 _ _ (fun z => (by have := (hBf c z).1; rw [hc] at this; cases this)) (e04 _ _ hc)) (b9 _ _ (fun z => (hBf p z).2.1 rfl) hp4) (b9 _ _ (fun z => (hBf ap z).2.2 rfl) ha4) ⟨B, hd9, hBf⟩⟩⟩⟩
      | @bad _ _ k h1 h2 h3 h4 =>
        refine .inr ⟨d, row, s.map fun v => v.ss.length, k, rfl, h2, h3, hs4.b, h4, fun H9 e9 => clause_at T (cls_word A k) fun a ha => ?_⟩
        show tDrop _ _ _ _
        have e49 := e04.trans e9
        have hev : Ev (tOp oAddS (tC (.str "refused: ")) (tWordOf 4 a (wordK k))) [some (.str (Txt.join "\n" rows)), some (.ref d), some (.ref ap), some (.str row), some (.ref a)] H9 (.str ("refused: " ++ wordK k)) := ev_op ev_c (ev_word rfl) (rv_addS (sz_of (by
          have : ("refused: " : Str).length = 9 := by decide +kernel
          have : (wordK k).length ≤ 20 := by
            unfold wordK
            split <;> decide +kernel
          omega)))
        refine ⟨.ref ap, rfl, ty_list (e9 _ _ ha4), ?_⟩
        refine hev H9 (Ex.refl H9) _ fun H10 e10 => ?_
        exact ⟨ap, _, _, rfl, rfl, e10 _ _ (e9 _ _ ha4), hsz, fin H10 _ none rfl (e49.trans e10) (e10 _ _ (e9 _ _ hp4)) (e10 _ _ (e9 _ _ ha4)) (hs4.ext (e9.trans e10))⟩
  · obtain ⟨y, dn, rest, s, rfl, e, hp, npa, npd, ha, _, hans, hr, _⟩ := hP
    rw [List.length_map, List.drop_length] at hr
    have hr : rest = [] := hr
    rw [hr, List.append_nil] at hans
    subst hans
    exact s_ret (ev_var rfl) fun H9 e9 => q H9 ap hna (e.trans e9) (e9 _ _ ha)
end
end MV
namespace MV
open PySem PySem.Spec PyProof.Rows L2 Evl MVH
abbrev n1 : List Str := ["voter 3 5 5 2", "voter 3 5 5 2 2", "voter 3 5 5 2 2 0 0", "voter", "voter 3 5 5 2 2 x"]
abbrev n2 : List Str := ["voter 3 5 5 2 2 -0", "voter 3 5 5 2 2 007", "voter 3 5 5  2 2 0", "voter 3 5 5 2 2 12345678901"]
abbrev n3 : List Str := ["Voter 3 5 5 2 2 0", "step 1 2", "step 1 2 3 4", "step", "step 1 2 nothing", "step 1  2 3"]
abbrev n4 : List Str := ["step 1 2 --3", "step 1 2 -", "step 1 2 03", "step 1 2 3 ", "step 1 None 3", "given 0", "given "]
abbrev n5 : List Str := ["gives", "sensor", "sensor 0 0", "sensor x", "sensor 00", "sensor -", "sensor  0", "sensor one"]
abbrev n6 : List Str := ["steps 1 2 3", "5", "none", " given", "step 1 2 1.5", "step 1 2 +3", "sensor 0x0", "state 0"]
abbrev n7 : List Str := ["step none none"]
abbrev o1 : List (Str × Str) := [("voter 2 5 5 2 2 0", "refused: BadSettings"), ("voter 10 5 5 2 2 0", "refused: BadSettings")]
abbrev o2 : List (Str × Str) := [("voter 3 -1 5 2 2 0", "refused: BadSettings"), ("voter 3 5 0 2 2 0", "refused: BadSettings")]
abbrev o3 : List (Str × Str) := [("voter 3 5 5 0 2 0", "refused: BadSettings"), ("voter 3 5 5 2 1001 0", "refused: BadSettings")]
abbrev oF : List Str := ["step 1 2 3", "given", "sensor 0", "sensor 9", "step none none none", "step 1 2 3 4"]
abbrev o4 : List (Str × Str) := [("sensor 3", "refused: NoSensor"), ("sensor -1", "refused: NoSensor"), ("given", "4")]
abbrev o5 : List (Str × Str) := [("step 1000000001 1 1", "refused: BadStep"), ("step 1 none -1000000001", "refused: BadStep")]
abbrev o6 : List (Str × Str) := [("sensor 0", "good 0"), ("sensor 2", "suspect 1"), ("sensor 1", "good 0")]
/-! ### the law's rows -/
def pairV (p : Str × Str) : List V := [.str p.1, .str p.2]
abbrev badP (r : Str) : Str × Str := (r, "refused: BadRow")
def othersT (g : Bool) : List (Str × Str) := if g = true then ((((o1 ++ o2) ++ o3) ++ o4) ++ o5) ++ o6 else ((o1 ++ o2) ++ o3) ++ oF.map badP
def noneR : List Str := (((((n1 ++ n2) ++ n3) ++ n4) ++ n5) ++ n6) ++ n7
def sp_l_none (K : PySem.W.Frag) (A : Ads) : Sp := fun vs H Q _ => vs = [] ∧ ∀ (p : Addr) (H' : Hp), H p = none → Ex H H' → H' p = some (.lst (noneR.map V.str)) → Q (.ref p) H'
def sp_l_others (K : PySem.W.Frag) (A : Ads) : Sp := fun vs H Q _ => ∃ g : Bool, vs = [.bl g] ∧ ∀ (p : Addr) (rs : List Addr) (H' : Hp), Ex H H' → H' p = some (.lst (rs.map V.ref)) → TupsAt H' rs ((othersT g).map pairV) → Q (.ref p) H'
section
variable {K : PySem.W.Frag} {A : Ads} {vs : List V} {H : Hp} {Q : VK} {E : XK}
theorem len_l_none (h : sp_l_none K A vs H Q E) : vs.length = 0 := by obtain ⟨rfl, _⟩ := h; rfl
theorem len_l_others (h : sp_l_others K A vs H Q E) : vs.length = 1 := by obtain ⟨_, rfl, _⟩ := h; rfl
end
theorem sc_l_cell : FnScope ["_law_script", "_law_k"] ["_law_script", "_law_k"] (defScope s_l_cell) := ⟨rfl, rfl, rfl, by decide +kernel, rfl, by decide +kernel, by decide +kernel⟩
def t_l_cell (K : PySem.W.Frag) (A : Ads) (E : XK) : TS :=
      (tSeq (tIfS (tTest (tOp (rEqD K) (tVar 0) (tLst tNil))) (tRet (tOp oMul (tVar 1) (tC (.int 7919)))) tNext)
      (tRet (tOp oAdd (tOp (rIxL K) (tVar 0) (tOp oMod (tVar 1) (tCB (rLenS K) (tCons (tVar 0) tNil)))) (tOp oMul (tOp oDivW (tVar 1) (tCB (rLenS K) (tCons (tVar 0) tNil))) (tC (.int 104729))))))
theorem sc_l_drawn : FnScope ["_law_cell_here", "_law_k", "_law_more"] ["_law_cell_here", "_law_k"] (defScope s_l_drawn) := ⟨rfl, rfl, rfl, by decide +kernel, rfl, by decide +kernel, by decide +kernel⟩
def t_l_drawn (K : PySem.W.Frag) (A : Ads) (E : XK) : TS :=
      (tSeq (tAsg (tOp oMod (tOp oAdd (tOp oMul (tVar 0) (tC (.int 6364136223846793005))) (tOp oMul (tOp oAdd (tVar 1) (tC (.int 1))) (tC (.int 1442695040888963407)))) (tC (.int 340282366920938463463374607431768211507))) (gName 2))
      (tRet (tOp oMod (tOp oMulW (tVar 2) (tVar 2)) (tC (.int 340282366920938463463374607431768211297)))))
theorem sc_l_none : FnScope ["_law_some"] [] (defScope s_l_none) := ⟨rfl, rfl, rfl, by decide +kernel, rfl, by decide +kernel, by decide +kernel⟩
def t_l_none (K : PySem.W.Frag) (A : Ads) (E : XK) : TS :=
      (tSeq (tAsg (tLst (tCons (tC (.str "voter 3 5 5 2")) (tCons (tC (.str "voter 3 5 5 2 2")) (tCons (tC (.str "voter 3 5 5 2 2 0 0")) (tCons (tC (.str "voter")) (tCons (tC (.str "voter 3 5 5 2 2 x")) tNil)))))) (gName 0))
      (tSeq (tAsg (tOp rCat (tVar 0) (tLst (tCons (tC (.str "voter 3 5 5 2 2 -0")) (tCons (tC (.str "voter 3 5 5 2 2 007")) (tCons (tC (.str "voter 3 5 5  2 2 0")) (tCons (tC (.str "voter 3 5 5 2 2 12345678901")) tNil)))))) (gName 0))
      (tSeq (tAsg (tOp rCat (tVar 0) (tLst (tCons (tC (.str "Voter 3 5 5 2 2 0")) (tCons (tC (.str "step 1 2")) (tCons (tC (.str "step 1 2 3 4")) (tCons (tC (.str "step")) (tCons (tC (.str "step 1 2 nothing")) (tCons (tC (.str "step 1  2 3")) tNil)))))))) (gName 0))
      (tSeq (tAsg (tOp rCat (tVar 0) (tLst (tCons (tC (.str "step 1 2 --3")) (tCons (tC (.str "step 1 2 -")) (tCons (tC (.str "step 1 2 03")) (tCons (tC (.str "step 1 2 3 ")) (tCons (tC (.str "step 1 None 3")) (tCons (tC (.str "given 0")) (tCons (tC (.str "given ")) tNil))))))))) (gName 0))
      (tSeq (tAsg (tOp rCat (tVar 0) (tLst (tCons (tC (.str "gives")) (tCons (tC (.str "sensor")) (tCons (tC (.str "sensor 0 0")) (tCons (tC (.str "sensor x")) (tCons (tC (.str "sensor 00")) (tCons (tC (.str "sensor -")) (tCons (tC (.str "sensor  0")) (tCons (tC (.str "sensor one")) tNil)))))))))) (gName 0))
      (tSeq (tAsg (tOp rCat (tVar 0) (tLst (tCons (tC (.str "steps 1 2 3")) (tCons (tC (.str "5")) (tCons (tC (.str "none")) (tCons (tC (.str " given")) (tCons (tC (.str "step 1 2 1.5")) (tCons (tC (.str "step 1 2 +3")) (tCons (tC (.str "sensor 0x0")) (tCons (tC (.str "state 0")) tNil)))))))))) (gName 0))
      (tRet (tOp rCat (tVar 0) (tLst (tCons (tC (.str "step none none")) tNil))))))))))
theorem sc_l_others : FnScope ["_law_is_there", "_law_found", "_law_rows", "_law_row"] ["_law_is_there"] (defScope s_l_others) := ⟨rfl, rfl, rfl, by decide +kernel, rfl, by decide +kernel, by decide +kernel⟩
def t_l_others (K : PySem.W.Frag) (A : Ads) (E : XK) : TS :=
      (tSeq (tAsg (tLst (tCons (tTup (tCons (tC (.str "voter 2 5 5 2 2 0")) (tCons (tC (.str "refused: BadSettings")) tNil))) (tCons (tTup (tCons (tC (.str "voter 10 5 5 2 2 0")) (tCons (tC (.str "refused: BadSettings")) tNil))) tNil))) (gName 1))
      (tSeq (tAsg (tOp rCat (tVar 1) (tLst (tCons (tTup (tCons (tC (.str "voter 3 -1 5 2 2 0")) (tCons (tC (.str "refused: BadSettings")) tNil))) (tCons (tTup (tCons (tC (.str "voter 3 5 0 2 2 0")) (tCons (tC (.str "refused: BadSettings")) tNil))) tNil)))) (gName 1))
      (tSeq (tAsg (tOp rCat (tVar 1) (tLst (tCons (tTup (tCons (tC (.str "voter 3 5 5 0 2 0")) (tCons (tC (.str "refused: BadSettings")) tNil))) (tCons (tTup (tCons (tC (.str "voter 3 5 5 2 1001 0")) (tCons (tC (.str "refused: BadSettings")) tNil))) tNil)))) (gName 1))
      (tSeq (tIfS (tNot (tB (tVar 0))) (tSeq (tAsg (tLst (tCons (tC (.str "step 1 2 3")) (tCons (tC (.str "given")) (tCons (tC (.str "sensor 0")) (tCons (tC (.str "sensor 9")) (tCons (tC (.str "step none none none")) (tCons (tC (.str "step 1 2 3 4")) tNil))))))) (gName 2))
      (tRet (tOp rCat (tVar 1) (tLc (iList K (tVar 2)) (gName 3) tYes (tTup (tCons (tVar 3) (tCons (tC (.str "refused: BadRow")) tNil))) [3])))) tNext)
      (tSeq (tAsg (tOp rCat (tVar 1) (tLst (tCons (tTup (tCons (tC (.str "sensor 3")) (tCons (tC (.str "refused: NoSensor")) tNil))) (tCons (tTup (tCons (tC (.str "sensor -1")) (tCons (tC (.str "refused: NoSensor")) tNil))) (tCons (tTup (tCons (tC (.str "given")) (tCons (tC (.str "4")) tNil))) tNil))))) (gName 1))
      (tSeq (tAsg (tOp rCat (tVar 1) (tLst (tCons (tTup (tCons (tC (.str "step 1000000001 1 1")) (tCons (tC (.str "refused: BadStep")) tNil))) (tCons (tTup (tCons (tC (.str "step 1 none -1000000001")) (tCons (tC (.str "refused: BadStep")) tNil))) tNil)))) (gName 1))
      (tRet (tOp rCat (tVar 1) (tLst (tCons (tTup (tCons (tC (.str "sensor 0")) (tCons (tC (.str "good 0")) tNil))) (tCons (tTup (tCons (tC (.str "sensor 2")) (tCons (tC (.str "suspect 1")) tNil))) (tCons (tTup (tCons (tC (.str "sensor 1")) (tCons (tC (.str "good 0")) tNil))) tNil))))))))))))
end MV
namespace MV
open PySem PySem.Spec PyProof.Rows L2 Evl
section
variable {K : PySem.W.Frag} {mg : Str → Option Value} {A : Ads}
theorem pure_l_cell (T : Txt K mg A) (vs : List V) (H : Hp) (Q : VK) (E : XK) (h : sp_l_cell K A vs H Q E) : t_l_cell K A E { nx := fun _ H' => Q .non H', rt := Q } (start ["_law_script", "_law_k"] vs) H := by
  obtain ⟨a, ns, k, rfl, hS, hl, q⟩ := h
  show t_l_cell K A E _ [some (.ref a), some (.int k)] H
  refine q_when (et_test (ev_eqNil (ev_var rfl) hS (ints_flat ns))) (fun hb H1 e1 => ?_) (fun hb H1 e1 => ?_)
  · have e0 : ns = [] := by simpa using hb
    refine s_ret (v := .int (cell ns k)) ?_ fun H2 e2 => q H2 (e1.trans e2)
    have e : cell ns k = k * 7919 := by unfold cell; rw [if_pos e0]
    rw [e]
    walk_at "ev"
  · have e0 : ns ≠ [] := by simpa using hb
    have hS1 := ex_l e1 hS
    have hp : 0 < ns.length := List.length_pos_iff.mpr e0
    have hm : (ns.map V.int).length = ns.length := List.length_map ..
    refine s_ret (v := .int (cell ns k)) ?_ fun H2 e2 => q H2 (e1.trans e2)
    have e : cell ns k = ns.getD (k % ((ns.map V.int).length : Int)).toNat 0 + k / ((ns.map V.int).length : Int) * 104729 := by unfold cell; rw [if_neg e0, hm]
    rw [e]
    have z0 := Int.emod_nonneg k (show ((ns.map V.int).length : Int) ≠ 0 by omega)
    have z1 := Int.emod_lt_of_pos k (show (0 : Int) < ((ns.map V.int).length : Int) by omega)
    walk_at "ev"
theorem pure_l_drawn (T : Txt K mg A) (vs : List V) (H : Hp) (Q : VK) (E : XK) (h : sp_l_drawn K A vs H Q E) : t_l_drawn K A E { nx := fun _ H' => Q .non H', rt := Q } (start ["_law_cell_here", "_law_k", "_law_more"] vs) H := by
  obtain ⟨c, k, rfl, q⟩ := h
  show t_l_drawn K A E _ [some (.int c), some (.int k), none] H
  refine q_asg (v := .int ((c * 6364136223846793005 + (k + 1) * 1442695040888963407) % 340282366920938463463374607431768211507)) ?_ fun H1 e1 => ?_
  · walk_at "ev"
  · refine s_ret (v := .int (drawn c k)) ?_ fun H2 e2 => q H2 (e1.trans e2)
    have h0 := Int.emod_nonneg (c * 6364136223846793005 + (k + 1) * 1442695040888963407) (show (340282366920938463463374607431768211507 : Int) ≠ 0 by decide)
    have h1 := Int.emod_lt_of_pos (c * 6364136223846793005 + (k + 1) * 1442695040888963407) (show (0 : Int) < 340282366920938463463374607431768211507 by decide)
    have hb : ((c * 6364136223846793005 + (k + 1) * 1442695040888963407) % 340282366920938463463374607431768211507).natAbs < 2 ^ 200 := Nat.lt_trans (m := 340282366920938463463374607431768211507) (by omega) (by decide)
    unfold drawn
    walk_at "ev"
    exact wide_mul hb hb (by decide) (by decide) (by decide)
end
end MV
namespace MV
open PySem PySem.Spec PyProof.Rows L2 Evl
section
variable {K : PySem.W.Frag} {A : Ads} {H : Hp} {a : Addr} {ns : List Int} {c k : Int}
theorem spv_cell (hS : SqL K H a (ns.map V.int)) (hl : ns.length ≤ 63) : SpV (sp_l_cell K A) [.ref a, .int k] H (.int (cell ns k)) := fun H1 e Q q E => ⟨a, ns, k, rfl, ex_l e hS, hl, q⟩
theorem spv_drawn : SpV (sp_l_drawn K A) [.int c, .int k] H (.int (drawn c k)) := fun H1 e Q q E => ⟨c, k, rfl, q⟩
end
end MV
local macro_rules | `(tactic| walk_at "ev1") => `(tactic| (first | with_reducible exact MV.spv_drawn | with_reducible exact MV.spv_cell (by assumption) (by assumption)))
namespace MV
open PySem PySem.Spec PyProof.Rows L2 Evl MVH TL
def tStrs : List Str → TA
  | [] => tNil
  | x :: r => tCons (tC (.str x)) (tStrs r)
def tPairs : List (Str × Str) → TA
  | [] => tNil
  | p :: r => tCons (tTup (tCons (tC (.str p.1)) (tCons (tC (.str p.2)) tNil))) (tPairs r)
section
variable {K : PySem.W.Frag} {mg : Str → Option Value} {A : Ads} {σ : L2.St} {H : Hp} {D : Ends} {tz : TS}
theorem ea_strs : ∀ {xs : List Str}, EvA (tStrs xs) σ H (xs.map V.str)
  | [] => ea_nil
  | _ :: _ => ea_cons ev_c ea_strs
theorem el_strs {xs : List Str} (h : xs.length ≤ 100000) : EvL (tLst (tStrs xs)) σ H (xs.map V.str) := el_lst ea_strs (by rw [List.length_map]; exact h)
theorem el_catV {i : Nat} {p : Addr} {tb : TE} {xs ys : List V} (hi : σ[i]? = some (some (.ref p))) (hp : H p = some (.lst xs)) (hb : EvL tb σ H ys) (hz : xs.length + ys.length ≤ 100000) : EvL (tOp rCat (tVar i) tb) σ H (xs ++ ys) := fun H1 e Q q =>
  ⟨.ref p, hi, hb H1 e _ fun r H3 nr e3 hr => ⟨p, r, xs, ys, rfl, rfl, e3 _ _ (e _ _ hp), hr, sz_of hz, fun l hl => q l _ (fresh_back e3 hl) (e3.trans (Ex.new hl)) upd_same⟩⟩
theorem TupsAt.cons {H' : Hp} {rs : List Addr} {cs : List (List V)} {r : Addr} {c : List V} (hr : H' r = some (.tup c)) (h : TupsAt H' rs cs) : TupsAt H' (r :: rs) (c :: cs) := ⟨by rw [List.length_cons, List.length_cons, h.len], fun i r' c' h1 h2 => by
  cases i with
  | zero => cases h1; cases h2; exact hr
  | succ i => exact h.row i r' c' h1 h2⟩
theorem ea_pairs : ∀ (ps : List (Str × Str)) {H : Hp} {Q : List V → Hp → Prop}, (∀ rs H', Ex H H' → TupsAt H' rs (ps.map pairV) → Q (rs.map V.ref) H') → tPairs ps σ H Q
  | [], H, _, q => q [] H (Ex.refl H) TupsAt.nil
  | p :: r, H, Q, q => by
    refine ⟨sz_of (by show 2 ≤ 100000; decide), fun l hl => ?_⟩
    refine ea_pairs r fun rs H' e ht => ?_
    exact q (l :: rs) H' ((Ex.new hl).trans e) (TupsAt.cons (e _ _ upd_same) ht)
theorem t_pairs {ps : List (Str × Str)} {Q : VK} (hz : ps.length ≤ 1000) (k : ∀ p rs H', Ex H H' → H' p = some (.lst (rs.map V.ref)) → TupsAt H' rs (ps.map pairV) → Q (.ref p) H') : tLst (tPairs ps) σ H Q :=
  ea_pairs ps fun rs H' e ht => ⟨sz_of (by rw [List.length_map, ht.len, List.length_map]; omega), fun p hp => k p rs _ (e.trans (Ex.new hp)) upd_same (ht.ext (Ex.new hp))⟩
theorem t_catP {i : Nat} {p : Addr} {rs : List Addr} {cs : List (List V)} {ps : List (Str × Str)} {Q : VK} (hi : σ[i]? = some (some (.ref p))) (hp : H p = some (.lst (rs.map V.ref))) (ht : TupsAt H rs cs) (hz : ps.length ≤ 1000) (hc : cs.length ≤ 1000)
    (k : ∀ p rs H', Ex H H' → H' p = some (.lst (rs.map V.ref)) → TupsAt H' rs (cs ++ ps.map pairV) → Q (.ref p) H') : tOp rCat (tVar i) (tLst (tPairs ps)) σ H Q := by
  refine ⟨.ref p, hi, t_pairs hz fun r rs' H1 e1 hr ht' => ⟨p, r, rs.map V.ref, rs'.map V.ref, rfl, rfl, e1 _ _ hp, hr, sz_of (by rw [List.length_map, List.length_map, ht.len, ht'.len, List.length_map]; omega), fun l hl => ?_⟩⟩
  exact k l (rs ++ rs') _ (e1.trans (Ex.new hl)) (by rw [upd_same, List.map_append]) (((ht.ext e1).app ht').ext (Ex.new hl))
/-- [(x, b) for x in rows] -/
theorem t_lcP {tl : TE} {j : Nat} {rows : List Str} {b : Str} {Q : VK} (h : ∀ Q' : VK, (∀ a H1, Ex H H1 → SqL K H1 a (rows.map V.str) → Q' (.ref a) H1) → tl σ H Q') (hz : rows.length ≤ 1000) (hw : ∀ x, wipe ((wipe σ [j]).set j (some x)) [j] = wipe σ [j]) (hj : ∀ x, ((wipe σ [j]).set j (some x))[j]? = some (some x))
    (k : ∀ p rs H', H p = none → Ex H H' → H' p = some (.lst (rs.map V.ref)) → TupsAt H' rs ((rows.map fun r => (r, b)).map pairV) → Q (.ref p) H') : tLc (iList K tl) (gName j) tYes (tTup (tCons (tVar j) (tCons (tC (.str b)) tNil))) [j] σ H Q := by
  refine h _ fun a H1 e1 hx => ⟨a, rfl, ⟨_, hx⟩, fun Dl hD => ?_⟩
  refine lc_list (xs := rows.map V.str) (fun i H' => H1 Dl = none ∧ Ex H1 H' ∧ ∃ rs, H' Dl = some (.lst (rs.map V.ref)) ∧ TupsAt H' rs (((rows.take i).map fun r => (r, b)).map pairV)) ⟨hD, Ex.new hD, [], upd_same, TupsAt.nil⟩ (fun i H' _ p => ex_l p.2.1 hx) (fun i x H' hi p => ⟨hw x, ?_⟩) (fun H' p => ?_)
  · obtain ⟨p1, p2, rs, p3, p4⟩ := p
    rw [List.getElem?_map] at hi
    cases hr : rows[i]? with
    | none => rw [hr] at hi; cases hi
    | some row =>
    rw [hr] at hi
    have ex : x = .str row := (Option.some.inj hi).symm
    subst ex
    have hil := (List.getElem?_eq_some_iff.mp hr).1
    refine ⟨.str row, hj _, sz_of (by show 2 ≤ 100000; decide), fun l hl => ?_⟩
    have e3 : Ex H' (upd H' l (.tup [.str row, .str b])) := Ex.new hl
    have hrl : rs.length ≤ 1000 := by rw [p4.len, List.length_map, List.length_map, List.length_take]; omega
    refine ⟨rs.map V.ref, e3 _ _ p3, sz_lt (by rw [List.length_map]; omega), p1, Ex.mut (p2.trans e3) p1, rs ++ [l], by rw [upd_same, List.map_append]; rfl, ?_⟩
    have t1 : TupsAt (upd H' l (.tup [.str row, .str b])) (rs ++ [l]) (((rows.take (i + 1)).map fun r => (r, b)).map pairV) := by
      rw [take_snoc hr, List.map_append, List.map_append]
      exact TupsAt.push p4 e3 upd_same
    exact t1.upd (e3 _ _ p3)
  · obtain ⟨p1, p2, rs, p3, p4⟩ := p
    rw [List.length_map, List.take_length] at p4
    exact k Dl rs H' (fresh_back e1 p1) (e1.trans p2) p3 p4
theorem pure_l_none (T : Txt K mg A) (vs : List V) (H : Hp) (Q : VK) (E : XK) (h : sp_l_none K A vs H Q E) : t_l_none K A E { nx := fun _ H' => Q .non H', rt := Q } (start ["_law_some"] vs) H := by
  obtain ⟨rfl, q⟩ := h
  show t_l_none K A E _ [none] H
  refine q_asgL (el_strs (xs := n1) (by decide)) fun p1 H1 z1 e1 h1 => ?_
  refine q_asgL (el_catV (p := p1) rfl h1 (el_strs (xs := n2) (by decide)) (by decide)) fun p2 H2 z2 e2 h2 => ?_
  refine q_asgL (el_catV (p := p2) rfl h2 (el_strs (xs := n3) (by decide)) (by decide)) fun p3 H3 z3 e3 h3 => ?_
  refine q_asgL (el_catV (p := p3) rfl h3 (el_strs (xs := n4) (by decide)) (by decide)) fun p4 H4 z4 e4 h4 => ?_
  refine q_asgL (el_catV (p := p4) rfl h4 (el_strs (xs := n5) (by decide)) (by decide)) fun p5 H5 z5 e5 h5 => ?_
  refine q_asgL (el_catV (p := p5) rfl h5 (el_strs (xs := n6) (by decide)) (by decide)) fun p6 H6 z6 e6 h6 => ?_
  have e06 := ((((e1.trans e2).trans e3).trans e4).trans e5).trans e6
  refine el_catV (p := p6) rfl h6 (el_strs (xs := n7) (by decide)) (by decide) H6 (Ex.refl H6) _ fun p7 H7 z7 e7 h7 => ?_
  refine q p7 H7 (fresh_back e06 z7) (e06.trans e7) ?_
  rw [h7]
  rfl
theorem pure_l_others (T : Txt K mg A) (vs : List V) (H : Hp) (Q : VK) (E : XK) (h : sp_l_others K A vs H Q E) : t_l_others K A E { nx := fun _ H' => Q .non H', rt := Q } (start ["_law_is_there", "_law_found", "_law_rows", "_law_row"] vs) H := by
  obtain ⟨g, rfl, q⟩ := h
  show t_l_others K A E _ [some (.bl g), none, none, none] H
  refine q_asgR2 ?_
  refine t_pairs (ps := o1) (by decide) fun p1 r1 H1 e1 h1 t1 => ?_
  refine q_asgR2 ?_
  refine t_catP (ps := o2) (p := p1) rfl h1 t1 (by decide) (by decide) fun p2 r2 H2 e2 h2 t2 => ?_
  refine q_asgR2 ?_
  refine t_catP (ps := o3) (p := p2) rfl h2 t2 (by decide) (by decide) fun p3 r3 H3 e3 h3 t3 => ?_
  have e03 := (e1.trans e2).trans e3
  refine q_when (b := !g) (et_not (et_B (ev_var rfl))) (fun hb H4 e4 => ?_) fun hb H4 e4 => ?_
  · have hg : g = false := by simpa using hb
    subst hg
    refine q_asgL (el_strs (xs := oF) (by decide)) fun p5 H5 z5 e5 h5 => ?_
    refine ⟨.ref p3, rfl, ?_⟩
    refine t_lcP (rows := oF) (b := "refused: BadRow") (fun Q' q' => ⟨.ref p5, rfl, q' p5 H5 (Ex.refl H5) (sq_of h5)⟩) (by decide) (fun _ => rfl) (fun _ => rfl) fun p6 r6 H6 z6 e6 h6 t6 => ?_
    have e36 := (e4.trans e5).trans e6
    refine ⟨p3, p6, r3.map V.ref, r6.map V.ref, rfl, rfl, e36 _ _ h3, h6, sz_of ?_, fun l hl => ?_⟩
    · rw [List.length_map, List.length_map, t3.len, t6.len]
      decide
    · exact q l (r3 ++ r6) _ ((e03.trans e36).trans (Ex.new hl)) (by rw [upd_same, List.map_append]) (((t3.ext e36).app t6).ext (Ex.new hl))
  · have hg : g = true := by simpa using hb
    subst hg
    refine q_asgR2 ?_
    refine t_catP (ps := o4) (p := p3) rfl (e4 _ _ h3) (t3.ext e4) (by decide) (by decide) fun p5 r5 H5 e5 h5 t5 => ?_
    refine q_asgR2 ?_
    refine t_catP (ps := o5) (p := p5) rfl h5 t5 (by decide) (by decide) fun p6 r6 H6 e6 h6 t6 => ?_
    refine t_catP (ps := o6) (p := p6) rfl h6 t6 (by decide) (by decide) fun p7 r7 H7 e7 h7 t7 => ?_
    exact q p7 r7 H7 ((((e03.trans e4).trans e5).trans e6).trans e7) h7 t7
end
end MV
namespace MV
open PySem PySem.Spec PyProof.Rows L2 Evl MVH
theorem sc_law : FnScope ["_law_script", "_law_more", "_law_is_there", "_law_lines", "_law_due", "_law_k", "_law_some", "_law_row", "_law_answer"] ["_law_script"] (defScope s_law) := ⟨rfl, rfl, rfl, by decide +kernel, rfl, by decide +kernel, by decide +kernel⟩
def t_law (K : PySem.W.Frag) (A : Ads) (E : XK) : TS :=
      (tSeq (tAsg (tCall (sp_l_drawn K A) [] E0 (tCons (tCall (sp_l_cell K A) [] E0 (tCons (tVar 0) (tCons (tC (.int 0)) tNil))) (tCons (tC (.int 3)) tNil))) (gName 1))
      (tSeq (tAsg (tOp rEq (tOp oMod (tVar 1) (tC (.int 2))) (tC (.int 0))) (gName 2))
      (tSeq (tAsg (tLst tNil) (gName 3))
      (tSeq (tAsg (tLst tNil) (gName 4))
      (tSeq (tIfS (tB (tVar 2)) (tSeq (tAsg (tLst (tCons (tC (.str "voter 3 5 4 2 2 0")) (tCons (tC (.str "step 7 8 99")) tNil))) (gName 3))
      (tAsg (tLst (tCons (tC (.str "ok")) (tCons (tC (.str "4 most")) tNil))) (gName 4))) tNext)
      (tSeq (tFor (iRng1 (tCons (tCB rMax2 (tCons (tC (.int 1)) (tCons (tCB rMin2 (tCons (tC (.int 30)) (tCons (tCB (rLenS K) (tCons (tVar 0) tNil)) tNil))) tNil))) tNil)) (gName 5) (tSeq (tAsg (tCall (sp_l_drawn K A) [] E0 (tCons (tCall (sp_l_cell K A) [] E0 (tCons (tVar 0) (tCons (tVar 5) tNil))) (tCons (tOp oAdd (tVar 5) (tC (.int 20))) tNil))) (gName 1))
      (tSeq (tAsg (tCall (sp_l_others K A) [] E0 (tCons (tVar 2) tNil)) (gName 6))
      (tSeq (tIfS (tTest (tOp rEq (tOp oMod (tVar 1) (tC (.int 2))) (tC (.int 0)))) (tAsg (tLc (iList K (tCall (sp_l_none K A) [] E0 tNil)) (gName 7) tYes (tTup (tCons (tVar 7) (tCons (tC (.str "refused: BadRow")) tNil))) [7]) (gName 6)) tNext)
      (tSeq (tAsg (tOp (rIxL K) (tVar 6) (tOp oMod (tOp oDivW (tVar 1) (tC (.int 2))) (tCB (rLenS K) (tCons (tVar 6) tNil)))) (gTup K 2 (gCons (gName 7) (gCons (gName 8) gNil))))
      (tSeq (tDrop (tBM K "list" rAppend (tVar 3) (tCons (tVar 7) tNil)))
      (tSeq (tDrop (tBM K "list" rAppend (tVar 4) (tCons (tVar 8) tNil)))
      (tIfS (tTest (tOp rEq (tOp oMod (tOp oDivW (tVar 1) (tC (.int 4096))) (tC (.int 4))) (tC (.int 0)))) (tDrop (tBM K "list" rAppend (tVar 3) (tCons (tOp (rIxL K) (tLst (tCons (tC (.str "")) (tCons (tC (.str "   ")) tNil))) (tOp oMod (tOp oDivW (tVar 1) (tOp oPow (tC (.int 2)) (tC (.int 14)))) (tC (.int 2)))) tNil))) tNext))))))))
      (tRet (tOp (rEqD K) (tCall (sp_play K A) [] E0 (tCons (tM1 (rJoinT K) (tC (.str "\n")) (tVar 3)) tNil)) (tVar 4)))))))))
end MV
namespace MV
open PySem PySem.Spec PyProof.Rows L2 Evl MVH TL
/-! ### the voter that the law makes -/
theorem srt3 : srt [7, 8, 99] = [7, 8, 99] := by
  unfold srt
  exact List.mergeSort_of_pairwise (by decide)
abbrev v0 : Vst := freshV 3 5 4 2 2 0
abbrev w0 : List (Option Int) := [some 7, some 8, some 99]
abbrev v1 : Vst := stepV v0 w0
theorem val8 : valueOf v0 w0 = 8 := by
  have h : there v0.ss w0 = [7, 8, 99] := by decide +kernel
  unfold valueOf mid
  rw [h, srt3]
  decide +kernel
theorem v1_ss : v1.ss = [(false, 0), (false, 0), (false, 1)] := by
  show turns v0 (anyHere v0 w0) (valueOf v0 w0) w0 v0.ss.length = _
  rw [val8]
  decide +kernel
theorem v1_last : v1.last = 4 := by
  show mvd v0.last (valueOf v0 w0) v0.rate = 4
  rw [val8]
  decide +kernel
theorem v1_word : stepW v0 w0 = "most" := by
  unfold stepW
  rw [val8]
  decide +kernel
theorem v1_cnt (i : Nat) : Small10 (v1.ss.getD i S0).2 := by
  rw [v1_ss]
  match i with
  | 0 => show (0 : Int).natAbs < 10 ^ 10; decide
  | 1 => show (0 : Int).natAbs < 10 ^ 10; decide
  | 2 => show (1 : Int).natAbs < 10 ^ 10; decide
  | _ + 3 => show (0 : Int).natAbs < 10 ^ 10; decide
theorem v0_cnt (i : Nat) : Small10 (v0.ss.getD i S0).2 := by
  show Small10 (([(false, 0), (false, 0), (false, 0)] : List (Bool × Int)).getD i S0).2
  match i with
  | 0 => show (0 : Int).natAbs < 10 ^ 10; decide
  | 1 => show (0 : Int).natAbs < 10 ^ 10; decide
  | 2 => show (0 : Int).natAbs < 10 ^ 10; decide
  | _ + 3 => show (0 : Int).natAbs < 10 ^ 10; decide
theorem v1_small : Small10 v1.last := by
  rw [v1_last]
  show (4 : Int).natAbs < 10 ^ 10
  decide
def sG (g : Bool) : Option Vst := if g = true then some v1 else none
/-! ### the rows -/
def badAt (mv : Option Nat) (p : Str × Str) : Bool := (decide (Txt.stripChars p.1 " " ≠ "") && decide (p.1.length ≤ 200)) && (decide ((Txt.split p.1 " ").length ≤ 300) && match clsR mv (Txt.split p.1 " ") with
  | some k => decide (p.2 = "refused: " ++ wordK k)
  | none => false)
def fineP (p : Str × Str) : Bool := ((tl p.1).all fun c => !decide (c = 10)) && (decide (p.1.length ≤ 200) && flat4 (.str p.2))
theorem of_badAt {s : Option Vst} {mv : Option Nat} (hmv : (s.map fun v => v.ss.length) = mv) {p : Str × Str} (h : badAt mv p = true) : RowOk s p.1 (some p.2) s := by
  unfold badAt at h
  rw [Bool.and_eq_true, Bool.and_eq_true, Bool.and_eq_true, decide_eq_true_eq, decide_eq_true_eq, decide_eq_true_eq] at h
  obtain ⟨⟨h1, h2⟩, h3, h4⟩ := h
  cases hc : clsR mv (Txt.split p.1 " ") with
  | none => rw [hc] at h4; cases h4
  | some k =>
    rw [hc] at h4
    have h4 : p.2 = "refused: " ++ wordK k := of_decide_eq_true h4
    rw [h4]
    exact .bad h1 h2 h3 (by rw [hmv]; exact hc)
theorem none_bad : (noneR.map badP).all (badAt none) = true := by decide +kernel
theorem none_bad3 : (noneR.map badP).all (badAt (some 3)) = true := by decide +kernel
theorem oth_bad : (othersT false).all (badAt none) = true := by decide +kernel
def goodT : List (Str × Str) := [("given", "4"), ("sensor 0", "good 0"), ("sensor 2", "suspect 1"), ("sensor 1", "good 0")]
theorem oth_bad3 : (othersT true).all (fun p => badAt (some 3) p || decide (p ∈ goodT)) = true := by decide +kernel
theorem all_fine : ((noneR.map badP) ++ (othersT false ++ othersT true)).all fineP = true := by decide +kernel
theorem good_rows {p : Str × Str} (h : p ∈ goodT) : RowOk (some v1) p.1 (some p.2) (some v1) := by
  have hs : ∀ {i : Nat} {x : Str}, i < 3 → stateW (v1.ss.getD i S0) ++ " " ++ numS (v1.ss.getD i S0).2 = x → RowOk (some v1) (lineS (.sensor i)) (some x) (some v1) := fun {i x} hi e => by
    have := RowOk.done (v := v1) (l := .sensor i) ⟨by show i < v1.ss.length; rw [v1_ss]; exact hi, by show i < 100; omega, v1_cnt, v1_small⟩ (fun _ _ _ _ _ _ z => nomatch z)
    rw [← e]
    exact this
  simp only [goodT, List.mem_cons, List.not_mem_nil, or_false] at h
  rcases h with rfl | rfl | rfl | rfl
  · have := RowOk.done (v := v1) (l := .given) ⟨trivial, trivial, v1_cnt, v1_small⟩ (fun _ _ _ _ _ _ z => nomatch z)
    have e1 : lineS .given = "given" := by decide +kernel
    have e2 : ansS .given v1 = "4" := by
      show numS v1.last = "4"
      rw [v1_last]
      decide +kernel
    rw [e1, e2] at this
    exact this
  · have := hs (i := 0) (x := "good 0") (by decide) (by rw [v1_ss]; decide +kernel)
    rw [show lineS (.sensor 0) = "sensor 0" by decide +kernel] at this
    exact this
  · have := hs (i := 2) (x := "suspect 1") (by decide) (by rw [v1_ss]; decide +kernel)
    rw [show lineS (.sensor 2) = "sensor 2" by decide +kernel] at this
    exact this
  · have := hs (i := 1) (x := "good 0") (by decide) (by rw [v1_ss]; decide +kernel)
    rw [show lineS (.sensor 1) = "sensor 1" by decide +kernel] at this
    exact this
theorem tab_ok {g : Bool} {p : Str × Str} (h : p ∈ othersT g ∨ p ∈ noneR.map badP) : RowOk (sG g) p.1 (some p.2) (sG g) ∧ (10 ∉ tl p.1 ∧ p.1.length ≤ 200) ∧ flat4 (.str p.2) = true := by
  have hf : fineP p = true := by
    refine List.all_eq_true.mp all_fine p ?_
    rcases h with h | h
    · cases g
      · simp [h]
      · simp [h]
    · exact List.mem_append_left _ h
  unfold fineP at hf
  rw [Bool.and_eq_true, Bool.and_eq_true, decide_eq_true_eq, List.all_eq_true] at hf
  refine ⟨?_, ⟨fun hm => ?_, hf.2.1⟩, hf.2.2⟩
  · cases g with
    | false =>
      refine of_badAt (mv := none) rfl ?_
      rcases h with h | h
      · exact List.all_eq_true.mp oth_bad p h
      · exact List.all_eq_true.mp none_bad p h
    | true =>
      have hm : (((some v1 : Option Vst).map fun v => v.ss.length) : Option Nat) = some 3 := by
        show some v1.ss.length = some 3
        rw [v1_ss]
        rfl
      rcases h with h | h
      · have := List.all_eq_true.mp oth_bad3 p h
        rw [Bool.or_eq_true, decide_eq_true_eq] at this
        rcases this with z | z
        · exact of_badAt hm z
        · exact good_rows z
      · exact of_badAt hm (List.all_eq_true.mp none_bad3 p h)
  · have := hf.1 _ hm
    simp at this
/-! ### the law -/
theorem q_ifM {M : L2.St → Hp → Prop} {c : TT} {t u tz : TS} {σ : L2.St} {H : Hp} {D : Ends} {b : Bool} (h : EvT c σ H b) (h1 : b = true → ∀ H1, Ex H H1 → ∀ D' : Ends, (∀ σ' H', M σ' H' → D'.nx σ' H') → t D' σ H1) (h2 : b = false → ∀ H1, Ex H H1 → ∀ D' : Ends, (∀ σ' H', M σ' H' → D'.nx σ' H') → u D' σ H1)
    (k : ∀ σ' H', M σ' H' → tz D σ' H') : tSeq (tIfS c t u) tz D σ H := s_if (D := { D with nx := tz D }) h (fun hb H1 e1 => h1 hb H1 e1 _ k) fun hb H1 e1 => h2 hb H1 e1 _ k
theorem sum_le {n : Nat} : ∀ {xs : List Nat}, (∀ x ∈ xs, x ≤ n) → xs.sum ≤ xs.length * n
  | [], _ => Nat.zero_le _
  | a :: r, h => by
    have h1 := h a (by simp)
    have h2 := sum_le (xs := r) fun x hx => h x (List.mem_cons_of_mem _ hx)
    rw [List.sum_cons, List.length_cons, Nat.succ_mul]
    omega
section
variable {K : PySem.W.Frag} {mg : Str → Option Value} {A : Ads}
theorem rv_eqSame {H : Hp} {p q : Addr} {xs : List V} (h : SqL K H p xs) (hf : xs.all flat4 = true) (h2 : SqL K H q xs) : RV (rEqD K) (.ref p) (.ref q) H (.bl true) := fun H1 e Q k => by
  refine ⟨.list (xs.map vD), .list (xs.map vD), .lst (ex_l e h) (dpAll_flat hf), .lst (ex_l e h2) (dpAll_flat hf), shaped_list hf, shaped_list hf, ?_⟩
  rw [PySem.SeqAt.eqv_refl _ (SeqAt.canLay_of_shaped (shaped_list hf))]
  exact k H1 (Ex.refl H1)
/-- the rows, and what is due -/
structure J (H0 H' : Hp) (lp dp : Addr) (s : Option Vst) (rows dues : List Str) (m : Nat) : Prop where
  ex : Ex H0 H'
  hl : H' lp = some (.lst (rows.map V.str))
  hq : H' dp = some (.lst (dues.map V.str))
  nd : lp ≠ dp
  fl : H0 lp = none
  fd : H0 dp = none
  rn : ∀ r a, Runs s r a → Runs none (rows ++ r) (dues ++ a)
  rw : ∀ r ∈ rows, 10 ∉ tl r ∧ r.length ≤ 200
  dw : ∀ a ∈ dues, flat4 (.str a) = true
  ln : rows.length ≤ m
  dl : dues.length ≤ m
section
variable {H0 H' H2 : Hp} {lp dp : Addr} {s : Option Vst} {rows dues : List Str} {m : Nat}
theorem J.ext (j : J H0 H' lp dp s rows dues m) (e : Ex H' H2) : J H0 H2 lp dp s rows dues m := ⟨j.ex.trans e, e _ _ j.hl, e _ _ j.hq, j.nd, j.fl, j.fd, j.rn, j.rw, j.dw, j.ln, j.dl⟩
theorem J.mono {m' : Nat} (j : J H0 H' lp dp s rows dues m) (h : m ≤ m') : J H0 H' lp dp s rows dues m' := ⟨j.ex, j.hl, j.hq, j.nd, j.fl, j.fd, j.rn, j.rw, j.dw, Nat.le_trans j.ln h, Nat.le_trans j.dl h⟩
theorem J.blank {row : Str} (j : J H0 H' lp dp s rows dues m) (hok : RowOk s row none s) (hr : 10 ∉ tl row ∧ row.length ≤ 200) : J H0 (upd H' lp (.lst (rows.map V.str ++ [.str row]))) lp dp s (rows ++ [row]) dues (m + 1) :=
  ⟨j.ex.mut j.fl, by rw [upd_same, List.map_append]; rfl, by rw [upd_ne j.nd.symm]; exact j.hq, j.nd, j.fl, j.fd, fun r a h => by
    rw [List.append_assoc]
    exact j.rn (row :: r) a ⟨none, s, a, hok, h, rfl⟩, fun r hm => by
    rcases List.mem_append.mp hm with z | z
    · exact j.rw r z
    · rw [List.mem_singleton.mp z]; exact hr, j.dw, by rw [List.length_append]; exact Nat.succ_le_succ j.ln, Nat.le_succ_of_le j.dl⟩
theorem J.push {row ans : Str} (j : J H0 H' lp dp s rows dues m) (hok : RowOk s row (some ans) s) (hr : 10 ∉ tl row ∧ row.length ≤ 200) (ha : flat4 (.str ans) = true) (e : Ex (upd H' lp (.lst (rows.map V.str ++ [.str row]))) H2) : J H0 (upd H2 dp (.lst (dues.map V.str ++ [.str ans]))) lp dp s (rows ++ [row]) (dues ++ [ans]) (m + 1) :=
  ⟨((j.ex.mut j.fl).trans e).mut j.fd, by rw [upd_ne j.nd, List.map_append]; exact e _ _ upd_same, by rw [upd_same, List.map_append]; rfl, j.nd, j.fl, j.fd, fun r a h => by
    rw [List.append_assoc, List.append_assoc]
    exact j.rn (row :: r) (ans :: a) ⟨some ans, s, a, hok, h, rfl⟩, fun r hm => by
    rcases List.mem_append.mp hm with z | z
    · exact j.rw r z
    · rw [List.mem_singleton.mp z]; exact hr, fun r hm => by
    rcases List.mem_append.mp hm with z | z
    · exact j.dw r z
    · rw [List.mem_singleton.mp z]; exact ha, by rw [List.length_append]; exact Nat.succ_le_succ j.ln, by rw [List.length_append]; exact Nat.succ_le_succ j.dl⟩
end
theorem first_runs {r a : List Str} (h : Runs (some v1) r a) : Runs none ((["voter 3 5 4 2 2 0", "step 7 8 99"] : List Str) ++ r) ((["ok", "4 most"] : List Str) ++ a) := by
  refine ⟨some "ok", some v0, "4 most" :: a, ?_, ⟨some "4 most", some v1, a, ?_, h, rfl⟩, rfl⟩
  · have := RowOk.made (s := none) (m := 3) (t := 5) (r := 4) (ms := 2) (b := 2) (st := 0) (by refine ⟨?_, ?_, ?_, ?_, ?_, ?_⟩ <;> (show Int.natAbs _ < 10 ^ 10; decide)) (by decide)
    rw [show lineS (.voter 3 5 4 2 2 0) = "voter 3 5 4 2 2 0" by decide +kernel] at this
    exact this
  · have := RowOk.done (v := v0) (l := .step w0) ⟨by show okStep w0 (v0.ss.length : Nat) = true; decide +kernel, ⟨by decide, fun x hx n hn => ?_⟩, v0_cnt, v1_small⟩ (fun _ _ _ _ _ _ z => nomatch z)
    · have e1 : lineS (.step w0) = "step 7 8 99" := by decide +kernel
      have e2 : ansS (.step w0) v0 = "4 most" := by
        show numS v1.last ++ " " ++ stepW v0 w0 = "4 most"
        rw [v1_last, v1_word]
        decide +kernel
      rw [e1, e2] at this
      exact this
    · subst hn
      simp only [w0, List.mem_cons, List.not_mem_nil, or_false, Option.some.injEq] at hx
      rcases hx with rfl | rfl | rfl <;> (show Int.natAbs _ < 10 ^ 10; decide)
theorem ev_idx {σ : L2.St} {H : Hp} {n : Int} (h : σ[1]? = some (some (.int n))) : Ev (tOp oMod (tOp oDivW (tVar 1) (tOp oPow (tC (.int 2)) (tC (.int 14)))) (tC (.int 2))) σ H (.int (n / 16384 % 2)) :=
  ev_op (x := .int (n / 16384)) (ev_op (x := .int n) (y := .int 16384) (ev_var h) (ev_op ev_c ev_c (Evl.rv_I (MV.cpow_c (by decide) (by decide) (by decide)))) (Evl.rv_I (MV.cdiv_c (by decide +kernel) (by decide +kernel)))) ev_c (Evl.rv_I (by decide))
theorem ev_blank {σ : L2.St} {H : Hp} {n : Int} {s : Option Vst} (h : σ[1]? = some (some (.int n))) : ∃ b : Str, Ev (tOp (rIxL K) (tLst (tCons (tC (.str "")) (tCons (tC (.str "   ")) tNil))) (tOp oMod (tOp oDivW (tVar 1) (tOp oPow (tC (.int 2)) (tC (.int 14)))) (tC (.int 2)))) σ H (.str b) ∧ RowOk s b none s ∧ 10 ∉ tl b ∧ b.length ≤ 200 := by
  have h0 : 0 ≤ n / 16384 % 2 := Int.emod_nonneg _ (by decide)
  have h1 : n / 16384 % 2 < 2 := Int.emod_lt_of_pos _ (by decide)
  have hm : ∀ b : Str, ([V.str "", .str "   "] : List V).getD (n / 16384 % 2).toNat .non = .str b → Ev (tOp (rIxL K) (tLst (tCons (tC (.str "")) (tCons (tC (.str "   ")) tNil))) (tOp oMod (tOp oDivW (tVar 1) (tOp oPow (tC (.int 2)) (tC (.int 14)))) (tC (.int 2)))) σ H (.str b) := fun b hb =>
    ev_is (ev_menuV (i := n / 16384 % 2) (el_lst (ea_cons ev_c (ea_cons ev_c ea_nil)) (by show 2 ≤ 100000; decide)) (ev_idx h) h0 (by show _ < ((2 : Nat) : Int); omega)) hb
  have hz : n / 16384 % 2 = 0 ∨ n / 16384 % 2 = 1 := by omega
  rcases hz with z | z
  · exact ⟨"", hm _ (by rw [z]; rfl), .blank (by decide +kernel) (by decide +kernel), by decide +kernel, by decide +kernel⟩
  · exact ⟨"   ", hm _ (by rw [z]; rfl), .blank (by decide +kernel) (by decide +kernel), by decide +kernel, by decide +kernel⟩
theorem pure_law (T : Txt K mg A) (vs : List V) (H : Hp) (Q : VK) (E : XK) (h : spL K vs H Q E) : t_law K A E { nx := fun _ H' => Q .non H', rt := Q } (start ["_law_script", "_law_more", "_law_is_there", "_law_lines", "_law_due", "_law_k", "_law_some", "_law_row", "_law_answer"] vs) H := by
  obtain ⟨a, ns, rfl, hS, hl, q⟩ := h
  show t_law K A E _ [some (.ref a), none, none, none, none, none, none, none, none] H
  refine q_asg (v := .int (drawn (cell ns 0) 3)) (by walk_at "ev") fun H1 e1 => ?_
  generalize drawn (cell ns 0) 3 = more
  refine q_asg (v := .bl (decide (more % 2 = 0))) (by walk_at "ev") fun H2 e2 => ?_
  generalize decide (more % 2 = 0) = g
  refine q_asgL (xs := []) (el_lst ea_nil (Nat.zero_le _)) fun l0 H3 z3 e3 h3 => ?_
  refine q_asgL (xs := []) (el_lst ea_nil (Nat.zero_le _)) fun d0 H4 z4 e4 h4 => ?_
  have e02 := e1.trans e2
  have e04 := (e02.trans e3).trans e4
  refine q_ifM (b := g) (M := fun σ' H' => ∃ lp dp rows dues, σ' = [some (.ref a), some (.int more), some (.bl g), some (.ref lp), some (.ref dp), none, none, none, none] ∧ J H H' lp dp (sG g) rows dues 2) (et_B (ev_var rfl)) (fun hb H5 e5 D' hD => ?_) (fun hb H5 e5 D' hD => ?_) (fun σ' H6 hM => ?_)
  · subst hb
    refine q_asgL (xs := [.str "voter 3 5 4 2 2 0", .str "step 7 8 99"]) (el_lst (ea_cons ev_c (ea_cons ev_c ea_nil)) (by show 2 ≤ 100000; decide)) fun lp H6 z6 e6 h6 => ?_
    refine s_asgL (xs := [.str "ok", .str "4 most"]) (el_lst (ea_cons ev_c (ea_cons ev_c ea_nil)) (by show 2 ≤ 100000; decide)) fun dp H7 z7 e7 h7 => hD _ _ ⟨lp, dp, ["voter 3 5 4 2 2 0", "step 7 8 99"], ["ok", "4 most"], rfl, ?_⟩
    have e05 := e04.trans e5
    exact ⟨(e05.trans e6).trans e7, e7 _ _ h6, h7, fun z => (by rw [← z, h6] at z7; cases z7), fresh_back e05 z6, fresh_back (e05.trans e6) z7, fun r a h => first_runs h, fun r hr => by
      simp only [List.mem_cons, List.not_mem_nil, or_false] at hr
      rcases hr with rfl | rfl <;> decide +kernel, fun r hr => by
      simp only [List.mem_cons, List.not_mem_nil, or_false] at hr
      rcases hr with rfl | rfl <;> decide +kernel, Nat.le_refl _, Nat.le_refl _⟩
  · subst hb
    exact hD _ _ ⟨l0, d0, [], [], rfl, e04.trans e5, e5 _ _ (e4 _ _ h3), e5 _ _ h4, fun z => (by rw [← z, h3] at z4; cases z4), fresh_back e02 z3, fresh_back (e02.trans e3) z4, fun r a h => h, (fun r hr => nomatch hr), (fun r hr => nomatch hr), Nat.zero_le _, Nat.zero_le _⟩
  obtain ⟨lp, dp, rows0, dues0, rfl, j0⟩ := hM
  refine q_forR1 (n := (if (if ((ns.map V.int).length : Int) < 30 then ((ns.map V.int).length : Int) else 30) > 1 then (if ((ns.map V.int).length : Int) < 30 then ((ns.map V.int).length : Int) else 30) else 1)) (by
      have hS12 := ex_l j0.ex hS
      walk_at "ev") (by (repeat' split) <;> omega)
    (fun k σ H' => ∃ y1 y5 y6 y7 y8 rows dues, σ = [some (.ref a), y1, some (.bl g), some (.ref lp), some (.ref dp), y5, y6, y7, y8] ∧ J H H' lp dp (sG g) rows dues (2 + 2 * k) ∧ (0 < k → rows ≠ []))
    (fun H13 e13 => ⟨_, _, _, _, _, rows0, dues0, rfl, j0.ext e13, fun z => absurd z (by decide)⟩)
    (fun k σ H13 hk ⟨y1, y5, y6, y7, y8, rows, dues, es, j, _⟩ => ?_) (fun σ H13 ⟨y1, y5, y6, y7, y8, rows, dues, es, j, hne⟩ => ?_)
  · subst es
    have hk30 : k < 30 := by
      revert hk
      (repeat' split) <;> omega
    have hS13 := ex_l j.ex hS
    refine q_asgX (P := IsI) ⟨_, (by walk_at "ev"), _, rfl⟩ fun v H14 ⟨more2, ev⟩ e14 => ?_
    subst ev
    refine q_asgC (vs := [.bl g]) (ea_cons (ev_var rfl) ea_nil) fun H15 e15 => ⟨g, rfl, fun p5 r5 H16 e16 h16 t16 => ?_⟩
    refine q_ifM (b := decide (more2 % 2 = 0)) (M := fun σ' H' => ∃ p rs tab, σ' = [some (.ref a), some (.int more2), some (.bl g), some (.ref lp), some (.ref dp), some (.int (k : Nat)), some (.ref p), y7, y8] ∧ Ex H16 H' ∧ H' p = some (.lst (rs.map V.ref)) ∧ TupsAt H' rs (tab.map pairV) ∧ 0 < tab.length ∧ tab.length ≤ 1000 ∧ ∀ x ∈ tab, x ∈ othersT g ∨ x ∈ noneR.map badP)
      (et_test (ev_op (ev_op (ev_var rfl) ev_c (Evl.rv_I (by decide))) ev_c rv_eqI)) (fun hb H17 e17 D' hD => ?_) (fun hb H17 e17 D' hD => hD _ _ ⟨p5, r5, othersT g, rfl, e17, e17 _ _ h16, t16.ext e17, by cases g <;> decide, by cases g <;> decide, fun x hx => .inl hx⟩) fun σ' H17 ⟨p, rs, tab, es, e17, hp, ht, hpos, hmax, hmem⟩ => ?_
    · show tLc _ _ _ _ _ _ _ _
      refine t_lcP (rows := noneR) (b := "refused: BadRow") (fun Q' q' => ⟨rfl, fun p6 H18 z6 e18 h18 => q' p6 H18 e18 (sq_of h18)⟩) (by decide) (fun _ => rfl) (fun _ => rfl) fun p6 r6 H18 z6 e18 h18 t18 => ?_
      exact hD _ _ ⟨p6, r6, noneR.map badP, rfl, e17.trans e18, h18, t18, by decide, by decide, fun x hx => .inr hx⟩
    · subst es
      have j := j.ext (e14.trans (e15.trans (e16.trans e17)))
      have hrl : rs.length = tab.length := by rw [ht.len, List.length_map]
      have hSq : SqL K H17 p (rs.map V.ref) := sq_of hp
      have hpos2 : (0 : Int) < ((rs.map V.ref).length : Nat) := by rw [List.length_map, hrl]; omega
      have hix0 : 0 ≤ more2 / 2 % ((rs.map V.ref).length : Int) := Int.emod_nonneg _ (by omega)
      have hix1 : more2 / 2 % ((rs.map V.ref).length : Int) < ((rs.map V.ref).length : Int) := Int.emod_lt_of_pos _ hpos2
      obtain ⟨n, hn⟩ : ∃ n : Nat, more2 / 2 % ((rs.map V.ref).length : Int) = (n : Int) := ⟨_, (Int.toNat_of_nonneg hix0).symm⟩
      have hnl : n < rs.length := by rw [hn, List.length_map] at hix1; omega
      obtain ⟨r, hr⟩ : ∃ r, rs[n]? = some r := ⟨_, List.getElem?_eq_getElem hnl⟩
      obtain ⟨x, hx⟩ : ∃ x, tab[n]? = some x := ⟨_, List.getElem?_eq_getElem (by omega)⟩
      have hrt : H17 r = some (.tup (pairV x)) := ht.row n r _ hr (by rw [List.getElem?_map, hx]; rfl)
      obtain ⟨ok1, ok2, ok3⟩ := tab_ok (hmem x (List.mem_of_getElem? hx))
      have hev : Ev (tOp (rIxL K) (tVar 6) (tOp oMod (tOp oDivW (tVar 1) (tC (.int 2))) (tCB (rLenS K) (tCons (tVar 6) tNil)))) [some (.ref a), some (.int more2), some (.bl g), some (.ref lp), some (.ref dp), some (.int (k : Nat)), some (.ref p), y7, y8] H17 (.ref r) := by
        refine ev_op (y := .int (n : Int)) (ev_var rfl) (ev_is (ev_op (x := .int (more2 / 2)) (by walk_at "ev") (ev_len (ev_var rfl) hSq) (Evl.rv_I hpos2)) (congrArg V.int hn)) (rv_ixL hSq (atI_nat (by rw [List.getElem?_map, hr]; rfl)))
      refine q_asgR2 ?_
      refine hev H17 (Ex.refl H17) _ fun H18 e18 => ?_
      refine ⟨r, _, rfl, st_of (e18 _ _ hrt), rfl, _, _, rfl, _, _, rfl, rfl, ?_⟩
      have j := j.ext e18
      have hsz : (rows.map V.str).length < 100000 := by have := j.ln; rw [List.length_map]; omega
      have hsz2 : (dues.map V.str).length < 100000 := by have := j.dl; rw [List.length_map]; omega
      refine q_app j.hl (ev_var rfl) (v := .str x.1) (ev_var rfl) hsz fun H19 e19 => ?_
      have j := j.ext e19
      refine q_app (xs := dues.map V.str) (v := .str x.2) (by rw [upd_ne j.nd.symm]; exact j.hq) (ev_var rfl) (ev_var rfl) hsz2 fun H20 e20 => ?_
      have j2 := j.push ok1 ok2 ok3 e20
      have hne : rows ++ [x.1] ≠ [] := by simp
      generalize upd H20 dp (.lst (dues.map V.str ++ [.str x.2])) = H21 at j2 ⊢
      refine s_if (b := decide (more2 / 4096 % 4 = 0)) (et_test (by walk_at "ev")) (fun _ H22 e22 => ?_) (fun _ H22 e22 => ?_)
      · have j3 := j2.ext e22
        obtain ⟨b, hb1, hb2, hb3⟩ := ev_blank (K := K) (σ := [some (.ref a), some (.int more2), some (.bl g), some (.ref lp), some (.ref dp), some (.int (k : Nat)), some (.ref p), some (.str x.1), some (.str x.2)]) (H := H22) (n := more2) (s := sG g) rfl
        refine s_app j3.hl (ev_var rfl) (v := .str b) hb1 (by have := j3.ln; rw [List.length_map]; omega) fun H23 e23 => ?_
        exact ⟨_, _, _, _, _, _, _, rfl, ((j3.ext e23).blank hb2 hb3).mono (by omega), fun _ => by simp⟩
      · exact ⟨_, _, _, _, _, _, _, rfl, (j2.ext e22).mono (by omega), fun _ => hne⟩
  · subst es
    have hn1 : rows ≠ [] := hne (by (repeat' split) <;> omega)
    have hn2 : rows.length ≤ 62 := by
      have := j.ln
      revert this
      (repeat' split) <;> omega
    refine s_ret (v := .bl true) (fun H14 e14 Q' q' => ?_) fun H15 e15 => q H15
    have jj := j.ext e14
    refine ev_joinV (ys := rows) ev_c (ev_var rfl) (sq_of jj.hl) ?_ H14 (Ex.refl _) _ fun H15 e15 => ?_
    · have := sum_le (n := 200) (xs := rows.map (·.length)) fun x hx => by
        obtain ⟨w, hw, rfl⟩ := List.mem_map.mp hx
        exact (jj.rw w hw).2
      have e4 : ("\n" : Str).length = 1 := by decide +kernel
      rw [List.length_map] at this
      rw [e4]
      omega
    · have hrun := jj.rn [] [] rfl
      rw [List.append_nil, List.append_nil] at hrun
      refine ⟨rows, dues, rfl, hn1, by omega, jj.rw, hrun, fun H16 p np e16 hp => ?_⟩
      refine ⟨.ref dp, rfl, ?_⟩
      exact rv_eqSame (sq_of hp) (by
        rw [List.all_map, List.all_eq_true]
        exact fun x hx => jj.dw x hx) (sq_of ((e15.trans e16) _ _ jj.hq)) H16 (Ex.refl _) _ fun H17 e17 => q' H17 ((e15.trans e16).trans e17)
end
end MV
namespace MV
open PySem PySem.Spec PyProof.Rows L2 Evl MVH
theorem ok_middle {P : Program} {w : World} {K : PySem.W.Frag} {mg : Str → Option Value} {base : Heap} {A : Ads} (T : Txt K mg A) :
    FnOk P w K mg base CX0 1 A.f_middle A.d_middle ["numbers", "near"] (sp_middle K A) := by
  refine T.F_middle.ok sc_middle (fun vs H Q E h => len_middle h) (fun cdv _ outer s H vs Q E hr h => ⟨t_middle K A E, ?_, pure_middle T vs H Q E h⟩)
  exact (pss_cons (ps_asg (pe_callB cr_sorted (by rfl) T.n_sorted PyProof.Rows.boot_sorted (pa_cons (pv 0) pa_nil)) (pg_name (i := 2) sc_middle.nd rfl (by first | exact Or.inl rfl | exact Or.inr rfl)))
      (pss_cons (ps_asg (pe_op op_fdivW (pe_callB call_len_seq (by rfl) T.n_len PySem.boot_len (pa_cons (pv 2) pa_nil)) pe_int) (pg_name (i := 3) sc_middle.nd rfl (by first | exact Or.inl rfl | exact Or.inr rfl)))
      (pss_cons (ps_if (pt_cmpR op_eq (pe_op op_mod (pe_callB call_len_seq (by rfl) T.n_len PySem.boot_len (pa_cons (pv 2) pa_nil)) pe_int) pe_int (nomark _)) (pss_one (ps_ret (pe_ix ix_list (pv 2) (pv 3) (fun _ _ => rfl)))) pss_nil)
      (pss_cons (ps_if (pt_cmpR op_lt (pe_callB call_abs (by rfl) T.n_abs PyProof.Rows.boot_abs (pa_cons (pe_op op_sub (pe_ix ix_list (pv 2) (pv 3) (fun _ _ => rfl)) (pv 1)) pa_nil)) (pe_callB call_abs (by rfl) T.n_abs PyProof.Rows.boot_abs (pa_cons (pe_op op_sub (pe_ix ix_list (pv 2) (pe_op op_sub (pv 3) pe_int) (fun _ _ => rfl)) (pv 1)) pa_nil)) (nomark _)) (pss_one (ps_ret (pe_ix ix_list (pv 2) (pv 3) (fun _ _ => rfl)))) pss_nil)
      (pss_one (ps_ret (pe_ix ix_list (pv 2) (pe_op op_sub (pv 3) pe_int) (fun _ _ => rfl))))))))
theorem ok_moved {P : Program} {w : World} {K : PySem.W.Frag} {mg : Str → Option Value} {base : Heap} {A : Ads} (T : Txt K mg A) :
    FnOk P w K mg base CX0 1 A.f_moved A.d_moved ["one", "goal", "most"] (sp_moved K A) := by
  refine T.F_moved.ok sc_moved (fun vs H Q E h => len_moved h) (fun cdv _ outer s H vs Q E hr h => ⟨t_moved K A E, ?_, pure_moved T vs H Q E h⟩)
  exact (pss_cons (ps_if (pt_cmpR op_gt (pv 1) (pv 0) (nomark _)) (pss_one (ps_ret (pe_callB (call_min2 rfl) (by rfl) T.n_min PyProof.Rows.boot_min (pa_cons (pv 1) (pa_cons (pe_op op_add (pv 0) (pv 2)) pa_nil))))) pss_nil)
      (pss_one (ps_ret (pe_callB (call_max2 rfl) (by rfl) T.n_max PyProof.Rows.boot_max (pa_cons (pv 1) (pa_cons (pe_op op_sub (pv 0) (pv 2)) pa_nil))))))
theorem ok_agree {P : Program} {w : World} {K : PySem.W.Frag} {mg : Str → Option Value} {base : Heap} {A : Ads} (T : Txt K mg A) :
    FnOk P w K mg base CX0 1 A.f_agree A.d_agree ["numbers", "value", "threshold"] (sp_agree K A) := by
  refine T.F_agree.ok sc_agree (fun vs H Q E h => len_agree h) (fun cdv _ outer s H vs Q E hr h => ⟨t_agree K A E, ?_, pure_agree T vs H Q E h⟩)
  exact (pss_one (ps_ret (pe_lc (own := [("place", 3), ("number", 4)]) rfl sc_agree.nd (pi_enum (by rfl) T.n_enumerate (pa_cons (pv 0) pa_nil)) (blkOk_by (own := [("place", 3), ("number", 4)]) (N := ["numbers", "value", "threshold", "place", "number"]) (sc := defScope s_agree) (by decide +kernel)) (fun _ _ _ _ _ => (pg_tup (by rfl) (pgs_cons (pg_name (i := 3) sc_agree.nd rfl (by first | exact Or.inl rfl | exact Or.inr rfl)) (pgs_cons (pg_name (i := 4) sc_agree.nd rfl (by first | exact Or.inl rfl | exact Or.inr rfl)) pgs_nil)))) (fun _ _ _ _ _ => (pts_one (pt_cmpR op_le (pe_callB call_abs (by rfl) T.n_abs PyProof.Rows.boot_abs (pa_cons (pe_op op_sub (pv 4) (pv 1)) pa_nil)) (pv 2) (nomark _)))) (fun _ _ _ _ _ => (pv 3)))))
theorem ok_need_settings {P : Program} {w : World} {K : PySem.W.Frag} {mg : Str → Option Value} {base : Heap} {A : Ads} (T : Txt K mg A) :
    FnOk P w K mg base (L2N.CX P w) 1 A.f_need_settings A.d_need_settings ["settings"] (sp_need_settings K A) := by
  refine okN T.F_need_settings sc_need_settings (fun vs H Q E h => len_need_settings h) (fun cdv _ outer s H vs Q E hr h => ⟨t_need_settings K A E, ?_, pure_need_settings T vs H Q E h⟩)
  exact (pss_cons (ps_asg (pv 0) (pg_tup (by rfl) (pgs_cons (pg_name (i := 1) sc_need_settings.nd rfl (by first | exact Or.inl rfl | exact Or.inr rfl)) (pgs_cons (pg_name (i := 2) sc_need_settings.nd rfl (by first | exact Or.inl rfl | exact Or.inr rfl)) (pgs_cons (pg_name (i := 3) sc_need_settings.nd rfl (by first | exact Or.inl rfl | exact Or.inr rfl)) (pgs_cons (pg_name (i := 4) sc_need_settings.nd rfl (by first | exact Or.inl rfl | exact Or.inr rfl)) (pgs_cons (pg_name (i := 5) sc_need_settings.nd rfl (by first | exact Or.inl rfl | exact Or.inr rfl)) pgs_nil)))))))
      (pss_cons (ps_if (PW.pt (pw_or (pt_not (pt_chain op_le op_le (pe_glob rfl T.c_LEAST.choose_spec ⟨_, rfl⟩) (pv 1) (pe_glob rfl T.c_MOST.choose_spec ⟨_, rfl⟩))) (pw_or (pt_not (pt_chain op_le op_le pe_int (pv 2) (pe_glob rfl T.c_MOST_THRESHOLD.choose_spec ⟨_, rfl⟩))) (pw_or1 (pt_not (pt_chain op_le op_le pe_int (pv 3) (pe_glob rfl T.c_MOST_THRESHOLD.choose_spec ⟨_, rfl⟩))))))) (pss_one (L2N.ps_raise rfl (L2N.takes_of rfl rfl rfl rfl) (L2N.pmk_own PySem.F.excBase_ValueError T.x_BadSettings T.g_BadSettings T.k_BadSettings (raises_own T.xb_BadSettings T.xt_BadSettings) (by exact rfl)))) pss_nil)
      (pss_one (ps_if (PW.pt (pw_or (pt_not (pt_chain op_le op_le pe_int (pv 4) (pe_glob rfl T.c_MOST_COUNT.choose_spec ⟨_, rfl⟩))) (pw_or1 (pt_not (pt_chain op_le op_le pe_int (pv 5) (pe_glob rfl T.c_MOST_COUNT.choose_spec ⟨_, rfl⟩)))))) (pss_one (L2N.ps_raise rfl (L2N.takes_of rfl rfl rfl rfl) (L2N.pmk_own PySem.F.excBase_ValueError T.x_BadSettings T.g_BadSettings T.k_BadSettings (raises_own T.xb_BadSettings T.xt_BadSettings) (by exact rfl)))) pss_nil))))
theorem ok_need_step {P : Program} {w : World} {K : PySem.W.Frag} {mg : Str → Option Value} {base : Heap} {A : Ads} (T : Txt K mg A) :
    FnOk P w K mg base (L2N.CX P w) 1 A.f_need_step A.d_need_step ["values", "many"] (sp_need_step K A) := by
  refine okN T.F_need_step sc_need_step (fun vs H Q E h => len_need_step h) (fun cdv _ outer s H vs Q E hr h => ⟨t_need_step K A E, ?_, pure_need_step T vs H Q E h⟩)
  exact (pss_cons (ps_if (pt_cmpR op_ne (pe_callB call_len_seq (by rfl) T.n_len PySem.boot_len (pa_cons (pv 0) pa_nil)) (pv 1) (nomark _)) (pss_one (L2N.ps_raise rfl (L2N.takes_of rfl rfl rfl rfl) (L2N.pmk_own PySem.F.excBase_ValueError T.x_BadStep T.g_BadStep T.k_BadStep (raises_own T.xb_BadStep T.xt_BadStep) (by exact rfl)))) pss_nil)
      (pss_one (ps_if (pt_not (pt_val (pe_callB (cr_all rfl) (by rfl) T.n_all PyProof.Rows.boot_all (pa_cons (pe_lc (own := [("value", 2)]) rfl sc_need_step.nd (pi_list (pv 0)) (blkOk_by (own := [("value", 2)]) (N := ["values", "many", "value"]) (sc := defScope s_need_step) (by decide +kernel)) (fun _ _ _ _ _ => (pg_name (i := 2) sc_need_step.nd rfl (by first | exact Or.inl rfl | exact Or.inr rfl))) (fun _ _ _ _ _ => (pts_one (pt_cmpR op_notN (pv 2) pe_non (nomark _)))) (fun _ _ _ _ _ => (pe_cmpR op_le (pe_callB call_abs (by rfl) T.n_abs PyProof.Rows.boot_abs (pa_cons (pv 2) pa_nil)) (pe_glob rfl T.c_MOST_VALUE.choose_spec ⟨_, rfl⟩) (nomark _)))) pa_nil)))) (pss_one (L2N.ps_raise rfl (L2N.takes_of rfl rfl rfl rfl) (L2N.pmk_own PySem.F.excBase_ValueError T.x_BadStep T.g_BadStep T.k_BadStep (raises_own T.xb_BadStep T.xt_BadStep) (by exact rfl)))) pss_nil)))
theorem ok_Sensor_init {P : Program} {w : World} {K : PySem.W.Frag} {mg : Str → Option Value} {base : Heap} {A : Ads} (T : Txt K mg A) :
    FnOk P w K mg base CX0 1 A.f_Sensor_init A.d_Sensor_init ["self"] (sp_Sensor_init K A) := by
  refine T.F_Sensor_init.ok sc_Sensor_init (fun vs H Q E h => len_Sensor_init h) (fun cdv _ outer s H vs Q E hr h => ⟨t_Sensor_init K A E, ?_, pure_Sensor_init T vs H Q E h⟩)
  exact (pss_cons (ps_fld (pv 0) pe_bl rfl)
      (pss_one (ps_fld (pv 0) pe_int rfl)))
theorem ok_Voter_given {P : Program} {w : World} {K : PySem.W.Frag} {mg : Str → Option Value} {base : Heap} {A : Ads} (T : Txt K mg A) :
    FnOk P w K mg base CX0 1 A.f_Voter_given A.d_Voter_given ["self"] (sp_Voter_given K A) := by
  refine T.F_Voter_given.ok sc_Voter_given (fun vs H Q E h => len_Voter_given h) (fun cdv _ outer s H vs Q E hr h => ⟨t_Voter_given K A E, ?_, pure_Voter_given T vs H Q E h⟩)
  exact (pss_one (ps_ret (pe_fld (pv 0) rfl)))
theorem ok_Voter_sensor {P : Program} {w : World} {K : PySem.W.Frag} {mg : Str → Option Value} {base : Heap} {A : Ads} (T : Txt K mg A) :
    FnOk P w K mg base (L2N.CX P w) 1 A.f_Voter_sensor A.d_Voter_sensor ["self", "place"] (sp_Voter_sensor K A) := by
  refine okN T.F_Voter_sensor sc_Voter_sensor (fun vs H Q E h => len_Voter_sensor h) (fun cdv _ outer s H vs Q E hr h => ⟨t_Voter_sensor K A E, ?_, pure_Voter_sensor T vs H Q E h⟩)
  exact (pss_cons (ps_if (pt_not (pt_chain op_le op_lt pe_int (pv 1) (pe_callB call_len_seq (by rfl) T.n_len PySem.boot_len (pa_cons (pe_fld (pv 0) rfl) pa_nil)))) (pss_one (L2N.ps_raise rfl (L2N.takes_of rfl rfl rfl rfl) (L2N.pmk_own PySem.F.excBase_ValueError T.x_NoSensor T.g_NoSensor T.k_NoSensor (raises_own T.xb_NoSensor T.xt_NoSensor) (by exact rfl)))) pss_nil)
      (pss_one (ps_ret (pe_ix ix_list (pe_fld (pv 0) rfl) (pv 1) (fun _ _ => rfl)))))
theorem ok_Voter_is_close {P : Program} {w : World} {K : PySem.W.Frag} {mg : Str → Option Value} {base : Heap} {A : Ads} (T : Txt K mg A) :
    FnOk P w K mg base CX0 1 A.f_Voter_is_close A.d_Voter_is_close ["self", "thing", "value"] (sp_Voter_is_close K A) := by
  refine T.F_Voter_is_close.ok sc_Voter_is_close (fun vs H Q E h => len_Voter_is_close h) (fun cdv _ outer s H vs Q E hr h => ⟨t_Voter_is_close K A E, ?_, pure_Voter_is_close T vs H Q E h⟩)
  exact (pss_one (ps_ret (pe_and (pe_cmpR op_notN (pv 1) pe_non (nomark _)) (pe_one (pe_cmpR op_le (pe_callB call_abs (by rfl) T.n_abs PyProof.Rows.boot_abs (pa_cons (pe_op op_sub (pv 1) (pv 2)) pa_nil)) (pe_fld (pv 0) rfl) (nomark _))))))
theorem ok_Voter_watch {P : Program} {w : World} {K : PySem.W.Frag} {mg : Str → Option Value} {base : Heap} {A : Ads} (T : Txt K mg A) :
    FnOk P w K mg base CX0 1 A.f_Voter_watch A.d_Voter_watch ["self", "one", "is_close"] (sp_Voter_watch K A) := by
  refine T.F_Voter_watch.ok sc_Voter_watch (fun vs H Q E h => len_Voter_watch h) (fun cdv _ outer s H vs Q E hr h => ⟨t_Voter_watch K A E, ?_, pure_Voter_watch T vs H Q E h⟩)
  exact (pss_cons (ps_if (pt_val (pv 2)) (pss_cons (ps_fld (pv 1) (pe_callB (call_max2 rfl) (by rfl) T.n_max PyProof.Rows.boot_max (pa_cons pe_int (pa_cons (pe_op op_sub (pe_fld (pv 1) rfl) pe_int) pa_nil))) rfl)
      (pss_one ps_retN)) pss_nil)
      (pss_cons (ps_fld (pv 1) (pe_op op_add (pe_fld (pv 1) rfl) pe_int) rfl)
      (pss_cons (ps_setLc (i := 3) (own := [("other", 4)]) rfl sc_Voter_watch.nd rfl rfl (sw_true rfl rfl rfl (by decide +kernel)) (pi_list (pe_fld (pv 0) rfl)) (blkOk_by (own := [("other", 4)]) (N := ["self", "one", "is_close", "others", "other"]) (sc := defScope s_Voter_watch) (by decide +kernel)) (fun _ _ _ _ _ => (pg_name (i := 4) sc_Voter_watch.nd rfl (by first | exact Or.inl rfl | exact Or.inr rfl))) (fun _ _ _ _ _ => (pts_one (pt_not (pt_val (pe_fld (pv 4) rfl))))) (fun _ _ _ _ _ => (pv 4)))
      (pss_one (ps_if (PW.pt (pw_and (pt_cmpR op_ge (pe_fld (pv 1) rfl) (pe_fld (pv 0) rfl) (nomark _)) (pw_and1 (pt_cmpR op_gt (pe_callB call_len_seq (by rfl) T.n_len PySem.boot_len (pa_cons (pv 3) pa_nil)) pe_int (nomark _))))) (pss_cons (ps_fld (pv 1) pe_bl rfl)
      (pss_one (ps_fld (pv 1) pe_int rfl))) pss_nil)))))
theorem ok_Voter_wait {P : Program} {w : World} {K : PySem.W.Frag} {mg : Str → Option Value} {base : Heap} {A : Ads} (T : Txt K mg A) :
    FnOk P w K mg base CX0 1 A.f_Voter_wait A.d_Voter_wait ["self", "one", "is_close"] (sp_Voter_wait K A) := by
  refine T.F_Voter_wait.ok sc_Voter_wait (fun vs H Q E h => len_Voter_wait h) (fun cdv _ outer s H vs Q E hr h => ⟨t_Voter_wait K A E, ?_, pure_Voter_wait T vs H Q E h⟩)
  exact (pss_cons (ps_fld (pv 1) (pe_op op_mul (pe_op op_add (pe_fld (pv 1) rfl) pe_int) (pe_callTy call_int1 (by rfl) T.n_int PyProof.Rows.boot_int (pa_cons (pv 2) pa_nil))) rfl)
      (pss_one (ps_if (pt_cmpR op_eq (pe_fld (pv 1) rfl) (pe_fld (pv 0) rfl) (nomark _)) (pss_cons (ps_fld (pv 1) pe_bl rfl)
      (pss_one (ps_fld (pv 1) pe_int rfl))) pss_nil)))
theorem ok_need {P : Program} {w : World} {K : PySem.W.Frag} {mg : Str → Option Value} {base : Heap} {A : Ads} (T : Txt K mg A) :
    FnOk P w K mg base (L2N.CX P w) 1 A.f_need A.d_need ["good"] (sp_need K A) := by
  refine okN T.F_need sc_need (fun vs H Q E h => len_need h) (fun cdv _ outer s H vs Q E hr h => ⟨t_need K A E, ?_, pure_need T vs H Q E h⟩)
  exact (pss_one (ps_if (pt_not (pt_val (pv 0))) (pss_one (L2N.ps_raise rfl (L2N.takes_of rfl rfl rfl rfl) (L2N.pmk_own PySem.F.excBase_ValueError T.x_BadRow T.g_BadRow T.k_BadRow (raises_own T.xb_BadRow T.xt_BadRow) (by exact rfl)))) pss_nil))
theorem ok_Desk_init {P : Program} {w : World} {K : PySem.W.Frag} {mg : Str → Option Value} {base : Heap} {A : Ads} (T : Txt K mg A) :
    FnOk P w K mg base CX0 1 A.f_Desk_init A.d_Desk_init ["self"] (sp_Desk_init K A) := by
  refine T.F_Desk_init.ok sc_Desk_init (fun vs H Q E h => len_Desk_init h) (fun cdv _ outer s H vs Q E hr h => ⟨t_Desk_init K A E, ?_, pure_Desk_init T vs H Q E h⟩)
  exact (pss_cons (ps_fld (pv 0) pe_non rfl)
      (pss_one (ps_fld (pv 0) pe_int rfl)))
theorem ok_class_of {P : Program} {w : World} {K : PySem.W.Frag} {mg : Str → Option Value} {base : Heap} {A : Ads} (T : Txt K mg A) {A0 : Around} {outer : List Env} {s : Shared} {H : Hp} {args : Args} {us : List Value} {Q : VK} {E : XK} {p : Addr × Obj} {C : Addr} {wd : Str} (hr : L2H.RoomH 2 A0) (h1 : L2H.Hot1 A0 p) (hpin : L2H.PinOk outer H s p) (e0 : Env0 P w K mg base A0 outer s H) (hb : BindsTo s A.d_class_of args ((["error"] : List Str).zip us)) (r : Vals [.ref p.1] us) (hz : Zc (.ref C) none p.2) (hf : ∃ vs, p.2.data = .fields vs) (hw : wordE A C wd) (q : ∀ H', Ex H H' → Q (.str wd) H') : codeAny (model P w) A0 (.call (.ref A.f_class_of) args) (CR CX0 outer P w H s Q E) s := by
  refine fn_pin T.F_class_of sc_class_of hr h1 hpin e0 hb r rfl fun cdv => ?_
  have hC : ExcC K C := exc_of T hw
  refine ⟨t_class_of K A E C p.1, ?_, pure_class_of T hw q⟩
  have hot : L2H.HotC (L2H.cxH CX0 P w K mg base ["error"] "class_of" (defScope s_class_of) A.f_class_of cdv A0 outer s H E p) := ⟨p, h1, List.mem_singleton.mpr rfl⟩
  have hp : p ∈ (L2H.cxH CX0 P w K mg base ["error"] "class_of" (defScope s_class_of) A.f_class_of cdv A0 outer s H E p).pn := List.mem_singleton.mpr rfl
  exact (pss_cons (ps_if (pt_val (pe_callB (call_isP hp hz hf hC) (by rfl) T.n_isinstance PyProof.Rows.boot_isinstance (pa_cons (pv 0) (pa_cons (pe_glob rfl T.g_BadRow rfl) pa_nil)))) (pss_one (ps_ret pe_str)) pss_nil)
      (pss_cons (ps_if (pt_val (pe_callB (call_isP hp hz hf hC) (by rfl) T.n_isinstance PyProof.Rows.boot_isinstance (pa_cons (pv 0) (pa_cons (pe_glob rfl T.g_BadSettings rfl) pa_nil)))) (pss_one (ps_ret pe_str)) pss_nil)
      (pss_cons (ps_if (pt_val (pe_callB (call_isP hp hz hf hC) (by rfl) T.n_isinstance PyProof.Rows.boot_isinstance (pa_cons (pv 0) (pa_cons (pe_glob rfl T.g_BadStep rfl) pa_nil)))) (pss_one (ps_ret pe_str)) pss_nil)
      (pss_one (ps_ret pe_str)))))
theorem ok_l_cell {P : Program} {w : World} {K : PySem.W.Frag} {mg : Str → Option Value} {base : Heap} {A : Ads} (T : Txt K mg A) :
    FnOk P w K mg base CX0 1 A.f_l_cell A.d_l_cell ["_law_script", "_law_k"] (sp_l_cell K A) := by
  refine T.F_l_cell.ok sc_l_cell (fun vs H Q E h => len_l_cell h) (fun cdv _ outer s H vs Q E hr h => ⟨t_l_cell K A E, ?_, pure_l_cell T vs H Q E h⟩)
  exact (pss_cons (ps_if (pt_cmpR (op_eqD hr.units) (pv 0) (pe_lst pa_nil) (nomark _)) (pss_one (ps_ret (pe_op op_mul (pv 1) pe_int))) pss_nil)
      (pss_one (ps_ret (pe_op op_add (pe_ix ix_list (pv 0) (pe_op op_mod (pv 1) (pe_callB call_len_seq (by rfl) T.n_len PySem.boot_len (pa_cons (pv 0) pa_nil))) (fun _ _ => rfl)) (pe_op op_mul (pe_op op_fdivW (pv 1) (pe_callB call_len_seq (by rfl) T.n_len PySem.boot_len (pa_cons (pv 0) pa_nil))) pe_int)))))
theorem ok_l_drawn {P : Program} {w : World} {K : PySem.W.Frag} {mg : Str → Option Value} {base : Heap} {A : Ads} (T : Txt K mg A) :
    FnOk P w K mg base CX0 1 A.f_l_drawn A.d_l_drawn ["_law_cell_here", "_law_k"] (sp_l_drawn K A) := by
  refine T.F_l_drawn.ok sc_l_drawn (fun vs H Q E h => len_l_drawn h) (fun cdv _ outer s H vs Q E hr h => ⟨t_l_drawn K A E, ?_, pure_l_drawn T vs H Q E h⟩)
  exact (pss_cons (ps_asg (pe_op op_mod (pe_op op_add (pe_op op_mul (pv 0) pe_int) (pe_op op_mul (pe_op op_add (pv 1) pe_int) pe_int)) pe_int) (pg_name (i := 2) sc_l_drawn.nd rfl (by first | exact Or.inl rfl | exact Or.inr rfl)))
      (pss_one (ps_ret (pe_op op_mod (pe_op op_mulW (pv 2) (pv 2)) pe_int))))
theorem ok_l_none {P : Program} {w : World} {K : PySem.W.Frag} {mg : Str → Option Value} {base : Heap} {A : Ads} (T : Txt K mg A) :
    FnOk P w K mg base CX0 1 A.f_l_none A.d_l_none [] (sp_l_none K A) := by
  refine T.F_l_none.ok sc_l_none (fun vs H Q E h => len_l_none h) (fun cdv _ outer s H vs Q E hr h => ⟨t_l_none K A E, ?_, pure_l_none T vs H Q E h⟩)
  exact (pss_cons (ps_asg (pe_lst (pa_cons pe_str (pa_cons pe_str (pa_cons pe_str (pa_cons pe_str (pa_cons pe_str pa_nil)))))) (pg_name (i := 0) sc_l_none.nd rfl (by first | exact Or.inl rfl | exact Or.inr rfl)))
      (pss_cons (ps_asg (pe_op op_cat (pv 0) (pe_lst (pa_cons pe_str (pa_cons pe_str (pa_cons pe_str (pa_cons pe_str pa_nil)))))) (pg_name (i := 0) sc_l_none.nd rfl (by first | exact Or.inl rfl | exact Or.inr rfl)))
      (pss_cons (ps_asg (pe_op op_cat (pv 0) (pe_lst (pa_cons pe_str (pa_cons pe_str (pa_cons pe_str (pa_cons pe_str (pa_cons pe_str (pa_cons pe_str pa_nil)))))))) (pg_name (i := 0) sc_l_none.nd rfl (by first | exact Or.inl rfl | exact Or.inr rfl)))
      (pss_cons (ps_asg (pe_op op_cat (pv 0) (pe_lst (pa_cons pe_str (pa_cons pe_str (pa_cons pe_str (pa_cons pe_str (pa_cons pe_str (pa_cons pe_str (pa_cons pe_str pa_nil))))))))) (pg_name (i := 0) sc_l_none.nd rfl (by first | exact Or.inl rfl | exact Or.inr rfl)))
      (pss_cons (ps_asg (pe_op op_cat (pv 0) (pe_lst (pa_cons pe_str (pa_cons pe_str (pa_cons pe_str (pa_cons pe_str (pa_cons pe_str (pa_cons pe_str (pa_cons pe_str (pa_cons pe_str pa_nil)))))))))) (pg_name (i := 0) sc_l_none.nd rfl (by first | exact Or.inl rfl | exact Or.inr rfl)))
      (pss_cons (ps_asg (pe_op op_cat (pv 0) (pe_lst (pa_cons pe_str (pa_cons pe_str (pa_cons pe_str (pa_cons pe_str (pa_cons pe_str (pa_cons pe_str (pa_cons pe_str (pa_cons pe_str pa_nil)))))))))) (pg_name (i := 0) sc_l_none.nd rfl (by first | exact Or.inl rfl | exact Or.inr rfl)))
      (pss_one (ps_ret (pe_op op_cat (pv 0) (pe_lst (pa_cons pe_str pa_nil)))))))))))
theorem ok_l_others {P : Program} {w : World} {K : PySem.W.Frag} {mg : Str → Option Value} {base : Heap} {A : Ads} (T : Txt K mg A) :
    FnOk P w K mg base CX0 1 A.f_l_others A.d_l_others ["_law_is_there"] (sp_l_others K A) := by
  refine T.F_l_others.ok sc_l_others (fun vs H Q E h => len_l_others h) (fun cdv _ outer s H vs Q E hr h => ⟨t_l_others K A E, ?_, pure_l_others T vs H Q E h⟩)
  exact (pss_cons (ps_asg (pe_lst (pa_cons (pe_tup (pa_cons pe_str (pa_cons pe_str pa_nil))) (pa_cons (pe_tup (pa_cons pe_str (pa_cons pe_str pa_nil))) pa_nil))) (pg_name (i := 1) sc_l_others.nd rfl (by first | exact Or.inl rfl | exact Or.inr rfl)))
      (pss_cons (ps_asg (pe_op op_cat (pv 1) (pe_lst (pa_cons (pe_tup (pa_cons pe_str (pa_cons pe_str pa_nil))) (pa_cons (pe_tup (pa_cons pe_str (pa_cons pe_str pa_nil))) pa_nil)))) (pg_name (i := 1) sc_l_others.nd rfl (by first | exact Or.inl rfl | exact Or.inr rfl)))
      (pss_cons (ps_asg (pe_op op_cat (pv 1) (pe_lst (pa_cons (pe_tup (pa_cons pe_str (pa_cons pe_str pa_nil))) (pa_cons (pe_tup (pa_cons pe_str (pa_cons pe_str pa_nil))) pa_nil)))) (pg_name (i := 1) sc_l_others.nd rfl (by first | exact Or.inl rfl | exact Or.inr rfl)))
      (pss_cons (ps_if (pt_not (pt_val (pv 0))) (pss_cons (ps_asg (pe_lst (pa_cons pe_str (pa_cons pe_str (pa_cons pe_str (pa_cons pe_str (pa_cons pe_str (pa_cons pe_str pa_nil))))))) (pg_name (i := 2) sc_l_others.nd rfl (by first | exact Or.inl rfl | exact Or.inr rfl)))
      (pss_one (ps_ret (pe_op op_cat (pv 1) (pe_lc (own := [("_law_row", 3)]) rfl sc_l_others.nd (pi_list (pv 2)) (blkOk_by (own := [("_law_row", 3)]) (N := ["_law_is_there", "_law_found", "_law_rows", "_law_row"]) (sc := defScope s_l_others) (by decide +kernel)) (fun _ _ _ _ _ => (pg_name (i := 3) sc_l_others.nd rfl (by first | exact Or.inl rfl | exact Or.inr rfl))) (fun _ _ _ _ _ => pts_nil) (fun _ _ _ _ _ => (pe_tup (pa_cons (pv 3) (pa_cons pe_str pa_nil))))))))) pss_nil)
      (pss_cons (ps_asg (pe_op op_cat (pv 1) (pe_lst (pa_cons (pe_tup (pa_cons pe_str (pa_cons pe_str pa_nil))) (pa_cons (pe_tup (pa_cons pe_str (pa_cons pe_str pa_nil))) (pa_cons (pe_tup (pa_cons pe_str (pa_cons pe_str pa_nil))) pa_nil))))) (pg_name (i := 1) sc_l_others.nd rfl (by first | exact Or.inl rfl | exact Or.inr rfl)))
      (pss_cons (ps_asg (pe_op op_cat (pv 1) (pe_lst (pa_cons (pe_tup (pa_cons pe_str (pa_cons pe_str pa_nil))) (pa_cons (pe_tup (pa_cons pe_str (pa_cons pe_str pa_nil))) pa_nil)))) (pg_name (i := 1) sc_l_others.nd rfl (by first | exact Or.inl rfl | exact Or.inr rfl)))
      (pss_one (ps_ret (pe_op op_cat (pv 1) (pe_lst (pa_cons (pe_tup (pa_cons pe_str (pa_cons pe_str pa_nil))) (pa_cons (pe_tup (pa_cons pe_str (pa_cons pe_str pa_nil))) (pa_cons (pe_tup (pa_cons pe_str (pa_cons pe_str pa_nil))) pa_nil)))))))))))))
theorem ok_Voter_state {P : Program} {w : World} {K : PySem.W.Frag} {mg : Str → Option Value} {base : Heap} {A : Ads} (T : Txt K mg A) (G_Voter_sensor : FnOk P w K mg base (L2N.CX P w) 1 A.f_Voter_sensor A.d_Voter_sensor ["self", "place"] (sp_Voter_sensor K A)) :
    FnOk P w K mg base (L2N.CX P w) 2 A.f_Voter_state A.d_Voter_state ["self", "place"] (sp_Voter_state K A) := by
  refine okN T.F_Voter_state sc_Voter_state (fun vs H Q E h => len_Voter_state h) (fun cdv _ outer s H vs Q E hr h => ⟨t_Voter_state K A E, ?_, pure_Voter_state T vs H Q E h⟩)
  exact (pss_cons (ps_asg (pe_meth (pv 0) T.cl_Voter T.m_Voter_sensor G_Voter_sensor (hr.mono (by decide)) T.b_Voter_sensor .nil (L2N.passes_call (L2N.takes_of rfl rfl rfl rfl) (fun _ _ _ _ h => h)) (pa_cons (pv 1) pa_nil)) (pg_name (i := 2) sc_Voter_state.nd rfl (by first | exact Or.inl rfl | exact Or.inr rfl)))
      (pss_cons (ps_if (pt_val (pe_fld (pv 2) rfl)) (pss_one (ps_ret pe_str)) pss_nil)
      (pss_one (ps_ret (pe_ifExp (pt_cmpR op_eq (pe_fld (pv 2) rfl) pe_int (nomark _)) pe_str pe_str)))))
theorem ok_Voter_count {P : Program} {w : World} {K : PySem.W.Frag} {mg : Str → Option Value} {base : Heap} {A : Ads} (T : Txt K mg A) (G_Voter_sensor : FnOk P w K mg base (L2N.CX P w) 1 A.f_Voter_sensor A.d_Voter_sensor ["self", "place"] (sp_Voter_sensor K A)) :
    FnOk P w K mg base (L2N.CX P w) 2 A.f_Voter_count A.d_Voter_count ["self", "place"] (sp_Voter_count K A) := by
  refine okN T.F_Voter_count sc_Voter_count (fun vs H Q E h => len_Voter_count h) (fun cdv _ outer s H vs Q E hr h => ⟨t_Voter_count K A E, ?_, pure_Voter_count T vs H Q E h⟩)
  exact (pss_one (ps_ret (pe_fld (pe_meth (pv 0) T.cl_Voter T.m_Voter_sensor G_Voter_sensor (hr.mono (by decide)) T.b_Voter_sensor .nil (L2N.passes_call (L2N.takes_of rfl rfl rfl rfl) (fun _ _ _ _ h => h)) (pa_cons (pv 1) pa_nil)) rfl)))
theorem ok_Voter_word {P : Program} {w : World} {K : PySem.W.Frag} {mg : Str → Option Value} {base : Heap} {A : Ads} (T : Txt K mg A) (G_agree : FnOk P w K mg base CX0 1 A.f_agree A.d_agree ["numbers", "value", "threshold"] (sp_agree K A)) :
    FnOk P w K mg base CX0 2 A.f_Voter_word A.d_Voter_word ["self", "numbers", "value"] (sp_Voter_word K A) := by
  refine T.F_Voter_word.ok sc_Voter_word (fun vs H Q E h => len_Voter_word h) (fun cdv _ outer s H vs Q E hr h => ⟨t_Voter_word K A E, ?_, pure_Voter_word T vs H Q E h⟩)
  exact (pss_cons (ps_if (pt_cmpR (op_eqD hr.units) (pv 1) (pe_lst pa_nil) (nomark _)) (pss_one (ps_ret pe_str)) pss_nil)
      (pss_cons (ps_if (pt_cmpR op_eq (pe_callB call_len_seq (by rfl) T.n_len PySem.boot_len (pa_cons (pv 1) pa_nil)) pe_int (nomark _)) (pss_one (ps_ret pe_str)) pss_nil)
      (pss_cons (ps_asg (pe_callB call_len_seq (by rfl) T.n_len PySem.boot_len (pa_cons (pe_call G_agree (hr.mono (by decide)) rfl T.g_agree T.F_agree.kp T.b_agree .nil pass0 (pa_cons (pv 1) (pa_cons (pv 2) (pa_cons (pe_fld (pv 0) rfl) pa_nil)))) pa_nil)) (pg_name (i := 3) sc_Voter_word.nd rfl (by first | exact Or.inl rfl | exact Or.inr rfl)))
      (pss_cons (ps_if (pt_cmpR op_le (pe_op op_mul pe_int (pv 3)) (pe_callB call_len_seq (by rfl) T.n_len PySem.boot_len (pa_cons (pv 1) pa_nil)) (nomark _)) (pss_one (ps_ret pe_str)) pss_nil)
      (pss_one (ps_ret (pe_ifExp (pt_cmpR op_eq (pv 3) (pe_callB call_len_seq (by rfl) T.n_len PySem.boot_len (pa_cons (pe_fld (pv 0) rfl) pa_nil)) (nomark _)) pe_str pe_str)))))))
theorem ok_number_of {P : Program} {w : World} {K : PySem.W.Frag} {mg : Str → Option Value} {base : Heap} {A : Ads} (T : Txt K mg A) (G_need : FnOk P w K mg base (L2N.CX P w) 1 A.f_need A.d_need ["good"] (sp_need K A)) :
    FnOk P w K mg base (L2N.CX P w) 2 A.f_number_of A.d_number_of ["text"] (sp_number_of K A) := by
  refine okN T.F_number_of sc_number_of (fun vs H Q E h => len_number_of h) (fun cdv _ outer s H vs Q E hr h => ⟨t_number_of K A E, ?_, pure_number_of T vs H Q E h⟩)
  exact (pss_cons (ps_asg (pe_ifExp (pt_cmpR op_eq (pe_slice sl_str (pv 0) po_none (po_some pe_int)) pe_str (nomark _)) (pe_slice sl_str (pv 0) (po_some pe_int) po_none) (pv 0)) (pg_name (i := 1) sc_number_of.nd rfl (by first | exact Or.inl rfl | exact Or.inr rfl)))
      (pss_cons (ps_expr (pe_call G_need (hr.mono (by decide)) rfl T.g_need T.F_need.kp T.b_need .nil (L2N.passes_call (L2N.takes_of rfl rfl rfl rfl) (fun _ _ _ _ h => h)) (pa_cons (pe_and (pe_chain op_le op_le pe_int (pe_callB call_len_str (by rfl) T.n_len PySem.boot_len (pa_cons (pv 1) pa_nil)) (pe_glob rfl T.c_MOST_FIGURES.choose_spec ⟨_, rfl⟩)) (pe_one (pe_callB (cr_all rfl) (by rfl) T.n_all PyProof.Rows.boot_all (pa_cons (pe_lc (own := [("sign", 2)]) rfl sc_number_of.nd (pi_str (pv 1)) (blkOk_by (own := [("sign", 2)]) (N := ["text", "figures", "sign"]) (sc := defScope s_number_of) (by decide +kernel)) (fun _ _ _ _ _ => (pg_name (i := 2) sc_number_of.nd rfl (by first | exact Or.inl rfl | exact Or.inr rfl))) (fun _ _ _ _ _ => pts_nil) (fun _ _ _ _ _ => (pe_cmpR op_in_sign (pv 2) (pe_glob rfl T.c_FIGURES.choose_spec ⟨_, rfl⟩) (by rfl)))) pa_nil)))) pa_nil)))
      (pss_cons (ps_expr (pe_call G_need (hr.mono (by decide)) rfl T.g_need T.F_need.kp T.b_need .nil (L2N.passes_call (L2N.takes_of rfl rfl rfl rfl) (fun _ _ _ _ h => h)) (pa_cons (pe_or (pe_cmpR op_ne (pe_ix ix_str (pv 1) pe_int (fun _ _ => rfl)) pe_str (nomark _)) (pe_one (pe_cmpR op_eq (pv 0) pe_str (nomark _)))) pa_nil)))
      (pss_one (ps_ret (pe_callTy call_int_str (by rfl) T.n_int PyProof.Rows.boot_int (pa_cons (pv 0) pa_nil)))))))
theorem ok_Voter_init {P : Program} {w : World} {K : PySem.W.Frag} {mg : Str → Option Value} {base : Heap} {A : Ads} (T : Txt K mg A) (G_Sensor_init : FnOk P w K mg base CX0 1 A.f_Sensor_init A.d_Sensor_init ["self"] (sp_Sensor_init K A)) (G_need_settings : FnOk P w K mg base (L2N.CX P w) 1 A.f_need_settings A.d_need_settings ["settings"] (sp_need_settings K A)) :
    FnOk P w K mg base (L2N.CX P w) 3 A.f_Voter_init A.d_Voter_init ["self", "settings", "start"] (sp_Voter_init K A) := by
  refine okN T.F_Voter_init sc_Voter_init (fun vs H Q E h => len_Voter_init h) (fun cdv _ outer s H vs Q E hr h => ⟨t_Voter_init K A E, ?_, pure_Voter_init T vs H Q E h⟩)
  exact (pss_cons (ps_expr (pe_call G_need_settings (hr.mono (by decide)) rfl T.g_need_settings T.F_need_settings.kp T.b_need_settings .nil (L2N.passes_call (L2N.takes_of rfl rfl rfl rfl) (fun _ _ _ _ h => h)) (pa_cons (pv 1) pa_nil)))
      (pss_cons (ps_asg (pv 1) (pg_tup (by rfl) (pgs_cons (pg_name (i := 3) sc_Voter_init.nd rfl (by first | exact Or.inl rfl | exact Or.inr rfl)) (pgs_cons (pg_name (i := 4) sc_Voter_init.nd rfl (by first | exact Or.inl rfl | exact Or.inr rfl)) (pgs_cons (pg_name (i := 5) sc_Voter_init.nd rfl (by first | exact Or.inl rfl | exact Or.inr rfl)) (pgs_cons (pg_name (i := 6) sc_Voter_init.nd rfl (by first | exact Or.inl rfl | exact Or.inr rfl)) (pgs_cons (pg_name (i := 7) sc_Voter_init.nd rfl (by first | exact Or.inl rfl | exact Or.inr rfl)) pgs_nil)))))))
      (pss_cons (ps_fld (pv 0) (pv 4) rfl)
      (pss_cons (ps_fld (pv 0) (pv 5) rfl)
      (pss_cons (ps_fld (pv 0) (pv 6) rfl)
      (pss_cons (ps_fld (pv 0) (pv 7) rfl)
      (pss_cons (ps_fld (pv 0) (pe_lc (own := [("k", 8)]) rfl sc_Voter_init.nd (pi_range1 (by rfl) T.n_range (pa_cons (pv 3) pa_nil)) (blkOk_by (own := [("k", 8)]) (N := ["self", "settings", "start", "many", "threshold", "rate", "misses", "backs", "k"]) (sc := defScope s_Voter_init) (by decide +kernel)) (fun _ _ _ _ _ => (pg_name (i := 8) sc_Voter_init.nd rfl (by first | exact Or.inl rfl | exact Or.inr rfl))) (fun _ _ _ _ _ => pts_nil) (fun _ _ _ _ _ => (pe_make0 T.mk_Sensor G_Sensor_init (hr.mono (by decide)) rfl T.g_Sensor T.b_Sensor_init .nil pass0))) rfl)
      (pss_one (ps_fld (pv 0) (pv 2) rfl)))))))))
theorem ok_Voter_step {P : Program} {w : World} {K : PySem.W.Frag} {mg : Str → Option Value} {base : Heap} {A : Ads} (T : Txt K mg A) (G_moved : FnOk P w K mg base CX0 1 A.f_moved A.d_moved ["one", "goal", "most"] (sp_moved K A)) (G_Voter_wait : FnOk P w K mg base CX0 1 A.f_Voter_wait A.d_Voter_wait ["self", "one", "is_close"] (sp_Voter_wait K A)) (G_Voter_watch : FnOk P w K mg base CX0 1 A.f_Voter_watch A.d_Voter_watch ["self", "one", "is_close"] (sp_Voter_watch K A)) (G_Voter_is_close : FnOk P w K mg base CX0 1 A.f_Voter_is_close A.d_Voter_is_close ["self", "thing", "value"] (sp_Voter_is_close K A)) (G_Voter_word : FnOk P w K mg base CX0 2 A.f_Voter_word A.d_Voter_word ["self", "numbers", "value"] (sp_Voter_word K A)) (G_middle : FnOk P w K mg base CX0 1 A.f_middle A.d_middle ["numbers", "near"] (sp_middle K A)) (G_need_step : FnOk P w K mg base (L2N.CX P w) 1 A.f_need_step A.d_need_step ["values", "many"] (sp_need_step K A)) :
    FnOk P w K mg base (L2N.CX P w) 3 A.f_Voter_step A.d_Voter_step ["self", "values"] (sp_Voter_step K A) := by
  refine okN T.F_Voter_step sc_Voter_step (fun vs H Q E h => len_Voter_step h) (fun cdv _ outer s H vs Q E hr h => ⟨t_Voter_step K A E, ?_, pure_Voter_step T vs H Q E h⟩)
  exact (pss_cons (ps_expr (pe_call G_need_step (hr.mono (by decide)) rfl T.g_need_step T.F_need_step.kp T.b_need_step .nil (L2N.passes_call (L2N.takes_of rfl rfl rfl rfl) (fun _ _ _ _ h => h)) (pa_cons (pv 1) (pa_cons (pe_callB call_len_seq (by rfl) T.n_len PySem.boot_len (pa_cons (pe_fld (pv 0) rfl) pa_nil)) pa_nil))))
      (pss_cons (ps_setLc (i := 2) (own := [("place", 3), ("one", 4)]) rfl sc_Voter_step.nd rfl rfl (sw_true rfl rfl rfl (by decide +kernel)) (pi_enum (by rfl) T.n_enumerate (pa_cons (pe_fld (pv 0) rfl) pa_nil)) (blkOk_by (own := [("place", 3), ("one", 4)]) (N := ["self", "values", "numbers", "place", "one", "value", "word", "is_close"]) (sc := defScope s_Voter_step) (by decide +kernel)) (fun _ _ _ _ _ => (pg_tup (by rfl) (pgs_cons (pg_name (i := 3) sc_Voter_step.nd rfl (by first | exact Or.inl rfl | exact Or.inr rfl)) (pgs_cons (pg_name (i := 4) sc_Voter_step.nd rfl (by first | exact Or.inl rfl | exact Or.inr rfl)) pgs_nil)))) (fun _ _ _ _ _ => (pts_one (PW.pt (pw_and (pt_not (pt_val (pe_fld (pv 4) rfl))) (pw_and1 (pt_cmpR op_notN (pe_ix ix_list (pv 1) (pv 3) (fun _ _ => rfl)) pe_non (nomark _))))))) (fun _ _ _ _ _ => (pe_ix ix_list (pv 1) (pv 3) (fun _ _ => rfl))))
      (pss_cons (ps_asg (pe_fld (pv 0) rfl) (pg_name (i := 5) sc_Voter_step.nd rfl (by first | exact Or.inl rfl | exact Or.inr rfl)))
      (pss_cons (ps_if (pt_cmpR (op_neD hr.units) (pv 2) (pe_lst pa_nil) (nomark _)) (pss_one (ps_asg (pe_call G_middle (hr.mono (by decide)) rfl T.g_middle T.F_middle.kp T.b_middle .nil pass0 (pa_cons (pv 2) (pa_cons (pe_fld (pv 0) rfl) pa_nil))) (pg_name (i := 5) sc_Voter_step.nd rfl (by first | exact Or.inl rfl | exact Or.inr rfl)))) pss_nil)
      (pss_cons (ps_asg (pe_meth (pv 0) T.cl_Voter T.m_Voter_word G_Voter_word (hr.mono (by decide)) T.b_Voter_word .nil pass0 (pa_cons (pv 2) (pa_cons (pv 5) pa_nil))) (pg_name (i := 6) sc_Voter_step.nd rfl (by first | exact Or.inl rfl | exact Or.inr rfl)))
      (pss_cons (ps_for (passes_of rfl) rfl (pi_enum (by rfl) T.n_enumerate (pa_cons (pe_fld (pv 0) rfl) pa_nil)) (pg_tup (by rfl) (pgs_cons (pg_name (i := 3) sc_Voter_step.nd rfl (by first | exact Or.inl rfl | exact Or.inr rfl)) (pgs_cons (pg_name (i := 4) sc_Voter_step.nd rfl (by first | exact Or.inl rfl | exact Or.inr rfl)) pgs_nil))) (pss_cons (ps_asg (pe_meth (pv 0) T.cl_Voter T.m_Voter_is_close G_Voter_is_close (hr.mono (by decide)) T.b_Voter_is_close .nil pass0 (pa_cons (pe_ix ix_list (pv 1) (pv 3) (fun _ _ => rfl)) (pa_cons (pv 5) pa_nil))) (pg_name (i := 7) sc_Voter_step.nd rfl (by first | exact Or.inl rfl | exact Or.inr rfl)))
      (pss_one (ps_if (pt_val (pe_fld (pv 4) rfl)) (pss_one (ps_expr (pe_meth (pv 0) T.cl_Voter T.m_Voter_wait G_Voter_wait (hr.mono (by decide)) T.b_Voter_wait .nil pass0 (pa_cons (pv 4) (pa_cons (pe_and (pv 7) (pe_one (pe_cmpR (op_neD hr.units) (pv 2) (pe_lst pa_nil) (nomark _)))) pa_nil))))) (pss_one (ps_expr (pe_meth (pv 0) T.cl_Voter T.m_Voter_watch G_Voter_watch (hr.mono (by decide)) T.b_Voter_watch .nil pass0 (pa_cons (pv 4) (pa_cons (pv 7) pa_nil)))))))))
      (pss_cons (ps_fld (pv 0) (pe_call G_moved (hr.mono (by decide)) rfl T.g_moved T.F_moved.kp T.b_moved .nil pass0 (pa_cons (pe_fld (pv 0) rfl) (pa_cons (pv 5) (pa_cons (pe_fld (pv 0) rfl) pa_nil)))) rfl)
      (pss_one (ps_ret (pe_tup (pa_cons (pe_fld (pv 0) rfl) (pa_cons (pv 6) pa_nil))))))))))))
theorem ok_said {P : Program} {w : World} {K : PySem.W.Frag} {mg : Str → Option Value} {base : Heap} {A : Ads} (T : Txt K mg A) (G_number_of : FnOk P w K mg base (L2N.CX P w) 2 A.f_number_of A.d_number_of ["text"] (sp_number_of K A)) :
    FnOk P w K mg base (L2N.CX P w) 3 A.f_said A.d_said ["text"] (sp_said K A) := by
  refine okN T.F_said sc_said (fun vs H Q E h => len_said h) (fun cdv _ outer s H vs Q E hr h => ⟨t_said K A E, ?_, pure_said T vs H Q E h⟩)
  exact (pss_cons (ps_if (pt_cmpR op_eq (pv 0) pe_str (nomark _)) (pss_one (ps_ret pe_non)) pss_nil)
      (pss_one (ps_ret (pe_call G_number_of (hr.mono (by decide)) rfl T.g_number_of T.F_number_of.kp T.b_number_of .nil (L2N.passes_call (L2N.takes_of rfl rfl rfl rfl) (fun _ _ _ _ h => h)) (pa_cons (pv 0) pa_nil)))))
theorem ok_Desk_answer {P : Program} {w : World} {K : PySem.W.Frag} {mg : Str → Option Value} {base : Heap} {A : Ads} (T : Txt K mg A) (G_Voter_state : FnOk P w K mg base (L2N.CX P w) 2 A.f_Voter_state A.d_Voter_state ["self", "place"] (sp_Voter_state K A)) (G_Voter_count : FnOk P w K mg base (L2N.CX P w) 2 A.f_Voter_count A.d_Voter_count ["self", "place"] (sp_Voter_count K A)) (G_number_of : FnOk P w K mg base (L2N.CX P w) 2 A.f_number_of A.d_number_of ["text"] (sp_number_of K A)) (G_need : FnOk P w K mg base (L2N.CX P w) 1 A.f_need A.d_need ["good"] (sp_need K A)) (G_Voter_given : FnOk P w K mg base CX0 1 A.f_Voter_given A.d_Voter_given ["self"] (sp_Voter_given K A)) (G_said : FnOk P w K mg base (L2N.CX P w) 3 A.f_said A.d_said ["text"] (sp_said K A)) (G_Voter_step : FnOk P w K mg base (L2N.CX P w) 3 A.f_Voter_step A.d_Voter_step ["self", "values"] (sp_Voter_step K A)) (G_Voter_init : FnOk P w K mg base (L2N.CX P w) 3 A.f_Voter_init A.d_Voter_init ["self", "settings", "start"] (sp_Voter_init K A)) :
    FnOk P w K mg base (L2N.CX P w) 5 A.f_Desk_answer A.d_Desk_answer ["self", "line"] (sp_Desk_answer K A) := by
  refine okN T.F_Desk_answer sc_Desk_answer (fun vs H Q E h => len_Desk_answer h) (fun cdv _ outer s H vs Q E hr h => ⟨t_Desk_answer K A E, ?_, pure_Desk_answer T vs H Q E h⟩)
  exact (pss_cons (ps_asg (pe_split (pv 1) pe_str) (pg_name (i := 2) sc_Desk_answer.nd rfl (by first | exact Or.inl rfl | exact Or.inr rfl)))
      (pss_cons (ps_if (pt_cmpR op_eq (pe_ix ix_list (pv 2) pe_int (fun _ _ => rfl)) pe_str (nomark _)) (pss_cons (ps_expr (pe_call G_need (hr.mono (by decide)) rfl T.g_need T.F_need.kp T.b_need .nil (L2N.passes_call (L2N.takes_of rfl rfl rfl rfl) (fun _ _ _ _ h => h)) (pa_cons (pe_cmpR op_eq (pe_callB call_len_seq (by rfl) T.n_len PySem.boot_len (pa_cons (pv 2) pa_nil)) pe_int (nomark _)) pa_nil)))
      (pss_cons (ps_setLcX (i := 3) (own := [("word", 4)]) rfl rfl (L2N.takes_of rfl rfl rfl rfl) rfl sc_Desk_answer.nd rfl rfl (sw_true rfl rfl rfl (by decide +kernel)) (pi_list (pe_slice sl_list (pv 2) (po_some pe_int) po_none)) (blkOk_by (own := [("word", 4)]) (N := ["self", "line", "words", "numbers", "word", "found", "one", "place"]) (sc := defScope s_Desk_answer) (by decide +kernel)) (fun _ _ _ _ _ => (pg_name (i := 4) sc_Desk_answer.nd rfl (by first | exact Or.inl rfl | exact Or.inr rfl))) (fun _ _ _ _ _ => pts_nil) (fun _ _ _ _ _ => (pe_call G_number_of (hr.mono (by decide)) rfl T.g_number_of T.F_number_of.kp T.b_number_of .nil passBX (pa_cons (pv 4) pa_nil))))
      (pss_cons (ps_fld (pv 0) (pe_make T.mk_Voter G_Voter_init (hr.mono (by decide)) rfl T.g_Voter T.b_Voter_init .nil (L2N.passes_call (L2N.takes_of rfl rfl rfl rfl) (fun _ _ _ _ h => h)) (pa_cons (pe_callTy call_tuple_of (by rfl) T.n_tuple PyProof.Rows.boot_tuple (pa_cons (pe_slice sl_list (pv 3) po_none (po_some pe_int)) pa_nil)) (pa_cons (pe_ix ix_list (pv 3) pe_int (fun _ _ => rfl)) pa_nil))) rfl)
      (pss_cons (ps_fld (pv 0) (pe_ix ix_list (pv 3) pe_int (fun _ _ => rfl)) rfl)
      (pss_one (ps_ret pe_str)))))) pss_nil)
      (pss_cons (ps_expr (pe_call G_need (hr.mono (by decide)) rfl T.g_need T.F_need.kp T.b_need .nil (L2N.passes_call (L2N.takes_of rfl rfl rfl rfl) (fun _ _ _ _ h => h)) (pa_cons (pe_cmpR op_notN (pe_fld (pv 0) rfl) pe_non (nomark _)) pa_nil)))
      (pss_cons (ps_if (pt_cmpR op_eq (pe_ix ix_list (pv 2) pe_int (fun _ _ => rfl)) pe_str (nomark _)) (pss_cons (ps_expr (pe_call G_need (hr.mono (by decide)) rfl T.g_need T.F_need.kp T.b_need .nil (L2N.passes_call (L2N.takes_of rfl rfl rfl rfl) (fun _ _ _ _ h => h)) (pa_cons (pe_cmpR op_eq (pe_callB call_len_seq (by rfl) T.n_len PySem.boot_len (pa_cons (pv 2) pa_nil)) (pe_op op_add pe_int (pe_fld (pv 0) rfl)) (nomark _)) pa_nil)))
      (pss_cons (ps_asg (pe_meth (pe_fld (pv 0) rfl) T.cl_Voter T.m_Voter_step G_Voter_step (hr.mono (by decide)) T.b_Voter_step .nil (L2N.passes_call (L2N.takes_of rfl rfl rfl rfl) (fun _ _ _ _ h => h)) (pa_cons (pe_lcX (own := [("one", 6)]) rfl rfl (L2N.takes_of rfl rfl rfl rfl) rfl sc_Desk_answer.nd (pi_list (pe_slice sl_list (pv 2) (po_some pe_int) po_none)) (blkOk_by (own := [("one", 6)]) (N := ["self", "line", "words", "numbers", "word", "found", "one", "place"]) (sc := defScope s_Desk_answer) (by decide +kernel)) (fun _ _ _ _ _ => (pg_name (i := 6) sc_Desk_answer.nd rfl (by first | exact Or.inl rfl | exact Or.inr rfl))) (fun _ _ _ _ _ => pts_nil) (fun _ _ _ _ _ => (pe_call G_said (hr.mono (by decide)) rfl T.g_said T.F_said.kp T.b_said .nil passBX (pa_cons (pv 6) pa_nil)))) pa_nil)) (pg_tup (by rfl) (pgs_cons (pg_name (i := 5) sc_Desk_answer.nd rfl (by first | exact Or.inl rfl | exact Or.inr rfl)) (pgs_cons (pg_name (i := 4) sc_Desk_answer.nd rfl (by first | exact Or.inl rfl | exact Or.inr rfl)) pgs_nil))))
      (pss_one (ps_ret (pe_op op_add_str (pe_op op_add_str (pe_callTy call_str_int (by rfl) T.n_str PyProof.Rows.boot_str (pa_cons (pv 5) pa_nil)) pe_str) (pv 4)))))) pss_nil)
      (pss_cons (ps_if (pt_cmpR op_eq (pe_ix ix_list (pv 2) pe_int (fun _ _ => rfl)) pe_str (nomark _)) (pss_cons (ps_expr (pe_call G_need (hr.mono (by decide)) rfl T.g_need T.F_need.kp T.b_need .nil (L2N.passes_call (L2N.takes_of rfl rfl rfl rfl) (fun _ _ _ _ h => h)) (pa_cons (pe_cmpR op_eq (pe_callB call_len_seq (by rfl) T.n_len PySem.boot_len (pa_cons (pv 2) pa_nil)) pe_int (nomark _)) pa_nil)))
      (pss_one (ps_ret (pe_callTy call_str_int (by rfl) T.n_str PyProof.Rows.boot_str (pa_cons (pe_meth0 (pe_fld (pv 0) rfl) T.cl_Voter T.m_Voter_given G_Voter_given (hr.mono (by decide)) T.b_Voter_given .nil pass0) pa_nil))))) pss_nil)
      (pss_cons (ps_expr (pe_call G_need (hr.mono (by decide)) rfl T.g_need T.F_need.kp T.b_need .nil (L2N.passes_call (L2N.takes_of rfl rfl rfl rfl) (fun _ _ _ _ h => h)) (pa_cons (pe_and (pe_cmpR op_eq (pe_ix ix_list (pv 2) pe_int (fun _ _ => rfl)) pe_str (nomark _)) (pe_one (pe_cmpR op_eq (pe_callB call_len_seq (by rfl) T.n_len PySem.boot_len (pa_cons (pv 2) pa_nil)) pe_int (nomark _)))) pa_nil)))
      (pss_cons (ps_asg (pe_call G_number_of (hr.mono (by decide)) rfl T.g_number_of T.F_number_of.kp T.b_number_of .nil (L2N.passes_call (L2N.takes_of rfl rfl rfl rfl) (fun _ _ _ _ h => h)) (pa_cons (pe_ix ix_list (pv 2) pe_int (fun _ _ => rfl)) pa_nil)) (pg_name (i := 7) sc_Desk_answer.nd rfl (by first | exact Or.inl rfl | exact Or.inr rfl)))
      (pss_one (ps_ret (pe_op op_add_str (pe_op op_add_str (pe_meth (pe_fld (pv 0) rfl) T.cl_Voter T.m_Voter_state G_Voter_state (hr.mono (by decide)) T.b_Voter_state .nil (L2N.passes_call (L2N.takes_of rfl rfl rfl rfl) (fun _ _ _ _ h => h)) (pa_cons (pv 7) pa_nil)) pe_str) (pe_callTy call_str_int (by rfl) T.n_str PyProof.Rows.boot_str (pa_cons (pe_meth (pe_fld (pv 0) rfl) T.cl_Voter T.m_Voter_count G_Voter_count (hr.mono (by decide)) T.b_Voter_count .nil (L2N.passes_call (L2N.takes_of rfl rfl rfl rfl) (fun _ _ _ _ h => h)) (pa_cons (pv 7) pa_nil)) pa_nil))))))))))))
theorem ok_play {P : Program} {w : World} {K : PySem.W.Frag} {mg : Str → Option Value} {base : Heap} {A : Ads} (T : Txt K mg A) (G_Desk_answer : FnOk P w K mg base (L2N.CX P w) 5 A.f_Desk_answer A.d_Desk_answer ["self", "line"] (sp_Desk_answer K A)) (G_Desk_init : FnOk P w K mg base CX0 1 A.f_Desk_init A.d_Desk_init ["self"] (sp_Desk_init K A)) :
    FnOk P w K mg base CX0 6 A.f_play A.d_play ["text"] (sp_play K A) := by
  refine T.F_play.ok sc_play (fun vs H Q E h => len_play h) (fun cdv _ outer s H vs Q E hr h => ⟨t_play K A E, ?_, pure_play T vs H Q E h⟩)
  exact (pss_cons (ps_asg (pe_make0 T.mk_Desk G_Desk_init (hr.mono (by decide)) rfl T.g_Desk T.b_Desk_init .nil pass0) (pg_name (i := 1) sc_play.nd rfl (by first | exact Or.inl rfl | exact Or.inr rfl)))
      (pss_cons (ps_asg (pe_lst pa_nil) (pg_name (i := 2) sc_play.nd rfl (by first | exact Or.inl rfl | exact Or.inr rfl)))
      (pss_cons (ps_for PassesOwn.never rfl (pi_list (pe_split (pv 0) pe_str)) (pg_name (i := 3) sc_play.nd rfl (by first | exact Or.inl rfl | exact Or.inr rfl)) (pss_cons (ps_if (pt_cmpR op_eq (pe_m1 PySem.F.slot_str_strip PySem.F.type_str_strip mt_stripChars (pv 3) pe_str) pe_str (nomark _)) (pss_one ps_continue) pss_nil)
      (pss_one (L2N.ps_try_as (c := .ref A.c_VoteError) (i := 4) (Wout := fun _ _ _ _ => False) (tb := fun W => (tDrop (tBM K "list" rAppend (tVar 2) (tCons (tMethS A.c_Desk "answer" (sp_Desk_answer K A) [] (WE W) (tVar 1) (tCons (tVar 3) tNil)) tNil)))) (ts := tsX (wordE A) fun a w => (tDrop (tBM K "list" rAppend (tVar 2) (tCons (tOp oAddS (tC (.str "refused: ")) (tWordOf 4 a w)) tNil)))) rfl rfl sc_play.nd rfl rfl ⟨rfl, by decide, .inl T.g_VoteError⟩ takesN0 (fun W pn xe tkW _ => (pss_one (ps_expr (pe_bm PySem.F.plainAttrs_list PySem.F.slot_list_append PySem.F.type_list_append mt_append (pv 2) (pa_cons (pe_methS (E := WE W) (pv 1) T.cl_Desk T.m_Desk_answer G_Desk_answer (hr.mono (by decide)) T.b_Desk_answer .nil (fun σ => L2N.passAt tkW σ) (pa_cons (pv 3) pa_nil)) pa_nil))))) (fun a oe cls d pn hz hf => pss_tsX fun C w h1 h2 h3 => by subst h1 h2; exact (pss_one (ps_expr (pe_bm PySem.F.plainAttrs_list PySem.F.slot_list_append PySem.F.type_list_append mt_append (pv 2) (pa_cons (pe_op op_add_str pe_str (pe_callP (k := 2) hz hf (fun A0 outer s H args us Q q1 q2 q3 q4 q5 q6 q7 => ok_class_of T q1 q2 q3 q4 q5 q6 hz.zc hf h3 q7) (hr.mono (by decide)) rfl T.g_class_of T.F_class_of.kp T.b_class_of rfl (pv 4))) pa_nil)))))))))
      (pss_one (ps_ret (pv 2))))))
theorem ok_law {P : Program} {w : World} {K : PySem.W.Frag} {mg : Str → Option Value} {base : Heap} {A : Ads} (T : Txt K mg A) (G_play : FnOk P w K mg base CX0 6 A.f_play A.d_play ["text"] (sp_play K A)) (G_l_none : FnOk P w K mg base CX0 1 A.f_l_none A.d_l_none [] (sp_l_none K A)) (G_l_others : FnOk P w K mg base CX0 1 A.f_l_others A.d_l_others ["_law_is_there"] (sp_l_others K A)) (G_l_drawn : FnOk P w K mg base CX0 1 A.f_l_drawn A.d_l_drawn ["_law_cell_here", "_law_k"] (sp_l_drawn K A)) (G_l_cell : FnOk P w K mg base CX0 1 A.f_l_cell A.d_l_cell ["_law_script", "_law_k"] (sp_l_cell K A)) :
    FnOk P w K mg base CX0 7 A.f_law A.d_law ["_law_script"] (sp_law K A) := by
  refine T.F_law.ok sc_law (fun vs H Q E h => len_law h) (fun cdv _ outer s H vs Q E hr h => ⟨t_law K A E, ?_, pure_law T vs H Q E h⟩)
  exact (pss_cons (ps_asg (pe_call G_l_drawn (hr.mono (by decide)) rfl T.g_l_drawn T.F_l_drawn.kp T.b_l_drawn .nil pass0 (pa_cons (pe_call G_l_cell (hr.mono (by decide)) rfl T.g_l_cell T.F_l_cell.kp T.b_l_cell .nil pass0 (pa_cons (pv 0) (pa_cons pe_int pa_nil))) (pa_cons pe_int pa_nil))) (pg_name (i := 1) sc_law.nd rfl (by first | exact Or.inl rfl | exact Or.inr rfl)))
      (pss_cons (ps_asg (pe_cmpR op_eq (pe_op op_mod (pv 1) pe_int) pe_int (nomark _)) (pg_name (i := 2) sc_law.nd rfl (by first | exact Or.inl rfl | exact Or.inr rfl)))
      (pss_cons (ps_asg (pe_lst pa_nil) (pg_name (i := 3) sc_law.nd rfl (by first | exact Or.inl rfl | exact Or.inr rfl)))
      (pss_cons (ps_asg (pe_lst pa_nil) (pg_name (i := 4) sc_law.nd rfl (by first | exact Or.inl rfl | exact Or.inr rfl)))
      (pss_cons (ps_if (pt_val (pv 2)) (pss_cons (ps_asg (pe_lst (pa_cons pe_str (pa_cons pe_str pa_nil))) (pg_name (i := 3) sc_law.nd rfl (by first | exact Or.inl rfl | exact Or.inr rfl)))
      (pss_one (ps_asg (pe_lst (pa_cons pe_str (pa_cons pe_str pa_nil))) (pg_name (i := 4) sc_law.nd rfl (by first | exact Or.inl rfl | exact Or.inr rfl))))) pss_nil)
      (pss_cons (ps_for PassesOwn.never rfl (pi_range1 (by rfl) T.n_range (pa_cons (pe_callB (call_max2 rfl) (by rfl) T.n_max PyProof.Rows.boot_max (pa_cons pe_int (pa_cons (pe_callB (call_min2 rfl) (by rfl) T.n_min PyProof.Rows.boot_min (pa_cons pe_int (pa_cons (pe_callB call_len_seq (by rfl) T.n_len PySem.boot_len (pa_cons (pv 0) pa_nil)) pa_nil))) pa_nil))) pa_nil)) (pg_name (i := 5) sc_law.nd rfl (by first | exact Or.inl rfl | exact Or.inr rfl)) (pss_cons (ps_asg (pe_call G_l_drawn (hr.mono (by decide)) rfl T.g_l_drawn T.F_l_drawn.kp T.b_l_drawn .nil pass0 (pa_cons (pe_call G_l_cell (hr.mono (by decide)) rfl T.g_l_cell T.F_l_cell.kp T.b_l_cell .nil pass0 (pa_cons (pv 0) (pa_cons (pv 5) pa_nil))) (pa_cons (pe_op op_add (pv 5) pe_int) pa_nil))) (pg_name (i := 1) sc_law.nd rfl (by first | exact Or.inl rfl | exact Or.inr rfl)))
      (pss_cons (ps_asg (pe_call G_l_others (hr.mono (by decide)) rfl T.g_l_others T.F_l_others.kp T.b_l_others .nil pass0 (pa_cons (pv 2) pa_nil)) (pg_name (i := 6) sc_law.nd rfl (by first | exact Or.inl rfl | exact Or.inr rfl)))
      (pss_cons (ps_if (pt_cmpR op_eq (pe_op op_mod (pv 1) pe_int) pe_int (nomark _)) (pss_one (ps_setLc (i := 6) (own := [("_law_row", 7)]) rfl sc_law.nd rfl rfl (sw_true rfl rfl rfl (by decide +kernel)) (pi_list (pe_call0 G_l_none (hr.mono (by decide)) rfl T.g_l_none T.F_l_none.kp T.b_l_none .nil pass0)) (blkOk_by (own := [("_law_row", 7)]) (N := ["_law_script", "_law_more", "_law_is_there", "_law_lines", "_law_due", "_law_k", "_law_some", "_law_row", "_law_answer"]) (sc := defScope s_law) (by decide +kernel)) (fun _ _ _ _ _ => (pg_name (i := 7) sc_law.nd rfl (by first | exact Or.inl rfl | exact Or.inr rfl))) (fun _ _ _ _ _ => pts_nil) (fun _ _ _ _ _ => (pe_tup (pa_cons (pv 7) (pa_cons pe_str pa_nil)))))) pss_nil)
      (pss_cons (ps_asg (pe_ix ix_list (pv 6) (pe_op op_mod (pe_op op_fdivW (pv 1) pe_int) (pe_callB call_len_seq (by rfl) T.n_len PySem.boot_len (pa_cons (pv 6) pa_nil))) (fun _ _ => rfl)) (pg_tup (by rfl) (pgs_cons (pg_name (i := 7) sc_law.nd rfl (by first | exact Or.inl rfl | exact Or.inr rfl)) (pgs_cons (pg_name (i := 8) sc_law.nd rfl (by first | exact Or.inl rfl | exact Or.inr rfl)) pgs_nil))))
      (pss_cons (ps_expr (pe_bm PySem.F.plainAttrs_list PySem.F.slot_list_append PySem.F.type_list_append mt_append (pv 3) (pa_cons (pv 7) pa_nil)))
      (pss_cons (ps_expr (pe_bm PySem.F.plainAttrs_list PySem.F.slot_list_append PySem.F.type_list_append mt_append (pv 4) (pa_cons (pv 8) pa_nil)))
      (pss_one (ps_if (pt_cmpR op_eq (pe_op op_mod (pe_op op_fdivW (pv 1) pe_int) pe_int) pe_int (nomark _)) (pss_one (ps_expr (pe_bm PySem.F.plainAttrs_list PySem.F.slot_list_append PySem.F.type_list_append mt_append (pv 3) (pa_cons (pe_ix ix_list (pe_lst (pa_cons pe_str (pa_cons pe_str pa_nil))) (pe_op op_mod (pe_op op_fdivW (pv 1) (pe_op op_pow pe_int pe_int)) pe_int) (fun _ _ => rfl)) pa_nil)))) pss_nil)))))))))
      (pss_one (ps_ret (pe_cmpR (op_eqD hr.units) (pe_call G_play (hr.mono (by decide)) rfl T.g_play T.F_play.kp T.b_play .nil pass0 (pa_cons (pe_join pe_str (pv 3)) pa_nil)) (pv 4) (nomark _))))))))))
theorem ok_all {P : Program} {w : World} {K : PySem.W.Frag} {mg : Str → Option Value} {base : Heap} {A : Ads} (T : Txt K mg A) : FnOk P w K mg base CX0 7 A.f_law A.d_law ["_law_script"] (spL K) := by
  have G_middle := ok_middle (P := P) (w := w) (base := base) T 
  have G_moved := ok_moved (P := P) (w := w) (base := base) T 
  have G_agree := ok_agree (P := P) (w := w) (base := base) T 
  have G_need_settings := ok_need_settings (P := P) (w := w) (base := base) T 
  have G_need_step := ok_need_step (P := P) (w := w) (base := base) T 
  have G_Sensor_init := ok_Sensor_init (P := P) (w := w) (base := base) T 
  have G_Voter_given := ok_Voter_given (P := P) (w := w) (base := base) T 
  have G_Voter_sensor := ok_Voter_sensor (P := P) (w := w) (base := base) T 
  have G_Voter_is_close := ok_Voter_is_close (P := P) (w := w) (base := base) T 
  have G_Voter_watch := ok_Voter_watch (P := P) (w := w) (base := base) T 
  have G_Voter_wait := ok_Voter_wait (P := P) (w := w) (base := base) T 
  have G_need := ok_need (P := P) (w := w) (base := base) T 
  have G_Desk_init := ok_Desk_init (P := P) (w := w) (base := base) T 
  have G_l_cell := ok_l_cell (P := P) (w := w) (base := base) T 
  have G_l_drawn := ok_l_drawn (P := P) (w := w) (base := base) T 
  have G_l_none := ok_l_none (P := P) (w := w) (base := base) T 
  have G_l_others := ok_l_others (P := P) (w := w) (base := base) T 
  have G_Voter_state := ok_Voter_state (P := P) (w := w) (base := base) T G_Voter_sensor
  have G_Voter_count := ok_Voter_count (P := P) (w := w) (base := base) T G_Voter_sensor
  have G_Voter_word := ok_Voter_word (P := P) (w := w) (base := base) T G_agree
  have G_number_of := ok_number_of (P := P) (w := w) (base := base) T G_need
  have G_Voter_init := ok_Voter_init (P := P) (w := w) (base := base) T G_Sensor_init G_need_settings
  have G_Voter_step := ok_Voter_step (P := P) (w := w) (base := base) T G_moved G_Voter_wait G_Voter_watch G_Voter_is_close G_Voter_word G_middle G_need_step
  have G_said := ok_said (P := P) (w := w) (base := base) T G_number_of
  have G_Desk_answer := ok_Desk_answer (P := P) (w := w) (base := base) T G_Voter_state G_Voter_count G_number_of G_need G_Voter_given G_said G_Voter_step G_Voter_init
  have G_play := ok_play (P := P) (w := w) (base := base) T G_Desk_answer G_Desk_init
  have G_law := ok_law (P := P) (w := w) (base := base) T G_play G_l_none G_l_others G_l_drawn G_l_cell
  exact G_law
theorem fin_mk {P : Program} {w : World} {K : PySem.W.Frag} {h : Heap} {mg : Str → Option Value} {fa : Addr}
    {u_LEAST : Tok}
    {u_MOST : Tok}
    {u_MOST_THRESHOLD : Tok}
    {u_MOST_COUNT : Tok}
    {u_MOST_VALUE : Tok}
    {u_FIGURES : Tok}
    {u_MOST_FIGURES : Tok}
    {C_VoteError : Addr}
    {C_BadSettings : Addr}
    {C_BadStep : Addr}
    {C_NoSensor : Addr}
    {C_BadRow : Addr}
    {C_Sensor : Addr}
    {C_Voter : Addr}
    {C_Desk : Addr}
    {f_middle : Addr} {od_middle an_middle : Option Addr} {sl_middle : Array (Option Value)} {oc_middle kV_middle dc_middle pm_middle ct_middle : Value} {cd_middle : Value}
    {f_moved : Addr} {od_moved an_moved : Option Addr} {sl_moved : Array (Option Value)} {oc_moved kV_moved dc_moved pm_moved ct_moved : Value} {cd_moved : Value}
    {f_agree : Addr} {od_agree an_agree : Option Addr} {sl_agree : Array (Option Value)} {oc_agree kV_agree dc_agree pm_agree ct_agree : Value} {cd_agree : Value}
    {f_need_settings : Addr} {od_need_settings an_need_settings : Option Addr} {sl_need_settings : Array (Option Value)} {oc_need_settings kV_need_settings dc_need_settings pm_need_settings ct_need_settings : Value} {cd_need_settings : Value}
    {f_need_step : Addr} {od_need_step an_need_step : Option Addr} {sl_need_step : Array (Option Value)} {oc_need_step kV_need_step dc_need_step pm_need_step ct_need_step : Value} {cd_need_step : Value}
    {f_Sensor_init : Addr} {od_Sensor_init an_Sensor_init : Option Addr} {sl_Sensor_init : Array (Option Value)} {oc_Sensor_init kV_Sensor_init dc_Sensor_init pm_Sensor_init ct_Sensor_init : Value} {cd_Sensor_init : Value}
    {f_Voter_init : Addr} {od_Voter_init an_Voter_init : Option Addr} {sl_Voter_init : Array (Option Value)} {oc_Voter_init kV_Voter_init dc_Voter_init pm_Voter_init ct_Voter_init : Value} {cd_Voter_init : Value}
    {f_Voter_given : Addr} {od_Voter_given an_Voter_given : Option Addr} {sl_Voter_given : Array (Option Value)} {oc_Voter_given kV_Voter_given dc_Voter_given pm_Voter_given ct_Voter_given : Value} {cd_Voter_given : Value}
    {f_Voter_sensor : Addr} {od_Voter_sensor an_Voter_sensor : Option Addr} {sl_Voter_sensor : Array (Option Value)} {oc_Voter_sensor kV_Voter_sensor dc_Voter_sensor pm_Voter_sensor ct_Voter_sensor : Value} {cd_Voter_sensor : Value}
    {f_Voter_state : Addr} {od_Voter_state an_Voter_state : Option Addr} {sl_Voter_state : Array (Option Value)} {oc_Voter_state kV_Voter_state dc_Voter_state pm_Voter_state ct_Voter_state : Value} {cd_Voter_state : Value}
    {f_Voter_count : Addr} {od_Voter_count an_Voter_count : Option Addr} {sl_Voter_count : Array (Option Value)} {oc_Voter_count kV_Voter_count dc_Voter_count pm_Voter_count ct_Voter_count : Value} {cd_Voter_count : Value}
    {f_Voter_word : Addr} {od_Voter_word an_Voter_word : Option Addr} {sl_Voter_word : Array (Option Value)} {oc_Voter_word kV_Voter_word dc_Voter_word pm_Voter_word ct_Voter_word : Value} {cd_Voter_word : Value}
    {f_Voter_is_close : Addr} {od_Voter_is_close an_Voter_is_close : Option Addr} {sl_Voter_is_close : Array (Option Value)} {oc_Voter_is_close kV_Voter_is_close dc_Voter_is_close pm_Voter_is_close ct_Voter_is_close : Value} {cd_Voter_is_close : Value}
    {f_Voter_watch : Addr} {od_Voter_watch an_Voter_watch : Option Addr} {sl_Voter_watch : Array (Option Value)} {oc_Voter_watch kV_Voter_watch dc_Voter_watch pm_Voter_watch ct_Voter_watch : Value} {cd_Voter_watch : Value}
    {f_Voter_wait : Addr} {od_Voter_wait an_Voter_wait : Option Addr} {sl_Voter_wait : Array (Option Value)} {oc_Voter_wait kV_Voter_wait dc_Voter_wait pm_Voter_wait ct_Voter_wait : Value} {cd_Voter_wait : Value}
    {f_Voter_step : Addr} {od_Voter_step an_Voter_step : Option Addr} {sl_Voter_step : Array (Option Value)} {oc_Voter_step kV_Voter_step dc_Voter_step pm_Voter_step ct_Voter_step : Value} {cd_Voter_step : Value}
    {f_need : Addr} {od_need an_need : Option Addr} {sl_need : Array (Option Value)} {oc_need kV_need dc_need pm_need ct_need : Value} {cd_need : Value}
    {f_number_of : Addr} {od_number_of an_number_of : Option Addr} {sl_number_of : Array (Option Value)} {oc_number_of kV_number_of dc_number_of pm_number_of ct_number_of : Value} {cd_number_of : Value}
    {f_said : Addr} {od_said an_said : Option Addr} {sl_said : Array (Option Value)} {oc_said kV_said dc_said pm_said ct_said : Value} {cd_said : Value}
    {f_Desk_init : Addr} {od_Desk_init an_Desk_init : Option Addr} {sl_Desk_init : Array (Option Value)} {oc_Desk_init kV_Desk_init dc_Desk_init pm_Desk_init ct_Desk_init : Value} {cd_Desk_init : Value}
    {f_Desk_answer : Addr} {od_Desk_answer an_Desk_answer : Option Addr} {sl_Desk_answer : Array (Option Value)} {oc_Desk_answer kV_Desk_answer dc_Desk_answer pm_Desk_answer ct_Desk_answer : Value} {cd_Desk_answer : Value}
    {f_class_of : Addr} {od_class_of an_class_of : Option Addr} {sl_class_of : Array (Option Value)} {oc_class_of kV_class_of dc_class_of pm_class_of ct_class_of : Value} {cd_class_of : Value}
    {f_play : Addr} {od_play an_play : Option Addr} {sl_play : Array (Option Value)} {oc_play kV_play dc_play pm_play ct_play : Value} {cd_play : Value}
    {f_l_cell : Addr} {od_l_cell an_l_cell : Option Addr} {sl_l_cell : Array (Option Value)} {oc_l_cell kV_l_cell dc_l_cell pm_l_cell ct_l_cell : Value} {cd_l_cell : Value}
    {f_l_drawn : Addr} {od_l_drawn an_l_drawn : Option Addr} {sl_l_drawn : Array (Option Value)} {oc_l_drawn kV_l_drawn dc_l_drawn pm_l_drawn ct_l_drawn : Value} {cd_l_drawn : Value}
    {f_l_none : Addr} {od_l_none an_l_none : Option Addr} {sl_l_none : Array (Option Value)} {oc_l_none kV_l_none dc_l_none pm_l_none ct_l_none : Value} {cd_l_none : Value}
    {f_l_others : Addr} {od_l_others an_l_others : Option Addr} {sl_l_others : Array (Option Value)} {oc_l_others kV_l_others dc_l_others pm_l_others ct_l_others : Value} {cd_l_others : Value}
    {f_law : Addr} {od_law an_law : Option Addr} {sl_law : Array (Option Value)} {oc_law kV_law dc_law pm_law ct_law : Value} {cd_law : Value}
    (X : K.In h) (G : h.Ns mainGlobals mg) (hfa : mg "law" = some (.ref fa))
    (n_ValueError : PySem.W.nsIn K mainGlobals "ValueError" = some none)
    (n_abs : PySem.W.nsIn K mainGlobals "abs" = some none)
    (n_all : PySem.W.nsIn K mainGlobals "all" = some none)
    (n_enumerate : PySem.W.nsIn K mainGlobals "enumerate" = some none)
    (n_int : PySem.W.nsIn K mainGlobals "int" = some none)
    (n_isinstance : PySem.W.nsIn K mainGlobals "isinstance" = some none)
    (n_len : PySem.W.nsIn K mainGlobals "len" = some none)
    (n_max : PySem.W.nsIn K mainGlobals "max" = some none)
    (n_min : PySem.W.nsIn K mainGlobals "min" = some none)
    (n_range : PySem.W.nsIn K mainGlobals "range" = some none)
    (n_sorted : PySem.W.nsIn K mainGlobals "sorted" = some none)
    (n_str : PySem.W.nsIn K mainGlobals "str" = some none)
    (n_tuple : PySem.W.nsIn K mainGlobals "tuple" = some none)
    (c_LEAST : PySem.W.nsIn K mainGlobals "LEAST" = some (some (.int 3 u_LEAST)))
    (c_MOST : PySem.W.nsIn K mainGlobals "MOST" = some (some (.int 9 u_MOST)))
    (c_MOST_THRESHOLD : PySem.W.nsIn K mainGlobals "MOST_THRESHOLD" = some (some (.int 1000000 u_MOST_THRESHOLD)))
    (c_MOST_COUNT : PySem.W.nsIn K mainGlobals "MOST_COUNT" = some (some (.int 1000 u_MOST_COUNT)))
    (c_MOST_VALUE : PySem.W.nsIn K mainGlobals "MOST_VALUE" = some (some (.int 1000000000 u_MOST_VALUE)))
    (c_FIGURES : PySem.W.nsIn K mainGlobals "FIGURES" = some (some (.str "0123456789" u_FIGURES)))
    (c_MOST_FIGURES : PySem.W.nsIn K mainGlobals "MOST_FIGURES" = some (some (.int 10 u_MOST_FIGURES)))
    (g_VoteError : PySem.W.nsIn K mainGlobals "VoteError" = some (some (.ref C_VoteError)))
    (g_BadSettings : PySem.W.nsIn K mainGlobals "BadSettings" = some (some (.ref C_BadSettings)))
    (g_BadStep : PySem.W.nsIn K mainGlobals "BadStep" = some (some (.ref C_BadStep)))
    (g_NoSensor : PySem.W.nsIn K mainGlobals "NoSensor" = some (some (.ref C_NoSensor)))
    (g_BadRow : PySem.W.nsIn K mainGlobals "BadRow" = some (some (.ref C_BadRow)))
    (g_Sensor : PySem.W.nsIn K mainGlobals "Sensor" = some (some (.ref C_Sensor)))
    (g_Voter : PySem.W.nsIn K mainGlobals "Voter" = some (some (.ref C_Voter)))
    (g_Desk : PySem.W.nsIn K mainGlobals "Desk" = some (some (.ref C_Desk)))
    (x_VoteError : PySem.W.excIn K C_VoteError [.type "ValueError", .type "Exception", .type "BaseException", .type "object"] "ValueError.__new__" = true)
    (k_VoteError : PySem.W.keepIn K (.ref C_VoteError) = true)
    (xb_VoteError : PySem.W.subIn K (.ref C_VoteError) (.type "BaseException") = some true)
    (xt_VoteError : PySem.W.typeIn K (.ref C_VoteError) = some (.type "type"))
    (xi_VoteError : PySem.W.isClsIn K C_VoteError = true)
    (xd_VoteError : PySem.W.hasDictIn K C_VoteError = true)
    (xs_VoteError_VoteError : PySem.W.subIn K (.ref C_VoteError) (.ref C_VoteError) = some true)
    (xs_VoteError_BadSettings : PySem.W.subIn K (.ref C_VoteError) (.ref C_BadSettings) = some false)
    (xs_VoteError_BadStep : PySem.W.subIn K (.ref C_VoteError) (.ref C_BadStep) = some false)
    (xs_VoteError_NoSensor : PySem.W.subIn K (.ref C_VoteError) (.ref C_NoSensor) = some false)
    (xs_VoteError_BadRow : PySem.W.subIn K (.ref C_VoteError) (.ref C_BadRow) = some false)
    (x_BadSettings : PySem.W.excIn K C_BadSettings [.type "ValueError", .type "Exception", .type "BaseException", .type "object"] "ValueError.__new__" = true)
    (k_BadSettings : PySem.W.keepIn K (.ref C_BadSettings) = true)
    (xb_BadSettings : PySem.W.subIn K (.ref C_BadSettings) (.type "BaseException") = some true)
    (xt_BadSettings : PySem.W.typeIn K (.ref C_BadSettings) = some (.type "type"))
    (xi_BadSettings : PySem.W.isClsIn K C_BadSettings = true)
    (xd_BadSettings : PySem.W.hasDictIn K C_BadSettings = true)
    (eg_BadSettings : PySem.W.findIn K (.ref C_BadSettings) "__getattribute__" = some (some (.builtin "BaseException.__getattribute__")))
    (ek_BadSettings : PySem.W.findIn K (.ref C_BadSettings) "__getattr__" = some none)
    (ea_BadSettings : PySem.W.findIn K (.ref C_BadSettings) "__class__" = some (some (.builtin "object.__class__")))
    (em_BadSettings : PySem.W.mroIn K C_BadSettings (.type "object") = some true)
    (en_ : PySem.W.specialIn K (.builtin "object.__class__") "__get__" = some (some (.builtin "getset_descriptor.__get__")))
    (et_ : PySem.W.takesIn K (.builtin "object.__class__") = some true)
    (kv_BadSettings : PySem.W.kitOne K (.ref C_BadSettings) (.type "ValueError") = some true)
    (ki_BadSettings_BadSettings : PySem.W.kitOne K (.ref C_BadSettings) (.ref C_BadSettings) = some true)
    (ki_BadSettings_BadStep : PySem.W.kitOne K (.ref C_BadSettings) (.ref C_BadStep) = some false)
    (ki_BadSettings_NoSensor : PySem.W.kitOne K (.ref C_BadSettings) (.ref C_NoSensor) = some false)
    (ki_BadSettings_BadRow : PySem.W.kitOne K (.ref C_BadSettings) (.ref C_BadRow) = some false)
    (xs_BadSettings_VoteError : PySem.W.subIn K (.ref C_BadSettings) (.ref C_VoteError) = some true)
    (xs_BadSettings_BadSettings : PySem.W.subIn K (.ref C_BadSettings) (.ref C_BadSettings) = some true)
    (xs_BadSettings_BadStep : PySem.W.subIn K (.ref C_BadSettings) (.ref C_BadStep) = some false)
    (xs_BadSettings_NoSensor : PySem.W.subIn K (.ref C_BadSettings) (.ref C_NoSensor) = some false)
    (xs_BadSettings_BadRow : PySem.W.subIn K (.ref C_BadSettings) (.ref C_BadRow) = some false)
    (x_BadStep : PySem.W.excIn K C_BadStep [.type "ValueError", .type "Exception", .type "BaseException", .type "object"] "ValueError.__new__" = true)
    (k_BadStep : PySem.W.keepIn K (.ref C_BadStep) = true)
    (xb_BadStep : PySem.W.subIn K (.ref C_BadStep) (.type "BaseException") = some true)
    (xt_BadStep : PySem.W.typeIn K (.ref C_BadStep) = some (.type "type"))
    (xi_BadStep : PySem.W.isClsIn K C_BadStep = true)
    (xd_BadStep : PySem.W.hasDictIn K C_BadStep = true)
    (eg_BadStep : PySem.W.findIn K (.ref C_BadStep) "__getattribute__" = some (some (.builtin "BaseException.__getattribute__")))
    (ek_BadStep : PySem.W.findIn K (.ref C_BadStep) "__getattr__" = some none)
    (ea_BadStep : PySem.W.findIn K (.ref C_BadStep) "__class__" = some (some (.builtin "object.__class__")))
    (em_BadStep : PySem.W.mroIn K C_BadStep (.type "object") = some true)
    (kv_BadStep : PySem.W.kitOne K (.ref C_BadStep) (.type "ValueError") = some true)
    (ki_BadStep_BadSettings : PySem.W.kitOne K (.ref C_BadStep) (.ref C_BadSettings) = some false)
    (ki_BadStep_BadStep : PySem.W.kitOne K (.ref C_BadStep) (.ref C_BadStep) = some true)
    (ki_BadStep_NoSensor : PySem.W.kitOne K (.ref C_BadStep) (.ref C_NoSensor) = some false)
    (ki_BadStep_BadRow : PySem.W.kitOne K (.ref C_BadStep) (.ref C_BadRow) = some false)
    (xs_BadStep_VoteError : PySem.W.subIn K (.ref C_BadStep) (.ref C_VoteError) = some true)
    (xs_BadStep_BadSettings : PySem.W.subIn K (.ref C_BadStep) (.ref C_BadSettings) = some false)
    (xs_BadStep_BadStep : PySem.W.subIn K (.ref C_BadStep) (.ref C_BadStep) = some true)
    (xs_BadStep_NoSensor : PySem.W.subIn K (.ref C_BadStep) (.ref C_NoSensor) = some false)
    (xs_BadStep_BadRow : PySem.W.subIn K (.ref C_BadStep) (.ref C_BadRow) = some false)
    (x_NoSensor : PySem.W.excIn K C_NoSensor [.type "ValueError", .type "Exception", .type "BaseException", .type "object"] "ValueError.__new__" = true)
    (k_NoSensor : PySem.W.keepIn K (.ref C_NoSensor) = true)
    (xb_NoSensor : PySem.W.subIn K (.ref C_NoSensor) (.type "BaseException") = some true)
    (xt_NoSensor : PySem.W.typeIn K (.ref C_NoSensor) = some (.type "type"))
    (xi_NoSensor : PySem.W.isClsIn K C_NoSensor = true)
    (xd_NoSensor : PySem.W.hasDictIn K C_NoSensor = true)
    (eg_NoSensor : PySem.W.findIn K (.ref C_NoSensor) "__getattribute__" = some (some (.builtin "BaseException.__getattribute__")))
    (ek_NoSensor : PySem.W.findIn K (.ref C_NoSensor) "__getattr__" = some none)
    (ea_NoSensor : PySem.W.findIn K (.ref C_NoSensor) "__class__" = some (some (.builtin "object.__class__")))
    (em_NoSensor : PySem.W.mroIn K C_NoSensor (.type "object") = some true)
    (kv_NoSensor : PySem.W.kitOne K (.ref C_NoSensor) (.type "ValueError") = some true)
    (ki_NoSensor_BadSettings : PySem.W.kitOne K (.ref C_NoSensor) (.ref C_BadSettings) = some false)
    (ki_NoSensor_BadStep : PySem.W.kitOne K (.ref C_NoSensor) (.ref C_BadStep) = some false)
    (ki_NoSensor_NoSensor : PySem.W.kitOne K (.ref C_NoSensor) (.ref C_NoSensor) = some true)
    (ki_NoSensor_BadRow : PySem.W.kitOne K (.ref C_NoSensor) (.ref C_BadRow) = some false)
    (xs_NoSensor_VoteError : PySem.W.subIn K (.ref C_NoSensor) (.ref C_VoteError) = some true)
    (xs_NoSensor_BadSettings : PySem.W.subIn K (.ref C_NoSensor) (.ref C_BadSettings) = some false)
    (xs_NoSensor_BadStep : PySem.W.subIn K (.ref C_NoSensor) (.ref C_BadStep) = some false)
    (xs_NoSensor_NoSensor : PySem.W.subIn K (.ref C_NoSensor) (.ref C_NoSensor) = some true)
    (xs_NoSensor_BadRow : PySem.W.subIn K (.ref C_NoSensor) (.ref C_BadRow) = some false)
    (x_BadRow : PySem.W.excIn K C_BadRow [.type "ValueError", .type "Exception", .type "BaseException", .type "object"] "ValueError.__new__" = true)
    (k_BadRow : PySem.W.keepIn K (.ref C_BadRow) = true)
    (xb_BadRow : PySem.W.subIn K (.ref C_BadRow) (.type "BaseException") = some true)
    (xt_BadRow : PySem.W.typeIn K (.ref C_BadRow) = some (.type "type"))
    (xi_BadRow : PySem.W.isClsIn K C_BadRow = true)
    (xd_BadRow : PySem.W.hasDictIn K C_BadRow = true)
    (eg_BadRow : PySem.W.findIn K (.ref C_BadRow) "__getattribute__" = some (some (.builtin "BaseException.__getattribute__")))
    (ek_BadRow : PySem.W.findIn K (.ref C_BadRow) "__getattr__" = some none)
    (ea_BadRow : PySem.W.findIn K (.ref C_BadRow) "__class__" = some (some (.builtin "object.__class__")))
    (em_BadRow : PySem.W.mroIn K C_BadRow (.type "object") = some true)
    (kv_BadRow : PySem.W.kitOne K (.ref C_BadRow) (.type "ValueError") = some true)
    (ki_BadRow_BadSettings : PySem.W.kitOne K (.ref C_BadRow) (.ref C_BadSettings) = some false)
    (ki_BadRow_BadStep : PySem.W.kitOne K (.ref C_BadRow) (.ref C_BadStep) = some false)
    (ki_BadRow_NoSensor : PySem.W.kitOne K (.ref C_BadRow) (.ref C_NoSensor) = some false)
    (ki_BadRow_BadRow : PySem.W.kitOne K (.ref C_BadRow) (.ref C_BadRow) = some true)
    (xs_BadRow_VoteError : PySem.W.subIn K (.ref C_BadRow) (.ref C_VoteError) = some true)
    (xs_BadRow_BadSettings : PySem.W.subIn K (.ref C_BadRow) (.ref C_BadSettings) = some false)
    (xs_BadRow_BadStep : PySem.W.subIn K (.ref C_BadRow) (.ref C_BadStep) = some false)
    (xs_BadRow_NoSensor : PySem.W.subIn K (.ref C_BadRow) (.ref C_NoSensor) = some false)
    (xs_BadRow_BadRow : PySem.W.subIn K (.ref C_BadRow) (.ref C_BadRow) = some true)
    (pg_Sensor : PySem.W.plainGet K C_Sensor Str.empty = true)
    (hd_Sensor : PySem.W.hasDictIn K C_Sensor = true)
    (po_Sensor : PySem.W.plainOver K C_Sensor = true)
    (sa_Sensor : PySem.W.findIn K (.ref C_Sensor) "__setattr__" = some (some (.builtin "object.__setattr__")))
    (mk_Sensor : PySem.W.makesIn K C_Sensor = true)
    (kc_Sensor : PySem.W.keepIn K (.ref C_Sensor) = true)
    (na_Sensor_is_out : PySem.W.findIn K (.ref C_Sensor) "is_out" = some none)
    (na_Sensor_many : PySem.W.findIn K (.ref C_Sensor) "many" = some none)
    (pg_Voter : PySem.W.plainGet K C_Voter Str.empty = true)
    (hd_Voter : PySem.W.hasDictIn K C_Voter = true)
    (po_Voter : PySem.W.plainOver K C_Voter = true)
    (sa_Voter : PySem.W.findIn K (.ref C_Voter) "__setattr__" = some (some (.builtin "object.__setattr__")))
    (mk_Voter : PySem.W.makesIn K C_Voter = true)
    (kc_Voter : PySem.W.keepIn K (.ref C_Voter) = true)
    (na_Voter_threshold : PySem.W.findIn K (.ref C_Voter) "threshold" = some none)
    (na_Voter_rate : PySem.W.findIn K (.ref C_Voter) "rate" = some none)
    (na_Voter_misses : PySem.W.findIn K (.ref C_Voter) "misses" = some none)
    (na_Voter_backs : PySem.W.findIn K (.ref C_Voter) "backs" = some none)
    (na_Voter_sensors : PySem.W.findIn K (.ref C_Voter) "sensors" = some none)
    (na_Voter_last : PySem.W.findIn K (.ref C_Voter) "last" = some none)
    (pg_Desk : PySem.W.plainGet K C_Desk Str.empty = true)
    (hd_Desk : PySem.W.hasDictIn K C_Desk = true)
    (po_Desk : PySem.W.plainOver K C_Desk = true)
    (sa_Desk : PySem.W.findIn K (.ref C_Desk) "__setattr__" = some (some (.builtin "object.__setattr__")))
    (mk_Desk : PySem.W.makesIn K C_Desk = true)
    (kc_Desk : PySem.W.keepIn K (.ref C_Desk) = true)
    (na_Desk_voter : PySem.W.findIn K (.ref C_Desk) "voter" = some none)
    (na_Desk_many : PySem.W.findIn K (.ref C_Desk) "many" = some none)
    (a_middle : PySem.W.nsIn K mainGlobals "middle" = some (some (.ref f_middle)))
    (l_middle : K.lookup f_middle = some ⟨oc_middle, od_middle, .func (PySem.W.fnOf "middle" "middle" (defArgs s_middle) (defBody s_middle) (defScope s_middle) .none kV_middle dc_middle pm_middle an_middle cd_middle ct_middle), sl_middle⟩)
    (o_middle : PySem.W.codeIn K cd_middle "middle" = true)
    (k_middle : PySem.W.keepIn K (.ref f_middle) = true)
    (a_moved : PySem.W.nsIn K mainGlobals "moved" = some (some (.ref f_moved)))
    (l_moved : K.lookup f_moved = some ⟨oc_moved, od_moved, .func (PySem.W.fnOf "moved" "moved" (defArgs s_moved) (defBody s_moved) (defScope s_moved) .none kV_moved dc_moved pm_moved an_moved cd_moved ct_moved), sl_moved⟩)
    (o_moved : PySem.W.codeIn K cd_moved "moved" = true)
    (k_moved : PySem.W.keepIn K (.ref f_moved) = true)
    (a_agree : PySem.W.nsIn K mainGlobals "agree" = some (some (.ref f_agree)))
    (l_agree : K.lookup f_agree = some ⟨oc_agree, od_agree, .func (PySem.W.fnOf "agree" "agree" (defArgs s_agree) (defBody s_agree) (defScope s_agree) .none kV_agree dc_agree pm_agree an_agree cd_agree ct_agree), sl_agree⟩)
    (o_agree : PySem.W.codeIn K cd_agree "agree" = true)
    (k_agree : PySem.W.keepIn K (.ref f_agree) = true)
    (a_need_settings : PySem.W.nsIn K mainGlobals "need_settings" = some (some (.ref f_need_settings)))
    (l_need_settings : K.lookup f_need_settings = some ⟨oc_need_settings, od_need_settings, .func (PySem.W.fnOf "need_settings" "need_settings" (defArgs s_need_settings) (defBody s_need_settings) (defScope s_need_settings) .none kV_need_settings dc_need_settings pm_need_settings an_need_settings cd_need_settings ct_need_settings), sl_need_settings⟩)
    (o_need_settings : PySem.W.codeIn K cd_need_settings "need_settings" = true)
    (k_need_settings : PySem.W.keepIn K (.ref f_need_settings) = true)
    (a_need_step : PySem.W.nsIn K mainGlobals "need_step" = some (some (.ref f_need_step)))
    (l_need_step : K.lookup f_need_step = some ⟨oc_need_step, od_need_step, .func (PySem.W.fnOf "need_step" "need_step" (defArgs s_need_step) (defBody s_need_step) (defScope s_need_step) .none kV_need_step dc_need_step pm_need_step an_need_step cd_need_step ct_need_step), sl_need_step⟩)
    (o_need_step : PySem.W.codeIn K cd_need_step "need_step" = true)
    (k_need_step : PySem.W.keepIn K (.ref f_need_step) = true)
    (a_Sensor_init : PySem.W.findIn K (.ref C_Sensor) "__init__" = some (some (.ref f_Sensor_init)))
    (i_Sensor_init : PySem.W.isFn K (.ref f_Sensor_init) = true)
    (l_Sensor_init : K.lookup f_Sensor_init = some ⟨oc_Sensor_init, od_Sensor_init, .func (PySem.W.fnOf "__init__" "Sensor.__init__" (defArgs s_Sensor_init) (defBody s_Sensor_init) (defScope s_Sensor_init) .none kV_Sensor_init dc_Sensor_init pm_Sensor_init an_Sensor_init cd_Sensor_init ct_Sensor_init), sl_Sensor_init⟩)
    (o_Sensor_init : PySem.W.codeIn K cd_Sensor_init "Sensor.__init__" = true)
    (k_Sensor_init : PySem.W.keepIn K (.ref f_Sensor_init) = true)
    (a_Voter_init : PySem.W.findIn K (.ref C_Voter) "__init__" = some (some (.ref f_Voter_init)))
    (i_Voter_init : PySem.W.isFn K (.ref f_Voter_init) = true)
    (l_Voter_init : K.lookup f_Voter_init = some ⟨oc_Voter_init, od_Voter_init, .func (PySem.W.fnOf "__init__" "Voter.__init__" (defArgs s_Voter_init) (defBody s_Voter_init) (defScope s_Voter_init) .none kV_Voter_init dc_Voter_init pm_Voter_init an_Voter_init cd_Voter_init ct_Voter_init), sl_Voter_init⟩)
    (o_Voter_init : PySem.W.codeIn K cd_Voter_init "Voter.__init__" = true)
    (k_Voter_init : PySem.W.keepIn K (.ref f_Voter_init) = true)
    (a_Voter_given : PySem.W.findIn K (.ref C_Voter) "given" = some (some (.ref f_Voter_given)))
    (i_Voter_given : PySem.W.isFn K (.ref f_Voter_given) = true)
    (l_Voter_given : K.lookup f_Voter_given = some ⟨oc_Voter_given, od_Voter_given, .func (PySem.W.fnOf "given" "Voter.given" (defArgs s_Voter_given) (defBody s_Voter_given) (defScope s_Voter_given) .none kV_Voter_given dc_Voter_given pm_Voter_given an_Voter_given cd_Voter_given ct_Voter_given), sl_Voter_given⟩)
    (o_Voter_given : PySem.W.codeIn K cd_Voter_given "Voter.given" = true)
    (k_Voter_given : PySem.W.keepIn K (.ref f_Voter_given) = true)
    (a_Voter_sensor : PySem.W.findIn K (.ref C_Voter) "sensor" = some (some (.ref f_Voter_sensor)))
    (i_Voter_sensor : PySem.W.isFn K (.ref f_Voter_sensor) = true)
    (l_Voter_sensor : K.lookup f_Voter_sensor = some ⟨oc_Voter_sensor, od_Voter_sensor, .func (PySem.W.fnOf "sensor" "Voter.sensor" (defArgs s_Voter_sensor) (defBody s_Voter_sensor) (defScope s_Voter_sensor) .none kV_Voter_sensor dc_Voter_sensor pm_Voter_sensor an_Voter_sensor cd_Voter_sensor ct_Voter_sensor), sl_Voter_sensor⟩)
    (o_Voter_sensor : PySem.W.codeIn K cd_Voter_sensor "Voter.sensor" = true)
    (k_Voter_sensor : PySem.W.keepIn K (.ref f_Voter_sensor) = true)
    (a_Voter_state : PySem.W.findIn K (.ref C_Voter) "state" = some (some (.ref f_Voter_state)))
    (i_Voter_state : PySem.W.isFn K (.ref f_Voter_state) = true)
    (l_Voter_state : K.lookup f_Voter_state = some ⟨oc_Voter_state, od_Voter_state, .func (PySem.W.fnOf "state" "Voter.state" (defArgs s_Voter_state) (defBody s_Voter_state) (defScope s_Voter_state) .none kV_Voter_state dc_Voter_state pm_Voter_state an_Voter_state cd_Voter_state ct_Voter_state), sl_Voter_state⟩)
    (o_Voter_state : PySem.W.codeIn K cd_Voter_state "Voter.state" = true)
    (k_Voter_state : PySem.W.keepIn K (.ref f_Voter_state) = true)
    (a_Voter_count : PySem.W.findIn K (.ref C_Voter) "count" = some (some (.ref f_Voter_count)))
    (i_Voter_count : PySem.W.isFn K (.ref f_Voter_count) = true)
    (l_Voter_count : K.lookup f_Voter_count = some ⟨oc_Voter_count, od_Voter_count, .func (PySem.W.fnOf "count" "Voter.count" (defArgs s_Voter_count) (defBody s_Voter_count) (defScope s_Voter_count) .none kV_Voter_count dc_Voter_count pm_Voter_count an_Voter_count cd_Voter_count ct_Voter_count), sl_Voter_count⟩)
    (o_Voter_count : PySem.W.codeIn K cd_Voter_count "Voter.count" = true)
    (k_Voter_count : PySem.W.keepIn K (.ref f_Voter_count) = true)
    (a_Voter_word : PySem.W.findIn K (.ref C_Voter) "word" = some (some (.ref f_Voter_word)))
    (i_Voter_word : PySem.W.isFn K (.ref f_Voter_word) = true)
    (l_Voter_word : K.lookup f_Voter_word = some ⟨oc_Voter_word, od_Voter_word, .func (PySem.W.fnOf "word" "Voter.word" (defArgs s_Voter_word) (defBody s_Voter_word) (defScope s_Voter_word) .none kV_Voter_word dc_Voter_word pm_Voter_word an_Voter_word cd_Voter_word ct_Voter_word), sl_Voter_word⟩)
    (o_Voter_word : PySem.W.codeIn K cd_Voter_word "Voter.word" = true)
    (k_Voter_word : PySem.W.keepIn K (.ref f_Voter_word) = true)
    (a_Voter_is_close : PySem.W.findIn K (.ref C_Voter) "is_close" = some (some (.ref f_Voter_is_close)))
    (i_Voter_is_close : PySem.W.isFn K (.ref f_Voter_is_close) = true)
    (l_Voter_is_close : K.lookup f_Voter_is_close = some ⟨oc_Voter_is_close, od_Voter_is_close, .func (PySem.W.fnOf "is_close" "Voter.is_close" (defArgs s_Voter_is_close) (defBody s_Voter_is_close) (defScope s_Voter_is_close) .none kV_Voter_is_close dc_Voter_is_close pm_Voter_is_close an_Voter_is_close cd_Voter_is_close ct_Voter_is_close), sl_Voter_is_close⟩)
    (o_Voter_is_close : PySem.W.codeIn K cd_Voter_is_close "Voter.is_close" = true)
    (k_Voter_is_close : PySem.W.keepIn K (.ref f_Voter_is_close) = true)
    (a_Voter_watch : PySem.W.findIn K (.ref C_Voter) "watch" = some (some (.ref f_Voter_watch)))
    (i_Voter_watch : PySem.W.isFn K (.ref f_Voter_watch) = true)
    (l_Voter_watch : K.lookup f_Voter_watch = some ⟨oc_Voter_watch, od_Voter_watch, .func (PySem.W.fnOf "watch" "Voter.watch" (defArgs s_Voter_watch) (defBody s_Voter_watch) (defScope s_Voter_watch) .none kV_Voter_watch dc_Voter_watch pm_Voter_watch an_Voter_watch cd_Voter_watch ct_Voter_watch), sl_Voter_watch⟩)
    (o_Voter_watch : PySem.W.codeIn K cd_Voter_watch "Voter.watch" = true)
    (k_Voter_watch : PySem.W.keepIn K (.ref f_Voter_watch) = true)
    (a_Voter_wait : PySem.W.findIn K (.ref C_Voter) "wait" = some (some (.ref f_Voter_wait)))
    (i_Voter_wait : PySem.W.isFn K (.ref f_Voter_wait) = true)
    (l_Voter_wait : K.lookup f_Voter_wait = some ⟨oc_Voter_wait, od_Voter_wait, .func (PySem.W.fnOf "wait" "Voter.wait" (defArgs s_Voter_wait) (defBody s_Voter_wait) (defScope s_Voter_wait) .none kV_Voter_wait dc_Voter_wait pm_Voter_wait an_Voter_wait cd_Voter_wait ct_Voter_wait), sl_Voter_wait⟩)
    (o_Voter_wait : PySem.W.codeIn K cd_Voter_wait "Voter.wait" = true)
    (k_Voter_wait : PySem.W.keepIn K (.ref f_Voter_wait) = true)
    (a_Voter_step : PySem.W.findIn K (.ref C_Voter) "step" = some (some (.ref f_Voter_step)))
    (i_Voter_step : PySem.W.isFn K (.ref f_Voter_step) = true)
    (l_Voter_step : K.lookup f_Voter_step = some ⟨oc_Voter_step, od_Voter_step, .func (PySem.W.fnOf "step" "Voter.step" (defArgs s_Voter_step) (defBody s_Voter_step) (defScope s_Voter_step) .none kV_Voter_step dc_Voter_step pm_Voter_step an_Voter_step cd_Voter_step ct_Voter_step), sl_Voter_step⟩)
    (o_Voter_step : PySem.W.codeIn K cd_Voter_step "Voter.step" = true)
    (k_Voter_step : PySem.W.keepIn K (.ref f_Voter_step) = true)
    (a_need : PySem.W.nsIn K mainGlobals "need" = some (some (.ref f_need)))
    (l_need : K.lookup f_need = some ⟨oc_need, od_need, .func (PySem.W.fnOf "need" "need" (defArgs s_need) (defBody s_need) (defScope s_need) .none kV_need dc_need pm_need an_need cd_need ct_need), sl_need⟩)
    (o_need : PySem.W.codeIn K cd_need "need" = true)
    (k_need : PySem.W.keepIn K (.ref f_need) = true)
    (a_number_of : PySem.W.nsIn K mainGlobals "number_of" = some (some (.ref f_number_of)))
    (l_number_of : K.lookup f_number_of = some ⟨oc_number_of, od_number_of, .func (PySem.W.fnOf "number_of" "number_of" (defArgs s_number_of) (defBody s_number_of) (defScope s_number_of) .none kV_number_of dc_number_of pm_number_of an_number_of cd_number_of ct_number_of), sl_number_of⟩)
    (o_number_of : PySem.W.codeIn K cd_number_of "number_of" = true)
    (k_number_of : PySem.W.keepIn K (.ref f_number_of) = true)
    (a_said : PySem.W.nsIn K mainGlobals "said" = some (some (.ref f_said)))
    (l_said : K.lookup f_said = some ⟨oc_said, od_said, .func (PySem.W.fnOf "said" "said" (defArgs s_said) (defBody s_said) (defScope s_said) .none kV_said dc_said pm_said an_said cd_said ct_said), sl_said⟩)
    (o_said : PySem.W.codeIn K cd_said "said" = true)
    (k_said : PySem.W.keepIn K (.ref f_said) = true)
    (a_Desk_init : PySem.W.findIn K (.ref C_Desk) "__init__" = some (some (.ref f_Desk_init)))
    (i_Desk_init : PySem.W.isFn K (.ref f_Desk_init) = true)
    (l_Desk_init : K.lookup f_Desk_init = some ⟨oc_Desk_init, od_Desk_init, .func (PySem.W.fnOf "__init__" "Desk.__init__" (defArgs s_Desk_init) (defBody s_Desk_init) (defScope s_Desk_init) .none kV_Desk_init dc_Desk_init pm_Desk_init an_Desk_init cd_Desk_init ct_Desk_init), sl_Desk_init⟩)
    (o_Desk_init : PySem.W.codeIn K cd_Desk_init "Desk.__init__" = true)
    (k_Desk_init : PySem.W.keepIn K (.ref f_Desk_init) = true)
    (a_Desk_answer : PySem.W.findIn K (.ref C_Desk) "answer" = some (some (.ref f_Desk_answer)))
    (i_Desk_answer : PySem.W.isFn K (.ref f_Desk_answer) = true)
    (l_Desk_answer : K.lookup f_Desk_answer = some ⟨oc_Desk_answer, od_Desk_answer, .func (PySem.W.fnOf "answer" "Desk.answer" (defArgs s_Desk_answer) (defBody s_Desk_answer) (defScope s_Desk_answer) .none kV_Desk_answer dc_Desk_answer pm_Desk_answer an_Desk_answer cd_Desk_answer ct_Desk_answer), sl_Desk_answer⟩)
    (o_Desk_answer : PySem.W.codeIn K cd_Desk_answer "Desk.answer" = true)
    (k_Desk_answer : PySem.W.keepIn K (.ref f_Desk_answer) = true)
    (a_class_of : PySem.W.nsIn K mainGlobals "class_of" = some (some (.ref f_class_of)))
    (l_class_of : K.lookup f_class_of = some ⟨oc_class_of, od_class_of, .func (PySem.W.fnOf "class_of" "class_of" (defArgs s_class_of) (defBody s_class_of) (defScope s_class_of) .none kV_class_of dc_class_of pm_class_of an_class_of cd_class_of ct_class_of), sl_class_of⟩)
    (o_class_of : PySem.W.codeIn K cd_class_of "class_of" = true)
    (k_class_of : PySem.W.keepIn K (.ref f_class_of) = true)
    (a_play : PySem.W.nsIn K mainGlobals "play" = some (some (.ref f_play)))
    (l_play : K.lookup f_play = some ⟨oc_play, od_play, .func (PySem.W.fnOf "play" "play" (defArgs s_play) (defBody s_play) (defScope s_play) .none kV_play dc_play pm_play an_play cd_play ct_play), sl_play⟩)
    (o_play : PySem.W.codeIn K cd_play "play" = true)
    (k_play : PySem.W.keepIn K (.ref f_play) = true)
    (a_l_cell : PySem.W.nsIn K mainGlobals "_law_cell" = some (some (.ref f_l_cell)))
    (l_l_cell : K.lookup f_l_cell = some ⟨oc_l_cell, od_l_cell, .func (PySem.W.fnOf "_law_cell" "_law_cell" (defArgs s_l_cell) (defBody s_l_cell) (defScope s_l_cell) .none kV_l_cell dc_l_cell pm_l_cell an_l_cell cd_l_cell ct_l_cell), sl_l_cell⟩)
    (o_l_cell : PySem.W.codeIn K cd_l_cell "_law_cell" = true)
    (k_l_cell : PySem.W.keepIn K (.ref f_l_cell) = true)
    (a_l_drawn : PySem.W.nsIn K mainGlobals "_law_drawn" = some (some (.ref f_l_drawn)))
    (l_l_drawn : K.lookup f_l_drawn = some ⟨oc_l_drawn, od_l_drawn, .func (PySem.W.fnOf "_law_drawn" "_law_drawn" (defArgs s_l_drawn) (defBody s_l_drawn) (defScope s_l_drawn) .none kV_l_drawn dc_l_drawn pm_l_drawn an_l_drawn cd_l_drawn ct_l_drawn), sl_l_drawn⟩)
    (o_l_drawn : PySem.W.codeIn K cd_l_drawn "_law_drawn" = true)
    (k_l_drawn : PySem.W.keepIn K (.ref f_l_drawn) = true)
    (a_l_none : PySem.W.nsIn K mainGlobals "_law_none" = some (some (.ref f_l_none)))
    (l_l_none : K.lookup f_l_none = some ⟨oc_l_none, od_l_none, .func (PySem.W.fnOf "_law_none" "_law_none" (defArgs s_l_none) (defBody s_l_none) (defScope s_l_none) .none kV_l_none dc_l_none pm_l_none an_l_none cd_l_none ct_l_none), sl_l_none⟩)
    (o_l_none : PySem.W.codeIn K cd_l_none "_law_none" = true)
    (k_l_none : PySem.W.keepIn K (.ref f_l_none) = true)
    (a_l_others : PySem.W.nsIn K mainGlobals "_law_others" = some (some (.ref f_l_others)))
    (l_l_others : K.lookup f_l_others = some ⟨oc_l_others, od_l_others, .func (PySem.W.fnOf "_law_others" "_law_others" (defArgs s_l_others) (defBody s_l_others) (defScope s_l_others) .none kV_l_others dc_l_others pm_l_others an_l_others cd_l_others ct_l_others), sl_l_others⟩)
    (o_l_others : PySem.W.codeIn K cd_l_others "_law_others" = true)
    (k_l_others : PySem.W.keepIn K (.ref f_l_others) = true)
    (a_law : PySem.W.nsIn K mainGlobals "law" = some (some (.ref f_law)))
    (l_law : K.lookup f_law = some ⟨oc_law, od_law, .func (PySem.W.fnOf "law" "law" (defArgs s_law) (defBody s_law) (defScope s_law) .none kV_law dc_law pm_law an_law cd_law ct_law), sl_law⟩)
    (o_law : PySem.W.codeIn K cd_law "law" = true)
    (k_law : PySem.W.keepIn K (.ref f_law) = true) :
    ∃ fd : FuncData, (∀ (s : Shared) (v : Value), BindsTo s fd ⟨[v], []⟩ [("_law_script", v)]) ∧ ∀ base : Heap, K.In base → base.Ns mainGlobals mg → FnOk P w K mg base CX0 7 fa fd ["_law_script"] (spL K) := by
  have e := hfa.symm.trans (PySem.W.mg_of X G a_law)
  cases e
  have F_middle := fun_mk (st := s_middle) l_middle o_middle k_middle
  have b_middle := F_middle.binds (ps := ["numbers", "near"]) fun _ _ _ _ _ _ us hl => match us, hl with | [_, _], _ => rfl
  have F_moved := fun_mk (st := s_moved) l_moved o_moved k_moved
  have b_moved := F_moved.binds (ps := ["one", "goal", "most"]) fun _ _ _ _ _ _ us hl => match us, hl with | [_, _, _], _ => rfl
  have F_agree := fun_mk (st := s_agree) l_agree o_agree k_agree
  have b_agree := F_agree.binds (ps := ["numbers", "value", "threshold"]) fun _ _ _ _ _ _ us hl => match us, hl with | [_, _, _], _ => rfl
  have F_need_settings := fun_mk (st := s_need_settings) l_need_settings o_need_settings k_need_settings
  have b_need_settings := F_need_settings.binds (ps := ["settings"]) fun _ _ _ _ _ _ us hl => match us, hl with | [_], _ => rfl
  have F_need_step := fun_mk (st := s_need_step) l_need_step o_need_step k_need_step
  have b_need_step := F_need_step.binds (ps := ["values", "many"]) fun _ _ _ _ _ _ us hl => match us, hl with | [_, _], _ => rfl
  have F_Sensor_init := fun_mk (st := s_Sensor_init) l_Sensor_init o_Sensor_init k_Sensor_init
  have b_Sensor_init := F_Sensor_init.binds (ps := ["self"]) fun _ _ _ _ _ _ us hl => match us, hl with | [_], _ => rfl
  have F_Voter_init := fun_mk (st := s_Voter_init) l_Voter_init o_Voter_init k_Voter_init
  have b_Voter_init := F_Voter_init.binds (ps := ["self", "settings", "start"]) fun _ _ _ _ _ _ us hl => match us, hl with | [_, _, _], _ => rfl
  have F_Voter_given := fun_mk (st := s_Voter_given) l_Voter_given o_Voter_given k_Voter_given
  have b_Voter_given := F_Voter_given.binds (ps := ["self"]) fun _ _ _ _ _ _ us hl => match us, hl with | [_], _ => rfl
  have F_Voter_sensor := fun_mk (st := s_Voter_sensor) l_Voter_sensor o_Voter_sensor k_Voter_sensor
  have b_Voter_sensor := F_Voter_sensor.binds (ps := ["self", "place"]) fun _ _ _ _ _ _ us hl => match us, hl with | [_, _], _ => rfl
  have F_Voter_state := fun_mk (st := s_Voter_state) l_Voter_state o_Voter_state k_Voter_state
  have b_Voter_state := F_Voter_state.binds (ps := ["self", "place"]) fun _ _ _ _ _ _ us hl => match us, hl with | [_, _], _ => rfl
  have F_Voter_count := fun_mk (st := s_Voter_count) l_Voter_count o_Voter_count k_Voter_count
  have b_Voter_count := F_Voter_count.binds (ps := ["self", "place"]) fun _ _ _ _ _ _ us hl => match us, hl with | [_, _], _ => rfl
  have F_Voter_word := fun_mk (st := s_Voter_word) l_Voter_word o_Voter_word k_Voter_word
  have b_Voter_word := F_Voter_word.binds (ps := ["self", "numbers", "value"]) fun _ _ _ _ _ _ us hl => match us, hl with | [_, _, _], _ => rfl
  have F_Voter_is_close := fun_mk (st := s_Voter_is_close) l_Voter_is_close o_Voter_is_close k_Voter_is_close
  have b_Voter_is_close := F_Voter_is_close.binds (ps := ["self", "thing", "value"]) fun _ _ _ _ _ _ us hl => match us, hl with | [_, _, _], _ => rfl
  have F_Voter_watch := fun_mk (st := s_Voter_watch) l_Voter_watch o_Voter_watch k_Voter_watch
  have b_Voter_watch := F_Voter_watch.binds (ps := ["self", "one", "is_close"]) fun _ _ _ _ _ _ us hl => match us, hl with | [_, _, _], _ => rfl
  have F_Voter_wait := fun_mk (st := s_Voter_wait) l_Voter_wait o_Voter_wait k_Voter_wait
  have b_Voter_wait := F_Voter_wait.binds (ps := ["self", "one", "is_close"]) fun _ _ _ _ _ _ us hl => match us, hl with | [_, _, _], _ => rfl
  have F_Voter_step := fun_mk (st := s_Voter_step) l_Voter_step o_Voter_step k_Voter_step
  have b_Voter_step := F_Voter_step.binds (ps := ["self", "values"]) fun _ _ _ _ _ _ us hl => match us, hl with | [_, _], _ => rfl
  have F_need := fun_mk (st := s_need) l_need o_need k_need
  have b_need := F_need.binds (ps := ["good"]) fun _ _ _ _ _ _ us hl => match us, hl with | [_], _ => rfl
  have F_number_of := fun_mk (st := s_number_of) l_number_of o_number_of k_number_of
  have b_number_of := F_number_of.binds (ps := ["text"]) fun _ _ _ _ _ _ us hl => match us, hl with | [_], _ => rfl
  have F_said := fun_mk (st := s_said) l_said o_said k_said
  have b_said := F_said.binds (ps := ["text"]) fun _ _ _ _ _ _ us hl => match us, hl with | [_], _ => rfl
  have F_Desk_init := fun_mk (st := s_Desk_init) l_Desk_init o_Desk_init k_Desk_init
  have b_Desk_init := F_Desk_init.binds (ps := ["self"]) fun _ _ _ _ _ _ us hl => match us, hl with | [_], _ => rfl
  have F_Desk_answer := fun_mk (st := s_Desk_answer) l_Desk_answer o_Desk_answer k_Desk_answer
  have b_Desk_answer := F_Desk_answer.binds (ps := ["self", "line"]) fun _ _ _ _ _ _ us hl => match us, hl with | [_, _], _ => rfl
  have F_class_of := fun_mk (st := s_class_of) l_class_of o_class_of k_class_of
  have b_class_of := F_class_of.binds (ps := ["error"]) fun _ _ _ _ _ _ us hl => match us, hl with | [_], _ => rfl
  have F_play := fun_mk (st := s_play) l_play o_play k_play
  have b_play := F_play.binds (ps := ["text"]) fun _ _ _ _ _ _ us hl => match us, hl with | [_], _ => rfl
  have F_l_cell := fun_mk (st := s_l_cell) l_l_cell o_l_cell k_l_cell
  have b_l_cell := F_l_cell.binds (ps := ["_law_script", "_law_k"]) fun _ _ _ _ _ _ us hl => match us, hl with | [_, _], _ => rfl
  have F_l_drawn := fun_mk (st := s_l_drawn) l_l_drawn o_l_drawn k_l_drawn
  have b_l_drawn := F_l_drawn.binds (ps := ["_law_cell_here", "_law_k"]) fun _ _ _ _ _ _ us hl => match us, hl with | [_, _], _ => rfl
  have F_l_none := fun_mk (st := s_l_none) l_l_none o_l_none k_l_none
  have b_l_none := F_l_none.binds (ps := []) fun _ _ _ _ _ _ us hl => match us, hl with | [], _ => rfl
  have F_l_others := fun_mk (st := s_l_others) l_l_others o_l_others k_l_others
  have b_l_others := F_l_others.binds (ps := ["_law_is_there"]) fun _ _ _ _ _ _ us hl => match us, hl with | [_], _ => rfl
  have F_law := fun_mk (st := s_law) l_law o_law k_law
  have b_law := F_law.binds (ps := ["_law_script"]) fun _ _ _ _ _ _ us hl => match us, hl with | [_], _ => rfl
  have T : Txt K mg { c_VoteError := C_VoteError, c_BadSettings := C_BadSettings, c_BadStep := C_BadStep, c_NoSensor := C_NoSensor, c_BadRow := C_BadRow, c_Sensor := C_Sensor, c_Voter := C_Voter, c_Desk := C_Desk, f_middle := f_middle, d_middle := _, f_moved := f_moved, d_moved := _, f_agree := f_agree, d_agree := _, f_need_settings := f_need_settings, d_need_settings := _, f_need_step := f_need_step, d_need_step := _, f_Sensor_init := f_Sensor_init, d_Sensor_init := _, f_Voter_init := f_Voter_init, d_Voter_init := _, f_Voter_given := f_Voter_given, d_Voter_given := _, f_Voter_sensor := f_Voter_sensor, d_Voter_sensor := _, f_Voter_state := f_Voter_state, d_Voter_state := _, f_Voter_count := f_Voter_count, d_Voter_count := _, f_Voter_word := f_Voter_word, d_Voter_word := _, f_Voter_is_close := f_Voter_is_close, d_Voter_is_close := _, f_Voter_watch := f_Voter_watch, d_Voter_watch := _, f_Voter_wait := f_Voter_wait, d_Voter_wait := _, f_Voter_step := f_Voter_step, d_Voter_step := _, f_need := f_need, d_need := _, f_number_of := f_number_of, d_number_of := _, f_said := f_said, d_said := _, f_Desk_init := f_Desk_init, d_Desk_init := _, f_Desk_answer := f_Desk_answer, d_Desk_answer := _, f_class_of := f_class_of, d_class_of := _, f_play := f_play, d_play := _, f_l_cell := f_l_cell, d_l_cell := _, f_l_drawn := f_l_drawn, d_l_drawn := _, f_l_none := f_l_none, d_l_none := _, f_l_others := f_l_others, d_l_others := _, f_law := fa, d_law := _ } :=
    { n_ValueError := PySem.W.mg_none_of X G n_ValueError,
      n_abs := PySem.W.mg_none_of X G n_abs,
      n_all := PySem.W.mg_none_of X G n_all,
      n_enumerate := PySem.W.mg_none_of X G n_enumerate,
      n_int := PySem.W.mg_none_of X G n_int,
      n_isinstance := PySem.W.mg_none_of X G n_isinstance,
      n_len := PySem.W.mg_none_of X G n_len,
      n_max := PySem.W.mg_none_of X G n_max,
      n_min := PySem.W.mg_none_of X G n_min,
      n_range := PySem.W.mg_none_of X G n_range,
      n_sorted := PySem.W.mg_none_of X G n_sorted,
      n_str := PySem.W.mg_none_of X G n_str,
      n_tuple := PySem.W.mg_none_of X G n_tuple,
      c_LEAST := ⟨_, PySem.W.mg_of X G c_LEAST⟩,
      c_MOST := ⟨_, PySem.W.mg_of X G c_MOST⟩,
      c_MOST_THRESHOLD := ⟨_, PySem.W.mg_of X G c_MOST_THRESHOLD⟩,
      c_MOST_COUNT := ⟨_, PySem.W.mg_of X G c_MOST_COUNT⟩,
      c_MOST_VALUE := ⟨_, PySem.W.mg_of X G c_MOST_VALUE⟩,
      c_FIGURES := ⟨_, PySem.W.mg_of X G c_FIGURES⟩,
      c_MOST_FIGURES := ⟨_, PySem.W.mg_of X G c_MOST_FIGURES⟩,
      g_VoteError := PySem.W.mg_of X G g_VoteError,
      xd_VoteError := xd_VoteError,
      x_VoteError := x_VoteError, k_VoteError := k_VoteError, xb_VoteError := xb_VoteError, xt_VoteError := xt_VoteError, xi_VoteError := xi_VoteError,
      xs_VoteError_VoteError := xs_VoteError_VoteError,
      xs_VoteError_BadSettings := xs_VoteError_BadSettings,
      xs_VoteError_BadStep := xs_VoteError_BadStep,
      xs_VoteError_NoSensor := xs_VoteError_NoSensor,
      xs_VoteError_BadRow := xs_VoteError_BadRow,
      g_BadSettings := PySem.W.mg_of X G g_BadSettings,
      xd_BadSettings := xd_BadSettings,
      ec_BadSettings := ⟨eg_BadSettings, ek_BadSettings, xb_BadSettings, xd_BadSettings, ea_BadSettings, en_, et_, em_BadSettings⟩,
      kv_BadSettings := kv_BadSettings,
      ki_BadSettings_BadSettings := ki_BadSettings_BadSettings,
      ki_BadSettings_BadStep := ki_BadSettings_BadStep,
      ki_BadSettings_NoSensor := ki_BadSettings_NoSensor,
      ki_BadSettings_BadRow := ki_BadSettings_BadRow,
      x_BadSettings := x_BadSettings, k_BadSettings := k_BadSettings, xb_BadSettings := xb_BadSettings, xt_BadSettings := xt_BadSettings, xi_BadSettings := xi_BadSettings,
      xs_BadSettings_VoteError := xs_BadSettings_VoteError,
      xs_BadSettings_BadSettings := xs_BadSettings_BadSettings,
      xs_BadSettings_BadStep := xs_BadSettings_BadStep,
      xs_BadSettings_NoSensor := xs_BadSettings_NoSensor,
      xs_BadSettings_BadRow := xs_BadSettings_BadRow,
      g_BadStep := PySem.W.mg_of X G g_BadStep,
      xd_BadStep := xd_BadStep,
      ec_BadStep := ⟨eg_BadStep, ek_BadStep, xb_BadStep, xd_BadStep, ea_BadStep, en_, et_, em_BadStep⟩,
      kv_BadStep := kv_BadStep,
      ki_BadStep_BadSettings := ki_BadStep_BadSettings,
      ki_BadStep_BadStep := ki_BadStep_BadStep,
      ki_BadStep_NoSensor := ki_BadStep_NoSensor,
      ki_BadStep_BadRow := ki_BadStep_BadRow,
      x_BadStep := x_BadStep, k_BadStep := k_BadStep, xb_BadStep := xb_BadStep, xt_BadStep := xt_BadStep, xi_BadStep := xi_BadStep,
      xs_BadStep_VoteError := xs_BadStep_VoteError,
      xs_BadStep_BadSettings := xs_BadStep_BadSettings,
      xs_BadStep_BadStep := xs_BadStep_BadStep,
      xs_BadStep_NoSensor := xs_BadStep_NoSensor,
      xs_BadStep_BadRow := xs_BadStep_BadRow,
      g_NoSensor := PySem.W.mg_of X G g_NoSensor,
      xd_NoSensor := xd_NoSensor,
      ec_NoSensor := ⟨eg_NoSensor, ek_NoSensor, xb_NoSensor, xd_NoSensor, ea_NoSensor, en_, et_, em_NoSensor⟩,
      kv_NoSensor := kv_NoSensor,
      ki_NoSensor_BadSettings := ki_NoSensor_BadSettings,
      ki_NoSensor_BadStep := ki_NoSensor_BadStep,
      ki_NoSensor_NoSensor := ki_NoSensor_NoSensor,
      ki_NoSensor_BadRow := ki_NoSensor_BadRow,
      x_NoSensor := x_NoSensor, k_NoSensor := k_NoSensor, xb_NoSensor := xb_NoSensor, xt_NoSensor := xt_NoSensor, xi_NoSensor := xi_NoSensor,
      xs_NoSensor_VoteError := xs_NoSensor_VoteError,
      xs_NoSensor_BadSettings := xs_NoSensor_BadSettings,
      xs_NoSensor_BadStep := xs_NoSensor_BadStep,
      xs_NoSensor_NoSensor := xs_NoSensor_NoSensor,
      xs_NoSensor_BadRow := xs_NoSensor_BadRow,
      g_BadRow := PySem.W.mg_of X G g_BadRow,
      xd_BadRow := xd_BadRow,
      ec_BadRow := ⟨eg_BadRow, ek_BadRow, xb_BadRow, xd_BadRow, ea_BadRow, en_, et_, em_BadRow⟩,
      kv_BadRow := kv_BadRow,
      ki_BadRow_BadSettings := ki_BadRow_BadSettings,
      ki_BadRow_BadStep := ki_BadRow_BadStep,
      ki_BadRow_NoSensor := ki_BadRow_NoSensor,
      ki_BadRow_BadRow := ki_BadRow_BadRow,
      x_BadRow := x_BadRow, k_BadRow := k_BadRow, xb_BadRow := xb_BadRow, xt_BadRow := xt_BadRow, xi_BadRow := xi_BadRow,
      xs_BadRow_VoteError := xs_BadRow_VoteError,
      xs_BadRow_BadSettings := xs_BadRow_BadSettings,
      xs_BadRow_BadStep := xs_BadRow_BadStep,
      xs_BadRow_NoSensor := xs_BadRow_NoSensor,
      xs_BadRow_BadRow := xs_BadRow_BadRow,
      g_Sensor := PySem.W.mg_of X G g_Sensor,
      cl_Sensor := ⟨pg_Sensor, hd_Sensor, po_Sensor, sa_Sensor⟩,
      mk_Sensor := ⟨mk_Sensor, a_Sensor_init, i_Sensor_init, kc_Sensor⟩,
      na_Sensor_is_out := na_Sensor_is_out,
      na_Sensor_many := na_Sensor_many,
      g_Voter := PySem.W.mg_of X G g_Voter,
      cl_Voter := ⟨pg_Voter, hd_Voter, po_Voter, sa_Voter⟩,
      mk_Voter := ⟨mk_Voter, a_Voter_init, i_Voter_init, kc_Voter⟩,
      na_Voter_threshold := na_Voter_threshold,
      na_Voter_rate := na_Voter_rate,
      na_Voter_misses := na_Voter_misses,
      na_Voter_backs := na_Voter_backs,
      na_Voter_sensors := na_Voter_sensors,
      na_Voter_last := na_Voter_last,
      g_Desk := PySem.W.mg_of X G g_Desk,
      cl_Desk := ⟨pg_Desk, hd_Desk, po_Desk, sa_Desk⟩,
      mk_Desk := ⟨mk_Desk, a_Desk_init, i_Desk_init, kc_Desk⟩,
      na_Desk_voter := na_Desk_voter,
      na_Desk_many := na_Desk_many,
      F_middle := F_middle, b_middle := b_middle,
      g_middle := PySem.W.mg_of X G a_middle,
      F_moved := F_moved, b_moved := b_moved,
      g_moved := PySem.W.mg_of X G a_moved,
      F_agree := F_agree, b_agree := b_agree,
      g_agree := PySem.W.mg_of X G a_agree,
      F_need_settings := F_need_settings, b_need_settings := b_need_settings,
      g_need_settings := PySem.W.mg_of X G a_need_settings,
      F_need_step := F_need_step, b_need_step := b_need_step,
      g_need_step := PySem.W.mg_of X G a_need_step,
      F_Sensor_init := F_Sensor_init, b_Sensor_init := b_Sensor_init,
      F_Voter_init := F_Voter_init, b_Voter_init := b_Voter_init,
      F_Voter_given := F_Voter_given, b_Voter_given := b_Voter_given,
      m_Voter_given := ⟨a_Voter_given, i_Voter_given, k_Voter_given⟩,
      F_Voter_sensor := F_Voter_sensor, b_Voter_sensor := b_Voter_sensor,
      m_Voter_sensor := ⟨a_Voter_sensor, i_Voter_sensor, k_Voter_sensor⟩,
      F_Voter_state := F_Voter_state, b_Voter_state := b_Voter_state,
      m_Voter_state := ⟨a_Voter_state, i_Voter_state, k_Voter_state⟩,
      F_Voter_count := F_Voter_count, b_Voter_count := b_Voter_count,
      m_Voter_count := ⟨a_Voter_count, i_Voter_count, k_Voter_count⟩,
      F_Voter_word := F_Voter_word, b_Voter_word := b_Voter_word,
      m_Voter_word := ⟨a_Voter_word, i_Voter_word, k_Voter_word⟩,
      F_Voter_is_close := F_Voter_is_close, b_Voter_is_close := b_Voter_is_close,
      m_Voter_is_close := ⟨a_Voter_is_close, i_Voter_is_close, k_Voter_is_close⟩,
      F_Voter_watch := F_Voter_watch, b_Voter_watch := b_Voter_watch,
      m_Voter_watch := ⟨a_Voter_watch, i_Voter_watch, k_Voter_watch⟩,
      F_Voter_wait := F_Voter_wait, b_Voter_wait := b_Voter_wait,
      m_Voter_wait := ⟨a_Voter_wait, i_Voter_wait, k_Voter_wait⟩,
      F_Voter_step := F_Voter_step, b_Voter_step := b_Voter_step,
      m_Voter_step := ⟨a_Voter_step, i_Voter_step, k_Voter_step⟩,
      F_need := F_need, b_need := b_need,
      g_need := PySem.W.mg_of X G a_need,
      F_number_of := F_number_of, b_number_of := b_number_of,
      g_number_of := PySem.W.mg_of X G a_number_of,
      F_said := F_said, b_said := b_said,
      g_said := PySem.W.mg_of X G a_said,
      F_Desk_init := F_Desk_init, b_Desk_init := b_Desk_init,
      F_Desk_answer := F_Desk_answer, b_Desk_answer := b_Desk_answer,
      m_Desk_answer := ⟨a_Desk_answer, i_Desk_answer, k_Desk_answer⟩,
      F_class_of := F_class_of, b_class_of := b_class_of,
      g_class_of := PySem.W.mg_of X G a_class_of,
      F_play := F_play, b_play := b_play,
      g_play := PySem.W.mg_of X G a_play,
      F_l_cell := F_l_cell, b_l_cell := b_l_cell,
      g_l_cell := PySem.W.mg_of X G a_l_cell,
      F_l_drawn := F_l_drawn, b_l_drawn := b_l_drawn,
      g_l_drawn := PySem.W.mg_of X G a_l_drawn,
      F_l_none := F_l_none, b_l_none := b_l_none,
      g_l_none := PySem.W.mg_of X G a_l_none,
      F_l_others := F_l_others, b_l_others := b_l_others,
      g_l_others := PySem.W.mg_of X G a_l_others,
      F_law := F_law, b_law := b_law,
      g_law := PySem.W.mg_of X G a_law }
  exact ⟨PySem.W.fnOf "law" "law" (defArgs s_law) (defBody s_law) (defScope s_law) .none kV_law dc_law pm_law an_law cd_law ct_law, fun s v => .of_eq rfl, fun base _ _ => ok_all T⟩
end MV
open PySem PySem.W PyProof.Rows
set_option maxHeartbeats 0 in
theorem PySem.Challenge.cw_midvalue_k18_desk_refusals_holds : PySem.Challenge.rw_midvalue_k18_desk_refusals.Holds := by
  w_on; o_law; k_head; (case hw => w_witness2)
  k_fill
  refine L2.walk_of (l := PySem.Challenge.rw_midvalue_k18_desk_refusals) (n := 63) (k := 7) (x := "_law_script") (CX := fun _ => L2.CX0) (sp := fun w => MV.spL _) rfl (by decide) rfl ⟨rfl, by decide, by decide⟩ (fun w h Y => PySem.W.kIn_of Y) ?F (fun _ _ a ns hl _ hS => ⟨a, ns, rfl, hS, hl, fun _ => rfl⟩) (fun _ _ _ _ _ h => h)
  case F =>
    intro w mg fa h KX G hmg
    refine' MV.fin_mk KX G hmg ?n_ValueError ?n_abs ?n_all ?n_enumerate ?n_int ?n_isinstance ?n_len ?n_max ?n_min ?n_range ?n_sorted ?n_str ?n_tuple ?c_LEAST ?c_MOST ?c_MOST_THRESHOLD ?c_MOST_COUNT ?c_MOST_VALUE ?c_FIGURES ?c_MOST_FIGURES ?g_VoteError ?g_BadSettings ?g_BadStep ?g_NoSensor ?g_BadRow ?g_Sensor ?g_Voter ?g_Desk ?x_VoteError ?k_VoteError ?xb_VoteError ?xt_VoteError ?xi_VoteError ?xd_VoteError ?xs_VoteError_VoteError ?xs_VoteError_BadSettings ?xs_VoteError_BadStep ?xs_VoteError_NoSensor ?xs_VoteError_BadRow ?x_BadSettings ?k_BadSettings ?xb_BadSettings ?xt_BadSettings ?xi_BadSettings ?xd_BadSettings ?eg_BadSettings ?ek_BadSettings ?ea_BadSettings ?em_BadSettings ?en_ ?et_ ?kv_BadSettings ?ki_BadSettings_BadSettings ?ki_BadSettings_BadStep ?ki_BadSettings_NoSensor ?ki_BadSettings_BadRow ?xs_BadSettings_VoteError ?xs_BadSettings_BadSettings ?xs_BadSettings_BadStep ?xs_BadSettings_NoSensor ?xs_BadSettings_BadRow ?x_BadStep ?k_BadStep ?xb_BadStep ?xt_BadStep ?xi_BadStep ?xd_BadStep ?eg_BadStep ?ek_BadStep ?ea_BadStep ?em_BadStep ?kv_BadStep ?ki_BadStep_BadSettings ?ki_BadStep_BadStep ?ki_BadStep_NoSensor ?ki_BadStep_BadRow ?xs_BadStep_VoteError ?xs_BadStep_BadSettings ?xs_BadStep_BadStep ?xs_BadStep_NoSensor ?xs_BadStep_BadRow ?x_NoSensor ?k_NoSensor ?xb_NoSensor ?xt_NoSensor ?xi_NoSensor ?xd_NoSensor ?eg_NoSensor ?ek_NoSensor ?ea_NoSensor ?em_NoSensor ?kv_NoSensor ?ki_NoSensor_BadSettings ?ki_NoSensor_BadStep ?ki_NoSensor_NoSensor ?ki_NoSensor_BadRow ?xs_NoSensor_VoteError ?xs_NoSensor_BadSettings ?xs_NoSensor_BadStep ?xs_NoSensor_NoSensor ?xs_NoSensor_BadRow ?x_BadRow ?k_BadRow ?xb_BadRow ?xt_BadRow ?xi_BadRow ?xd_BadRow ?eg_BadRow ?ek_BadRow ?ea_BadRow ?em_BadRow ?kv_BadRow ?ki_BadRow_BadSettings ?ki_BadRow_BadStep ?ki_BadRow_NoSensor ?ki_BadRow_BadRow ?xs_BadRow_VoteError ?xs_BadRow_BadSettings ?xs_BadRow_BadStep ?xs_BadRow_NoSensor ?xs_BadRow_BadRow ?pg_Sensor ?hd_Sensor ?po_Sensor ?sa_Sensor ?mk_Sensor ?kc_Sensor ?na_Sensor_is_out ?na_Sensor_many ?pg_Voter ?hd_Voter ?po_Voter ?sa_Voter ?mk_Voter ?kc_Voter ?na_Voter_threshold ?na_Voter_rate ?na_Voter_misses ?na_Voter_backs ?na_Voter_sensors ?na_Voter_last ?pg_Desk ?hd_Desk ?po_Desk ?sa_Desk ?mk_Desk ?kc_Desk ?na_Desk_voter ?na_Desk_many ?a_middle ?l_middle ?o_middle ?k_middle ?a_moved ?l_moved ?o_moved ?k_moved ?a_agree ?l_agree ?o_agree ?k_agree ?a_need_settings ?l_need_settings ?o_need_settings ?k_need_settings ?a_need_step ?l_need_step ?o_need_step ?k_need_step ?a_Sensor_init ?i_Sensor_init ?l_Sensor_init ?o_Sensor_init ?k_Sensor_init ?a_Voter_init ?i_Voter_init ?l_Voter_init ?o_Voter_init ?k_Voter_init ?a_Voter_given ?i_Voter_given ?l_Voter_given ?o_Voter_given ?k_Voter_given ?a_Voter_sensor ?i_Voter_sensor ?l_Voter_sensor ?o_Voter_sensor ?k_Voter_sensor ?a_Voter_state ?i_Voter_state ?l_Voter_state ?o_Voter_state ?k_Voter_state ?a_Voter_count ?i_Voter_count ?l_Voter_count ?o_Voter_count ?k_Voter_count ?a_Voter_word ?i_Voter_word ?l_Voter_word ?o_Voter_word ?k_Voter_word ?a_Voter_is_close ?i_Voter_is_close ?l_Voter_is_close ?o_Voter_is_close ?k_Voter_is_close ?a_Voter_watch ?i_Voter_watch ?l_Voter_watch ?o_Voter_watch ?k_Voter_watch ?a_Voter_wait ?i_Voter_wait ?l_Voter_wait ?o_Voter_wait ?k_Voter_wait ?a_Voter_step ?i_Voter_step ?l_Voter_step ?o_Voter_step ?k_Voter_step ?a_need ?l_need ?o_need ?k_need ?a_number_of ?l_number_of ?o_number_of ?k_number_of ?a_said ?l_said ?o_said ?k_said ?a_Desk_init ?i_Desk_init ?l_Desk_init ?o_Desk_init ?k_Desk_init ?a_Desk_answer ?i_Desk_answer ?l_Desk_answer ?o_Desk_answer ?k_Desk_answer ?a_class_of ?l_class_of ?o_class_of ?k_class_of ?a_play ?l_play ?o_play ?k_play ?a_l_cell ?l_l_cell ?o_l_cell ?k_l_cell ?a_l_drawn ?l_l_drawn ?o_l_drawn ?k_l_drawn ?a_l_none ?l_l_none ?o_l_none ?k_l_none ?a_l_others ?l_l_others ?o_l_others ?k_l_others ?a_law ?l_law ?o_law ?k_law
    (case n_ValueError => k_is)
    (case n_abs => k_is)
    (case n_all => k_is)
    (case n_enumerate => k_is)
    (case n_int => k_is)
    (case n_isinstance => k_is)
    (case n_len => k_is)
    (case n_max => k_is)
    (case n_min => k_is)
    (case n_range => k_is)
    (case n_sorted => k_is)
    (case n_str => k_is)
    (case n_tuple => k_is)
    (case c_LEAST => k_is)
    (case c_MOST => k_is)
    (case c_MOST_THRESHOLD => k_is)
    (case c_MOST_COUNT => k_is)
    (case c_MOST_VALUE => k_is)
    (case c_FIGURES => k_is)
    (case c_MOST_FIGURES => k_is)
    (case g_VoteError => k_is)
    (case g_BadSettings => k_is)
    (case g_BadStep => k_is)
    (case g_NoSensor => k_is)
    (case g_BadRow => k_is)
    (case g_Sensor => k_is)
    (case g_Voter => k_is)
    (case g_Desk => k_is)
    (case x_VoteError => k_exc)
    (case k_VoteError => k_is)
    (case xb_VoteError => k_is)
    (case xt_VoteError => k_is)
    (case xi_VoteError => k_is)
    (case xd_VoteError => k_is)
    (case xs_VoteError_VoteError => k_is)
    (case xs_VoteError_BadSettings => k_is)
    (case xs_VoteError_BadStep => k_is)
    (case xs_VoteError_NoSensor => k_is)
    (case xs_VoteError_BadRow => k_is)
    (case x_BadSettings => k_exc)
    (case k_BadSettings => k_is)
    (case xb_BadSettings => k_is)
    (case xt_BadSettings => k_is)
    (case xi_BadSettings => k_is)
    (case xd_BadSettings => k_is)
    (case eg_BadSettings => k_is)
    (case ek_BadSettings => k_is)
    (case ea_BadSettings => k_is)
    (case em_BadSettings => k_is)
    (case en_ => k_is)
    (case et_ => k_is)
    (case kv_BadSettings => kit_is)
    (case ki_BadSettings_BadSettings => kit_is)
    (case ki_BadSettings_BadStep => kit_is)
    (case ki_BadSettings_NoSensor => kit_is)
    (case ki_BadSettings_BadRow => kit_is)
    (case xs_BadSettings_VoteError => k_is)
    (case xs_BadSettings_BadSettings => k_is)
    (case xs_BadSettings_BadStep => k_is)
    (case xs_BadSettings_NoSensor => k_is)
    (case xs_BadSettings_BadRow => k_is)
    (case x_BadStep => k_exc)
    (case k_BadStep => k_is)
    (case xb_BadStep => k_is)
    (case xt_BadStep => k_is)
    (case xi_BadStep => k_is)
    (case xd_BadStep => k_is)
    (case eg_BadStep => k_is)
    (case ek_BadStep => k_is)
    (case ea_BadStep => k_is)
    (case em_BadStep => k_is)
    (case kv_BadStep => kit_is)
    (case ki_BadStep_BadSettings => kit_is)
    (case ki_BadStep_BadStep => kit_is)
    (case ki_BadStep_NoSensor => kit_is)
    (case ki_BadStep_BadRow => kit_is)
    (case xs_BadStep_VoteError => k_is)
    (case xs_BadStep_BadSettings => k_is)
    (case xs_BadStep_BadStep => k_is)
    (case xs_BadStep_NoSensor => k_is)
    (case xs_BadStep_BadRow => k_is)
    (case x_NoSensor => k_exc)
    (case k_NoSensor => k_is)
    (case xb_NoSensor => k_is)
    (case xt_NoSensor => k_is)
    (case xi_NoSensor => k_is)
    (case xd_NoSensor => k_is)
    (case eg_NoSensor => k_is)
    (case ek_NoSensor => k_is)
    (case ea_NoSensor => k_is)
    (case em_NoSensor => k_is)
    (case kv_NoSensor => kit_is)
    (case ki_NoSensor_BadSettings => kit_is)
    (case ki_NoSensor_BadStep => kit_is)
    (case ki_NoSensor_NoSensor => kit_is)
    (case ki_NoSensor_BadRow => kit_is)
    (case xs_NoSensor_VoteError => k_is)
    (case xs_NoSensor_BadSettings => k_is)
    (case xs_NoSensor_BadStep => k_is)
    (case xs_NoSensor_NoSensor => k_is)
    (case xs_NoSensor_BadRow => k_is)
    (case x_BadRow => k_exc)
    (case k_BadRow => k_is)
    (case xb_BadRow => k_is)
    (case xt_BadRow => k_is)
    (case xi_BadRow => k_is)
    (case xd_BadRow => k_is)
    (case eg_BadRow => k_is)
    (case ek_BadRow => k_is)
    (case ea_BadRow => k_is)
    (case em_BadRow => k_is)
    (case kv_BadRow => kit_is)
    (case ki_BadRow_BadSettings => kit_is)
    (case ki_BadRow_BadStep => kit_is)
    (case ki_BadRow_NoSensor => kit_is)
    (case ki_BadRow_BadRow => kit_is)
    (case xs_BadRow_VoteError => k_is)
    (case xs_BadRow_BadSettings => k_is)
    (case xs_BadRow_BadStep => k_is)
    (case xs_BadRow_NoSensor => k_is)
    (case xs_BadRow_BadRow => k_is)
    (case pg_Sensor => k_is)
    (case hd_Sensor => k_is)
    (case po_Sensor => k_is)
    (case sa_Sensor => k_is)
    (case mk_Sensor => k_is)
    (case kc_Sensor => k_is)
    (case na_Sensor_is_out => k_is)
    (case na_Sensor_many => k_is)
    (case pg_Voter => k_is)
    (case hd_Voter => k_is)
    (case po_Voter => k_is)
    (case sa_Voter => k_is)
    (case mk_Voter => k_is)
    (case kc_Voter => k_is)
    (case na_Voter_threshold => k_is)
    (case na_Voter_rate => k_is)
    (case na_Voter_misses => k_is)
    (case na_Voter_backs => k_is)
    (case na_Voter_sensors => k_is)
    (case na_Voter_last => k_is)
    (case pg_Desk => k_is)
    (case hd_Desk => k_is)
    (case po_Desk => k_is)
    (case sa_Desk => k_is)
    (case mk_Desk => k_is)
    (case kc_Desk => k_is)
    (case na_Desk_voter => k_is)
    (case na_Desk_many => k_is)
    (case a_middle => k_is)
    (case l_middle => k_is)
    (case o_middle => k_is)
    (case k_middle => k_is)
    (case a_moved => k_is)
    (case l_moved => k_is)
    (case o_moved => k_is)
    (case k_moved => k_is)
    (case a_agree => k_is)
    (case l_agree => k_is)
    (case o_agree => k_is)
    (case k_agree => k_is)
    (case a_need_settings => k_is)
    (case l_need_settings => k_is)
    (case o_need_settings => k_is)
    (case k_need_settings => k_is)
    (case a_need_step => k_is)
    (case l_need_step => k_is)
    (case o_need_step => k_is)
    (case k_need_step => k_is)
    (case a_Sensor_init => k_is)
    (case i_Sensor_init => k_is)
    (case l_Sensor_init => k_is)
    (case o_Sensor_init => k_is)
    (case k_Sensor_init => k_is)
    (case a_Voter_init => k_is)
    (case i_Voter_init => k_is)
    (case l_Voter_init => k_is)
    (case o_Voter_init => k_is)
    (case k_Voter_init => k_is)
    (case a_Voter_given => k_is)
    (case i_Voter_given => k_is)
    (case l_Voter_given => k_is)
    (case o_Voter_given => k_is)
    (case k_Voter_given => k_is)
    (case a_Voter_sensor => k_is)
    (case i_Voter_sensor => k_is)
    (case l_Voter_sensor => k_is)
    (case o_Voter_sensor => k_is)
    (case k_Voter_sensor => k_is)
    (case a_Voter_state => k_is)
    (case i_Voter_state => k_is)
    (case l_Voter_state => k_is)
    (case o_Voter_state => k_is)
    (case k_Voter_state => k_is)
    (case a_Voter_count => k_is)
    (case i_Voter_count => k_is)
    (case l_Voter_count => k_is)
    (case o_Voter_count => k_is)
    (case k_Voter_count => k_is)
    (case a_Voter_word => k_is)
    (case i_Voter_word => k_is)
    (case l_Voter_word => k_is)
    (case o_Voter_word => k_is)
    (case k_Voter_word => k_is)
    (case a_Voter_is_close => k_is)
    (case i_Voter_is_close => k_is)
    (case l_Voter_is_close => k_is)
    (case o_Voter_is_close => k_is)
    (case k_Voter_is_close => k_is)
    (case a_Voter_watch => k_is)
    (case i_Voter_watch => k_is)
    (case l_Voter_watch => k_is)
    (case o_Voter_watch => k_is)
    (case k_Voter_watch => k_is)
    (case a_Voter_wait => k_is)
    (case i_Voter_wait => k_is)
    (case l_Voter_wait => k_is)
    (case o_Voter_wait => k_is)
    (case k_Voter_wait => k_is)
    (case a_Voter_step => k_is)
    (case i_Voter_step => k_is)
    (case l_Voter_step => k_is)
    (case o_Voter_step => k_is)
    (case k_Voter_step => k_is)
    (case a_need => k_is)
    (case l_need => k_is)
    (case o_need => k_is)
    (case k_need => k_is)
    (case a_number_of => k_is)
    (case l_number_of => k_is)
    (case o_number_of => k_is)
    (case k_number_of => k_is)
    (case a_said => k_is)
    (case l_said => k_is)
    (case o_said => k_is)
    (case k_said => k_is)
    (case a_Desk_init => k_is)
    (case i_Desk_init => k_is)
    (case l_Desk_init => k_is)
    (case o_Desk_init => k_is)
    (case k_Desk_init => k_is)
    (case a_Desk_answer => k_is)
    (case i_Desk_answer => k_is)
    (case l_Desk_answer => k_is)
    (case o_Desk_answer => k_is)
    (case k_Desk_answer => k_is)
    (case a_class_of => k_is)
    (case l_class_of => k_is)
    (case o_class_of => k_is)
    (case k_class_of => k_is)
    (case a_play => k_is)
    (case l_play => k_is)
    (case o_play => k_is)
    (case k_play => k_is)
    (case a_l_cell => k_is)
    (case l_l_cell => k_is)
    (case o_l_cell => k_is)
    (case k_l_cell => k_is)
    (case a_l_drawn => k_is)
    (case l_l_drawn => k_is)
    (case o_l_drawn => k_is)
    (case k_l_drawn => k_is)
    (case a_l_none => k_is)
    (case l_l_none => k_is)
    (case o_l_none => k_is)
    (case k_l_none => k_is)
    (case a_l_others => k_is)
    (case l_l_others => k_is)
    (case o_l_others => k_is)
    (case k_l_others => k_is)
    (case a_law => k_is)
    (case l_law => k_is)
    (case o_law => k_is)
    (case k_law => k_is)
