import PyProof.Rows.All
import Wide.All
import OpenK.AllK
import Wide.FinOn
import HandS.ForMost
import HandS.ForExc
import HandS.Evl
import HandS.Wide
import HandS.Walk
import HandS.IsInst
import HandS.Small
import HandS.ExcIs
import HandS.ExcValue
import HandS.Hot
import HandS.HotCalls
import KE.GoesComp
import PySem.Challenge.RW_midvalue_k17_what_liars_can_do
set_option Elab.async false
set_option linter.all false
set_option maxRecDepth 100000
set_option maxHeartbeats 4000000
namespace MV
open PySem PySem.Spec PyProof.Rows L2 Evl

/-! ### operators by name -/
abbrev oAdd : R2 := rI0 fun i j => .int (i + j)
abbrev oSub : R2 := rI0 fun i j => .int (i - j)
abbrev oMul : R2 := rI CMul fun i j => .int (i * j)
abbrev oMulW : R2 := rI CMulW fun i j => .int (i * j)
abbrev oMod : R2 := rI (fun _ j => 0 < j) fun i j => .int (i % j)
abbrev oDivW : R2 := rI CDivW fun i j => .int (i / j)
abbrev oPow : R2 := rI CPow fun i j => .int (i ^ j.toNat)
abbrev oShl : R2 := rI CPow fun i j => .int (i * 2 ^ j.toNat)
abbrev oLt : R2 := rI0 fun i j => .bl (decide (i < j))
abbrev oLe : R2 := rI0 fun i j => .bl (decide (i ≤ j))
abbrev oGt : R2 := rI0 fun i j => .bl (decide (j < i))
abbrev oGe : R2 := rI0 fun i j => .bl (decide (j ≤ i))
abbrev oNeg : V → Hp → VK → Prop := rU fun i => .int (-i)
def oIsN : R2 := fun x y H Q => y = .non ∧ Q (.bl (decide (x = .non))) H
def oNotN : R2 := fun x y H Q => y = .non ∧ Q (.bl (!decide (x = .non))) H
def oAddS : R2 := fun x y H Q => ∃ i j, x = .str i ∧ y = .str j ∧ i.length + j.length ≤ sizeLine ∧ Q (.str (i ++ j)) H
def rAbs : List V → Hp → VK → Prop := fun xs H Q => ∃ i, xs = [.int i] ∧ Q (.int (if i < 0 then -i else i)) H
def rMin2 : List V → Hp → VK → Prop := fun xs H Q => ∃ i j, xs = [.int i, .int j] ∧ Q (.int (if j < i then j else i)) H
def rInt1 : List V → Hp → VK → Prop := fun xs H Q => (∃ i, xs = [.int i] ∧ Q (.int i) H) ∨ ∃ k, xs = [.bl k] ∧ Q (.int (if k then 1 else 0)) H
def tRaise (E : XK) (cls : Value) : TS := fun _ _ H => E cls none H

section
variable {K : PySem.W.Frag} {σ : L2.St} {H H' H0 : Hp} {ta tb tc te tx : TE} {t u : TT} {x y z v : V} {r r' : R2} {a b i j : Int} {p : Addr} {xs ys : List V} {ns ms : List Int}

/-! ### values of operators -/
theorem rv_eqI : RV rEq (.int a) (.int b) H (.bl (decide (a = b))) := fun H1 _ Q q => ⟨rfl, by
  have e : decide (V.int a = V.int b) = decide (a = b) := decide_eq_decide.mpr ⟨fun h => V.int.inj h, fun h => by rw [h]⟩
  rw [e]; exact q H1 (Ex.refl H1)⟩
theorem rv_neI : RV rNe (.int a) (.int b) H (.bl (!decide (a = b))) := fun H1 _ Q q => ⟨rfl, by
  have e : decide (V.int a = V.int b) = decide (a = b) := decide_eq_decide.mpr ⟨fun h => V.int.inj h, fun h => by rw [h]⟩
  rw [e]; exact q H1 (Ex.refl H1)⟩
theorem rv_eqS {s t : Str} : RV rEq (.str s) (.str t) H (.bl (decide (s = t))) := fun H1 _ Q q => ⟨rfl, by
  have e : decide (V.str s = V.str t) = decide (s = t) := decide_eq_decide.mpr ⟨fun h => V.str.inj h, fun h => by rw [h]⟩
  rw [e]; exact q H1 (Ex.refl H1)⟩
theorem rv_neS {s t : Str} : RV rNe (.str s) (.str t) H (.bl (!decide (s = t))) := fun H1 _ Q q => ⟨rfl, by
  have e : decide (V.str s = V.str t) = decide (s = t) := decide_eq_decide.mpr ⟨fun h => V.str.inj h, fun h => by rw [h]⟩
  rw [e]; exact q H1 (Ex.refl H1)⟩
theorem rv_neB {s t : Bool} : RV rNe (.bl s) (.bl t) H (.bl (!decide (s = t))) := fun H1 _ Q q => ⟨rfl, by
  have e : decide (V.bl s = V.bl t) = decide (s = t) := decide_eq_decide.mpr ⟨fun h => V.bl.inj h, fun h => by rw [h]⟩
  rw [e]; exact q H1 (Ex.refl H1)⟩
theorem rv_isN : RV oIsN x .non H (.bl (decide (x = .non))) := fun H1 _ _ q => ⟨rfl, q H1 (Ex.refl H1)⟩
theorem rv_notN : RV oNotN x .non H (.bl (!decide (x = .non))) := fun H1 _ _ q => ⟨rfl, q H1 (Ex.refl H1)⟩
theorem rv_addS {s t : Str} (h : s.length + t.length ≤ sizeLine) : RV oAddS (.str s) (.str t) H (.str (s ++ t)) := fun H1 _ _ q => ⟨s, t, rfl, rfl, h, q H1 (Ex.refl H1)⟩
theorem at_ints (h0 : 0 ≤ i) (h1 : i < ns.length) : atI (ns.map V.int) i = some (.int (ns.getD i.toNat 0)) := by
  obtain ⟨k, rfl⟩ := Int.eq_ofNat_of_zero_le h0
  have hk : k < ns.length := by omega
  refine atI_nat ?_
  rw [List.getElem?_map, List.getElem?_eq_getElem hk, Int.toNat_natCast, List.getD_eq_getElem?_getD, List.getElem?_eq_getElem hk]
  rfl
theorem at_vals (h0 : 0 ≤ i) (h1 : i < xs.length) : atI xs i = some (xs.getD i.toNat .non) := by
  obtain ⟨k, rfl⟩ := Int.eq_ofNat_of_zero_le h0
  have hk : k < xs.length := by omega
  refine atI_nat ?_
  rw [List.getElem?_eq_getElem hk, Int.toNat_natCast, List.getD_eq_getElem?_getD, List.getElem?_eq_getElem hk]
  rfl
theorem rv_ixInts (h : SqL K H p (ns.map V.int)) (h0 : 0 ≤ i) (h1 : i < ns.length) : RV (rIxL K) (.ref p) (.int i) H (.int (ns.getD i.toNat 0)) := rv_ixL h (at_ints h0 h1)
/-- a written list of whole numbers at a place -/
theorem ev_menu (hl : EvL ta σ H (ns.map V.int)) (hi : Ev tb σ H (.int i)) (h0 : 0 ≤ i) (h1 : i < ns.length) : Ev (tOp (rIxL K) ta tb) σ H (.int (ns.getD i.toNat 0)) :=
  ev_opL1 hl (fun _ e => hi.mono e) fun _ _ h _ => rv_ixL (sq_of h) (at_ints h0 h1)
theorem ev_menuV (hl : EvL ta σ H xs) (hi : Ev tb σ H (.int i)) (h0 : 0 ≤ i) (h1 : i < xs.length) : Ev (tOp (rIxL K) ta tb) σ H (xs.getD i.toNat .non) :=
  ev_opL1 hl (fun _ e => hi.mono e) fun _ _ h _ => rv_ixL (sq_of h) (at_vals h0 h1)
theorem el_is (h : EvL te σ H xs) (e : xs = ys) : EvL te σ H ys := e ▸ h

theorem ev_chain {c1 c2 : Bool} (ha : Ev ta σ H x) (hb : Ev tb σ H y) (hc : Ev tc σ H z) (h1 : RV r x y H (.bl c1)) (h2 : RV r' y z H (.bl c2)) : Ev (tChain r r' ta tb tc) σ H (.bl (c1 && c2)) := fun H1 e1 Q q =>
  ha H1 e1 _ fun H2 e2 => hb H2 (e1.trans e2) _ fun H3 e3 => h1 H3 ((e1.trans e2).trans e3) _ fun H4 e4 => ⟨c1, rfl, by
    have e5 := ((e1.trans e2).trans e3).trans e4
    cases c1 with
    | true =>
      rw [if_pos rfl]
      exact hc H4 e5 _ fun H5 e6 => h2 H5 (e5.trans e6) _ fun H6 e7 => q H6 ((((e2.trans e3).trans e4).trans e6).trans e7)
    | false =>
      rw [if_neg Bool.false_ne_true]
      exact q H4 ((e2.trans e3).trans e4)⟩

/-! ### values of calls -/
theorem rc_of {rr : List V → Hp → VK → Prop} {vs : List V} (h : ∀ H1, Ex H H1 → ∀ Q : VK, Q z H1 → rr vs H1 Q) : RC rr vs H z := fun H1 e Q q => h H1 e Q (q H1 (Ex.refl H1))
theorem rc_len (h : SqL K H p xs) : RC (rLenS K) [.ref p] H (.int (xs.length : Int)) := rc_of fun _ e _ q => ⟨p, xs, rfl, .inl (ex_l e h), q⟩
theorem rc_lenT (h : SqT K H p xs) : RC (rLenS K) [.ref p] H (.int (xs.length : Int)) := rc_of fun _ e _ q => ⟨p, xs, rfl, .inr (ex_t e h), q⟩
theorem rc_abs : RC rAbs [.int i] H (.int (if i < 0 then -i else i)) := rc_of fun _ _ _ q => ⟨i, rfl, q⟩
theorem rc_min2 : RC rMin2 [.int i, .int j] H (.int (if j < i then j else i)) := rc_of fun _ _ _ q => ⟨i, j, rfl, q⟩
theorem rc_max2 : RC rMax2 [.int i, .int j] H (.int (if j > i then j else i)) := rc_of fun _ _ _ q => ⟨i, j, rfl, q⟩
theorem rc_int : RC rInt1 [.int i] H (.int i) := rc_of fun _ _ _ q => .inl ⟨i, rfl, q⟩
theorem rc_intB {k : Bool} : RC rInt1 [.bl k] H (.int (if k then 1 else 0)) := rc_of fun _ _ _ q => .inr ⟨k, rfl, q⟩
theorem rc_all {bs : List Bool} (h : SqL K H p (bs.map V.bl)) : RC (rAll K) [.ref p] H (.bl (bs.all id)) := rc_of fun _ e _ q => ⟨p, bs, rfl, ex_l e h, q⟩
theorem rc_sum (h : SqL K H p (ns.map V.int)) : RC (rSum K) [.ref p] H (.int ns.sum) := rc_of fun _ e _ q => ⟨p, ns, rfl, ex_l e h, q⟩

/-! ### sorted -/
def srt (ns : List Int) : List Int := ns.mergeSort (fun a b => decide (a ≤ b))
theorem srt_perm (ns : List Int) : (srt ns).Perm ns := List.mergeSort_perm ns _
theorem srt_pw (ns : List Int) : (srt ns).Pairwise (· ≤ ·) := by
  have h := List.pairwise_mergeSort (le := fun a b : Int => decide (a ≤ b)) (fun a b c h1 h2 => by simp only [decide_eq_true_eq] at *; omega) (fun a b => by simp only [Bool.or_eq_true, decide_eq_true_eq]; omega) ns
  exact h.imp fun h => by simpa using h
theorem srt_len (ns : List Int) : (srt ns).length = ns.length := (srt_perm ns).length_eq
theorem srt_mem {ns : List Int} {n : Int} : n ∈ srt ns ↔ n ∈ ns := (srt_perm ns).mem_iff
theorem srt_uniq (h1 : ms.Perm ns) (h2 : ms.Pairwise (· ≤ ·)) : ms = srt ns :=
  List.Perm.eq_of_pairwise (le := (· ≤ ·)) (fun a b _ _ h1 h2 => Int.le_antisymm h1 h2) h2 (srt_pw ns) (h1.trans (srt_perm ns).symm)
theorem rcl_sorted (h : SqL K H p (ns.map V.int)) (hl : ns.length < 64) : RCL (rSorted K) [.ref p] H ((srt ns).map V.int) := fun H1 e Q q =>
  ⟨p, ns, rfl, ex_l e h, hl, fun ns' l hp hs hn => by
    have e1 := srt_uniq hp hs
    subst e1
    exact q l _ hn (Ex.new hn) upd_same⟩

/-! ### lists compared -/
/-- a flat value as data -/
def vD : V → PyData
  | .non => .none
  | .bl b => .bool b
  | .int i => .int i
  | .str s => .str s
  | _ => .none
def flat4 : V → Bool
  | .non | .bl _ | .int _ => true
  | .str s => SeqAt.shaped (.str s)
  | _ => false
theorem dp_flat (h : flat4 x = true) : Dp K H x (vD x) := by
  cases x with
  | non => exact .non
  | bl b => exact .bl b
  | int i => exact .int i
  | str s => exact .str s
  | _ => cases h
theorem dpAll_flat : ∀ {xs : List V}, xs.all flat4 = true → DpAll K H xs (xs.map vD)
  | [], _ => .nil
  | x :: xs, h => by
    rw [List.all_cons, Bool.and_eq_true] at h
    exact .cons (dp_flat h.1) (dpAll_flat h.2)
theorem lay_flat (h : flat4 x = true) : (vD x).canLay0 = true ∧ (vD x).depth = 0 := by
  cases x with
  | non => exact ⟨by simp [vD, PyData.canLay0], by simp [vD, PyData.depth]⟩
  | bl b => exact ⟨by simp [vD, PyData.canLay0], by simp [vD, PyData.depth]⟩
  | int i => exact ⟨by simp [vD, PyData.canLay0], by simp [vD, PyData.depth]⟩
  | str s => exact ⟨SeqAt.canLay_of_shaped h, by simp [vD, PyData.depth]⟩
  | _ => cases h
theorem lay_flats : ∀ {xs : List V}, xs.all flat4 = true → PyData.canLayAll0 (xs.map vD) = true ∧ PyData.depthAll (xs.map vD) = 0
  | [], _ => ⟨by simp [PyData.canLayAll0], by simp [PyData.depthAll]⟩
  | x :: xs, h => by
    rw [List.all_cons, Bool.and_eq_true] at h
    have h1 := lay_flat h.1
    have h2 := lay_flats h.2
    exact ⟨by rw [List.map_cons, PyData.canLayAll0, h1.1, h2.1]; rfl, by rw [List.map_cons, PyData.depthAll, h1.2, h2.2]; rfl⟩
theorem shaped_list (h : xs.all flat4 = true) : SeqAt.shaped (.list (xs.map vD)) = true := by
  obtain ⟨h1, h2⟩ := lay_flats h
  show ((PyData.list (xs.map vD)).canLay0 && decide ((PyData.list (xs.map vD)).depth ≤ 64)) = true
  rw [PyData.canLay0, PyData.depth, h1, h2]
  rfl
theorem shaped_tup (h : xs.all flat4 = true) : SeqAt.shaped (.tuple (xs.map vD)) = true := by
  obtain ⟨h1, h2⟩ := lay_flats h
  show ((PyData.tuple (xs.map vD)).canLay0 && decide ((PyData.tuple (xs.map vD)).depth ≤ 64)) = true
  rw [PyData.canLay0, PyData.depth, h1, h2]
  rfl
theorem ints_flat (ns : List Int) : (ns.map V.int).all flat4 = true := by
  rw [List.all_eq_true]
  intro x hx
  obtain ⟨n, _, rfl⟩ := List.mem_map.mp hx
  rfl
/-- a list and the empty list -/
theorem rv_eqNil {q : Addr} (h : SqL K H p xs) (hf : xs.all flat4 = true) (h2 : SqL K H q []) : RV (rEqD K) (.ref p) (.ref q) H (.bl (decide (xs = []))) := fun H1 e Q k => by
  refine ⟨.list (xs.map vD), .list [], .lst (ex_l e h) (dpAll_flat hf), .lst (ex_l e h2) .nil, shaped_list hf, by decide, ?_⟩
  have e2 : PyData.eqv (.list (xs.map vD)) (.list []) = decide (xs = []) := by
    cases xs with
    | nil => simp [PyData.eqv, PyData.eqvAll]
    | cons x r => simp [PyData.eqv, PyData.eqvAll]
  rw [e2]
  exact k H1 (Ex.refl H1)
theorem rv_neNil {q : Addr} (h : SqL K H p xs) (hf : xs.all flat4 = true) (h2 : SqL K H q []) : RV (rNeD K) (.ref p) (.ref q) H (.bl (!decide (xs = []))) := fun H1 e Q k => by
  refine ⟨.list (xs.map vD), .list [], .lst (ex_l e h) (dpAll_flat hf), .lst (ex_l e h2) .nil, shaped_list hf, by decide, ?_⟩
  have e2 : PyData.eqv (.list (xs.map vD)) (.list []) = decide (xs = []) := by
    cases xs with
    | nil => simp [PyData.eqv, PyData.eqvAll]
    | cons x r => simp [PyData.eqv, PyData.eqvAll]
  rw [e2]
  exact k H1 (Ex.refl H1)
/-- two lists of the same flat items -/
theorem rv_neSame {q : Addr} (h : SqL K H p xs) (hf : xs.all flat4 = true) (h2 : SqL K H q xs) : RV (rNeD K) (.ref p) (.ref q) H (.bl false) := fun H1 e Q k => by
  refine ⟨.list (xs.map vD), .list (xs.map vD), .lst (ex_l e h) (dpAll_flat hf), .lst (ex_l e h2) (dpAll_flat hf), shaped_list hf, shaped_list hf, ?_⟩
  have e2 : PyData.eqv (.list (xs.map vD)) (.list (xs.map vD)) = true := PySem.SeqAt.eqv_refl _ (SeqAt.canLay_of_shaped (shaped_list hf))
  rw [e2]
  exact k H1 (Ex.refl H1)
theorem ev_eqNil (ha : Ev ta σ H (.ref p)) (h : SqL K H p xs) (hf : xs.all flat4 = true) : Ev (tOp (rEqD K) ta (tLst tNil)) σ H (.bl (decide (xs = []))) :=
  ev_opL ha (el_lst ea_nil (by decide)) fun _ _ h1 e1 => rv_eqNil (ex_l e1 h) hf (sq_of h1)
theorem ev_neNil (ha : Ev ta σ H (.ref p)) (h : SqL K H p xs) (hf : xs.all flat4 = true) : Ev (tOp (rNeD K) ta (tLst tNil)) σ H (.bl (!decide (xs = []))) :=
  ev_opL ha (el_lst ea_nil (by decide)) fun _ _ h1 e1 => rv_neNil (ex_l e1 h) hf (sq_of h1)

/-! ### comprehensions over enumerate -/
theorem el_lcE {A : TA} {p : Addr} {xs : List V} {g : TG} {vs : List Nat} (f : Nat → Bool) (v : Nat → V) (ha : EvA A σ H [.ref p]) (hx : SqL K H p xs) (hz : xs.length ≤ 40000) {i1 i2 : Nat} (hg : g = gTup K 2 (gCons (gName i1) (gCons (gName i2) gNil)))
    (hw : ∀ y z, wipe (((wipe σ vs).set i1 (some y)).set i2 (some z)) vs = wipe σ vs)
    (ht : ∀ (i : Nat) (x : V) H1, Ex H H1 → xs[i]? = some x → EvT t (((wipe σ vs).set i1 (some (.int i))).set i2 (some x)) H1 (f i))
    (he : ∀ (i : Nat) (x : V) H1, Ex H H1 → xs[i]? = some x → f i = true → Ev te (((wipe σ vs).set i1 (some (.int i))).set i2 (some x)) H1 (v i)) :
    EvL (tLc (iEnum K A) g t te vs) σ H (Evl.given xs.length f v) := fun H0 e Q q => ha H0 e _ fun H1 e1 => ⟨p, xs, rfl, ex_l (e.trans e1) hx, fun Dl hD => by
  subst hg
  refine lc_it (walk_enum (K := K) (a := p) (xs := xs)) (Cw H1 f v Dl) ⟨hD, Ex.new hD, upd_same⟩ (fun i H' _ pc => ex_l ((e.trans e1).trans pc.2.1) hx) (fun i y H2 H2' hi pc hy => ?_) (fun H' pc => q Dl H' (fresh_back e1 pc.1) (e1.trans pc.2.1) pc.2.2)
  obtain ⟨T, x1, x2, rfl, nT, rfl, f1, f2⟩ := hy
  have ex1 : V.int (i : Nat) = x1 := Option.some.inj f1
  subst ex1
  have p2 : Cw H1 f v Dl i (upd H2 T (.tup [.int (i : Nat), x2])) := by
    obtain ⟨c1, c2, c3⟩ := pc
    refine ⟨c1, c2.trans (Ex.new nT), ?_⟩
    rw [upd_ne (ne_of_none c3 nT)]
    exact c3
  exact ⟨T, _, rfl, .inl (.inl upd_same), rfl, _, _, rfl, _, _, rfl, rfl, hw _ _, cw_turn p2 (by omega) (ht i x2 H1 (e.trans e1) f2) (fun hf => he i x2 H1 (e.trans e1) f2 hf)⟩⟩
end
end MV
namespace MV
open PySem PySem.Spec PyProof.Rows L2 Evl
theorem cmul_r {i j : Int} (h1 : -18446744073709551616 < j) (h2 : j < 18446744073709551616) : CMul i j := .inr ⟨h1, h2⟩
theorem cmul_l {i j : Int} (h1 : -18446744073709551616 < i) (h2 : i < 18446744073709551616) : CMul i j := .inl ⟨h1, h2⟩
theorem cdiv_c {i j : Int} (h1 : 0 < j) (h2 : j.natAbs.log2 < 9000) : CDivW i j := ⟨h1, h2⟩
theorem cdiv_s {i j : Int} (h1 : 0 < j) (h2 : j < 18446744073709551616) : CDivW i j := wide_div (b := 64) h1 (by omega) (by decide) (by decide)
theorem cpow_c {i j : Int} (h1 : 0 ≤ j) (h2 : j ≤ 1000000) (h3 : i.natAbs < 2 ^ 64) : CPow i j := ⟨h1, h2, h3⟩
end MV
namespace MV
open PySem PySem.Spec PyProof.Rows L2 Evl
def toInt : V → Int
  | .int i => i
  | _ => 0
def toInts (vs : List V) : List Int := vs.map toInt
section
variable {K : PySem.W.Frag} {σ : L2.St} {H : Hp} {ta : TA} {tb : TE} {vs : List V} {i : Int}
/-- a written list of whole numbers at a place that lies in it -/
theorem ev_menuL (h : EvA ta σ H vs) (hi : Ev tb σ H (.int i)) (e : vs = (toInts vs).map V.int) (h0 : 0 ≤ i) (h1 : i < (vs.length : Int)) (hs : vs.length ≤ 100) : Ev (tOp (rIxL K) (tLst ta) tb) σ H (.int ((toInts vs).getD i.toNat 0)) := by
  have h2 : EvL (tLst ta) σ H ((toInts vs).map V.int) := e ▸ el_lst h (by omega)
  exact ev_menu h2 hi h0 (by unfold toInts; rw [List.length_map]; exact h1)
theorem ev_menuG (h : EvA ta σ H vs) (hi : Ev tb σ H (.int i)) (h0 : 0 ≤ i) (h1 : i < (vs.length : Int)) (hs : vs.length ≤ 100) : Ev (tOp (rIxL K) (tLst ta) tb) σ H (vs.getD i.toNat .non) :=
  ev_menuV (el_lst h (by omega)) hi h0 h1
end
/-- a turn's list grows -/
theorem exGrow {H H' H1 : Hp} {p : Addr} {o : HO} (e : Ex H H') (e1 : Ex H' H1) (hp : H p = none) : Ex H (upd H1 p o) := (e.trans e1).mut hp
theorem wipe0 (σ : L2.St) : wipe σ [] = σ := rfl
end MV
namespace MV
open PySem PySem.Spec PyProof.Rows L2 Evl
section
variable {K : PySem.W.Frag} {σ : L2.St} {H H' : Hp} {ta tb te : TE} {t : TT} {x y z v : V} {D : Ends} {tz tu : TS} {P : List V → Prop} {xs ys vs : List V}
/-- a new list, of which P is known -/
def EvLP (te : TE) (σ : L2.St) (H : Hp) (P : List V → Prop) : Prop := ∀ H1, Ex H H1 → ∀ Q : VK, (∀ xs p H2, P xs → H1 p = none → Ex H1 H2 → H2 p = some (.lst xs) → Q (.ref p) H2) → te σ H1 Q
theorem q_asgLP {i : Nat} (h : EvLP te σ H P) (k : ∀ xs p H1, P xs → H p = none → Ex H H1 → H1 p = some (.lst xs) → tz D (σ.set i (some (.ref p))) H1) : tSeq (tAsg te (gName i)) tz D σ H := h H (Ex.refl H) _ fun xs p H1 hP hp e h1 => k xs p H1 hP hp e h1
theorem elp_call {sp : Sp} {dvs : List V} {E : XK} {ta : TA} (h : EvA ta σ H vs) (hs : ∀ H1, Ex H H1 → ∀ Q : VK, (∀ xs p H2, P xs → H1 p = none → Ex H1 H2 → H2 p = some (.lst xs) → Q (.ref p) H2) → ∀ E : XK, sp (vs ++ dvs) H1 Q E) : EvLP (tCall sp dvs E ta) σ H P := fun H1 e Q q =>
  h H1 e _ fun H2 e2 => hs H2 (e.trans e2) Q (fun xs p H3 hP hp e3 h3 => q xs p H3 hP (fresh_back e2 hp) (e2.trans e3) h3) E
/-- a call of one new list that gives a new list | a value -/
theorem el_cbN {rr : List V → Hp → VK → Prop} (ha : EvL ta σ H xs) (hr : ∀ p H1, Ex H H1 → H1 p = some (.lst xs) → RCL rr [.ref p] H1 ys) : EvL (tCB rr (tCons ta tNil)) σ H ys := fun H1 e Q q =>
  ha H1 e _ fun p H2 hp e2 h2 => hr p H2 (e.trans e2) h2 H2 (Ex.refl H2) Q fun p3 H3 hp3 e3 h3 => q p3 H3 (fresh_back e2 hp3) (e2.trans e3) h3
theorem ev_cbN {rr : List V → Hp → VK → Prop} (ha : EvL ta σ H xs) (hr : ∀ p H1, Ex H H1 → H1 p = some (.lst xs) → RC rr [.ref p] H1 z) : Ev (tCB rr (tCons ta tNil)) σ H z := fun H1 e Q q =>
  ha H1 e _ fun p H2 hp e2 h2 => hr p H2 (e.trans e2) h2 H2 (Ex.refl H2) Q fun H3 e3 => q H3 (e2.trans e3)
theorem ev_andB {a b : Bool} (h1 : Ev ta σ H (.bl a)) (h2 : Ev tb σ H (.bl b)) : Ev (tAndV ta tb) σ H (.bl (a && b)) := ev_andV h1 fun _ => h2
theorem ev_orB {a b : Bool} (h1 : Ev ta σ H (.bl a)) (h2 : Ev tb σ H (.bl b)) : Ev (tOrV ta tb) σ H (.bl (a || b)) := ev_orV h1 fun _ => h2
theorem et_andB {a b : Bool} {t u : TT} (h1 : EvT t σ H a) (h2 : EvT u σ H b) : EvT (tAnd t u) σ H (a && b) := et_and h1 fun _ => h2
theorem et_orB {a b : Bool} {t u : TT} (h1 : EvT t σ H a) (h2 : EvT u σ H b) : EvT (tOr t u) σ H (a || b) := et_or h1 fun _ => h2

theorem given_take (xs : List V) (p : V → Bool) (g : V → V) : ∀ i, i ≤ xs.length → Evl.given i (fun i => p (xs.getD i .non)) (fun i => g (xs.getD i .non)) = ((xs.take i).filter p).map g
  | 0, _ => rfl
  | i + 1, h => by
    have hi : i < xs.length := h
    have e : xs.getD i .non = xs[i] := by rw [List.getD_eq_getElem?_getD, List.getElem?_eq_getElem hi]; rfl
    have e2 : xs.take (i + 1) = xs.take i ++ [xs[i]] := by rw [List.take_add_one, List.getElem?_eq_getElem hi]; rfl
    have ih := given_take xs p g i (by omega)
    rw [e2, List.filter_append, List.map_append, ← ih]
    cases hp : p xs[i] with
    | true =>
      rw [Evl.given_yes (by show p (xs.getD i .non) = true; rw [e]; exact hp)]
      show _ ++ [g (xs.getD i .non)] = _
      rw [e, List.filter_cons, hp]
      rfl
    | false =>
      rw [Evl.given_no (by show p (xs.getD i .non) = false; rw [e]; exact hp), List.filter_cons, hp]
      simp
theorem given_list (xs : List V) (p : V → Bool) (g : V → V) : Evl.given xs.length (fun i => p (xs.getD i .non)) (fun i => g (xs.getD i .non)) = (xs.filter p).map g := by
  rw [given_take xs p g xs.length (Nat.le_refl _), List.take_length]
/-- [g(x) for x in xs if p(x)] -/
theorem el_lcM {a : Addr} {tl : TE} {j : Nat} {vs : List Nat} (p : V → Bool) (g : V → V) (h : Ev tl σ H (.ref a)) (hx : SqL K H a xs) (hz : xs.length ≤ 40000) (hw : ∀ x, wipe ((wipe σ vs).set j (some x)) vs = wipe σ vs)
    (ht : ∀ x H1, Ex H H1 → x ∈ xs → EvT t ((wipe σ vs).set j (some x)) H1 (p x)) (he : ∀ x H1, Ex H H1 → x ∈ xs → p x = true → Ev te ((wipe σ vs).set j (some x)) H1 (g x)) :
    EvL (tLc (iList K tl) (gName j) t te vs) σ H ((xs.filter p).map g) := by
  rw [← given_list]
  have get : ∀ {i : Nat} {x : V}, xs[i]? = some x → xs.getD i .non = x ∧ x ∈ xs := fun {i x} e => ⟨by rw [List.getD_eq_getElem?_getD, e]; rfl, List.mem_of_getElem? e⟩
  refine el_lcL (fun i => p (xs.getD i .non)) (fun i => g (xs.getD i .non)) h hx hz hw (fun i x H1 e1 hi => ?_) (fun i x H1 e1 hi hf => ?_)
  · obtain ⟨e, m⟩ := get hi
    show EvT t _ H1 (p (xs.getD i .non))
    rw [e]
    exact ht x H1 e1 m
  · obtain ⟨e, m⟩ := get hi
    show Ev te _ H1 (g (xs.getD i .non))
    rw [e]
    exact he x H1 e1 m (by rw [← e]; exact hf)
theorem ints_filter (ns : List Int) (p : V → Bool) (q : Int → Bool) (h : ∀ n, p (.int n) = q n) : ((ns.map V.int).filter p).map id = (ns.filter q).map V.int := by
  rw [List.map_id, List.filter_map]
  congr 1
  exact List.filter_congr fun n _ => h n
/-- [n for n in ns if q(n)], whole numbers -/
theorem el_lcI {a : Addr} {ns : List Int} {tl : TE} {j : Nat} {vs : List Nat} (q : Int → Bool) (h : Ev tl σ H (.ref a)) (hx : SqL K H a (ns.map V.int)) (hz : ns.length ≤ 40000) (hw : ∀ x, wipe ((wipe σ vs).set j (some x)) vs = wipe σ vs)
    (ht : ∀ n H1, Ex H H1 → n ∈ ns → EvT t ((wipe σ vs).set j (some (.int n))) H1 (q n)) (he : ∀ n H1, Ex H H1 → n ∈ ns → Ev te ((wipe σ vs).set j (some (.int n))) H1 (.int n)) :
    EvL (tLc (iList K tl) (gName j) t te vs) σ H ((ns.filter q).map V.int) := by
  rw [← ints_filter ns (fun x => q (toInt x)) q fun _ => rfl]
  refine el_lcM (fun x => q (toInt x)) id h hx (by rw [List.length_map]; exact hz) hw (fun x H1 e1 hm => ?_) (fun x H1 e1 hm _ => ?_)
  · obtain ⟨n, hn, rfl⟩ := List.mem_map.mp hm
    exact ht n H1 e1 hn
  · obtain ⟨n, hn, rfl⟩ := List.mem_map.mp hm
    exact he n H1 e1 hn
/-! ### isinstance -/
theorem rc_isi {c : V} {tt u : Value} {b : Bool} (hc : ClsV c u) (ht : ∀ H1, Ex H H1 → TyX K H1 x tt) (hk : PySem.W.kitOne K tt u = some b) : RC (rIsi K) [x, c] H (.bl b) := rc_of fun H1 e _ q => ⟨x, c, tt, u, b, rfl, hc, ht H1 e, hk, q⟩
theorem isi_int_bool {i : Int} : RC (rIsi K) [.int i, .ty "bool"] H (.bl false) := rc_isi (.ty _) (fun _ _ => .base (.int i)) (kit_ty (by decide +kernel))
theorem isi_int_int {i : Int} : RC (rIsi K) [.int i, .ty "int"] H (.bl true) := rc_isi (.ty _) (fun _ _ => .base (.int i)) (kit_ty (by decide +kernel))
theorem isi_list_list {p : Addr} (h : H p = some (.lst xs)) : RC (rIsi K) [.ref p, .ty "list"] H (.bl true) := rc_isi (.ty _) (fun _ e => .base (.lst (e p _ h))) (kit_ty (by decide +kernel))
theorem isi_tup_tup {p : Addr} (h : H p = some (.tup xs)) : RC (rIsi K) [.ref p, .ty "tuple"] H (.bl true) := rc_isi (.ty _) (fun _ e => .base (.tup (e p _ h))) (kit_ty (by decide +kernel))
theorem isi_list_tup {p : Addr} (h : H p = some (.lst xs)) : RC (rIsi K) [.ref p, .ty "tuple"] H (.bl false) := rc_isi (.ty _) (fun _ e => .base (.lst (e p _ h))) (kit_ty (by decide +kernel))
end
end MV
namespace MV
open PySem PySem.Spec PyProof.Rows L2 Evl
section
variable {σ : L2.St} {H : Hp} {sp : Sp} {E : XK} {ta : TA} {vs xs : List V} {z : V} {P : List V → Prop}
theorem ev_call0 (h : EvA ta σ H vs) (hs : SpV sp vs H z) : Ev (tCall sp [] E ta) σ H z := ev_call h (by rw [List.append_nil]; exact hs)
theorem el_call0 (h : EvA ta σ H vs) (hs : SpL sp vs H xs) : EvL (tCall sp [] E ta) σ H xs := el_call h (by rw [List.append_nil]; exact hs)
theorem elp_call0 (h : EvA ta σ H vs) (hs : ∀ H1, Ex H H1 → ∀ Q : VK, (∀ xs p H2, P xs → H1 p = none → Ex H1 H2 → H2 p = some (.lst xs) → Q (.ref p) H2) → ∀ E : XK, sp vs H1 Q E) : EvLP (tCall sp [] E ta) σ H P := elp_call h (by rw [List.append_nil]; exact hs)
end
end MV
namespace MV
open PySem PySem.Spec PyProof.Rows L2 Evl
section
variable {K : PySem.W.Frag} {σ : L2.St} {H : Hp} {ta te : TE} {D : Ends} {tz : TS} {xs : List V} {P : V → Prop}
/-- with a value of which only P is told on -/
theorem s_appX {l : Addr} (hl : H l = some (.lst xs)) (ha : Ev ta σ H (.ref l)) (h : ∃ v, Ev te σ H v ∧ P v) (hz : xs.length < 100000) (k : ∀ v H1, P v → Ex H H1 → D.nx σ (upd H1 l (.lst (xs ++ [v])))) :
    tDrop (tBM K "list" rAppend ta (tCons te tNil)) D σ H := by
  obtain ⟨v, hv, hp⟩ := h
  exact s_app hl ha hv hz fun H1 e => k v H1 hp e
theorem q_asgX {i : Nat} (h : ∃ v, Ev te σ H v ∧ P v) (k : ∀ v H1, P v → Ex H H1 → tz D (σ.set i (some v)) H1) : tSeq (tAsg te (gName i)) tz D σ H := by
  obtain ⟨v, hv, hp⟩ := h
  exact q_asg hv fun H1 e => k v H1 hp e
end
abbrev IsI (v : V) : Prop := ∃ i : Int, v = .int i
end MV
namespace MV
open PySem PySem.Spec PyProof.Rows L2 Evl
section
variable {K : PySem.W.Frag} {σ : L2.St} {H H' : Hp} {ta to tv te : TE} {a C dx : Addr} {fs fs' : List (Str × V)} {f m : Str} {x y z v : V} {D : Ends} {tz tu tw : TS} {sp : Sp} {E : XK} {ar : TA} {vs xs : List V} {t u : TT} {b : Bool}
/-! ### attributes, methods -/
theorem ev_fld (h : Ev ta σ H (.ref a)) (ho : H a = some (.ins C dx fs)) (c : Cls K C) (n : NoAttr K C f) (l : fs.lookup f = some v) : Ev (tFld K ta f) σ H v := fun H1 e Q q =>
  h H1 e _ fun H2 e2 => ⟨a, C, dx, fs, v, rfl, e2 a _ (e a _ ho), c, n, l, q H2 e2⟩
theorem ev_meth (h : Ev to σ H (.ref a)) (ho : H a = some (.ins C dx fs)) (l : fs.lookup m = none) (ha : EvA ar σ H vs) (hs : SpV sp (.ref a :: vs) H z) : Ev (tMeth C m sp [] E to ar) σ H z := fun H1 e Q q =>
  h H1 e _ fun H2 e2 => ⟨a, dx, fs, rfl, e2 a _ (e a _ ho), l, ha H2 (e.trans e2) _ fun H3 e3 => by
    rw [List.append_nil]
    exact hs H3 ((e.trans e2).trans e3) Q (fun H4 e4 => q H4 ((e2.trans e3).trans e4)) E⟩
theorem s_fld (hv : Ev tv σ H y) (ha : Ev ta σ H (.ref a)) (ho : H a = some (.ins C dx fs)) (hc : Cls K C) (hn : NoAttr K C f) (hl : fs.length < 1000) (hp : putF f y fs = fs') (k : ∀ H1, Ex H H1 → D.nx σ (upd H1 a (.ins C dx fs'))) : sFld K ta tv f D σ H :=
  hv H (Ex.refl H) _ fun H1 e1 => ha H1 e1 _ fun H2 e2 => ⟨a, C, dx, fs, rfl, (e1.trans e2) a _ ho, hc, hn, hl, by rw [hp]; exact k H2 (e1.trans e2)⟩
theorem q_fld (hv : Ev tv σ H y) (ha : Ev ta σ H (.ref a)) (ho : H a = some (.ins C dx fs)) (hc : Cls K C) (hn : NoAttr K C f) (hl : fs.length < 1000) (hp : putF f y fs = fs') (k : ∀ H1, Ex H H1 → tz D σ (upd H1 a (.ins C dx fs'))) : tSeq (sFld K ta tv f) tz D σ H :=
  s_fld (D := { D with nx := tz D }) hv ha ho hc hn hl hp k
/-- a call whose promise is read by hand -/
theorem s_dropC (ha : EvA ar σ H vs) (k : ∀ H1, Ex H H1 → sp vs H1 (fun _ H2 => D.nx σ H2) E) : tDrop (tCall sp [] E ar) D σ H := ha H (Ex.refl H) _ fun H1 e1 => by
  rw [List.append_nil]
  exact k H1 e1
theorem q_dropC (ha : EvA ar σ H vs) (k : ∀ H1, Ex H H1 → sp vs H1 (fun _ H2 => tz D σ H2) E) : tSeq (tDrop (tCall sp [] E ar)) tz D σ H := s_dropC (D := { D with nx := tz D }) ha k
theorem q_asgC {i : Nat} (ha : EvA ar σ H vs) (k : ∀ H1, Ex H H1 → sp vs H1 (fun v H2 => tz D (σ.set i (some v)) H2) E) : tSeq (tAsg (tCall sp [] E ar) (gName i)) tz D σ H := ha H (Ex.refl H) _ fun H1 e1 => by
  rw [List.append_nil]
  exact k H1 e1
theorem s_retC (ha : EvA ar σ H vs) (k : ∀ H1, Ex H H1 → sp vs H1 D.rt E) : tRet (tCall sp [] E ar) D σ H := ha H (Ex.refl H) _ fun H1 e1 => by
  rw [List.append_nil]
  exact k H1 e1
theorem s_dropM (h : Ev to σ H (.ref a)) (ho : H a = some (.ins C dx fs)) (l : fs.lookup m = none) (ha : EvA ar σ H vs) (k : ∀ H1, Ex H H1 → sp (.ref a :: vs) H1 (fun _ H2 => D.nx σ H2) E) : tDrop (tMeth C m sp [] E to ar) D σ H :=
  h H (Ex.refl H) _ fun H1 e1 => ⟨a, dx, fs, rfl, e1 a _ ho, l, ha H1 e1 _ fun H2 e2 => by
    rw [List.append_nil]
    exact k H2 (e1.trans e2)⟩
theorem q_dropM (h : Ev to σ H (.ref a)) (ho : H a = some (.ins C dx fs)) (l : fs.lookup m = none) (ha : EvA ar σ H vs) (k : ∀ H1, Ex H H1 → sp (.ref a :: vs) H1 (fun _ H2 => tz D σ H2) E) : tSeq (tDrop (tMeth C m sp [] E to ar)) tz D σ H :=
  s_dropM (D := { D with nx := tz D }) h ho l ha k
theorem q_asgM {i : Nat} (h : Ev to σ H (.ref a)) (ho : H a = some (.ins C dx fs)) (l : fs.lookup m = none) (ha : EvA ar σ H vs) (k : ∀ H1, Ex H H1 → sp (.ref a :: vs) H1 (fun v H2 => tz D (σ.set i (some v)) H2) E) : tSeq (tAsg (tMeth C m sp [] E to ar) (gName i)) tz D σ H :=
  h H (Ex.refl H) _ fun H1 e1 => ⟨a, dx, fs, rfl, e1 a _ ho, l, ha H1 e1 _ fun H2 e2 => by
    rw [List.append_nil]
    exact k H2 (e1.trans e2)⟩
/-- a method that raises, whatever is wanted -/
theorem s_retFM {g : Str} (h : Ev to σ H (.ref a)) (ho : H a = some (.ins C dx fs)) (l : fs.lookup m = none) (ha : EvA ar σ H vs) (k : ∀ H1, Ex H H1 → ∀ Q : VK, sp (.ref a :: vs) H1 Q E) : tRet (tFld K (tMeth C m sp [] E to ar) g) D σ H :=
  h H (Ex.refl H) _ fun H1 e1 => ⟨a, dx, fs, rfl, e1 a _ ho, l, ha H1 e1 _ fun H2 e2 => by
    rw [List.append_nil]
    exact k H2 (e1.trans e2) _⟩
/-- a tuple told apart into five names -/
theorem q_tup5 {p : Addr} {v1 v2 v3 v4 v5 : V} {i1 i2 i3 i4 i5 : Nat} (h : Ev te σ H (.ref p)) (ht : SqT K H p [v1, v2, v3, v4, v5])
    (k : ∀ H1, Ex H H1 → tz D (((((σ.set i1 (some v1)).set i2 (some v2)).set i3 (some v3)).set i4 (some v4)).set i5 (some v5)) H1) :
    tSeq (tAsg te (gTup K 5 (gCons (gName i1) (gCons (gName i2) (gCons (gName i3) (gCons (gName i4) (gCons (gName i5) gNil))))))) tz D σ H :=
  h H (Ex.refl H) _ fun H1 e1 => ⟨p, _, rfl, ex_t e1 ht, rfl, v1, _, rfl, v2, _, rfl, v3, _, rfl, v4, _, rfl, v5, _, rfl, rfl, k H1 e1⟩
theorem q_tup2 {p : Addr} {v1 v2 : V} {i1 i2 : Nat} (h : Ev te σ H (.ref p)) (ht : SqT K H p [v1, v2])
    (k : ∀ H1, Ex H H1 → tz D ((σ.set i1 (some v1)).set i2 (some v2)) H1) :
    tSeq (tAsg te (gTup K 2 (gCons (gName i1) (gCons (gName i2) gNil)))) tz D σ H :=
  h H (Ex.refl H) _ fun H1 e1 => ⟨p, _, rfl, ex_t e1 ht, rfl, v1, _, rfl, v2, _, rfl, rfl, k H1 e1⟩
theorem s_raise {cls : Value} (q : ∀ H1, Ex H H1 → E cls none H1) : tRaise E cls D σ H := q H (Ex.refl H)
/-- two ways of one value -/
theorem ev_ifB {tt : TT} (h : EvT tt σ H b) (h1 : Ev ta σ H x) (h2 : Ev te σ H y) : Ev (tIf tt ta te) σ H (if b = true then x else y) := by
  cases b with
  | true => exact ev_if h (fun _ => h1) (fun z => nomatch z)
  | false => exact ev_if h (fun z => nomatch z) (fun _ => h2)
/-- what the and's second part may lean on -/
theorem ev_andIf {a1 b1 : Bool} (h1 : Ev ta σ H (.bl a1)) (h2 : a1 = true → Ev te σ H (.bl b1)) : Ev (tAndV ta te) σ H (.bl (a1 && b1)) := ev_andV h1 h2
end
/-- kept but at one place -/
def But (s : Addr) (H H' : Hp) : Prop := ∀ b o, b ≠ s → H b = some o → H' b = some o
/-- kept but at the places of fp -/
def Buts (fp : List Addr) (H H' : Hp) : Prop := ∀ b o, b ∉ fp → H b = some o → H' b = some o
theorem Buts.refl (fp : List Addr) (H : Hp) : Buts fp H H := fun _ _ _ h => h
theorem Buts.trans {fp : List Addr} {H H1 H2 : Hp} (a : Buts fp H H1) (b : Buts fp H1 H2) : Buts fp H H2 := fun x o h e => b x o h (a x o h e)
theorem Buts.of {fp : List Addr} {H H' : Hp} (e : Ex H H') : Buts fp H H' := fun b o _ h => e b o h
theorem Buts.but {fp : List Addr} {s : Addr} {H H' : Hp} (hs : s ∈ fp) (e : But s H H') : Buts fp H H' := fun b o hb h => e b o (fun z => hb (z ▸ hs)) h
theorem Buts.mono {fp fq : List Addr} {H H' : Hp} (h : ∀ b ∈ fp, b ∈ fq) (e : Buts fp H H') : Buts fq H H' := fun b o hb => e b o fun z => hb (h b z)
theorem But.of {s : Addr} {H H' : Hp} (e : Ex H H') : But s H H' := fun b o _ h => e b o h
theorem But.upd {s : Addr} {H H' : Hp} {o : HO} (e : Ex H H') : But s H (upd H' s o) := fun b u hb h => by rw [upd_ne hb]; exact e b u h
theorem But.trans {s : Addr} {H H1 H2 : Hp} (a : But s H H1) (b : But s H1 H2) : But s H H2 := fun x o h e => b x o h (a x o h e)
theorem Buts.seq {K : PySem.W.Frag} {fp : List Addr} {H H' : Hp} {a : Addr} {xs : List V} (e : Buts fp H H') (ha : a ∉ fp) (h : SqL K H a xs) : SqL K H' a xs := by
  rcases h with (h | ⟨o, h⟩) | h
  · exact .inl (.inl (e _ _ ha h))
  · exact .inl (.inr ⟨o, e _ _ ha h⟩)
  · exact .inr h
theorem Buts.tup {K : PySem.W.Frag} {fp : List Addr} {H H' : Hp} {a : Addr} {xs : List V} (e : Buts fp H H') (ha : a ∉ fp) (h : SqT K H a xs) : SqT K H' a xs := by
  rcases h with (h | ⟨o, h⟩) | h
  · exact .inl (.inl (e _ _ ha h))
  · exact .inl (.inr ⟨o, e _ _ ha h⟩)
  · exact .inr h
end MV
namespace MV
open PySem PySem.Spec PyProof.Rows L2 Evl
section
variable {K : PySem.W.Frag} {σ : L2.St} {H H' : Hp} {te : TE} {D : Ends} {tz tu : TS} {ar : TA} {xs : List V}
/-- for i, x in enumerate(xs) -/
theorem s_forE {p : Addr} {i1 i2 : Nat} (h : EvA ar σ H [.ref p]) (hx : SqL K H p xs) (Pv : Nat → L2.St → Hp → Prop) (h0 : ∀ H1, Ex H H1 → Pv 0 σ H1) (hl : ∀ i σ' H', i ≤ xs.length → Pv i σ' H' → SqL K H' p xs)
    (hs : ∀ i x σ' H', xs[i]? = some x → Pv i σ' H' → ∀ H2, Ex H' H2 → tu { D with nx := Pv (i + 1), ct := Pv (i + 1), bk := D.nx } ((σ'.set i1 (some (.int (i : Nat)))).set i2 (some x)) H2) (hd : ∀ σ' H', Pv xs.length σ' H' → D.nx σ' H') :
    tFor (iEnum K ar) (gTup K 2 (gCons (gName i1) (gCons (gName i2) gNil))) tu D σ H := h H (Ex.refl H) _ fun H1 e => ⟨p, xs, rfl, ex_l e hx, by
  refine for_it (walk_enum (K := K) (a := p) (xs := xs)) Pv (h0 H1 e) hl (fun i y σ' H2 H2' hi pc hy => ?_) hd
  obtain ⟨T, x1, x2, rfl, nT, rfl, f1, f2⟩ := hy
  have ex1 : V.int (i : Nat) = x1 := Option.some.inj f1
  subst ex1
  exact ⟨T, _, rfl, .inl (.inl upd_same), rfl, _, _, rfl, _, _, rfl, rfl, hs i x2 σ' H2 f2 pc _ (Ex.new nT)⟩⟩
theorem q_forE {p : Addr} {i1 i2 : Nat} (h : EvA ar σ H [.ref p]) (hx : SqL K H p xs) (Pv : Nat → L2.St → Hp → Prop) (h0 : ∀ H1, Ex H H1 → Pv 0 σ H1) (hl : ∀ i σ' H', i ≤ xs.length → Pv i σ' H' → SqL K H' p xs)
    (hs : ∀ i x σ' H', xs[i]? = some x → Pv i σ' H' → ∀ H2, Ex H' H2 → tu { D with nx := Pv (i + 1), ct := Pv (i + 1), bk := tz D } ((σ'.set i1 (some (.int (i : Nat)))).set i2 (some x)) H2) (hd : ∀ σ' H', Pv xs.length σ' H' → tz D σ' H') :
    tSeq (tFor (iEnum K ar) (gTup K 2 (gCons (gName i1) (gCons (gName i2) gNil))) tu) tz D σ H := s_forE (D := { D with nx := tz D }) h hx Pv h0 hl hs hd
/-- a comprehension over a range whose turns may change the heap -/
theorem lc_R1 {n : Int} {j : Nat} {vs : List Nat} (h : EvA ar σ H [.int n]) (hn : 0 ≤ n ∧ n ≤ 10000) (hw : ∀ x, wipe ((wipe σ vs).set j (some x)) vs = wipe σ vs) (Pv : Nat → List V → Addr → Hp → Prop)
    (h0 : ∀ H1 Dl, Ex H H1 → H1 Dl = none → Pv 0 [] Dl (upd H1 Dl (.lst []))) (hs : ∀ (i : Nat) acc Dl H', (i : Int) < n → acc.length = i → H' Dl = some (.lst acc) → Pv i acc Dl H' → ∀ Q : VK, (∀ y H4, H4 Dl = some (.lst acc) → Pv (i + 1) (acc ++ [y]) Dl (upd H4 Dl (.lst (acc ++ [y]))) → Q y H4) → te ((wipe σ vs).set j (some (.int (i : Int)))) H' Q)
    {Q : VK} (k : ∀ acc Dl H', acc.length = n.toNat → H' Dl = some (.lst acc) → Pv n.toNat acc Dl H' → Q (.ref Dl) H') : tLc (iRng1 ar) (gName j) tYes te vs σ H Q :=
  h H (Ex.refl H) _ fun H1 e1 => ⟨n, rfl, by omega, by omega, fun Dl hD =>
    lc_range (lo := 0) (n := n.toNat) (fun i H' => ∃ acc : List V, acc.length = i ∧ H' Dl = some (.lst acc) ∧ Pv i acc Dl H') ⟨[], rfl, upd_same, h0 H1 Dl e1 hD⟩ (fun i H' hi ⟨acc, a1, a2, a3⟩ => by
      have e0 : (0 : Int) + (i : Int) = (i : Int) := Int.zero_add _
      show wipe ((wipe σ vs).set j (some (.int ((0 : Int) + (i : Int))))) vs = wipe σ vs ∧ te ((wipe σ vs).set j (some (.int ((0 : Int) + (i : Int))))) H' fun y H4 => ∃ acc, H4 Dl = some (.lst acc) ∧ acc.length < sizeLine ∧ ∃ acc' : List V, acc'.length = i + 1 ∧ (upd H4 Dl (.lst (acc ++ [y]))) Dl = some (.lst acc') ∧ Pv (i + 1) acc' Dl (upd H4 Dl (.lst (acc ++ [y])))
      rw [e0]
      refine ⟨hw _, ?_⟩
      exact hs i acc Dl H' (by omega) a1 a2 a3 _ fun y H4 h4 p4 => ⟨acc, h4, by rw [sizeLine_eq]; omega, acc ++ [y], by rw [List.length_append, a1]; rfl, upd_same, p4⟩) fun H' ⟨acc, a1, a2, a3⟩ => k acc Dl H' a1 a2 a3⟩
end
end MV
namespace MV
open PySem PySem.Spec PyProof.Rows L2 Evl
section
variable {K : PySem.W.Frag} {σ : L2.St} {H : Hp} {ta te : TE} {D : Ends} {tz : TS} {xs : List V} {P : List V → Prop}
theorem s_appLP {l : Addr} (hl : H l = some (.lst xs)) (ha : Ev ta σ H (.ref l)) (h : EvLP te σ H P) (hz : xs.length < 100000) (k : ∀ ys p H1, P ys → H p = none → Ex H H1 → H1 p = some (.lst ys) → D.nx σ (upd H1 l (.lst (xs ++ [.ref p])))) :
    tDrop (tBM K "list" rAppend ta (tCons te tNil)) D σ H := ha H (Ex.refl H) _ fun H1 e1 =>
  ⟨.inl ⟨rfl, xs, sq_of (e1 l _ hl)⟩, h H1 e1 _ fun ys p H2 hP hp e2 h2 => ⟨l, xs, .ref p, rfl, rfl, e2 l _ (e1 l _ hl), sz_lt hz, k ys p H2 hP (fresh_back e1 hp) (e1.trans e2) h2⟩⟩
end
end MV
namespace MV
open PySem PySem.Spec PyProof.Rows L2 Evl
section
variable {K : PySem.W.Frag} {σ : L2.St} {H H' : Hp} {te ta tl : TE} {D : Ends} {tz tu tw : TS} {xs ys : List V} {p q : Addr}
theorem elp_of {P : List V → Prop} (h : EvL te σ H xs) (hp : P xs) : EvLP te σ H P := fun H1 e Q k => h H1 e Q fun p H2 hn e2 h2 => k xs p H2 hp hn e2 h2
/-- a comprehension over a list whose turns may change the heap -/
theorem lc_L1 {a : Addr} {j : Nat} {vs : List Nat} (h : Ev tl σ H (.ref a)) (hx : SqL K H a xs) (hz : xs.length ≤ 10000) (hw : ∀ x, wipe ((wipe σ vs).set j (some x)) vs = wipe σ vs) (Pv : Nat → List V → Addr → Hp → Prop)
    (h0 : ∀ H1 Dl, Ex H H1 → H1 Dl = none → Pv 0 [] Dl (upd H1 Dl (.lst []))) (hl : ∀ i acc Dl H', H' Dl = some (.lst acc) → Pv i acc Dl H' → SqL K H' a xs)
    (hs : ∀ (i : Nat) x acc Dl H', xs[i]? = some x → acc.length = i → H' Dl = some (.lst acc) → Pv i acc Dl H' → ∀ Q : VK, (∀ y H4, H4 Dl = some (.lst acc) → Pv (i + 1) (acc ++ [y]) Dl (upd H4 Dl (.lst (acc ++ [y]))) → Q y H4) → te ((wipe σ vs).set j (some x)) H' Q)
    {Q : VK} (k : ∀ acc Dl H', acc.length = xs.length → H' Dl = some (.lst acc) → Pv xs.length acc Dl H' → Q (.ref Dl) H') : tLc (iList K tl) (gName j) tYes te vs σ H Q :=
  h H (Ex.refl H) _ fun H1 e1 => ⟨a, rfl, ⟨xs, ex_l e1 hx⟩, fun Dl hD =>
    lc_list (xs := xs) (fun i H' => ∃ acc : List V, acc.length = i ∧ H' Dl = some (.lst acc) ∧ Pv i acc Dl H') ⟨[], rfl, upd_same, h0 H1 Dl e1 hD⟩ (fun i H' _ ⟨acc, _, a2, a3⟩ => hl i acc Dl H' a2 a3) (fun i x H' hi ⟨acc, a1, a2, a3⟩ => by
      have hi' := (List.getElem?_eq_some_iff.mp hi).1
      show wipe ((wipe σ vs).set j (some x)) vs = wipe σ vs ∧ te ((wipe σ vs).set j (some x)) H' fun y H4 => ∃ acc, H4 Dl = some (.lst acc) ∧ acc.length < sizeLine ∧ ∃ acc' : List V, acc'.length = i + 1 ∧ (upd H4 Dl (.lst (acc ++ [y]))) Dl = some (.lst acc') ∧ Pv (i + 1) acc' Dl (upd H4 Dl (.lst (acc ++ [y])))
      refine ⟨hw _, ?_⟩
      exact hs i x acc Dl H' hi a1 a2 a3 _ fun y H4 h4 p4 => ⟨acc, h4, by rw [sizeLine_eq]; omega, acc ++ [y], by rw [List.length_append, a1]; rfl, upd_same, p4⟩) fun H' ⟨acc, a1, a2, a3⟩ => k acc Dl H' a1 a2 a3⟩
theorem q_asgR {i : Nat} (k : te σ H fun v H1 => tz D (σ.set i (some v)) H1) : tSeq (tAsg te (gName i)) tz D σ H := k
/-- objects made one after the other, each from an item of a list -/
theorem lc_objs {β : Type} [Inhabited β] (own : β → List Addr) (rep : β → V) (P : Nat → β → Hp → Prop) {a : Addr} {j : Nat} {vs : List Nat} (h : Ev tl σ H (.ref a)) (hx : SqL K H a xs) (hz : xs.length ≤ 10000) (hw : ∀ x, wipe ((wipe σ vs).set j (some x)) vs = wipe σ vs)
    (hk : ∀ i b H1 H2 Dl, H Dl = none → P i b H1 → But Dl H1 H2 → Dl ∉ own b → P i b H2) (ho : ∀ i b H1, P i b H1 → ∀ x ∈ own b, H1 x ≠ none)
    (hs : ∀ (i : Nat) x H1, xs[i]? = some x → Ex H H1 → ∀ Q : VK, (∀ b H2, Ex H1 H2 → (∀ x ∈ own b, H1 x = none) → P i b H2 → Q (rep b) H2) → te ((wipe σ vs).set j (some x)) H1 Q)
    {Q : VK} (k : ∀ (B : Nat → β) Dl H1, H Dl = none → Ex H H1 → H1 Dl = some (.lst ((List.range xs.length).map fun i => rep (B i))) → (∀ i, i < xs.length → P i (B i) H1 ∧ (∀ x ∈ own (B i), H x = none ∧ x ≠ Dl)) → (∀ i i', i < xs.length → i' < xs.length → i ≠ i' → ∀ x ∈ own (B i), x ∉ own (B i')) → Q (.ref Dl) H1) :
    tLc (iList K tl) (gName j) tYes te vs σ H Q := by
  refine lc_L1 h hx hz hw (fun n acc Dl H1 => H Dl = none ∧ Ex H H1 ∧ ∃ B : Nat → β, acc = (List.range n).map (fun i => rep (B i)) ∧ (∀ i, i < n → P i (B i) H1 ∧ (∀ x ∈ own (B i), H x = none ∧ x ≠ Dl)) ∧ ∀ i i', i < n → i' < n → i ≠ i' → ∀ x ∈ own (B i), x ∉ own (B i'))
    (fun H1 Dl e1 hD => ⟨fresh_back e1 hD, e1.trans (Ex.new hD), fun _ => default, rfl, fun i hi => absurd hi (by omega), fun i _ hi => absurd hi (by omega)⟩)
    (fun i acc Dl H1 _ ⟨_, e, _⟩ => ex_l e hx) ?hs ?hk
  case hs =>
    intro n x acc Dl H1 hxn hacc hDl ⟨hn, e, B, ea, hP, hd⟩ Q' k'
    refine hs n x H1 hxn e Q' fun b H2 e2 hf hPb => ?_
    have hDb : Dl ∉ own b := fun z => by have := hf Dl z; rw [hDl] at this; cases this
    have eU : But Dl H2 (upd H2 Dl (.lst (acc ++ [rep b]))) := But.upd (Ex.refl H2)
    have fr : ∀ i, i < n → ∀ x ∈ own (B i), x ∉ own b := fun i hi x hx hb => ho i (B i) H1 (hP i hi).1 x hx (hf x hb)
    refine k' _ H2 (e2 _ _ hDl) ⟨hn, (e.trans e2).mut hn, fun i => if i = n then b else B i, ?_, fun i hi => ?_, fun i i' hi hi' hne x hx => ?_⟩
    · rw [List.range_succ, List.map_append, ea]
      congr 1
      · refine List.map_congr_left fun i hi => ?_
        have : i < n := List.mem_range.mp hi
        show rep (B i) = rep (if i = n then b else B i)
        rw [if_neg (by omega)]
      · show [rep b] = [rep (if n = n then b else B n)]
        rw [if_pos rfl]
    · by_cases c : i = n
      · subst c
        show P i (if i = i then b else B i) _ ∧ ∀ x ∈ own (if i = i then b else B i), H x = none ∧ x ≠ Dl
        rw [if_pos rfl]
        exact ⟨hk i b H2 _ Dl hn hPb eU hDb, fun x hx => ⟨fresh_back e (hf x hx), fun z => hDb (z ▸ hx)⟩⟩
      · show P i (if i = n then b else B i) _ ∧ ∀ x ∈ own (if i = n then b else B i), H x = none ∧ x ≠ Dl
        rw [if_neg c]
        obtain ⟨h1, h2⟩ := hP i (by omega)
        have hDi : Dl ∉ own (B i) := fun z => (h2 Dl z).2 rfl
        exact ⟨hk i _ H1 _ Dl hn h1 ((But.of e2).trans eU) hDi, h2⟩
    · have hx' : x ∈ own (if i = n then b else B i) := hx
      show x ∉ own (if i' = n then b else B i')
      by_cases c : i = n
      · rw [if_pos c] at hx'
        rw [if_neg (by omega)]
        exact fun z => fr i' (by omega) x z hx'
      · rw [if_neg c] at hx'
        by_cases c' : i' = n
        · rw [if_pos c']
          exact fr i (by omega) x hx'
        · rw [if_neg c']
          exact hd i i' (by omega) (by omega) hne x hx'
  case hk =>
    intro acc Dl H1 hacc hDl ⟨hn, e, B, ea, hP, hd⟩
    subst ea
    exact k B Dl H1 hn e hDl hP hd
/-! ### tests told part by part -/
theorem q_orW {t u : TT} (h1 : EvT t σ H false) (k : ∀ H1, Ex H H1 → tSeq (tIfS u tu tw) tz D σ H1) : tSeq (tIfS (tOr t u) tu tw) tz D σ H := h1 H (Ex.refl H) _ fun H1 e => by
  show (if false = true then _ else _)
  rw [if_neg (by decide)]
  exact k H1 e
theorem s_orW {t u : TT} (h1 : EvT t σ H false) (k : ∀ H1, Ex H H1 → tIfS u tu tw D σ H1) : tIfS (tOr t u) tu tw D σ H := h1 H (Ex.refl H) _ fun H1 e => by
  show (if false = true then _ else _)
  rw [if_neg (by decide)]
  exact k H1 e
theorem rv_neTup (h : SqT K H p xs) (hf : xs.all flat4 = true) (h2 : SqT K H q xs) : RV (rNeD K) (.ref p) (.ref q) H (.bl false) := fun H1 e Q k => by
  refine ⟨.tuple (xs.map vD), .tuple (xs.map vD), .tup (ex_t e h) (dpAll_flat hf), .tup (ex_t e h2) (dpAll_flat hf), shaped_tup hf, shaped_tup hf, ?_⟩
  have e2 : PyData.eqv (.tuple (xs.map vD)) (.tuple (xs.map vD)) = true := PySem.SeqAt.eqv_refl _ (SeqAt.canLay_of_shaped (shaped_tup hf))
  rw [e2]
  exact k H1 (Ex.refl H1)
/-- found != stepped(..)[:2], the two alike -/
theorem q_neCut {i : Nat} {sp : Sp} {E : XK} {ar : TA} {vs : List V} (h : σ[i]? = some (some (.ref p))) (ha : EvA ar σ H vs) (hf : xs.all flat4 = true)
    (k : ∀ H1, Ex H H1 → ∀ Q : VK, (∀ q ys H2, SqT K H2 q ys → ¬ (HT.sIx ys.length 0 none = 0 ∧ HT.sIx ys.length ys.length (some 2) = ys.length) → cutV ys none (some 2) = xs → SqT K H2 p xs → (∀ H3, Ex H2 H3 → tz D σ H3) → Q (.ref q) H2) → sp vs H1 Q E) :
    tSeq (tIfS (tTest (tOp (rNeD K) (tVar i) (tSl (rSlT K) (tCall sp [] E ar) tNoPart (tPart (tC (.int 2)))))) tu tNext) tz D σ H := by
  refine ⟨.ref p, h, ?_⟩
  refine ha H (Ex.refl H) _ fun H1 e1 => ?_
  rw [List.append_nil]
  refine k H1 e1 _ fun q ys H2 hq hn hc hp kz => ?_
  refine ⟨2, rfl, q, ys, rfl, hq, hn, fun r hr => ?_⟩
  have e2 : Ex H2 (upd H2 r (.tup (cutV ys none (some 2)))) := Ex.new hr
  rw [hc] at e2 ⊢
  refine rv_neTup (ex_t e2 hp) hf (st_of upd_same) _ (Ex.refl _) _ fun H3 e3 => ⟨false, rfl, ?_⟩
  exact kz H3 (e2.trans e3)
theorem q_clear {i : Nat} (h : σ[i]? = some (some (.ref p))) (hp : H p = some (.lst xs)) (k : tz D σ (upd H p (.lst []))) : tSeq (tDrop (tBM0 K "list" rClear (tVar i))) tz D σ H :=
  ⟨.ref p, h, .inl ⟨rfl, xs, sq_of hp⟩, p, xs, rfl, rfl, hp, k⟩
theorem Buts.mut {fp : List Addr} {o : HO} (e : Buts fp H H') (h : H p = none) : Buts fp H (upd H' p o) := fun b u hb hu => by
  have : b ≠ p := fun z => by rw [z, h] at hu; cases hu
  rw [upd_ne this]
  exact e b u hb hu
theorem ev_neTup {tb : TE} (ha : EvU ta σ H xs) (hb : EvU tb σ H xs) (hf : xs.all flat4 = true) : Ev (tOp (rNeD K) ta tb) σ H (.bl false) := ev_opUU ha hb fun p q H1 h1 h2 _ => rv_neTup (st_of h1) hf (st_of h2)
theorem q_joinSet {c : TT} {t u : TS} {i : Nat} {x : V} (h : ∀ D' : Ends, (∀ y H1, y = x → Ex H H1 → D'.nx (σ.set i (some y)) H1) → tIfS c t u D' σ H) (k : ∀ H1, Ex H H1 → tz D (σ.set i (some x)) H1) : tSeq (tIfS c t u) tz D σ H :=
  h { D with nx := tz D } fun y H1 e eH => by
    subst e
    exact k H1 eH
end
end MV
namespace MV
open PySem PySem.Spec PyProof.Rows L2 Evl
/-! ### xs.count(y) of flat things -/
def rCntF (K : PySem.W.Frag) : V → List V → Hp → VK → Prop := fun x xs H Q => ∃ (p : Addr) (ys : List V) (y : V), x = .ref p ∧ xs = [y] ∧ SqL K H p ys ∧ flatV y = true ∧ ys.all flatV = true ∧ Q (.int ((ys.countP fun z => eqV z y : Nat) : Int)) H
theorem count_eqU {x : V} : ∀ {xs : List V} {us : List Value}, Vals xs us → xs.all flatV = true → us.countP (eqU x) = xs.countP fun y => eqV y x
  | _, _, .nil, _ => rfl
  | y :: xs, u :: us, .cons r t, f => by
    rw [List.all_cons, Bool.and_eq_true] at f
    rw [List.countP_cons, List.countP_cons, count_eqU t f.2, eqU_of r f.1]
theorem mt_countF {X : Cx} : MtR X "list.count" (rCntF X.K) := by
  intro pins s σ H x xs v us Q I rx rxs h
  obtain ⟨p, ys, y, rfl, rfl, hs, fy, fys, q⟩ := h
  cases rx
  cases rxs with
  | cons ry rt =>
    rename_i uy ut
    cases rt
    obtain ⟨its, rv, ⟨⟨cls, dd, data, sl⟩, n, ho, hc, hdn, hd⟩, hlen⟩ := I.list hs
    simp only at hc hd
    subst hc hd
    refine call_meets PySem.F.slot_list_count ⟨_, ho, rfl⟩ PySem.F.entry_list_count (PySem.F.args_list_count_2 _ _)
      (SeqAt.list_countAt p its.toArray n dd sl uy (eqU y)) ⟨ho, fun u hu => mem_eqAt ry fy rv fys u (by simpa using hu), ?_⟩
    have ec : its.toArray.toList.countP (eqU y) = ys.countP fun z => eqV z y := count_eqU rv fys
    refine ⟨.int ((ys.countP fun z => eqV z y : Nat) : Int), H, I.tok _, ⟨s.toks, ?_⟩, q⟩
    show Value.int ((its.toArray.toList.countP (eqU y) : Nat) : Int) s.toks = Value.int ((ys.countP fun z => eqV z y : Nat) : Int) s.toks
    rw [ec]
section
variable {K : PySem.W.Frag} {σ : L2.St} {H : Hp} {to : TE} {p : Addr} {ys : List V} {y : V} {te : TE}
theorem ev_count (ho : Ev to σ H (.ref p)) (hs : SqL K H p ys) (h : Ev te σ H y) (fy : flatV y = true) (fys : ys.all flatV = true) (ht : ∀ H1, Ex H H1 → tyV K "list" (.ref p) H1) : Ev (tBM K "list" (rCntF K) to (tCons te tNil)) σ H (.int ((ys.countP fun z => eqV z y : Nat) : Int)) := fun H1 e Q q =>
  ho H1 e _ fun H2 e2 => ⟨ht H2 (e.trans e2), h H2 (e.trans e2) _ fun H3 e3 => ⟨p, ys, y, rfl, rfl, ex_l ((e.trans e2).trans e3) hs, fy, fys, q H3 (e2.trans e3)⟩⟩
theorem ty_list (h : H p = some (.lst ys)) : tyV K "list" (.ref p) H := .inl ⟨rfl, ys, sq_of h⟩
end
end MV
namespace MVH
open PySem PySem.Spec PyProof.Rows L2 HotX
/-! ### a list walked while an exception is handled -/
section
variable {prog : Program} {w : World} {A : Around} {E : Value → Shared → Prop} {s : Shared}
theorem end_hot {it l x1 : Addr} {i : Nat} {items : Array Value} {Q : Option Value → Shared → Prop} (hot : HotAt A x1 s.heap) (hne : x1 ≠ it) (hit : s.heap.IsListIter it l i) (hl : s.heap.IsList l items) (hx : items[i]? = none)
    (hQ : ∀ h', Heap.ExtBut it s.heap h' → Q none { s with heap := h' }) : wpAny (model prog w) A (pyNext (.ref it)) Q E s := by
  obtain ⟨o, ho, hc, hd⟩ := id hit; obtain ⟨ol, hol, _, nl, hdl⟩ := hl; obtain ⟨hh, o1, vs1, h1, d1, c1⟩ := hot
  unfold pyNext
  refine wpAny_bind (wpAny_attempt (wpAny_callSpecial?_slot (name := Str.ofString "__next__") hit.typeIs slot_listiter_next (wpAny_call_entry slot_listiter_next hit.typeIs entry_listiter_next ?_ (args_listiter_next _))))
  show wpAny _ _ (field (.ref it) 0 >>= _) _ _ s
  refine wpAny_bind (wpAny_field ho hd (x := .ref l) rfl ?_); show wpAny _ _ (if (Value.ref l == Value.none) = true then _ else _) _ _ s
  rw [if_neg (by exact Bool.false_ne_true)]
  show wpAny _ _ (field (.ref it) 1 >>= _) _ _ s
  refine wpAny_bind (wpAny_field ho hd (x := .int i 0) rfl ?_); show wpAny _ _ (seqItems? (.ref l) >>= _) _ _ s
  refine wpAny_bind (wpAny_seqItems hol hdl ?_); simp only [Int.toNat_natCast, hx]
  refine wpAny_bind (wpAny_rule (wpAny_bind (wpAny_setField ho hd (by simp) ?_))); show wpAny _ _ (newExc (.type "StopIteration") [] >>= _) _ _ _
  refine wpAny_bind ?_; simp only [newExc, newTuple]
  refine wpAny_bind (wpAny_newObj_type ?_ (by size_fits)); refine wpAny_bind (m := firstArgMember _ _) (wpAny_of_eq (a := Value.none) (by first | rfl | (simp only [firstArgMember]; rfl)) ?_); refine wpAny_newObj_type ?_ (by size_fits)
  have k1 := Heap.SameBut.update (h := s.heap) (a := it) (f := Obj.mapFields (·.setIfInBounds 0 Value.none))
  have hk : (s.heap.update it (Obj.mapFields (·.setIfInBounds 0 Value.none))).get? x1 = some o1 := (k1.2 x1 hne).trans h1
  refine raiseNew_hot ⟨hh, o1, vs1, Heap.get?_push_of_some _ (Heap.get?_push_of_some _ hk), d1, c1⟩ (Nat.ne_of_lt (Heap.lt_size (Heap.get?_push_of_some _ hk))) (Heap.get?_push_size _ rfl) rfl (by first | (simp; done) | (simp; omega)) ?_
  refine wpAny_bind (wpAny_isInstance (T := "StopIteration") (b := true) ⟨_, Heap.get?_update_self _ (Heap.get?_push_size _ rfl) rfl, rfl⟩ isSubtype_stop ?_)
  refine wpAny_pure (hQ _ fun b u hb e => ?_)
  have hb2 := (k1.2 b hb).trans e
  rw [Heap.get?_update_other _ _ (Nat.ne_of_gt (Heap.lt_size (Heap.get?_push_of_some _ hb2)))]
  exact Heap.get?_push_of_some _ (Heap.get?_push_of_some _ hb2)
/-- the walk of a list: the list, and the handled one, stay -/
def StL (I l x1 : Addr) (its : Array Value) (i : Nat) (h : Heap) : Prop := h.IsListIter I l i ∧ h.IsList l its ∧ I ≠ l ∧ x1 ≠ I ∧ ∃ o vs, h.get? x1 = some o ∧ o.data = .fields vs ∧ vs[2]? = some .none
theorem list_walks {I l x1 : Addr} {its : Array Value} (hh : A.handled = some (.ref x1)) : Walks prog w A I [I, l, x1] [I] its.size (fun i v => its[i]? = some v) (StL I l x1 its) where
  sub := by simp
  frame := fun i h h' ⟨a, ⟨ol, b1, b2⟩, n1, n2, ⟨o, vs, c1, c2⟩⟩ k => ⟨a.at fun u e => k I (by simp) u e, ⟨ol, k l (by simp) _ b1, b2⟩, n1, n2, o, vs, k x1 (by simp) _ c1, c2⟩
  item := fun i s Q E hi ⟨a, b, n1, n2, ⟨o, vs, c1, c2⟩⟩ hQ => wpAny_pyNext_list_item (x := its[i]) a b (by simp [hi]) fun h' a' sb => by
    obtain ⟨ol, b1, b2⟩ := b
    exact hQ its[i] h' s.toks (by simp [hi]) ⟨a', ⟨ol, (sb.2 l n1.symm).trans b1, b2⟩, n1, n2, o, vs, (sb.2 x1 n2).trans c1, c2⟩ fun c u hc e => (sb.2 c (by simpa using hc)).trans e
  done := fun s Q E ⟨a, b, n1, n2, ⟨o, vs, c1, c2⟩⟩ hQ => end_hot ⟨hh, o, vs, c1, c2⟩ n2 a b (by simp) fun h' eb => hQ h' s.toks fun c u hc e => eb c u (by simpa using hc) e
  self := fun i s Q E ⟨a, _⟩ q => wpAny_pyIter_listiter a q
end
section
variable {X : Cx}
/-- sum(xs) while an exception is handled -/
theorem cr_sumH (hot : L2H.HotC X) : CallR X (.builtin "sum") (rSum X.K) := by
  intro pins s σ H vs us Q I r h
  obtain ⟨a, ns, rfl, hs, q⟩ := h
  obtain ⟨its, rv, hl, _⟩ := I.list hs
  obtain ⟨x1, hh, o1, vs1, g1, d1, c1⟩ := hot.at I
  rw [Vals.ref1 r]
  have hi := rv.ints
  obtain ⟨xs, e⟩ := hi.allInts.items
  have hn : numsOf (intItems xs).toList = ns := by rw [← e]; exact hi.numsOf
  rw [nums_intItems] at hn
  have hl' : s.heap.IsList a (intItems xs) := e ▸ hl.isList
  refine call_sum_walkG (iter_intList hl' fun s2 e2 st hfp hne => ?_)
  subst e2
  have x1lt := Heap.lt_size g1
  refine ⟨_, _, _, _, _, _, numAt xs, rfl, list_walks (A := X.A.in1) (l := a) (x1 := x1) (its := intItems xs) hh, ⟨st.1, st.2, hne.symm, Nat.ne_of_lt x1lt, o1, vs1, Heap.get?_push_of_some _ g1, d1, c1⟩, fun b hb => ?_, fun _ _ => intItems_at, fun h' tk t' hk => ?_⟩
  · simp only [List.mem_cons, List.not_mem_nil, or_false] at hb
    rcases hb with z | z | z
    · exact hfp b (by simp [z])
    · exact hfp b (by simp [z])
    · rw [z]
      show x1 < (s.heap.push _).objs.size
      rw [Heap.size_push]
      exact Nat.lt_succ_of_lt x1lt
  · have ez : preSum (numAt xs) (intItems xs).size = ns.sum := by
      rw [preSum_eq, List.take_of_length_le (by simp [intItems]), hn]
    rw [ez]
    exact ⟨.int ns.sum, H, I.kept (t' := tk) (old_kept hk), ⟨t', rfl⟩, q⟩
end
/-! ### [int(b) for b in bs] while an exception is handled -/
section
variable {X : Cx} {pins : List (Addr × Obj)} {σ : L2.St} {H : Hp} {s2 s3 : Shared} {scope : Scope} {y : Str} {iy : Nat} {C D I0 : Addr}
theorem names_local {env : Env} (hloc : ∀ z ∈ scope.names, z.2 = .local ∨ z.2 = .globalImplicit) {x : Str} {k : NameKind} (h : (relabel scope env).names.lookup x = some k) : ∃ z ∈ scope.names, z.1 = x ∧ z.2 = k := by
  have hm : (x, k) ∈ (relabel scope env).names := PySem.mem_of_lookup h
  unfold relabel at hm
  obtain ⟨⟨n, k0⟩, hz, e⟩ := List.mem_map.mp hm
  have hk : k0 = .local ∨ k0 = .globalImplicit := hloc _ hz
  rcases hk with rfl | rfl
  · have e' : (n, NameKind.local) = (x, k) := e
    cases e'
    exact ⟨_, hz, rfl, rfl⟩
  · have e' : (n, NameKind.globalImplicit) = (x, k) := e
    cases e'
    exact ⟨_, hz, rfl, rfl⟩
theorem names_not {env : Env} (hloc : ∀ z ∈ scope.names, z.2 = .local ∨ z.2 = .globalImplicit) {x : Str} {k : NameKind} (h : (relabel scope env).names.lookup x = some k) (h1 : k ≠ .local) (h2 : k ≠ .globalImplicit) : False := by
  obtain ⟨z, hz, _, e⟩ := names_local hloc h
  rcases hloc z hz with w | w
  · exact h1 (e.symm.trans w)
  · exact h2 (e.symm.trans w)
theorem blk_inv (hcalm : X.calm = false) (hN : X.N.Nodup) (ok : BlkOk X.N X.env.scope scope [(y, iy)]) (hloc : ∀ z ∈ scope.names, z.2 = .local ∨ z.2 = .globalImplicit) (I2 : Inv X pins σ H s2) (hf : FpOk X pins H I0) (hI : I0 < s2.heap.objs.size) (cb : CompBegins s2 D C s3) :
    Inv (X.blk s2 H scope (compEnvC scope [] C X.env) [I0]) [] (wipe σ [iy]) H s3 := by
  obtain ⟨⟨h, tk, rfl⟩, old, newD, newC, ne, names⟩ := cb
  obtain ⟨f0, f1, f2, f3, f4, f5⟩ := hf
  have neC : I0 ≠ C := Nat.ne_of_lt (Nat.lt_of_lt_of_le hI newC)
  have okB : (X.blk s2 H scope (compEnvC scope [] C X.env) [I0]).Ok :=
    { mod := I2.ok.mod
      kind := ok.kind
      glob := I2.ok.glob
      blt := I2.ok.blt
      above := newC
      inj := fun x z c e => by cases e
      has := fun x hx => by
        rcases hx with e | e
        · exact (names_not (env := X.env) hloc e (by decide) (by decide)).elim
        · exact (names_not (env := X.env) hloc e (by decide) (by decide)).elim
      cab := fun x c _ e => by cases e
      hd := fun z => absurd (hcalm.symm.trans z) (by decide)
      frames := I2.ok.frames
      stk := .inl rfl
      exf := fun b hb => by
        rw [List.mem_singleton.mp hb]
        exact ⟨neC, fun x c e => by cases e⟩
      bs := I2.bs
      bsz := Nat.le_trans I2.ok.bsz I2.sz
      noex := fun b o e hb => by
        rw [List.mem_singleton.mp hb] at e
        rcases f3 with z | z
        · exact I2.ok.noex _ _ e z
        · exact Nat.lt_irrefl _ (Nat.lt_of_lt_of_le (Heap.lt_size (I2.ok.bs _ _ e).1) z)
      exfs := fun b hb hm => by
        rw [List.mem_singleton.mp hb] at hm
        rcases List.mem_cons.mp (I2.stkSub _ hm) with z | z
        · exact f1 z
        · exact f2 z
      funs := I2.stack
      frf := I2.stkFree }
  exact
    { ok := okB
      os := rfl
      bare := I2.bare
      base := ⟨fun b o e _ _ _ => old b o e, fun b o e _ _ _ => ⟨o.slots, old b o e⟩, fun b o e n _ => n, fun b o e _ => ⟨o, old b o e⟩, fun _ _ e => e, fun _ _ _ e => e, fun b ps e => ⟨#[], by simpa using e⟩⟩
      loc := ⟨_, names, fun i x v e1 e2 e3 => by
        exfalso
        have hx : ∃ z ∈ scope.names, z.1 = x ∧ z.2 = .local := by
          rcases e3 with e | e | e
          · exact names_local (env := X.env) hloc e
          · exact (names_not (env := X.env) hloc e (by decide) (by decide)).elim
          · exact (names_not (env := X.env) hloc e (by decide) (by decide)).elim
        obtain ⟨z, hz, rfl, hzl⟩ := hx
        rcases ok.own z hz (.inl hzl) with w | w
        · simp only [List.map_cons, List.map_nil, List.mem_singleton] at w
          have hi : i = iy := nodup_ix hN e1 (by rw [w]; exact ok.ix (y, iy) (by simp))
          exact (wipe_some e2).2 (by simp [hi])
        · exact w (List.mem_of_getElem? e1)⟩
      cell := fun x c e => by cases e
      free := I2.hok.fresh newC
      freeC := fun x c e => by cases e
      pin := fun p hp => by simp at hp
      hok := fun b u e => (I2.hok b u e).stay (fun c w _ q => old c w q) (fun _ q => q) fun _ _ q => q
      len := by rw [wipe_length]; exact I2.len }
theorem vals_bools : ∀ {bs : List Bool} {us : List Value}, Vals (bs.map V.bl) us → us = bs.map Value.bool
  | [], _, h => by cases h; rfl
  | b :: bs, _, h => by
    cases h with
    | cons r t =>
      cases r
      rw [vals_bools t]
      rfl
/-- what stands elsewhere than at the new list and the iterator stays -/
theorem blk_keep {h' : Heap} {tk : Nat} {σ' : L2.St} {s : Shared} (I : Inv (X.blk s2 H scope (compEnvC scope [] C X.env) [I0]) [] σ' H s) (hD : H D = none) (hI : H I0 = none) (nD : D ≠ C) (nI : I0 ≠ C) (newD : s2.heap.objs.size ≤ D)
    (k : ∀ b o, b ∉ D :: [I0] → s.heap.get? b = some o → h'.get? b = some o) : Inv (X.blk s2 H scope (compEnvC scope [] C X.env) [I0]) [] σ' H { s with heap := h', toks := tk } := by
  have nH : ∀ b u, H b = some u → b ∉ D :: [I0] := fun b u e z => by
    rcases List.mem_cons.mp z with w | w
    · rw [w, hD] at e; cases e
    · rw [List.mem_singleton.mp w, hI] at e; cases e
  refine I.call (ch := [D, I0]) (d' := s.drawn) ⟨fun b o e _ _ hc => k b o hc e, fun b o e _ _ hc => ⟨o.slots, k b o hc e⟩, fun b o e n _ => n, fun b o e hc => ⟨o, k b o hc e⟩, fun _ _ e => e, fun _ _ _ e => e, fun b ps e => ⟨#[], by simpa using e⟩⟩ (fun b u e => (I.hok b u e).stay (fun c w hc q => k c w ?_ q) (fun _ q => q) fun _ _ q => q) I.bare fun b hb => ?_
  · rcases hc with z | z
    · rw [z]; exact nH b u e
    · exact nH c _ z
  · rcases List.mem_cons.mp hb with z | z
    · exact ⟨.inr (by rw [z]; exact newD), by rw [z]; exact nD, fun x c e => (by cases e), fun p hp => by simp at hp⟩
    · exact ⟨.inl (by simp [List.mem_singleton.mp z]), by rw [List.mem_singleton.mp z]; exact nI, fun x c e => (by cases e), fun p hp => by simp at hp⟩
def bInt (b : Bool) : Int := if b = true then 1 else 0
/-- [int(y) for y in f], f a list of booleans -/
def tHotInts (jf : Nat) : TE := fun σ H Q => ∃ (l : Addr) (bs : List Bool), σ[jf]? = some (some (.ref l)) ∧ H l = some (.lst (bs.map V.bl)) ∧ ∀ p, H p = none → Q (.ref p) (upd H p (.lst (bs.map fun b => V.int (bInt b))))
theorem clo_nil {cells : List (Str × Addr)} : ∀ {names : List (Str × NameKind)}, (∀ z ∈ names, z.2 = .local ∨ z.2 = .globalImplicit) → cloFrom cells names [] = []
  | [], _ => rfl
  | (n, k) :: r, h => by
    have hk : k = .local ∨ k = .globalImplicit := h (n, k) (by simp)
    have hr : cloFrom cells r [] = [] := clo_nil fun z hz => h z (by simp [hz])
    rcases hk with rfl | rfl <;> exact hr
theorem pe_hotInts {tg elt iter : Expr} {pos : Pos} {jf : Nat} (hcalm : X.calm = false) (hot : L2H.HotC X) (hN : X.N.Nodup) (ok : BlkOk X.N X.env.scope scope [(y, iy)]) (hloc : ∀ z ∈ scope.names, z.2 = .local ∨ z.2 = .globalImplicit) (hi : PE X iter (tVar jf))
    (hg : ∀ (s : Shared) (H : Hp) (C : Addr) (cl : List (Str × Addr)) (fp : List Addr), PG (X.blk s H scope (compEnvC scope cl C X.env) fp) tg (gName iy)) (he : ∀ (s : Shared) (H : Hp) (C : Addr) (cl : List (Str × Addr)) (fp : List Addr), PE (X.blk s H scope (compEnvC scope cl C X.env) fp) elt (tCB MV.rInt1 (tCons (tVar iy) tNil)))
    (hfs : ∀ x, foldedSetIterable iter X.env x = pure x := by intro _; rfl) : PE X (.ListComp elt [⟨tg, iter, [], 0⟩] scope pos) (tHotInts jf) := by
  refine ⟨fun pins s σ H Q I h => ?_⟩
  obtain ⟨l, bs, hσ, hl, q⟩ := h
  have hclos := closure_ok (env := X.env) (scope := scope) fun z hz e => absurd e (by rcases hloc z hz with w | w <;> rw [w] <;> decide)
  rw [clo_nil hloc] at hclos
  refine ListComp_goes hclos (fun z hz => by rcases hloc z hz with w | w <;> rw [w] <;> decide) ok.kind (fun z hz e => by rw [ok.uniq z hz, e]) ?_ hfs
  refine thn (hi.run pins s σ H (fun v H1 => v = .ref l ∧ H = H1) I ⟨_, hσ, rfl, rfl⟩) fun xv s1 ⟨v, H1, I1, r, ⟨e1, e2⟩⟩ => ?_
  subst e1 e2
  cases r
  obtain ⟨its, rv, pl, hz⟩ := I1.list (.inl (.inl hl))
  have eb := vals_bools rv
  subst eb
  obtain ⟨⟨x1, ox⟩, ⟨hh, vs1, d1, c1⟩, hp⟩ := hot
  obtain ⟨g1, n1, nL1, nf1, _⟩ := I1.pin (x1, ox) (List.mem_append_left _ hp)
  refine wpAny_pyIter_list pl.isList ?_
  have hnew : H s1.heap.objs.size = none := I1.hok.fresh (Nat.le_refl _)
  have hf : FpOk X pins H s1.heap.objs.size := I1.fpOk (Nat.le_refl _) hnew
  have x1lt := Heap.lt_size g1
  have llt : l < s1.heap.objs.size := by obtain ⟨_, e, _⟩ := pl.isList; exact Heap.lt_size e
  have I2 : Inv X pins σ H { s1 with heap := s1.heap.push { cls := .type "list_iterator", data := .fields #[.ref l, .int 0 0] } } := I1.kept (t' := s1.toks) fun b o e => Heap.get?_push_of_some _ e
  have g2 : (s1.heap.push { cls := .type "list_iterator", data := .fields #[.ref l, .int 0 0] }).get? x1 = some ox := Heap.get?_push_of_some _ g1
  have st0 : StL s1.heap.objs.size l x1 (bs.map Value.bool).toArray 0 (s1.heap.push { cls := .type "list_iterator", data := .fields #[.ref l, .int 0 0] }) := ⟨⟨_, Heap.get?_push_size _ rfl, rfl, rfl⟩, pl.isList.push _, Nat.ne_of_gt llt, Nat.ne_of_lt x1lt, ox, vs1, g2, d1, c1⟩
  have hsz : s1.heap.objs.size < (s1.heap.push { cls := .type "list_iterator", data := .fields #[.ref l, .int 0 0] }).objs.size := by rw [Heap.size_push]; exact Nat.lt_succ_self _
  have ds2 : ({ s1 with heap := s1.heap.push { cls := .type "list_iterator", data := .fields #[.ref l, .int 0 0] } } : Shared).heap = s1.heap.push { cls := .type "list_iterator", data := .fields #[.ref l, .int 0 0] } := rfl
  rw [← ds2] at g2 st0 hsz
  generalize ({ s1 with heap := s1.heap.push { cls := .type "list_iterator", data := .fields #[.ref l, .int 0 0] } } : Shared) = s2 at g2 st0 hsz I2 ⊢
  generalize s1.heap.objs.size = I0 at hnew hf st0 hsz ⊢
  have hls : (bs.map Value.bool).toArray.size = bs.length := by simp
  refine ⟨I0, [I0, l, x1], [I0], (bs.map Value.bool).toArray.size, fun i v _ => (bs.map Value.bool).toArray[i]? = some v, StL I0 l x1 (bs.map Value.bool).toArray, rfl, Goes.ofWalks (list_walks hh) (fun i v s Q E st q => by
    obtain ⟨⟨o, e, c, d⟩, _⟩ := st
    exact go_of e c d (by decide) q), by rw [hls]; rw [List.length_map] at hz; exact hz, st0, fun b hb => ?_, fun D C s3 cb => ?_⟩
  · simp only [List.mem_cons, List.not_mem_nil, or_false] at hb
    rcases hb with z | z | z
    · rw [z]; exact hsz
    · rw [z]
      obtain ⟨_, e, _⟩ := st0.2.1
      exact Heap.lt_size e
    · rw [z]; exact Heap.lt_size g2
  have newD := cb.newD
  have newC := cb.newC
  have nD := cb.ne
  have hD : H D = none := I2.hok.fresh newD
  have nI : I0 ≠ C := Nat.ne_of_lt (Nat.lt_of_lt_of_le hsz newC)
  have nID : I0 ≠ D := Nat.ne_of_lt (Nat.lt_of_lt_of_le hsz newD)
  have nfD : D ∉ frs X.stack := fun hm => by
    rcases List.mem_cons.mp (I2.stkSub _ hm) with z | z
    · exact Nat.lt_irrefl _ (Nat.lt_of_lt_of_le (z ▸ I2.lt) newD)
    · exact I2.nofs newD z
  have nfI : I0 ∉ frs X.stack := fun hm => by
    rcases List.mem_cons.mp (I2.stkSub _ hm) with z | z
    · exact hf.2.1 z
    · exact hf.2.2.1 z
  have nf1' : x1 ∉ frs X.stack := fun hm => by
    rcases List.mem_cons.mp (I2.stkSub _ hm) with z | z
    · exact nL1 z
    · exact nf1 z
  have n1I : x1 ≠ I0 := st0.2.2.2.1
  refine ⟨fun i ys s => Inv (X.blk s2 H scope (compEnvC scope [] C X.env) [I0]) [] (wipe σ [iy]) H s ∧ Vals ((bs.take i).map fun b => V.int (bInt b)) ys, ⟨blk_inv hcalm hN ok hloc I2 hf hsz cb, .nil⟩, fun i ys s h' tk ⟨G1, G2⟩ k _ => ⟨blk_keep G1 hD hnew nD nI newD k, G2⟩, fun i v ys s hin hY hSt ⟨G1, G2⟩ hPl => ?_, fun ys s ⟨G1, G2⟩ hPl => ?_⟩
  · have hib : i < bs.length := by rw [← hls]; exact hin
    have hv : v = .bool bs[i] := by
      have hY : (bs.map Value.bool).toArray[i]? = some v := hY
      rw [List.getElem?_toArray, List.getElem?_map, List.getElem?_eq_getElem hib] at hY
      exact (Option.some.inj hY).symm
    subst hv
    obtain ⟨⟨oI, eI, cI, dI⟩, hlI, n2, n3, hx1⟩ := hSt
    obtain ⟨nn, eD⟩ := hPl
    have J : Inv (X.blk s2 H scope (compEnvC scope [] C X.env) [I0]) [(I0, oI), (D, { cls := .type "list", data := .seq ys.toArray nn })] (wipe σ [iy]) H s := G1.pins_of fun p hp => by
      rcases List.mem_cons.mp hp with z | z
      · rw [z]; exact ⟨eI, hnew, nI, nfI, fun v z => by rw [dI] at z; cases z⟩
      · rw [List.mem_singleton.mp z]; exact ⟨eD, hD, nD, nfD, fun v z => by cases z⟩
    refine thnF ((hg s2 H C [] [I0]).run _ s _ H (.bl bs[i]) (.bool bs[i]) (fun σ' H' => σ' = (wipe σ [iy]).set iy (some (.bl bs[i])) ∧ H = H') J rfl ⟨rfl, rfl⟩) fun _ s4 ⟨σ4, H4, J4, ⟨e4, e5⟩⟩ => ?_
    subst e4 e5
    refine wpAny_of_eq (a := true) rfl ?_
    rw [if_pos rfl]
    have hiyl : iy < (wipe σ [iy]).length := by
      rw [wipe_length, I2.len]
      exact (List.getElem?_eq_some_iff.mp (ok.ix (y, iy) (by simp))).1
    refine thnF ((he s2 H C [] [I0]).run _ s4 _ H (fun v H' => v = .int (bInt bs[i]) ∧ H = H') J4 ⟨.bl bs[i], by rw [List.getElem?_set_self hiyl], .inr ⟨bs[i], rfl, rfl, rfl⟩⟩) fun x s6 ⟨v, H6, J6, r6, ⟨e6, e7⟩⟩ => ?_
    subst e6 e7
    have q1 := (J6.pin (I0, oI) (by simp)).1
    have q2 := (J6.pin (D, { cls := .type "list", data := .seq ys.toArray nn }) (by simp)).1
    obtain ⟨its6, rv6, pl6, _⟩ := J6.list (a := l) (.inl (.inl hl))
    have eb6 := vals_bools rv6
    subst eb6
    refine ⟨⟨(J6.unpinned (pins := [])).weak (by rw [List.length_set]) fun j w e => ?_, ?_⟩, ⟨⟨oI, q1, cI, dI⟩, pl6.isList, n2, n3, ox, vs1, J6.base.keep x1 ox g2 n1 nf1' (by simpa using n1I), d1, c1⟩, nn, q2⟩
    · have hj : iy ≠ j := fun z => (wipe_some e).2 (by simp [z])
      rw [List.getElem?_set_ne hj]
      exact e
    · rw [List.take_add_one, List.getElem?_eq_getElem hib, List.map_append]
      exact G2.append (.cons r6 .nil)
  · have ht : bs.take (bs.map Value.bool).toArray.size = bs := by rw [hls]; exact List.take_length
    rw [ht] at G2
    obtain ⟨m, hn, _⟩ := id G1.loc
    refine ⟨m, hn, fun h' sb => ⟨.ref D, upd H D (.lst (bs.map fun b => V.int (bInt b))), ?_, rfl, q D hD⟩⟩
    obtain ⟨nn, eD⟩ := hPl
    have nH : ∀ b u, H b = some u → b ≠ D := fun b u e z => by rw [z, hD] at e; cases e
    have nHC : ∀ b u, H b = some u → b ≠ C := fun b u e z => by
      have := I2.hok.lt e
      rw [z] at this
      exact Nat.lt_irrefl _ (Nat.lt_of_lt_of_le this newC)
    have old : ∀ b o, s2.heap.get? b = some o → b ≠ C ∧ b ≠ D := fun b o e => ⟨Nat.ne_of_lt (Nat.lt_of_lt_of_le (Heap.lt_size e) newC), Nat.ne_of_lt (Nat.lt_of_lt_of_le (Heap.lt_size e) newD)⟩
    have B := G1.base
    refine I2.call' (s' := { s with heap := h' }) (ch := [I0]) G1.os ⟨fun b o e n hb hc => ?_, fun b o e n hb hc => ?_, fun b o e n _ => ?_, fun b o e hc => ?_, fun b xs e => ?_, fun b o u e => ?_, fun b ps e => ⟨#[], ?_⟩⟩ (fun b u e => ?_) G1.bare fun b hb => ?_
    · exact (sb.2 b (old b o e).1).trans (B.keep b o e n hb hc)
    · obtain ⟨sl, q'⟩ := B.slot b o e n hb hc
      exact ⟨sl, (sb.2 b (old b o e).1).trans q'⟩
    · rw [upd_ne (old b o e).2]; exact n
    · obtain ⟨o', q'⟩ := B.there b o e hc
      exact ⟨o', (sb.2 b (old b o e).1).trans q'⟩
    · rw [upd_ne (nH _ _ e)]; exact e
    · rw [upd_ne (nH _ _ e)]; exact e
    · rw [upd_ne (nH _ _ e)]; simpa using e
    · by_cases hb : b = D
      · subst hb
        rw [upd_same] at e
        cases e
        exact ⟨by rw [List.length_map] at hz ⊢; exact hz, ys, nn, G2, (sb.2 b nD).trans eD⟩
      · rw [upd_ne hb] at e
        exact (G1.hok b u e).stay (fun c w hc q' => (sb.2 c (by
          rcases hc with z | z
          · rw [z]; exact nHC b u e
          · exact nHC c _ z)).trans q') (fun c q' => by rw [upd_ne (nH _ _ q')]; exact q') fun c xs q' => by rw [upd_ne (nH _ _ q')]; exact q'
    · rw [List.mem_singleton.mp hb]
      exact ⟨hf.2.2.2.1, hf.2.1, hf.2.2.2.2.1, hf.2.2.2.2.2⟩
end
end MVH
namespace MV
open PySem PySem.Spec PyProof.Rows L2 Evl MVH
/-! ### raised things whose context is None (L2N) -/
theorem passLN {X : Cx} : Passes (L2N.CX X.prog X.w) X E0 := fun _ _ _ _ _ _ _ h => by
  obtain ⟨_, _, _, _, _, _, _, _, _, _, _, _, q⟩ := h
  exact False.elim q
theorem takesN0 {X : Cx} : L2N.Takes X (fun _ _ _ _ => False) := fun _ _ x => by
  obtain ⟨_, _, _, _, _, _, _, _, _, _, _, _, _, _, _, _, q⟩ := x
  exact False.elim q
theorem takesN_len {X : Cx} {W : WX} (tk : L2N.Takes X W) : L2N.Takes X (fun cls d σ H => σ.length = X.N.length → W cls d σ H) := fun u s' ⟨a, B, sI, pins, σ, H, cls, d, e, I, nb, up, sky, na, os, ag, w⟩ =>
  tk u s' ⟨a, B, sI, pins, σ, H, cls, d, e, I, nb, up, sky, na, os, ag, w I.len⟩
theorem okN {P : Program} {w : World} {K : PySem.W.Frag} {mg : Str → Option Value} {base : Heap} {x qual : Str} {st : Stmt} {f : Addr} {fd : FuncData} {N ps : List Str} {k : Nat} {sp : Sp} (F : Fun K x qual st f fd) (S : FnScope N ps (defScope st)) (len : ∀ vs H Q E, sp vs H Q E → vs.length = ps.length)
    (hb : ∀ (cdv : Value) (A : Around) (outer : List Env) (s : Shared) (H : Hp) (vs : List V) (Q : VK) (E : XK), Room k (A.deeper (envOfC qual (defScope st) s.heap.objs.size f cdv)) → sp vs H Q E → ∃ t, PSs (cxOf (L2N.CX P w) P w K mg base N qual (defScope st) f cdv A outer s H E) (defBody st) t ∧ t { nx := fun _ H' => Q .non H', rt := Q } (start N vs) H) : FnOk P w K mg base (L2N.CX P w) (k + 1) f fd ps sp := by
  obtain ⟨oc, od, kV, doc, pm, an, cdv, ct, osl, rfl, lk, hcd⟩ := F.ex
  exact fn_of lk hcd S len fun A outer s H vs Q E hr hsp => hb cdv A outer s H vs Q E hr hsp
/-! ### isinstance of a pinned one -/
def rIsP (K : PySem.W.Frag) (C a : Addr) : List V → Hp → VK → Prop := fun xs H Q => ∃ (c : V) (cv : Value) (b : Bool), xs = [.ref a, c] ∧ ClsV c cv ∧ PySem.W.kitOne K (.ref C) cv = some b ∧ Q (.bl b) H
theorem call_isP {X : Cx} {p : Addr × Obj} {C : Addr} (hp : p ∈ X.pn) (hz : Zc (.ref C) none p.2) (hf : ∃ vs, p.2.data = .fields vs) (hC : ExcC X.K C) : CallR X (.builtin "isinstance") (rIsP X.K C p.1) := by
  intro pins s σ H xs us Q I r h
  obtain ⟨c, cv, b, rfl, hcv, e, q⟩ := h
  obtain ⟨a, oe⟩ := p
  cases r with
  | cons rx rr =>
    cases rr with
    | cons rt rr =>
      cases rr
      cases rx
      have ec := hcv.eq rt
      subst ec
      obtain ⟨hget, _⟩ := I.pin (a, oe) (List.mem_append_left _ hp)
      obtain ⟨vs, hv⟩ := hf
      have J : PySem.W.InstAt s.heap a oe C none := by
        obtain ⟨oc, od, oda, osl⟩ := oe
        obtain ⟨h1, h2⟩ := hz
        dsimp only at h1 h2 hv
        subst h1 h2 hv
        exact ⟨hget, rfl, rfl, trivial⟩
      exact PySem.W.kia_one (PySem.W.handS_kitx_exc hC.hg hC.hk hC.hs hC.hd hC.ha hC.hn hC.ht hC.hm) I.kIn J e (fun z => nomatch z) fun tk => ⟨.bl b, H, I.kept (t' := tk) fun _ _ z => z, rfl, q⟩
theorem rc_isP {K : PySem.W.Frag} {H : Hp} {a C : Addr} {c : V} {cv : Value} {b : Bool} (hc : ClsV c cv) (hk : PySem.W.kitOne K (.ref C) cv = some b) : RC (rIsP K C a) [.ref a, c] H (.bl b) := rc_of fun H1 e _ q => ⟨c, cv, b, rfl, hc, hk, q⟩
theorem el_hotInts {σ : L2.St} {H : Hp} {l : Addr} {bs : List Bool} {jf : Nat} (hσ : σ[jf]? = some (some (.ref l))) (hl : H l = some (.lst (bs.map V.bl))) : EvL (tHotInts jf) σ H (bs.map fun b => V.int (bInt b)) := fun H1 e Q q => ⟨l, bs, hσ, e _ _ hl, fun p hp => q p _ hp (Ex.new hp) upd_same⟩
/-- a def called while p's exception is handled, p known to its body -/
theorem fn_pin {P : Program} {w : World} {K : PySem.W.Frag} {mg : Str → Option Value} {base : Heap} {x qual : Str} {st : Stmt} {f : Addr} {fd : FuncData} {N ps : List Str} {k : Nat} (F : Fun K x qual st f fd) (S : FnScope N ps (defScope st)) {A : Around} {outer : List Env} {s : Shared} {H : Hp} {args : Args} {us : List Value} {vs : List V} {Q : VK} {E : XK} {p : Addr × Obj}
    (hr : L2H.RoomH (k + 1) A) (hot : L2H.Hot1 A p) (hpin : L2H.PinOk outer H s p) (e0 : Env0 P w K mg base A outer s H) (hb : BindsTo s fd args (ps.zip us)) (r : Vals vs us) (hl : vs.length = ps.length)
    (body : ∀ cdv : Value, ∃ t, PSs (L2H.cxH CX0 P w K mg base N qual (defScope st) f cdv A outer s H E p) (defBody st) t ∧ t { nx := fun _ H' => Q .non H', rt := Q } (L2.start N vs) H) : codeAny (model P w) A (.call (.ref f) args) (CR CX0 outer P w H s Q E) s := by
  obtain ⟨oc, od, kV, doc, pm, an, cdv, ct, osl, rfl, lk, hcd⟩ := F.ex
  have KX : K.In s.heap := e0.mod.kin.keeps fun b o e => (e0.bs b o e).1
  have hkind : ∀ z ∈ ps.zip us, (defScope st).names.lookup z.1 = some .local ∨ ((defScope st).names.lookup z.1 = some .cell ∧ ((cellsFrom (s.heap.objs.size + 1) (defScope st).names []).lookup z.1).isSome = true) := by
    intro z hz; obtain ⟨n, v⟩ := z
    have hn := S.par n (List.of_mem_zip hz).1
    exact hn.imp id fun q => ⟨q, PySem.W.cellsFrom_some _ _ _ (.inl q)⟩
  refine codeAny_call_function hr.depth (KX _ _ lk) rfl S.co S.gen rfl (PySem.W.codeRec_of KX hcd) (hb _ _ _ _ (wpAny_newFunctionEnv_cells S.kind hkind fun env he s1 xc => ?_))
  subst he
  refine ⟨(e0.mod.nolimit.keeps fun b o e => (e0.bs b o e).1).keeps xc.toInCall.keep, codeAny_func ?_⟩
  obtain ⟨t, ht, hq⟩ := body cdv
  have I : Inv (L2H.cxH CX0 P w K mg base N qual (defScope st) f cdv A outer s H E p) [] (L2.start N vs) H s1 := L2H.inv_startH S hpin e0 hl r xc
  refine wpAny_mono (ht.run [] s1 _ H _ I hq) (fun fl s' hs => ?_) fun e s' hs => hs
  cases fl with
  | ret u => exact let ⟨v, _, H', J, rv, q⟩ := hs; ⟨v, H', J.os, J.bare, J.base, J.hok, rv, q⟩
  | next => exact let ⟨_, H', J, q⟩ := hs; ⟨.non, H', J.os, J.bare, J.base, J.hok, rfl, q⟩
  | brk => exact let ⟨_, _, _, q⟩ := hs; False.elim q
  | cont => exact let ⟨_, _, _, q⟩ := hs; False.elim q
/-- f(e), e the exception that the suite holds; w comes back -/
def tWordOf (i : Nat) (a : Addr) (w : Str) : TE := fun σ H Q => σ[i]? = some (some (.ref a)) ∧ ∀ H', Ex H H' → Q (.str w) H'
theorem pe_callP {X : Cx} {a : Addr} {oe : Obj} {pn : List (Addr × Obj)} {C : Addr} {k : Nat} {f : Addr} {fd : FuncData} {ps : List Str} {x y : Str} {i : Nat} {p p2 pos : Pos} {wd : Str} (hz : L2N.Zn (.ref C) none oe) (hf : ∃ vs, oe.data = .fields vs)
    (F : ∀ (A : Around) (outer : List Env) (s : Shared) (H : Hp) (args : Args) (us : List Value) (Q : VK), L2H.RoomH k A → L2H.Hot1 A (a, oe) → L2H.PinOk outer H s (a, oe) → Env0 X.prog X.w X.K X.mg X.base A outer s H → BindsTo s fd args (ps.zip us) → Vals [.ref a] us → (∀ H', Ex H H' → Q (.str wd) H') → codeAny (model X.prog X.w) A (.call (.ref f) args) (CR CX0 outer X.prog X.w H s Q E0) s)
    (hr : Room k X.A) (hg : Gl (X.suite a ((a, oe) :: pn)) x) (hm : X.mg x = some (.ref f)) (hk : PySem.W.keepIn X.K (.ref f) = true) (hb : Binds X.K fd ps []) (hl : ps.length = 1) (hy : PE (X.suite a ((a, oe) :: pn)) (.Name y p2) (tVar i))
    (hdb : (x == ("__debug__" : Str)) = false := by decide) (he : starEach [.Name y p2] X.env = (false, eval (.Name y p2) X.env) :: starEach [] X.env := by rfl) (hpl : (backTo pos (starEach [] X.env)).any (·.1) = false := by rfl) : PE (X.suite a ((a, oe) :: pn)) (.Call (.Name x p) [.Name y p2] [] pos) (tWordOf i a wd) := by
  refine ⟨fun pins s σ H Q I h => ?_⟩
  obtain ⟨h1, h2⟩ := h
  refine wpAny_Call_Name_kw (ld_glob I hg hm ?_ hdb)
  have ha : PA (X.suite a ((a, oe) :: pn)) [.Name y p2] (tCons (tVar i) tNil) := pa_cons hy pa_nil
  refine PySem.W.callWith_K (h₀ := X.base) I.ok.mod.kin hk (thn (ha.run pos pins s σ H (fun vs H1 => vs = [.ref a] ∧ H = H1) I ⟨_, h1, rfl, rfl⟩) fun us s1 ⟨vs, H1, I1, r, ⟨q1, q2⟩⟩ => ⟨I1.kIn, ?_⟩) he hpl
  subst q1
  subst q2
  obtain ⟨e1, n1, nL, nf, nc⟩ := I1.pin (a, oe) (List.mem_append.mpr (.inl List.mem_cons_self))
  have hus : us.length = ps.length := by rw [← r.length, hl]; rfl
  have hbt := hb s1 us I1.kIn (by rw [List.append_nil]; exact hus)
  rw [List.append_nil] at hbt
  have hot : L2H.Hot1 (X.suite a ((a, oe) :: pn)).A (a, oe) := by
    obtain ⟨fs, hfs⟩ := hf
    exact ⟨rfl, fs, hfs, hz.2.2 fs hfs⟩
  have hpin : L2H.PinOk X.stack H s1 (a, oe) := ⟨e1, n1, fun hm' => (List.mem_cons.mp (I1.stkSub a hm')).elim nL nf, nc⟩
  refine wpAny_call (codeAny_mono (F (X.suite a ((a, oe) :: pn)).A X.stack s1 H ⟨us, []⟩ us Q ⟨hr.dp, hr.un⟩ hot hpin I1.env0 hbt r h2) fun r s' hq => ?_)
  cases r with
  | error e => exact False.elim hq
  | ok fl =>
    cases fl with
    | ret u => exact I1.after hq
    | next => exact False.elim hq
    | brk => exact False.elim hq
    | cont => exact False.elim hq
/-! ### try: .. except X as e: return f(e) -/
def EL (n : Nat) (W : WX) : XK := fun cls d H => ∀ σ : L2.St, σ.length = n → W cls d σ H
/-- what the clause wishes; wE: which class has which word -/
def tsW (wE : Addr → Str → Prop) (i : Nat) (a : Addr) (cls : Value) (d : Option Addr) : TS := fun D σ H => ∃ C w, cls = .ref C ∧ d = none ∧ wE C w ∧ σ[i]? = some (some (.ref a)) ∧ ∀ H', Ex H H' → D.rt (.str w) H'
theorem pss_retW {X : Cx} {wE : Addr → Str → Prop} {i : Nat} {a : Addr} {cls : Value} {d : Option Addr} {e : Expr} {pos : Pos} (h : ∀ C w, cls = .ref C → d = none → wE C w → PE X e (tWordOf i a w)) : PSs X [.Return (some e) pos] (tsW wE i a cls d) :=
  ⟨fun pins s σ H D I ⟨C, w, h1, h2, h3, h4, h5⟩ => (pss_one (ps_ret (h C w h1 h2 h3))).run pins s σ H D I ⟨h4, h5⟩⟩
def tTryW (K : PySem.W.Frag) (c : Value) (i : Nat) (wE : Addr → Str → Prop) (tb : WX → TS) : TS := fun D σ H => tb (wAs K c i (tsW wE i) (fun _ _ _ _ => False) D) D σ H
end MV
local macro_rules | `(tactic| walk_at "ev1") => `(tactic| (first
  | ((with_reducible apply Evl.ev_var); exact rfl)
  | with_reducible exact Evl.ev_c
  | with_reducible apply MV.ev_menuL
  | with_reducible exact Evl.ea_nil
  | with_reducible apply Evl.ea_cons
  | with_reducible apply MV.ev_chain
  | with_reducible apply Evl.ev_op
  | with_reducible apply Evl.ev_un
  | with_reducible apply Evl.ev_cb
  | with_reducible apply Evl.ev_notV
  | with_reducible apply Evl.et_test
  | with_reducible apply Evl.et_B
  | with_reducible apply Evl.et_not
  | with_reducible exact Evl.rv_I0
  | with_reducible exact Evl.ru_neg
  | with_reducible exact MV.rv_eqI
  | with_reducible exact MV.rv_neI
  | with_reducible exact MV.rv_eqS
  | with_reducible exact MV.rv_neS
  | with_reducible exact MV.rv_isN
  | with_reducible exact MV.rv_notN
  | with_reducible exact MV.rc_abs
  | with_reducible exact MV.rc_min2
  | with_reducible exact MV.rc_max2
  | with_reducible exact MV.rc_int
  | with_reducible exact MV.rc_intB
  | with_reducible exact MV.rc_len (by assumption)
  | with_reducible exact MV.rc_lenT (by assumption)
  | with_reducible exact MV.rv_ixInts (by assumption) (by omega) (by omega)
  | with_reducible exact Evl.rv_I (MV.cmul_r (by omega) (by omega))
  | with_reducible exact Evl.rv_I (MV.cmul_l (by omega) (by omega))
  | with_reducible exact Evl.rv_I (MV.cdiv_s (by omega) (by omega))
  | with_reducible exact Evl.rv_I (MV.cdiv_c (by decide +kernel) (by decide +kernel))
  | with_reducible exact Evl.rv_I (MV.cpow_c (by decide) (by decide) (by decide))
  | with_reducible exact Evl.rv_I (show (0 : Int) < _ by first | omega | decide +kernel)
  | with_reducible apply Evl.rv_I
  | (show _ = List.map L2.V.int (MV.toInts _); exact rfl)
  | (show (0 : Int) ≤ _; omega)
  | (show (_ : Int) < (List.length _ : Nat); simp only [List.length_cons, List.length_nil]; omega)
  | (show List.length _ ≤ 100; simp only [List.length_cons, List.length_nil]; omega)))
local macro_rules | `(tactic| walk_at "ev1") => `(tactic| with_reducible apply MV.ev_call0)
local macro_rules | `(tactic| walk_at "ev") => `(tactic| repeat' (walk_at "ev1"))
local macro_rules | `(tactic| walk_at "ev1") => `(tactic| (first
  | with_reducible apply MV.ev_andB
  | with_reducible apply MV.ev_orB
  | with_reducible apply MV.et_andB
  | with_reducible apply MV.et_orB
  | with_reducible exact MV.isi_int_bool
  | with_reducible exact MV.isi_int_int
  | with_reducible exact MV.isi_list_list (by assumption)
  | with_reducible exact MV.isi_tup_tup (by assumption)
  | with_reducible exact MV.isi_list_tup (by assumption)))
namespace MV
open PySem PySem.Spec PyProof.Rows L2 Evl MVH
def topS (i : Nat) : Stmt := PySem.Challenge.pw_midvalue_k17_what_liars_can_do.main.body.getD i (.Pass ⟨0, 0, 0, 0⟩)
structure Ads where
  c_VoteError : Addr
  c_BadSettings : Addr
  c_BadStep : Addr
  c_NoSensor : Addr
  c_BadRow : Addr
  f_need_fewer : Addr
  d_need_fewer : FuncData
  f_farthest : Addr
  d_farthest : FuncData
  f_worst : Addr
  d_worst : FuncData
  f_middle : Addr
  d_middle : FuncData
  f_l_cell : Addr
  d_l_cell : FuncData
  f_l_drawn : Addr
  d_l_drawn : FuncData
  f_l_word : Addr
  d_l_word : FuncData
  f_l_told : Addr
  d_l_told : FuncData
  f_law : Addr
  d_law : FuncData
abbrev s_need_fewer : Stmt := (topS 7)
abbrev s_farthest : Stmt := (topS 8)
abbrev s_worst : Stmt := (topS 9)
abbrev s_middle : Stmt := (topS 11)
abbrev s_l_cell : Stmt := (topS 13)
abbrev s_l_drawn : Stmt := (topS 14)
abbrev s_l_word : Stmt := (topS 15)
abbrev s_l_told : Stmt := (topS 16)
abbrev s_law : Stmt := (topS 17)
structure Txt (K : PySem.W.Frag) (mg : Str → Option Value) (A : Ads) : Prop where
  n_ValueError : mg "ValueError" = none
  n_abs : mg "abs" = none
  n_int : mg "int" = none
  n_isinstance : mg "isinstance" = none
  n_len : mg "len" = none
  n_list : mg "list" = none
  n_max : mg "max" = none
  n_min : mg "min" = none
  n_range : mg "range" = none
  n_sorted : mg "sorted" = none
  n_sum : mg "sum" = none
  n_tuple : mg "tuple" = none
  g_VoteError : mg "VoteError" = some (.ref A.c_VoteError)
  x_VoteError : PySem.W.excIn K A.c_VoteError [.type "ValueError", .type "Exception", .type "BaseException", .type "object"] "ValueError.__new__" = true
  k_VoteError : PySem.W.keepIn K (.ref A.c_VoteError) = true
  xb_VoteError : PySem.W.subIn K (.ref A.c_VoteError) (.type "BaseException") = some true
  xt_VoteError : PySem.W.typeIn K (.ref A.c_VoteError) = some (.type "type")
  xi_VoteError : PySem.W.isClsIn K A.c_VoteError = true
  xd_VoteError : PySem.W.hasDictIn K A.c_VoteError = true
  xs_VoteError_VoteError : PySem.W.subIn K (.ref A.c_VoteError) (.ref A.c_VoteError) = some true
  xs_VoteError_BadSettings : PySem.W.subIn K (.ref A.c_VoteError) (.ref A.c_BadSettings) = some false
  xs_VoteError_BadStep : PySem.W.subIn K (.ref A.c_VoteError) (.ref A.c_BadStep) = some false
  xs_VoteError_NoSensor : PySem.W.subIn K (.ref A.c_VoteError) (.ref A.c_NoSensor) = some false
  xs_VoteError_BadRow : PySem.W.subIn K (.ref A.c_VoteError) (.ref A.c_BadRow) = some false
  g_BadSettings : mg "BadSettings" = some (.ref A.c_BadSettings)
  x_BadSettings : PySem.W.excIn K A.c_BadSettings [.type "ValueError", .type "Exception", .type "BaseException", .type "object"] "ValueError.__new__" = true
  k_BadSettings : PySem.W.keepIn K (.ref A.c_BadSettings) = true
  xb_BadSettings : PySem.W.subIn K (.ref A.c_BadSettings) (.type "BaseException") = some true
  xt_BadSettings : PySem.W.typeIn K (.ref A.c_BadSettings) = some (.type "type")
  xi_BadSettings : PySem.W.isClsIn K A.c_BadSettings = true
  xd_BadSettings : PySem.W.hasDictIn K A.c_BadSettings = true
  ec_BadSettings : ExcC K A.c_BadSettings
  kv_BadSettings : PySem.W.kitOne K (.ref A.c_BadSettings) (.type "ValueError") = some true
  ki_BadSettings_BadSettings : PySem.W.kitOne K (.ref A.c_BadSettings) (.ref A.c_BadSettings) = some true
  ki_BadSettings_BadStep : PySem.W.kitOne K (.ref A.c_BadSettings) (.ref A.c_BadStep) = some false
  ki_BadSettings_NoSensor : PySem.W.kitOne K (.ref A.c_BadSettings) (.ref A.c_NoSensor) = some false
  ki_BadSettings_BadRow : PySem.W.kitOne K (.ref A.c_BadSettings) (.ref A.c_BadRow) = some false
  xs_BadSettings_VoteError : PySem.W.subIn K (.ref A.c_BadSettings) (.ref A.c_VoteError) = some true
  xs_BadSettings_BadSettings : PySem.W.subIn K (.ref A.c_BadSettings) (.ref A.c_BadSettings) = some true
  xs_BadSettings_BadStep : PySem.W.subIn K (.ref A.c_BadSettings) (.ref A.c_BadStep) = some false
  xs_BadSettings_NoSensor : PySem.W.subIn K (.ref A.c_BadSettings) (.ref A.c_NoSensor) = some false
  xs_BadSettings_BadRow : PySem.W.subIn K (.ref A.c_BadSettings) (.ref A.c_BadRow) = some false
  g_BadStep : mg "BadStep" = some (.ref A.c_BadStep)
  x_BadStep : PySem.W.excIn K A.c_BadStep [.type "ValueError", .type "Exception", .type "BaseException", .type "object"] "ValueError.__new__" = true
  k_BadStep : PySem.W.keepIn K (.ref A.c_BadStep) = true
  xb_BadStep : PySem.W.subIn K (.ref A.c_BadStep) (.type "BaseException") = some true
  xt_BadStep : PySem.W.typeIn K (.ref A.c_BadStep) = some (.type "type")
  xi_BadStep : PySem.W.isClsIn K A.c_BadStep = true
  xd_BadStep : PySem.W.hasDictIn K A.c_BadStep = true
  ec_BadStep : ExcC K A.c_BadStep
  kv_BadStep : PySem.W.kitOne K (.ref A.c_BadStep) (.type "ValueError") = some true
  ki_BadStep_BadSettings : PySem.W.kitOne K (.ref A.c_BadStep) (.ref A.c_BadSettings) = some false
  ki_BadStep_BadStep : PySem.W.kitOne K (.ref A.c_BadStep) (.ref A.c_BadStep) = some true
  ki_BadStep_NoSensor : PySem.W.kitOne K (.ref A.c_BadStep) (.ref A.c_NoSensor) = some false
  ki_BadStep_BadRow : PySem.W.kitOne K (.ref A.c_BadStep) (.ref A.c_BadRow) = some false
  xs_BadStep_VoteError : PySem.W.subIn K (.ref A.c_BadStep) (.ref A.c_VoteError) = some true
  xs_BadStep_BadSettings : PySem.W.subIn K (.ref A.c_BadStep) (.ref A.c_BadSettings) = some false
  xs_BadStep_BadStep : PySem.W.subIn K (.ref A.c_BadStep) (.ref A.c_BadStep) = some true
  xs_BadStep_NoSensor : PySem.W.subIn K (.ref A.c_BadStep) (.ref A.c_NoSensor) = some false
  xs_BadStep_BadRow : PySem.W.subIn K (.ref A.c_BadStep) (.ref A.c_BadRow) = some false
  g_NoSensor : mg "NoSensor" = some (.ref A.c_NoSensor)
  x_NoSensor : PySem.W.excIn K A.c_NoSensor [.type "ValueError", .type "Exception", .type "BaseException", .type "object"] "ValueError.__new__" = true
  k_NoSensor : PySem.W.keepIn K (.ref A.c_NoSensor) = true
  xb_NoSensor : PySem.W.subIn K (.ref A.c_NoSensor) (.type "BaseException") = some true
  xt_NoSensor : PySem.W.typeIn K (.ref A.c_NoSensor) = some (.type "type")
  xi_NoSensor : PySem.W.isClsIn K A.c_NoSensor = true
  xd_NoSensor : PySem.W.hasDictIn K A.c_NoSensor = true
  ec_NoSensor : ExcC K A.c_NoSensor
  kv_NoSensor : PySem.W.kitOne K (.ref A.c_NoSensor) (.type "ValueError") = some true
  ki_NoSensor_BadSettings : PySem.W.kitOne K (.ref A.c_NoSensor) (.ref A.c_BadSettings) = some false
  ki_NoSensor_BadStep : PySem.W.kitOne K (.ref A.c_NoSensor) (.ref A.c_BadStep) = some false
  ki_NoSensor_NoSensor : PySem.W.kitOne K (.ref A.c_NoSensor) (.ref A.c_NoSensor) = some true
  ki_NoSensor_BadRow : PySem.W.kitOne K (.ref A.c_NoSensor) (.ref A.c_BadRow) = some false
  xs_NoSensor_VoteError : PySem.W.subIn K (.ref A.c_NoSensor) (.ref A.c_VoteError) = some true
  xs_NoSensor_BadSettings : PySem.W.subIn K (.ref A.c_NoSensor) (.ref A.c_BadSettings) = some false
  xs_NoSensor_BadStep : PySem.W.subIn K (.ref A.c_NoSensor) (.ref A.c_BadStep) = some false
  xs_NoSensor_NoSensor : PySem.W.subIn K (.ref A.c_NoSensor) (.ref A.c_NoSensor) = some true
  xs_NoSensor_BadRow : PySem.W.subIn K (.ref A.c_NoSensor) (.ref A.c_BadRow) = some false
  g_BadRow : mg "BadRow" = some (.ref A.c_BadRow)
  x_BadRow : PySem.W.excIn K A.c_BadRow [.type "ValueError", .type "Exception", .type "BaseException", .type "object"] "ValueError.__new__" = true
  k_BadRow : PySem.W.keepIn K (.ref A.c_BadRow) = true
  xb_BadRow : PySem.W.subIn K (.ref A.c_BadRow) (.type "BaseException") = some true
  xt_BadRow : PySem.W.typeIn K (.ref A.c_BadRow) = some (.type "type")
  xi_BadRow : PySem.W.isClsIn K A.c_BadRow = true
  xd_BadRow : PySem.W.hasDictIn K A.c_BadRow = true
  ec_BadRow : ExcC K A.c_BadRow
  kv_BadRow : PySem.W.kitOne K (.ref A.c_BadRow) (.type "ValueError") = some true
  ki_BadRow_BadSettings : PySem.W.kitOne K (.ref A.c_BadRow) (.ref A.c_BadSettings) = some false
  ki_BadRow_BadStep : PySem.W.kitOne K (.ref A.c_BadRow) (.ref A.c_BadStep) = some false
  ki_BadRow_NoSensor : PySem.W.kitOne K (.ref A.c_BadRow) (.ref A.c_NoSensor) = some false
  ki_BadRow_BadRow : PySem.W.kitOne K (.ref A.c_BadRow) (.ref A.c_BadRow) = some true
  xs_BadRow_VoteError : PySem.W.subIn K (.ref A.c_BadRow) (.ref A.c_VoteError) = some true
  xs_BadRow_BadSettings : PySem.W.subIn K (.ref A.c_BadRow) (.ref A.c_BadSettings) = some false
  xs_BadRow_BadStep : PySem.W.subIn K (.ref A.c_BadRow) (.ref A.c_BadStep) = some false
  xs_BadRow_NoSensor : PySem.W.subIn K (.ref A.c_BadRow) (.ref A.c_NoSensor) = some false
  xs_BadRow_BadRow : PySem.W.subIn K (.ref A.c_BadRow) (.ref A.c_BadRow) = some true
  F_need_fewer : Fun K "need_fewer" "need_fewer" s_need_fewer A.f_need_fewer A.d_need_fewer
  g_need_fewer : mg "need_fewer" = some (.ref A.f_need_fewer)
  b_need_fewer : Binds K A.d_need_fewer ["rights", "others"] []
  F_farthest : Fun K "farthest" "farthest" s_farthest A.f_farthest A.d_farthest
  g_farthest : mg "farthest" = some (.ref A.f_farthest)
  b_farthest : Binds K A.d_farthest ["rights", "others"] []
  F_worst : Fun K "worst" "worst" s_worst A.f_worst A.d_worst
  g_worst : mg "worst" = some (.ref A.f_worst)
  b_worst : Binds K A.d_worst ["rights", "others", "is_great"] []
  F_middle : Fun K "middle" "middle" s_middle A.f_middle A.d_middle
  g_middle : mg "middle" = some (.ref A.f_middle)
  b_middle : Binds K A.d_middle ["numbers", "near"] []
  F_l_cell : Fun K "_law_cell" "_law_cell" s_l_cell A.f_l_cell A.d_l_cell
  g_l_cell : mg "_law_cell" = some (.ref A.f_l_cell)
  b_l_cell : Binds K A.d_l_cell ["_law_script", "_law_k"] []
  F_l_drawn : Fun K "_law_drawn" "_law_drawn" s_l_drawn A.f_l_drawn A.d_l_drawn
  g_l_drawn : mg "_law_drawn" = some (.ref A.f_l_drawn)
  b_l_drawn : Binds K A.d_l_drawn ["_law_cell_here", "_law_k"] []
  F_l_word : Fun K "_law_word" "_law_word" s_l_word A.f_l_word A.d_l_word
  g_l_word : mg "_law_word" = some (.ref A.f_l_word)
  b_l_word : Binds K A.d_l_word ["_law_e"] []
  F_l_told : Fun K "_law_told" "_law_told" s_l_told A.f_l_told A.d_l_told
  g_l_told : mg "_law_told" = some (.ref A.f_l_told)
  b_l_told : Binds K A.d_l_told ["_law_rights", "_law_others", "_law_which"] []
  F_law : Fun K "law" "law" s_law A.f_law A.d_law
  g_law : mg "law" = some (.ref A.f_law)
  b_law : Binds K A.d_law ["_law_script"] []
def spL (K : PySem.W.Frag) : Sp := fun vs H Q _ => ∃ (a : Addr) (ns : List Int), vs = [.ref a] ∧ SqL K H a (ns.map V.int) ∧ ns.length ≤ 63 ∧ ∀ H', Q (.bl true) H'
abbrev sp_law (K : PySem.W.Frag) (A : Ads) : Sp := spL K
def cell (ns : List Int) (k : Int) : Int := if ns = [] then k * 7919 else ns.getD (k % (ns.length : Int)).toNat 0 + k / (ns.length : Int) * 104729
def sp_l_cell (K : PySem.W.Frag) (A : Ads) : Sp := fun vs H Q _ => ∃ (a : Addr) (ns : List Int) (k : Int), vs = [.ref a, .int k] ∧ SqL K H a (ns.map V.int) ∧ ns.length ≤ 63 ∧ RetV (.int (cell ns k)) H Q
def drawn (c k : Int) : Int := ((c * 6364136223846793005 + (k + 1) * 1442695040888963407) % 340282366920938463463374607431768211507) * ((c * 6364136223846793005 + (k + 1) * 1442695040888963407) % 340282366920938463463374607431768211507) % 340282366920938463463374607431768211297
def sp_l_drawn (K : PySem.W.Frag) (A : Ads) : Sp := fun vs H Q _ => ∃ (c k : Int), vs = [.int c, .int k] ∧ RetV (.int (drawn c k)) H Q
theorem drawn_nn (c k : Int) : 0 ≤ drawn c k := Int.emod_nonneg _ (by decide)
theorem drawn_lt (c k : Int) : drawn c k < 340282366920938463463374607431768211297 := Int.emod_lt_of_pos _ (by decide)
theorem len_law {K : PySem.W.Frag} {vs : List V} {H : Hp} {Q : VK} {E : XK} (h : spL K vs H Q E) : vs.length = 1 := by
  obtain ⟨_, _, rfl, _⟩ := h
  rfl
theorem len_l_cell {K : PySem.W.Frag} {A : Ads} {vs : List V} {H : Hp} {Q : VK} {E : XK} (h : sp_l_cell K A vs H Q E) : vs.length = 2 := by
  obtain ⟨_, _, _, rfl, _⟩ := h
  rfl
theorem len_l_drawn {K : PySem.W.Frag} {A : Ads} {vs : List V} {H : Hp} {Q : VK} {E : XK} (h : sp_l_drawn K A vs H Q E) : vs.length = 2 := by
  obtain ⟨_, _, rfl, _⟩ := h
  rfl
def ab (i : Int) : Int := if i < 0 then -i else i
/-- the middle one of numbers, of two the nearer -/
def mid (ns : List Int) (near : Int) : Int :=
  if ((srt ns).length : Int) % 2 = 1 then (srt ns).getD (((srt ns).length : Int) / 2).toNat 0
  else if ab ((srt ns).getD (((srt ns).length : Int) / 2).toNat 0 - near) < ab ((srt ns).getD (((srt ns).length : Int) / 2 - 1).toNat 0 - near) then (srt ns).getD (((srt ns).length : Int) / 2).toNat 0
  else (srt ns).getD (((srt ns).length : Int) / 2 - 1).toNat 0
def mvd (one goal most : Int) : Int := if one < goal then (if one + most < goal then one + most else goal) else (if one - most > goal then one - most else goal)
def agr (ns : List Int) (v t : Int) : List V := Evl.given ns.length (fun i => decide (ab (ns.getD i 0 - v) ≤ t)) fun i => .int (i : Int)
def sp_middle (K : PySem.W.Frag) (A : Ads) : Sp := fun vs H Q _ => ∃ (a : Addr) (ns : List Int) (near : Int), vs = [.ref a, .int near] ∧ SqL K H a (ns.map V.int) ∧ ns ≠ [] ∧ ns.length < 64 ∧ RetV (.int (mid ns near)) H Q
theorem len_middle {K : PySem.W.Frag} {A : Ads} {vs : List V} {H : Hp} {Q : VK} {E : XK} (h : sp_middle K A vs H Q E) : vs.length = 2 := by
  obtain ⟨_, _, _, rfl, _⟩ := h
  rfl
/-! ### liars -/
def okLiars (n : Nat) (o : Int) : Bool := !(decide ((n : Int) ≤ o) || decide ((o + (n : Int)) % 2 = 0))
def loL (ns : List Int) (o : Int) : Int := (srt ns).getD (((ns.length : Int) + o) / 2 - o).toNat 0
def hiL (ns : List Int) (o : Int) : Int := (srt ns).getD (((ns.length : Int) + o) / 2).toNat 0
/-- at the end of the numbers -/
def EndL (ns : List Int) (g : Bool) (m : Int) : Prop := m ∈ ns ∧ ∀ y ∈ ns, if g = true then y ≤ m else m ≤ y
abbrev LiarsIn (K : PySem.W.Frag) (H : Hp) (a : Addr) (ns : List Int) (o : Int) : Prop := SqL K H a (ns.map V.int) ∧ ns ≠ [] ∧ ns.length < 64 ∧ 0 ≤ o ∧ o ≤ 1000
def sp_need_fewer (K : PySem.W.Frag) (A : Ads) : Sp := fun vs H Q E => ∃ (a : Addr) (ns : List Int) (o : Int), vs = [.ref a, .int o] ∧ SqL K H a (ns.map V.int) ∧ (okLiars ns.length o = true → RetV .non H Q) ∧ (okLiars ns.length o = false → ∀ H', Ex H H' → E (.ref A.c_BadStep) none H')
def sp_farthest (K : PySem.W.Frag) (A : Ads) : Sp := fun vs H Q E => ∃ (a : Addr) (ns : List Int) (o : Int), vs = [.ref a, .int o] ∧ LiarsIn K H a ns o ∧ (okLiars ns.length o = false → ∀ H', Ex H H' → E (.ref A.c_BadStep) none H') ∧
  (okLiars ns.length o = true → ∀ (H' : Hp) (p : Addr), Ex H H' → H p = none → H' p = some (.tup [.int (loL ns o), .int (hiL ns o)]) → Q (.ref p) H')
def sp_worst (K : PySem.W.Frag) (A : Ads) : Sp := fun vs H Q E => ∃ (a : Addr) (ns : List Int) (o : Int) (g : Bool), vs = [.ref a, .int o, .bl g] ∧ LiarsIn K H a ns o ∧ (okLiars ns.length o = false → ∀ H', Ex H H' → E (.ref A.c_BadStep) none H') ∧
  (okLiars ns.length o = true → ∀ (m : Int), EndL ns g m → ∀ (H' : Hp) (p : Addr), Ex H H' → H p = none → H' p = some (.lst (List.replicate o.toNat (.int m))) → Q (.ref p) H')
theorem len_need_fewer {K : PySem.W.Frag} {A : Ads} {vs : List V} {H : Hp} {Q : VK} {E : XK} (h : sp_need_fewer K A vs H Q E) : vs.length = 2 := by obtain ⟨_, _, _, rfl, _⟩ := h; rfl
theorem len_farthest {K : PySem.W.Frag} {A : Ads} {vs : List V} {H : Hp} {Q : VK} {E : XK} (h : sp_farthest K A vs H Q E) : vs.length = 2 := by obtain ⟨_, _, _, rfl, _⟩ := h; rfl
theorem len_worst {K : PySem.W.Frag} {A : Ads} {vs : List V} {H : Hp} {Q : VK} {E : XK} (h : sp_worst K A vs H Q E) : vs.length = 3 := by obtain ⟨_, _, _, _, rfl, _⟩ := h; rfl
theorem sc_middle : FnScope ["numbers", "near", "row", "half"] ["numbers", "near"] (defScope s_middle) := ⟨rfl, rfl, rfl, by decide +kernel, rfl, by decide +kernel, by decide +kernel⟩
def t_middle (K : PySem.W.Frag) (A : Ads) (E : XK) : TS :=
      (tSeq (tAsg (tCB (rSorted K) (tCons (tVar 0) tNil)) (gName 2))
      (tSeq (tAsg (tOp oDivW (tCB (rLenS K) (tCons (tVar 2) tNil)) (tC (.int 2))) (gName 3))
      (tSeq (tIfS (tTest (tOp rEq (tOp oMod (tCB (rLenS K) (tCons (tVar 2) tNil)) (tC (.int 2))) (tC (.int 1)))) (tRet (tOp (rIxL K) (tVar 2) (tVar 3))) tNext)
      (tSeq (tIfS (tTest (tOp oLt (tCB rAbs (tCons (tOp oSub (tOp (rIxL K) (tVar 2) (tVar 3)) (tVar 1)) tNil)) (tCB rAbs (tCons (tOp oSub (tOp (rIxL K) (tVar 2) (tOp oSub (tVar 3) (tC (.int 1)))) (tVar 1)) tNil)))) (tRet (tOp (rIxL K) (tVar 2) (tVar 3))) tNext)
      (tRet (tOp (rIxL K) (tVar 2) (tOp oSub (tVar 3) (tC (.int 1)))))))))
theorem sc_need_fewer : FnScope ["rights", "others"] ["rights", "others"] (defScope s_need_fewer) := ⟨rfl, rfl, rfl, by decide +kernel, rfl, by decide +kernel, by decide +kernel⟩
def t_need_fewer (K : PySem.W.Frag) (A : Ads) (E : XK) : TS :=
      (tIfS (tOr (tTest (tOp oGe (tVar 1) (tCB (rLenS K) (tCons (tVar 0) tNil)))) (tTest (tOp rEq (tOp oMod (tOp oAdd (tVar 1) (tCB (rLenS K) (tCons (tVar 0) tNil))) (tC (.int 2))) (tC (.int 0))))) (tRaise E (.ref A.c_BadStep)) tNext)
theorem sc_farthest : FnScope ["rights", "others", "row", "half"] ["rights", "others"] (defScope s_farthest) := ⟨rfl, rfl, rfl, by decide +kernel, rfl, by decide +kernel, by decide +kernel⟩
def t_farthest (K : PySem.W.Frag) (A : Ads) (E : XK) : TS :=
      (tSeq (tDrop (tCall (sp_need_fewer K A) [] E (tCons (tVar 0) (tCons (tVar 1) tNil))))
      (tSeq (tAsg (tCB (rSorted K) (tCons (tVar 0) tNil)) (gName 2))
      (tSeq (tAsg (tOp oDivW (tOp oAdd (tCB (rLenS K) (tCons (tVar 0) tNil)) (tVar 1)) (tC (.int 2))) (gName 3))
      (tRet (tTup (tCons (tOp (rIxL K) (tVar 2) (tOp oSub (tVar 3) (tVar 1))) (tCons (tOp (rIxL K) (tVar 2) (tVar 3)) tNil)))))))
theorem sc_worst : FnScope ["rights", "others", "is_great"] ["rights", "others", "is_great"] (defScope s_worst) := ⟨rfl, rfl, rfl, by decide +kernel, rfl, by decide +kernel, by decide +kernel⟩
def t_worst (K : PySem.W.Frag) (A : Ads) (E : XK) : TS :=
      (tSeq (tDrop (tCall (sp_need_fewer K A) [] E (tCons (tVar 0) (tCons (tVar 1) tNil))))
      (tSeq (tIfS (tB (tVar 2)) (tRet (tOp rRep (tLst (tCons (tCB (rMax K) (tCons (tVar 0) tNil)) tNil)) (tVar 1))) tNext)
      (tRet (tOp rRep (tLst (tCons (tCB (rMin K) (tCons (tVar 0) tNil)) tNil)) (tVar 1)))))theorem sc_l_cell : FnScope ["_law_script", "_law_k"] ["_law_script", "_law_k"] (defScope s_l_cell) := ⟨rfl, rfl, rfl, by decide +kernel, rfl, by decide +kernel, by decide +kernel⟩
def t_l_cell (K : PySem.W.Frag) (A : Ads) (E : XK) : TS :=
      (tSeq (tIfS (tTest (tOp (rEqD K) (tVar 0) (tLst tNil))) (tRet (tOp oMul (tVar 1) (tC (.int 7919)))) tNext)
      (tRet (tOp oAdd (tOp (rIxL K) (tVar 0) (tOp oMod (tVar 1) (tCB (rLenS K) (tCons (tVar 0) tNil)))) (tOp oMul (tOp oDivW (tVar 1) (tCB (rLenS K) (tCons (tVar 0) tNil))) (tC (.int 104729))))))
theorem sc_l_drawn : FnScope ["_law_cell_here", "_law_k", "_law_more"] ["_law_cell_here", "_law_k"] (defScope s_l_drawn) := ⟨rfl, rfl, rfl, by decide +kernel, rfl, by decide +kernel, by decide +kernel⟩
def t_l_drawn (K : PySem.W.Frag) (A : Ads) (E : XK) : TS :=
      (tSeq (tAsg (tOp oMod (tOp oAdd (tOp oMul (tVar 0) (tC (.int 6364136223846793005))) (tOp oMul (tOp oAdd (tVar 1) (tC (.int 1))) (tC (.int 1442695040888963407)))) (tC (.int 340282366920938463463374607431768211507))) (gName 2))
      (tRet (tOp oMod (tOp oMulW (tVar 2) (tVar 2)) (tC (.int 340282366920938463463374607431768211297)))))
end MV
namespace MV
open PySem PySem.Spec PyProof.Rows L2 Evl
section
variable {K : PySem.W.Frag} {mg : Str → Option Value} {A : Ads}
theorem pure_l_cell (T : Txt K mg A) (vs : List V) (H : Hp) (Q : VK) (E : XK) (h : sp_l_cell K A vs H Q E) : t_l_cell K A E { nx := fun _ H' => Q .non H', rt := Q } (start ["_law_script", "_law_k"] vs) H := by
  obtain ⟨a, ns, k, rfl, hS, hl, q⟩ := h
  show t_l_cell K A E _ [some (.ref a), some (.int k)] H
  refine q_when (et_test (ev_eqNil (ev_var rfl) hS (ints_flat ns))) (fun hb H1 e1 => ?_) (fun hb H1 e1 => ?_)
  · have e0 : ns = [] := by simpa using hb
    refine s_ret (v := .int (cell ns k)) ?_ fun H2 e2 => q H2 (e1.trans e2)
    have e : cell ns k = k * 7919 := by unfold cell; rw [if_pos e0]
    rw [e]
    walk_at "ev"
  · have e0 : ns ≠ [] := by simpa using hb
    have hS1 := ex_l e1 hS
    have hp : 0 < ns.length := List.length_pos_iff.mpr e0
    have hm : (ns.map V.int).length = ns.length := List.length_map ..
    refine s_ret (v := .int (cell ns k)) ?_ fun H2 e2 => q H2 (e1.trans e2)
    have e : cell ns k = ns.getD (k % ((ns.map V.int).length : Int)).toNat 0 + k / ((ns.map V.int).length : Int) * 104729 := by unfold cell; rw [if_neg e0, hm]
    rw [e]
    have z0 := Int.emod_nonneg k (show ((ns.map V.int).length : Int) ≠ 0 by omega)
    have z1 := Int.emod_lt_of_pos k (show (0 : Int) < ((ns.map V.int).length : Int) by omega)
    walk_at "ev"
theorem pure_l_drawn (T : Txt K mg A) (vs : List V) (H : Hp) (Q : VK) (E : XK) (h : sp_l_drawn K A vs H Q E) : t_l_drawn K A E { nx := fun _ H' => Q .non H', rt := Q } (start ["_law_cell_here", "_law_k", "_law_more"] vs) H := by
  obtain ⟨c, k, rfl, q⟩ := h
  show t_l_drawn K A E _ [some (.int c), some (.int k), none] H
  refine q_asg (v := .int ((c * 6364136223846793005 + (k + 1) * 1442695040888963407) % 340282366920938463463374607431768211507)) ?_ fun H1 e1 => ?_
  · walk_at "ev"
  · refine s_ret (v := .int (drawn c k)) ?_ fun H2 e2 => q H2 (e1.trans e2)
    have h0 := Int.emod_nonneg (c * 6364136223846793005 + (k + 1) * 1442695040888963407) (show (340282366920938463463374607431768211507 : Int) ≠ 0 by decide)
    have h1 := Int.emod_lt_of_pos (c * 6364136223846793005 + (k + 1) * 1442695040888963407) (show (0 : Int) < 340282366920938463463374607431768211507 by decide)
    have hb : ((c * 6364136223846793005 + (k + 1) * 1442695040888963407) % 340282366920938463463374607431768211507).natAbs < 2 ^ 200 := Nat.lt_trans (m := 340282366920938463463374607431768211507) (by omega) (by decide)
    unfold drawn
    walk_at "ev"
    exact wide_mul hb hb (by decide) (by decide) (by decide)
end
end MV
namespace MV
open PySem PySem.Spec PyProof.Rows L2 Evl
section
variable {K : PySem.W.Frag} {A : Ads} {H : Hp} {a : Addr} {ns : List Int} {c k : Int}
theorem spv_cell (hS : SqL K H a (ns.map V.int)) (hl : ns.length ≤ 63) : SpV (sp_l_cell K A) [.ref a, .int k] H (.int (cell ns k)) := fun H1 e Q q E => ⟨a, ns, k, rfl, ex_l e hS, hl, q⟩
theorem spv_drawn : SpV (sp_l_drawn K A) [.int c, .int k] H (.int (drawn c k)) := fun H1 e Q q E => ⟨c, k, rfl, q⟩
end
end MV
local macro_rules | `(tactic| walk_at "ev1") => `(tactic| (first | with_reducible exact MV.spv_drawn | with_reducible exact MV.spv_cell (by assumption) (by assumption)))
namespace MV
open PySem PySem.Spec PyProof.Rows L2 Evl
section
variable {K : PySem.W.Frag} {mg : Str → Option Value} {A : Ads}
theorem pure_middle (T : Txt K mg A) (vs : List V) (H : Hp) (Q : VK) (E : XK) (h : sp_middle K A vs H Q E) : t_middle K A E { nx := fun _ H' => Q .non H', rt := Q } (start ["numbers", "near", "row", "half"] vs) H := by
  obtain ⟨a, ns, near, rfl, hS, hne, hl, q⟩ := h
  show t_middle K A E _ [some (.ref a), some (.int near), none, none] H
  have hp : 0 < (srt ns).length := by rw [srt_len]; exact List.length_pos_iff.mpr hne
  refine q_asgL (el_cb (by walk_at "ev") (rcl_sorted hS hl)) fun p H1 np e1 h1 => ?_
  have hS1 : SqL K H1 p ((srt ns).map V.int) := sq_of h1
  have hm : (((srt ns).map V.int).length : Int) = ((srt ns).length : Int) := by rw [List.length_map]
  refine q_asg (v := .int (((srt ns).length : Int) / 2)) ?_ fun H2 e2 => ?_
  · rw [← hm]
    walk_at "ev"
  have hS2 := ex_l e2 hS1
  refine q_when (b := decide (((srt ns).length : Int) % 2 = 1)) ?_ (fun hb H3 e3 => ?_) (fun hb H3 e3 => ?_)
  · rw [← hm]
    walk_at "ev"
  · have hb1 : ((srt ns).length : Int) % 2 = 1 := by simpa using hb
    refine s_ret (v := .int (mid ns near)) ?_ fun H4 e4 => q H4 (((e1.trans e2).trans e3).trans e4)
    have e : mid ns near = (srt ns).getD (((srt ns).length : Int) / 2).toNat 0 := by unfold mid; rw [if_pos hb1]
    rw [e]
    have hS3 := ex_l e3 hS2
    walk_at "ev"
  · have hb1 : ¬ ((srt ns).length : Int) % 2 = 1 := by simpa using hb
    have hS3 := ex_l e3 hS2
    refine q_when (b := decide (ab ((srt ns).getD (((srt ns).length : Int) / 2).toNat 0 - near) < ab ((srt ns).getD (((srt ns).length : Int) / 2 - 1).toNat 0 - near))) ?_ (fun hc H4 e4 => ?_) (fun hc H4 e4 => ?_)
    · unfold ab
      walk_at "ev"
    · have hc1 := of_decide_eq_true hc
      have hS4 := ex_l e4 hS3
      refine s_ret (v := .int (mid ns near)) ?_ fun H5 e5 => q H5 ((((e1.trans e2).trans e3).trans e4).trans e5)
      have e : mid ns near = (srt ns).getD (((srt ns).length : Int) / 2).toNat 0 := by unfold mid; rw [if_neg hb1, if_pos hc1]
      rw [e]
      walk_at "ev"
    · have hc1 := of_decide_eq_false hc
      have hS4 := ex_l e4 hS3
      refine s_ret (v := .int (mid ns near)) ?_ fun H5 e5 => q H5 ((((e1.trans e2).trans e3).trans e4).trans e5)
      have e : mid ns near = (srt ns).getD (((srt ns).length : Int) / 2 - 1).toNat 0 := by unfold mid; rw [if_neg hb1, if_neg hc1]
      rw [e]
      walk_at "ev"
end
end MV
namespace MV
open PySem PySem.Spec PyProof.Rows L2 Evl
theorem spv_middle {K : PySem.W.Frag} {A : Ads} {H : Hp} {a : Addr} {ns : List Int} {near : Int} (hS : SqL K H a (ns.map V.int)) (hn : ns ≠ []) (hl : ns.length < 64) : SpV (sp_middle K A) [.ref a, .int near] H (.int (mid ns near)) := fun H1 e Q q E => ⟨a, ns, near, rfl, ex_l e hS, hn, hl, q⟩
end MV
namespace MV
open PySem PySem.Spec PyProof.Rows L2 Evl
section
variable {K : PySem.W.Frag} {mg : Str → Option Value} {A : Ads} {H H' : Hp} {σ : L2.St} {ta tb : TE} {x : V} {k : Int}
theorem flat_rep (n : Nat) (x : V) : (List.replicate n [x]).flatten = List.replicate n x := by
  induction n with
  | zero => rfl
  | succ n ih => rw [List.replicate_succ, List.flatten_cons, ih, List.replicate_succ]; rfl
theorem el_rep (ha : EvL ta σ H [x]) (hb : Ev tb σ H (.int k)) (h0 : 0 ≤ k) (h1 : k ≤ 1000) : EvL (tOp rRep ta tb) σ H (List.replicate k.toNat x) := fun H1 e Q q =>
  ha H1 e _ fun p H2 hp e2 h2 => hb H2 (e.trans e2) _ fun H3 e3 => ⟨p, k, [x], rfl, rfl, e3 _ _ h2, by omega, by omega, by rw [sizeLine_eq]; show 1 * k.toNat ≤ _; omega, fun l hl => by
    rw [flat_rep]
    exact q l _ (fresh_back (e2.trans e3) hl) ((e2.trans e3).trans (Ex.new hl)) upd_same⟩
end
end MV
namespace MV
open PySem PySem.Spec PyProof.Rows L2 Evl
section
variable {K : PySem.W.Frag} {mg : Str → Option Value} {A : Ads}
theorem okL {n : Nat} {o : Int} (h : okLiars n o = true) : o < (n : Int) ∧ (o + (n : Int)) % 2 = 1 := by
  unfold okLiars at h
  simp only [Bool.not_eq_true', Bool.or_eq_false_iff, decide_eq_false_iff_not] at h
  omega
theorem pure_need_fewer (T : Txt K mg A) (vs : List V) (H : Hp) (Q : VK) (E : XK) (h : sp_need_fewer K A vs H Q E) : t_need_fewer K A E { nx := fun _ H' => Q .non H', rt := Q } (start ["rights", "others"] vs) H := by
  obtain ⟨a, ns, o, rfl, hS, q1, q2⟩ := h
  show t_need_fewer K A E _ [some (.ref a), some (.int o)] H
  have hm : (ns.map V.int).length = ns.length := List.length_map ..
  refine s_when (b := decide (((ns.map V.int).length : Int) ≤ o) || decide ((o + ((ns.map V.int).length : Int)) % 2 = 0)) (by walk_at "ev") (fun hb H1 e1 => ?_) (fun hb H1 e1 => ?_)
  · rw [hm] at hb
    exact s_raise fun H2 e2 => q2 (by unfold okLiars; rw [hb]; rfl) H2 (e1.trans e2)
  · rw [hm] at hb
    exact q1 (by unfold okLiars; rw [hb]; rfl) H1 e1
theorem pure_farthest (T : Txt K mg A) (vs : List V) (H : Hp) (Q : VK) (E : XK) (h : sp_farthest K A vs H Q E) : t_farthest K A E { nx := fun _ H' => Q .non H', rt := Q } (start ["rights", "others", "row", "half"] vs) H := by
  obtain ⟨a, ns, o, rfl, ⟨hS, hne, hl, h0, h1⟩, x, q⟩ := h
  show t_farthest K A E _ [some (.ref a), some (.int o), none, none] H
  refine q_dropC (vs := [.ref a, .int o]) (ea_cons (ev_var rfl) (ea_cons (ev_var rfl) ea_nil)) fun H1 e1 => ⟨a, ns, o, rfl, ex_l e1 hS, fun hk H2 e2 => ?_, fun hk H2 e2 => x hk H2 (e1.trans e2)⟩
  obtain ⟨hk1, hk2⟩ := okL hk
  have hS2 := ex_l (e1.trans e2) hS
  refine q_asgL (el_cb (ea_cons (ev_var rfl) ea_nil) (rcl_sorted hS2 hl)) fun p H3 np e3 h3 => ?_
  have hS3 := ex_l e3 hS2
  have hR3 : SqL K H3 p ((srt ns).map V.int) := sq_of h3
  have hm : (ns.map V.int).length = ns.length := List.length_map ..
  have hsl := srt_len ns
  refine q_asg (v := .int ((((ns.map V.int).length : Int) + o) / 2)) (by walk_at "ev") fun H4 e4 => ?_
  have hR4 := ex_l e4 hR3
  rw [hm]
  refine s_retU (eu_tup (vs := [.int (loL ns o), .int (hiL ns o)]) (ea_cons (ev_op (ev_var rfl) (ev_op (ev_var rfl) (ev_var rfl) rv_I0) (rv_ixInts hR4 (by omega) (by omega))) (ea_cons (ev_op (ev_var rfl) (ev_var rfl) (rv_ixInts hR4 (by omega) (by omega))) ea_nil)) (by show 2 ≤ 100000; decide)) fun t H5 nt e5 h5 => ?_
  exact q hk H5 t ((((e1.trans e2).trans e3).trans e4).trans e5) (fresh_back (((e1.trans e2).trans e3).trans e4) nt) h5
theorem pure_worst (T : Txt K mg A) (vs : List V) (H : Hp) (Q : VK) (E : XK) (h : sp_worst K A vs H Q E) : t_worst K A E { nx := fun _ H' => Q .non H', rt := Q } (start ["rights", "others", "is_great"] vs) H := by
  obtain ⟨a, ns, o, g, rfl, ⟨hS, hne, hl, h0, h1⟩, x, q⟩ := h
  show t_worst K A E _ [some (.ref a), some (.int o), some (.bl g)] H
  refine q_dropC (vs := [.ref a, .int o]) (ea_cons (ev_var rfl) (ea_cons (ev_var rfl) ea_nil)) fun H1 e1 => ⟨a, ns, o, rfl, ex_l e1 hS, fun hk H2 e2 => ?_, fun hk H2 e2 => x hk H2 (e1.trans e2)⟩
  have q := q hk
  have e02 := e1.trans e2
  have hS2 := ex_l e02 hS
  have hp : 0 < ns.length := List.length_pos_iff.mpr hne
  have fin : ∀ (m : Int) (H3 : Hp), EndL ns g m → Ex H H3 → EvL (tOp rRep (tLst (tCons (tC (.int m)) tNil)) (tVar 1)) [some (.ref a), some (.int o), some (.bl g)] H3 (List.replicate o.toNat (.int m)) := fun m H3 _ _ => el_rep (el_lst (ea_cons ev_c ea_nil) (by show 1 ≤ 100000; decide)) (ev_var rfl) h0 (by omega)
  refine q_when (b := g) (et_B (ev_var rfl)) (fun hb H3 e3 => ?_) (fun hb H3 e3 => ?_)
  · refine ⟨.ref a, rfl, a, ns, rfl, ex_l e3 hS2, hp, fun m h1 h2 => ?_⟩
    have := fin m H3 ⟨h1, fun y hy => by rw [if_pos hb]; exact h2 y hy⟩ (e02.trans e3) H3 (Ex.refl H3) (fun v H4 => Q v H4) fun p H4 np e4 h4 => q m ⟨h1, fun y hy => by rw [if_pos hb]; exact h2 y hy⟩ H4 p ((e02.trans e3).trans e4) (fresh_back (e02.trans e3) np) h4
    exact this
  · refine ⟨.ref a, rfl, a, ns, rfl, ex_l e3 hS2, hp, fun m h1 h2 => ?_⟩
    have := fin m H3 ⟨h1, fun y hy => by rw [if_neg (by rw [hb]; decide)]; exact h2 y hy⟩ (e02.trans e3) H3 (Ex.refl H3) (fun v H4 => Q v H4) fun p H4 np e4 h4 => q m ⟨h1, fun y hy => by rw [if_neg (by rw [hb]; decide)]; exact h2 y hy⟩ H4 p ((e02.trans e3).trans e4) (fresh_back (e02.trans e3) np) h4
    exact this
end
end MV
namespace MV
open PySem PySem.Spec PyProof.Rows L2 Evl MVH
/-! ### the word of a caught one -/
def wordE (A : Ads) (C : Addr) (w : Str) : Prop := (C = A.c_BadSettings ∧ w = "BadSettings") ∨ (C = A.c_BadStep ∧ w = "BadStep") ∨ (C = A.c_NoSensor ∧ w = "NoSensor") ∨ (C = A.c_BadRow ∧ w = "BadRow")
def sp_l_told (K : PySem.W.Frag) (A : Ads) : Sp := fun vs H Q _ => ∃ (a : Addr) (ns : List Int) (o which : Int), vs = [.ref a, .int o, .int which] ∧ LiarsIn K H a ns o ∧ (okLiars ns.length o = false → RetV (.str "BadStep") H Q) ∧
  (okLiars ns.length o = true → which = 0 → ∀ (H' : Hp) (p : Addr), Ex H H' → H p = none → H' p = some (.tup [.int (loL ns o), .int (hiL ns o)]) → Q (.ref p) H') ∧
  (okLiars ns.length o = true → which ≠ 0 → ∀ (m : Int), EndL ns (decide (which = 2)) m → ∀ (H' : Hp) (p : Addr), Ex H H' → H p = none → H' p = some (.lst (List.replicate o.toNat (.int m))) → Q (.ref p) H')
theorem len_l_told {K : PySem.W.Frag} {A : Ads} {vs : List V} {H : Hp} {Q : VK} {E : XK} (h : sp_l_told K A vs H Q E) : vs.length = 3 := by obtain ⟨_, _, _, _, rfl, _⟩ := h; rfl
theorem sc_l_word : FnScope ["_law_e", "_law_flags", "_law_flag"] ["_law_e"] (defScope s_l_word) := ⟨rfl, rfl, rfl, by decide +kernel, rfl, by decide +kernel, by decide +kernel⟩
def t_l_word (K : PySem.W.Frag) (A : Ads) (E : XK) (C a : Addr) : TS :=
      (tSeq (tAsg (tLst (tCons (tCB (rIsP K C a) (tCons (tVar 0) (tCons (tC (.ref A.c_BadSettings)) tNil))) (tCons (tCB (rIsP K C a) (tCons (tVar 0) (tCons (tC (.ref A.c_BadStep)) tNil))) (tCons (tCB (rIsP K C a) (tCons (tVar 0) (tCons (tC (.ref A.c_NoSensor)) tNil))) (tCons (tCB (rIsP K C a) (tCons (tVar 0) (tCons (tC (.ref A.c_BadRow)) tNil))) tNil))))) (gName 1))
      (tSeq (tIfS (tOr (tTest (tOp rNe (tCB (rSum K) (tCons (tHotInts 1) tNil)) (tC (.int 1)))) (tNot (tB (tCB (rIsP K C a) (tCons (tVar 0) (tCons (tC (.ty "ValueError")) tNil)))))) (tRet (tC (.str "other"))) tNext)
      (tRet (tOp (rIxL K) (tLst (tCons (tC (.str "BadSettings")) (tCons (tC (.str "BadStep")) (tCons (tC (.str "NoSensor")) (tCons (tC (.str "BadRow")) tNil))))) (tBM K "list" (rIndex K) (tVar 1) (tCons (tC (.bl true)) tNil))))))
theorem sc_l_told : FnScope ["_law_rights", "_law_others", "_law_which", "_law_e"] ["_law_rights", "_law_others", "_law_which"] (defScope s_l_told) := ⟨rfl, rfl, rfl, by decide +kernel, rfl, by decide +kernel, by decide +kernel⟩
def t_l_told (K : PySem.W.Frag) (A : Ads) (E : XK) : TS :=
      (tTryW K (.ref A.c_VoteError) 3 (wordE A) fun W => (tSeq (tIfS (tTest (tOp rEq (tVar 2) (tC (.int 0)))) (tRet (tCall (sp_farthest K A) [] (EL 4 W) (tCons (tVar 0) (tCons (tVar 1) tNil)))) tNext)
      (tRet (tCall (sp_worst K A) [] (EL 4 W) (tCons (tVar 0) (tCons (tVar 1) (tCons (tOp rEq (tVar 2) (tC (.int 2))) tNil)))))))
end MV
namespace MV
open PySem PySem.Spec PyProof.Rows L2 Evl MVH
section
variable {K : PySem.W.Frag} {mg : Str → Option Value} {A : Ads}
theorem ev_index {σ : L2.St} {H : Hp} {to te : TE} {p : Addr} {ys : List V} {y z : V} {j : Nat} (ho : Ev to σ H (.ref p)) (hs : H p = some (.lst ys)) (h : Ev te σ H y) (fy : flatV y = true) (fys : ys.all flatV = true) (hz : ys[j]? = some z) (he : eqV z y = true) (hn : ∀ (m : Nat) (z' : V), m < j → ys[m]? = some z' → eqV z' y = false) : Ev (tBM K "list" (rIndex K) to (tCons te tNil)) σ H (.int (j : Int)) := fun H1 e Q q =>
  ho H1 e _ fun H2 e2 => ⟨.inl ⟨rfl, ys, sq_of ((e.trans e2) _ _ hs)⟩, h H2 (e.trans e2) _ fun H3 e3 => ⟨p, ys, y, j, z, rfl, rfl, sq_of (((e.trans e2).trans e3) _ _ hs), fy, fys, hz, he, hn, q H3 (e2.trans e3)⟩⟩
theorem word_core (Q : VK) (E : XK) {H : Hp} {a C : Addr} {b1 b2 b3 b4 : Bool} {j : Nat} {w : Str}
    (h1 : PySem.W.kitOne K (.ref C) (.ref A.c_BadSettings) = some b1) (h2 : PySem.W.kitOne K (.ref C) (.ref A.c_BadStep) = some b2) (h3 : PySem.W.kitOne K (.ref C) (.ref A.c_NoSensor) = some b3) (h4 : PySem.W.kitOne K (.ref C) (.ref A.c_BadRow) = some b4) (hv : PySem.W.kitOne K (.ref C) (.type "ValueError") = some true)
    (hs : bInt b1 + (bInt b2 + (bInt b3 + (bInt b4 + 0))) = 1) (hj : j < 4) (hjz : ([V.bl b1, .bl b2, .bl b3, .bl b4] : List V)[j]? = some (.bl true)) (hjn : ∀ (m : Nat) (z' : V), m < j → ([V.bl b1, .bl b2, .bl b3, .bl b4] : List V)[m]? = some z' → eqV z' (.bl true) = false)
    (hw : ([V.str "BadSettings", .str "BadStep", .str "NoSensor", .str "BadRow"] : List V)[j]? = some (.str w)) (q : ∀ H', Ex H H' → Q (.str w) H') : t_l_word K A E C a { nx := fun _ H' => Q .non H', rt := Q } [some (.ref a), none, none] H := by
  have fl : ([V.bl b1, .bl b2, .bl b3, .bl b4] : List V).all flatV = true := rfl
  refine q_asgL (xs := [b1, b2, b3, b4].map V.bl) (el_lst (ea_cons (ev_cb (ea_cons (ev_var rfl) (ea_cons ev_c ea_nil)) (rc_isP (.own _) h1)) (ea_cons (ev_cb (ea_cons (ev_var rfl) (ea_cons ev_c ea_nil)) (rc_isP (.own _) h2)) (ea_cons (ev_cb (ea_cons (ev_var rfl) (ea_cons ev_c ea_nil)) (rc_isP (.own _) h3)) (ea_cons (ev_cb (ea_cons (ev_var rfl) (ea_cons ev_c ea_nil)) (rc_isP (.own _) h4)) ea_nil)))) (by show 4 ≤ 100000; decide)) fun p H1 np e1 hp => ?_
  have hI : ([b1, b2, b3, b4].map fun b => V.int (bInt b)) = ([bInt b1, bInt b2, bInt b3, bInt b4]).map V.int := rfl
  have hsum : ([bInt b1, bInt b2, bInt b3, bInt b4] : List Int).sum = 1 := hs
  refine q_when (b := false) (et_is (et_orB (et_test (ev_op (ev_cbN (el_is (el_hotInts rfl hp) hI) fun p2 H2 e2 h2 => rc_sum (sq_of h2)) ev_c rv_neI)) (et_not (et_B (ev_cb (ea_cons (ev_var rfl) (ea_cons ev_c ea_nil)) (rc_isP (.ty _) hv))))) (by rw [hsum]; rfl)) (fun hb => absurd hb (by decide)) fun _ H2 e2 => ?_
  have hwj : ([V.str "BadSettings", .str "BadStep", .str "NoSensor", .str "BadRow"] : List V).getD ((j : Int)).toNat .non = .str w := by rw [Int.toNat_natCast, List.getD_eq_getElem?_getD, hw]; rfl
  refine s_ret (ev_is (ev_menuV (el_lst (ea_cons ev_c (ea_cons ev_c (ea_cons ev_c (ea_cons ev_c ea_nil)))) (by show 4 ≤ 100000; decide)) (ev_index (ev_var rfl) (e2 _ _ hp) ev_c rfl fl hjz rfl hjn) (by omega) (by show (j : Int) < ((4 : Nat) : Int); omega)) hwj) fun H3 e3 => q H3 ((e1.trans e2).trans e3)
theorem pure_l_word (T : Txt K mg A) {Q : VK} {E : XK} {H : Hp} {a C : Addr} {w : Str} (hw : wordE A C w) (q : ∀ H', Ex H H' → Q (.str w) H') : t_l_word K A E C a { nx := fun _ H' => Q .non H', rt := Q } (start ["_law_e", "_law_flags", "_law_flag"] [.ref a]) H := by
  show t_l_word K A E C a _ [some (.ref a), none, none] H
  rcases hw with ⟨rfl, rfl⟩ | ⟨rfl, rfl⟩ | ⟨rfl, rfl⟩ | ⟨rfl, rfl⟩
  · exact word_core Q E (j := 0) T.ki_BadSettings_BadSettings T.ki_BadSettings_BadStep T.ki_BadSettings_NoSensor T.ki_BadSettings_BadRow T.kv_BadSettings rfl (by decide) rfl (fun m z hm => absurd hm (by omega)) rfl q
  · exact word_core Q E (j := 1) T.ki_BadStep_BadSettings T.ki_BadStep_BadStep T.ki_BadStep_NoSensor T.ki_BadStep_BadRow T.kv_BadStep rfl (by decide) rfl (fun m z hm hz => by
      obtain rfl : m = 0 := by omega
      cases hz
      rfl) rfl q
  · exact word_core Q E (j := 2) T.ki_NoSensor_BadSettings T.ki_NoSensor_BadStep T.ki_NoSensor_NoSensor T.ki_NoSensor_BadRow T.kv_NoSensor rfl (by decide) rfl (fun m z hm hz => by
      have : m = 0 ∨ m = 1 := by omega
      rcases this with rfl | rfl <;> cases hz <;> rfl) rfl q
  · exact word_core Q E (j := 3) T.ki_BadRow_BadSettings T.ki_BadRow_BadStep T.ki_BadRow_NoSensor T.ki_BadRow_BadRow T.kv_BadRow rfl (by decide) rfl (fun m z hm hz => by
      have : m = 0 ∨ m = 1 ∨ m = 2 := by omega
      rcases this with rfl | rfl | rfl <;> cases hz <;> rfl) rfl q
theorem exc_of (T : Txt K mg A) {C : Addr} {w : Str} (hw : wordE A C w) : ExcC K C := by
  rcases hw with ⟨rfl, _⟩ | ⟨rfl, _⟩ | ⟨rfl, _⟩ | ⟨rfl, _⟩
  · exact T.ec_BadSettings
  · exact T.ec_BadStep
  · exact T.ec_NoSensor
  · exact T.ec_BadRow
/-- the word that comes out of the clause -/
theorem word_out (T : Txt K mg A) {i n : Nat} {D : Ends} {H : Hp} {C : Addr} {w : Str} (hi : i < n) (hw : wordE A C w) (k : ∀ H', Ex H H' → D.rt (.str w) H') : EL n (wAs K (.ref A.c_VoteError) i (tsW (wordE A) i) (fun _ _ _ _ => False) D) (.ref C) none H := fun σ hσ => by
  have hx : PySem.W.exmOne K (.ref C) (.ref A.c_VoteError) = some true := by
    rcases hw with ⟨rfl, _⟩ | ⟨rfl, _⟩ | ⟨rfl, _⟩ | ⟨rfl, _⟩
    · exact PySem.W.exm_ref T.xb_VoteError T.xd_VoteError T.xt_VoteError T.xs_BadSettings_VoteError
    · exact PySem.W.exm_ref T.xb_VoteError T.xd_VoteError T.xt_VoteError T.xs_BadStep_VoteError
    · exact PySem.W.exm_ref T.xb_VoteError T.xd_VoteError T.xt_VoteError T.xs_NoSensor_VoteError
    · exact PySem.W.exm_ref T.xb_VoteError T.xd_VoteError T.xt_VoteError T.xs_BadRow_VoteError
  exact ⟨true, hx, fun _ a ha => ⟨C, w, rfl, rfl, hw, by rw [List.getElem?_set_self (by omega)], k⟩, fun z => nomatch z⟩
end
end MV
namespace MV
open PySem PySem.Spec PyProof.Rows L2 Evl
section
variable {K : PySem.W.Frag} {mg : Str → Option Value} {A : Ads}
theorem pure_l_told (T : Txt K mg A) (vs : List V) (H : Hp) (Q : VK) (E : XK) (h : sp_l_told K A vs H Q E) : t_l_told K A E { nx := fun _ H' => Q .non H', rt := Q } (start ["_law_rights", "_law_others", "_law_which", "_law_e"] vs) H := by
  obtain ⟨a, ns, o, wh, rfl, ⟨hS, hne, hl, h0, h1⟩, x, q1, q2⟩ := h
  show t_l_told K A E _ [some (.ref a), some (.int o), some (.int wh), none] H
  unfold t_l_told tTryW
  refine q_when (b := decide (wh = 0)) (et_test (ev_op (ev_var rfl) ev_c rv_eqI)) (fun hb H1 e1 => ?_) (fun hb H1 e1 => ?_)
  · refine s_retC (vs := [.ref a, .int o]) (ea_cons (ev_var rfl) (ea_cons (ev_var rfl) ea_nil)) fun H2 e2 => ⟨a, ns, o, rfl, ⟨ex_l (e1.trans e2) hS, hne, hl, h0, h1⟩,
      fun hk H3 e3 => word_out T (by decide) (.inr (.inl ⟨rfl, rfl⟩)) fun H4 e4 => x hk H4 (((e1.trans e2).trans e3).trans e4), fun hk H3 p e3 np hp => q1 hk (of_decide_eq_true hb) H3 p ((e1.trans e2).trans e3) (fresh_back (e1.trans e2) np) hp⟩
  · refine s_retC (vs := [.ref a, .int o, .bl (decide (wh = 2))]) (ea_cons (ev_var rfl) (ea_cons (ev_var rfl) (ea_cons (ev_op (ev_var rfl) ev_c rv_eqI) ea_nil))) fun H2 e2 => ⟨a, ns, o, _, rfl, ⟨ex_l (e1.trans e2) hS, hne, hl, h0, h1⟩,
      fun hk H3 e3 => word_out T (by decide) (.inr (.inl ⟨rfl, rfl⟩)) fun H4 e4 => x hk H4 (((e1.trans e2).trans e3).trans e4), fun hk m hm H3 p e3 np hp => q2 hk (of_decide_eq_false hb) m hm H3 p ((e1.trans e2).trans e3) (fresh_back (e1.trans e2) np) hp⟩
end
end MV
namespace MV
/-! ### the middle one by counts -/
section
variable {r ns : List Int} {n i j : Nat} {x y : Int}
theorem pw_le (h : r.Pairwise (· ≤ ·)) (hi : i ≤ j) (hj : j < r.length) : r[i]'(by omega) ≤ r[j] := by
  rcases Nat.lt_or_eq_of_le hi with h1 | h1
  · exact List.pairwise_iff_getElem.mp h i j (by omega) hj h1
  · subst h1; exact Int.le_refl _
theorem cnt_split (p : Int → Bool) (i : Nat) : (r.filter p).length = ((r.take i).filter p).length + ((r.drop i).filter p).length := by
  rw [← List.length_append, ← List.filter_append, List.take_append_drop]
theorem cnt_none {l : List Int} {p : Int → Bool} (h : ∀ y ∈ l, p y = false) : (l.filter p).length = 0 := by
  rw [List.filter_eq_nil_iff.mpr fun y hy => by rw [h y hy]; decide]
  rfl
theorem cnt_all {l : List Int} {p : Int → Bool} (h : ∀ y ∈ l, p y = true) : (l.filter p).length = l.length := by
  rw [List.filter_eq_self.mpr h]
theorem mem_drop' {y : Int} (h : r.Pairwise (· ≤ ·)) (hi : i < r.length) (hy : y ∈ r.drop i) : r[i] ≤ y := by
  obtain ⟨k, hk, e⟩ := List.mem_iff_getElem.mp hy
  rw [List.getElem_drop] at e
  rw [List.length_drop] at hk
  rw [← e]
  exact pw_le h (by omega) (by omega)
theorem mem_take' {y : Int} (h : r.Pairwise (· ≤ ·)) (hi : i < r.length) (hy : y ∈ r.take (i + 1)) : y ≤ r[i] := by
  obtain ⟨k, hk, e⟩ := List.mem_iff_getElem.mp hy
  rw [List.getElem_take] at e
  rw [List.length_take] at hk
  rw [← e]
  exact pw_le h (by omega) (by omega)
/-- as many lie below the i-th as i, or fewer -/
theorem less_at (h : r.Pairwise (· ≤ ·)) (hi : i < r.length) : (r.filter fun y => decide (y < r[i])).length ≤ i := by
  rw [cnt_split _ i, cnt_none (l := r.drop i) fun y hy => by have := mem_drop' h hi hy; simp; omega]
  have := List.length_filter_le (fun y => decide (y < r[i])) (r.take i)
  rw [List.length_take] at this
  omega
theorem more_at (h : r.Pairwise (· ≤ ·)) (hi : i < r.length) : (r.filter fun y => decide (r[i] < y)).length ≤ r.length - 1 - i := by
  rw [cnt_split _ (i + 1), cnt_none (l := r.take (i + 1)) fun y hy => by have := mem_take' h hi hy; simp; omega]
  have := List.length_filter_le (fun y => decide (r[i] < y)) (r.drop (i + 1))
  rw [List.length_drop] at this
  omega
theorem less_of (h : r.Pairwise (· ≤ ·)) (hi : i < r.length) (hx : r[i] < x) : i + 1 ≤ (r.filter fun y => decide (y < x)).length := by
  rw [cnt_split _ (i + 1), cnt_all (l := r.take (i + 1)) fun y hy => by have := mem_take' h hi hy; simp; omega]
  rw [List.length_take]
  omega
theorem more_of (h : r.Pairwise (· ≤ ·)) (hi : i < r.length) (hx : x < r[i]) : r.length - i ≤ (r.filter fun y => decide (x < y)).length := by
  rw [cnt_split _ i, cnt_all (l := r.drop i) fun y hy => by have := mem_drop' h hi hy; simp; omega]
  rw [List.length_drop]
  omega
end
theorem gd {r : List Int} {i : Nat} (h : i < r.length) : r.getD i 0 = r[i] := by rw [List.getD_eq_getElem?_getD, List.getElem?_eq_getElem h]; rfl
end MV
namespace MV
/-! ### what liars can do -/
section
variable {ns xs : List Int} {o : Int}
theorem cnt_srt (L : List Int) (p : Int → Bool) : ((srt L).filter p).length = (L.filter p).length := ((srt_perm L).filter p).length_eq
theorem cnt_app (p : Int → Bool) : ((ns ++ xs).filter p).length = (ns.filter p).length + (xs.filter p).length := by rw [List.filter_append, List.length_append]
theorem mid_odd {L : List Int} (h : (L.length : Int) % 2 = 1) : mid L 0 = (srt L).getD (L.length / 2) 0 := by
  unfold mid
  rw [srt_len, if_pos h]
  congr 1
/-- the setting of the lemmas: h the middle's place -/
theorem mid_hi (hk : okLiars ns.length o = true) (h0 : 0 ≤ o) (hx : (xs.length : Int) = o) : mid (ns ++ xs) 0 ≤ hiL ns o ∧ loL ns o ≤ mid (ns ++ xs) 0 := by
  obtain ⟨k1, k2⟩ := okL hk
  have hl : (ns ++ xs).length = ns.length + xs.length := List.length_append
  have hn := srt_len ns
  have hL := srt_len (ns ++ xs)
  have g1 : (ns ++ xs).length / 2 < (srt (ns ++ xs)).length := by omega
  have g2 : ((ns ++ xs).length / 2) < (srt ns).length := by omega
  have g3 : ((ns ++ xs).length / 2) - xs.length < (srt ns).length := by omega
  have e1 : mid (ns ++ xs) 0 = (srt (ns ++ xs))[(ns ++ xs).length / 2] := by rw [mid_odd (by omega), gd g1]
  have e2 : hiL ns o = (srt ns)[(ns ++ xs).length / 2] := by
    unfold hiL
    rw [show (((ns.length : Int) + o) / 2).toNat = (ns ++ xs).length / 2 by omega, gd g2]
  have e3 : loL ns o = (srt ns)[(ns ++ xs).length / 2 - xs.length] := by
    unfold loL
    rw [show (((ns.length : Int) + o) / 2 - o).toNat = (ns ++ xs).length / 2 - xs.length by omega, gd g3]
  rw [e1, e2, e3]
  constructor
  · refine Int.not_lt.mp fun c => ?_
    have h1 := more_of (srt_pw (ns ++ xs)) g1 c
    have h2 := more_at (srt_pw ns) g2
    rw [cnt_srt, cnt_app] at h1
    rw [cnt_srt] at h2
    have h3 := List.length_filter_le (fun y => decide ((srt ns)[(ns ++ xs).length / 2] < y)) xs
    omega
  · refine Int.not_lt.mp fun c => ?_
    have h1 := less_of (srt_pw (ns ++ xs)) g1 c
    have h2 := less_at (srt_pw ns) g3
    rw [cnt_srt, cnt_app] at h1
    rw [cnt_srt] at h2
    have h3 := List.length_filter_le (fun y => decide (y < (srt ns)[(ns ++ xs).length / 2 - xs.length])) xs
    omega
theorem cnt_rep_no {n : Nat} {m : Int} {p : Int → Bool} (h : p m = false) : ((List.replicate n m).filter p).length = 0 := cnt_none fun y hy => by rw [List.eq_of_mem_replicate hy]; exact h
theorem mid_worst (hk : okLiars ns.length o = true) (h0 : 0 ≤ o) {g : Bool} {m : Int} (hm : EndL ns g m) : mid (ns ++ List.replicate o.toNat m) 0 = if g = true then hiL ns o else loL ns o := by
  obtain ⟨k1, k2⟩ := okL hk
  have hx : ((List.replicate o.toNat m).length : Int) = o := by rw [List.length_replicate]; omega
  obtain ⟨b1, b2⟩ := mid_hi hk h0 hx
  have hl : (ns ++ List.replicate o.toNat m).length = ns.length + o.toNat := by rw [List.length_append, List.length_replicate]
  have hn := srt_len ns
  have hL := srt_len (ns ++ List.replicate o.toNat m)
  have g1 : (ns ++ List.replicate o.toNat m).length / 2 < (srt (ns ++ List.replicate o.toNat m)).length := by omega
  have g2 : ((ns ++ List.replicate o.toNat m).length / 2) < (srt ns).length := by omega
  have g3 : ((ns ++ List.replicate o.toNat m).length / 2) - o.toNat < (srt ns).length := by omega
  have e1 : mid (ns ++ List.replicate o.toNat m) 0 = (srt (ns ++ List.replicate o.toNat m))[(ns ++ List.replicate o.toNat m).length / 2] := by rw [mid_odd (by omega), gd g1]
  have e2 : hiL ns o = (srt ns)[(ns ++ List.replicate o.toNat m).length / 2] := by
    unfold hiL
    rw [show (((ns.length : Int) + o) / 2).toNat = (ns ++ List.replicate o.toNat m).length / 2 by omega, gd g2]
  have e3 : loL ns o = (srt ns)[(ns ++ List.replicate o.toNat m).length / 2 - o.toNat] := by
    unfold loL
    rw [show (((ns.length : Int) + o) / 2 - o).toNat = (ns ++ List.replicate o.toNat m).length / 2 - o.toNat by omega, gd g3]
  cases g with
  | true =>
    rw [if_pos rfl]
    refine Int.le_antisymm b1 (Int.not_lt.mp fun c => ?_)
    rw [e1, e2] at c
    have h1 := less_of (srt_pw _) g1 c
    have h2 := less_at (srt_pw ns) g2
    have hin : (srt ns)[(ns ++ List.replicate o.toNat m).length / 2] ≤ m := hm.2 _ (srt_mem.mp (List.getElem_mem _))
    rw [cnt_srt, cnt_app, cnt_rep_no (decide_eq_false (by omega))] at h1
    rw [cnt_srt] at h2
    omega
  | false =>
    rw [if_neg (by decide)]
    refine Int.le_antisymm (Int.not_lt.mp fun c => ?_) b2
    rw [e1, e3] at c
    have h1 := more_of (srt_pw _) g1 c
    have h2 := more_at (srt_pw ns) g3
    have hin : m ≤ (srt ns)[(ns ++ List.replicate o.toNat m).length / 2 - o.toNat] := hm.2 _ (srt_mem.mp (List.getElem_mem _))
    rw [cnt_srt, cnt_app, cnt_rep_no (decide_eq_false (by omega))] at h1
    rw [cnt_srt] at h2
    omega
end
end MV
namespace MV
open PySem PySem.Spec PyProof.Rows L2 Evl MVH
theorem sc_law : FnScope ["_law_script", "_law_k", "_law_more", "_law_rights", "_law_j", "_law_one", "_law_far", "_law_others", "_law_handed", "_law_told_here", "_law_which", "_law_beyond", "_law_drawn_here", "_law_i", "_law_near"] ["_law_script"] (defScope s_law) := ⟨rfl, rfl, rfl, by decide +kernel, rfl, by decide +kernel, by decide +kernel⟩
def t_law (K : PySem.W.Frag) (A : Ads) (E : XK) : TS :=
      (tSeq (tFor (iRng1 (tCons (tCB rMax2 (tCons (tC (.int 1)) (tCons (tCB rMin2 (tCons (tC (.int 4)) (tCons (tCB (rLenS K) (tCons (tVar 0) tNil)) tNil))) tNil))) tNil)) (gName 1) (tSeq (tAsg (tCall (sp_l_drawn K A) [] E0 (tCons (tCall (sp_l_cell K A) [] E0 (tCons (tVar 0) (tCons (tVar 1) tNil))) (tCons (tVar 1) tNil))) (gName 2))
      (tSeq (tAsg (tLst tNil) (gName 3))
      (tSeq (tFor (iRng1 (tCons (tOp oAdd (tC (.int 1)) (tOp oMod (tVar 2) (tC (.int 9)))) tNil)) (gName 4) (tSeq (tAsg (tCall (sp_l_drawn K A) [] E0 (tCons (tCall (sp_l_cell K A) [] E0 (tCons (tVar 0) (tCons (tOp oAdd (tVar 1) (tVar 4)) tNil))) (tCons (tOp oAdd (tOp oAdd (tVar 1) (tVar 4)) (tC (.int 40))) tNil))) (gName 5))
      (tSeq (tAsg (tOp oSub (tOp oMod (tVar 5) (tOp oAdd (tOp oMul (tC (.int 2)) (tOp oPow (tC (.int 10)) (tC (.int 9)))) (tC (.int 1)))) (tOp oPow (tC (.int 10)) (tC (.int 9)))) (gName 6))
      (tDrop (tBM K "list" rAppend (tVar 3) (tCons (tOp (rIxL K) (tLst (tCons (tOp oMod (tVar 5) (tC (.int 4))) (tCons (tOp oSub (tOp oMod (tVar 5) (tC (.int 100))) (tC (.int 50))) (tCons (tVar 6) tNil)))) (tOp oMod (tOp oDivW (tVar 5) (tOp oPow (tC (.int 2)) (tC (.int 50)))) (tC (.int 3)))) tNil))))))
      (tSeq (tAsg (tOp oMod (tOp oDivW (tVar 2) (tC (.int 16))) (tOp oAdd (tCB (rLenS K) (tCons (tVar 3) tNil)) (tC (.int 2)))) (gName 7))
      (tSeq (tAsg (tCB (rListS K) (tCons (tVar 3) tNil)) (gName 8))
      (tSeq (tAsg (tLc (iRng1 (tCons (tC (.int 3)) tNil)) (gName 10) tYes (tCall (sp_l_told K A) [] E0 (tCons (tVar 8) (tCons (tVar 7) (tCons (tVar 10) tNil)))) [10]) (gName 9))
      (tSeq (tIfS (tTest (tOp (rNeD K) (tVar 8) (tVar 3))) (tRet (tC (.bl false))) tNext)
      (tSeq (tIfS (tOr (tTest (tOp oGe (tVar 7) (tCB (rLenS K) (tCons (tVar 3) tNil)))) (tTest (tOp rEq (tOp oMod (tOp oAdd (tVar 7) (tCB (rLenS K) (tCons (tVar 3) tNil))) (tC (.int 2))) (tC (.int 0))))) (tSeq (tIfS (tTest (tOp (rNeD K) (tVar 9) (tOp rRep (tLst (tCons (tC (.str "BadStep")) tNil)) (tC (.int 3))))) (tRet (tC (.bl false))) tNext)
      tCont) tNext)
      (tSeq (tIfS (tOr (tNot (tB (tCB (rIsi K) (tCons (tOp (rIxL K) (tVar 9) (tC (.int 0))) (tCons (tC (.ty "tuple")) tNil))))) (tOr (tNot (tB (tCB (rIsi K) (tCons (tOp (rIxL K) (tVar 9) (tC (.int 1))) (tCons (tC (.ty "list")) tNil))))) (tNot (tB (tCB (rIsi K) (tCons (tOp (rIxL K) (tVar 9) (tC (.int 2))) (tCons (tC (.ty "list")) tNil))))))) (tRet (tC (.bl false))) tNext)
      (tSeq (tFor (iList K (tLst (tCons (tC (.int 1)) (tCons (tC (.int 2)) tNil)))) (gName 10) (tSeq (tAsg (tLc (iList K (tOp (rIxL K) (tVar 9) (tVar 10))) (gName 5) (tNot (tTest (tChain oLe oLe (tCB (rMin K) (tCons (tVar 3) tNil)) (tVar 5) (tCB (rMax K) (tCons (tVar 3) tNil))))) (tVar 5) [5]) (gName 11))
      (tSeq (tIfS (tOr (tTest (tOp rNe (tCB (rLenS K) (tCons (tOp (rIxL K) (tVar 9) (tVar 10)) tNil)) (tVar 7))) (tTest (tOp (rNeD K) (tVar 11) (tLst tNil)))) (tRet (tC (.bl false))) tNext)
      (tIfS (tTest (tOp rNe (tCall (sp_middle K A) [] E0 (tCons (tOp rCat (tVar 3) (tOp (rIxL K) (tVar 9) (tVar 10))) (tCons (tC (.int 0)) tNil))) (tOp (rIxT K) (tOp (rIxL K) (tVar 9) (tC (.int 0))) (tOp oSub (tVar 10) (tC (.int 1)))))) (tRet (tC (.bl false))) tNext))))
      (tSeq (tIfS (tAnd (tTest (tOp rEq (tVar 7) (tC (.int 0)))) (tTest (tOp rNe (tOp (rIxT K) (tOp (rIxL K) (tVar 9) (tC (.int 0))) (tC (.int 0))) (tOp (rIxT K) (tOp (rIxL K) (tVar 9) (tC (.int 0))) (tC (.int 1)))))) (tRet (tC (.bl false))) tNext)
      (tFor (iRng1 (tCons (tC (.int 10)) tNil)) (gName 4) (tSeq (tAsg (tCall (sp_l_drawn K A) [] E0 (tCons (tCall (sp_l_cell K A) [] E0 (tCons (tVar 0) (tCons (tVar 1) tNil))) (tCons (tOp oAdd (tOp oAdd (tOp oMul (tC (.int 10)) (tVar 1)) (tVar 4)) (tC (.int 90))) tNil))) (gName 5))
      (tSeq (tAsg (tLst tNil) (gName 12))
      (tSeq (tFor (iRng1 (tCons (tVar 7) tNil)) (gName 13) (tSeq (tAsg (tOp (rIxL K) (tVar 3) (tOp oMod (tOp oDivW (tVar 5) (tOp oAdd (tC (.int 3)) (tVar 13))) (tCB (rLenS K) (tCons (tVar 3) tNil)))) (gName 14))
      (tDrop (tBM K "list" rAppend (tVar 12) (tCons (tOp (rIxL K) (tLst (tCons (tVar 14) (tCons (tOp oAdd (tVar 14) (tC (.int 1))) (tCons (tOp oSub (tVar 14) (tC (.int 1))) (tCons (tOp oPow (tC (.int 10)) (tC (.int 10))) (tCons (tUn oNeg (tOp oPow (tC (.int 10)) (tC (.int 10)))) tNil)))))) (tOp oMod (tOp oDivW (tVar 5) (tOp oAdd (tC (.int 64)) (tOp oMul (tC (.int 5)) (tVar 13)))) (tC (.int 5)))) tNil)))))
      (tIfS (tNot (tTest (tChain oLe oLe (tOp (rIxT K) (tOp (rIxL K) (tVar 9) (tC (.int 0))) (tC (.int 0))) (tCall (sp_middle K A) [] E0 (tCons (tOp rCat (tVar 3) (tVar 12)) (tCons (tC (.int 0)) tNil))) (tOp (rIxT K) (tOp (rIxL K) (tVar 9) (tC (.int 0))) (tC (.int 1)))))) (tRet (tC (.bl false))) tNext)))))))))))))))))
      (tRet (tC (.bl true))))
end MV
namespace MV
open PySem PySem.Spec PyProof.Rows L2 Evl
section
variable {K : PySem.W.Frag} {mg : Str → Option Value} {A : Ads}
section
variable {σ : L2.St} {H : Hp} {t1 t2 : TE} {xs : List V} {y z : V} {sp : Sp} {E : XK} {p : Addr} {ns : List Int} {m : Int}
theorem ev_callL (h1 : EvL t1 σ H xs) (h2 : Ev t2 σ H y) (hs : ∀ p H1, Ex H H1 → H1 p = some (.lst xs) → SpV sp [.ref p, y] H1 z) : Ev (tCall sp [] E (tCons t1 (tCons t2 tNil))) σ H z := fun H1 e Q q =>
  h1 H1 e _ fun p H2 np e2 hp => h2 H2 (e.trans e2) _ fun H3 e3 => by
    show sp [.ref p, y] H3 Q E
    exact hs p H3 ((e.trans e2).trans e3) (e3 _ _ hp) H3 (Ex.refl H3) Q (fun H4 e4 => q H4 ((e2.trans e3).trans e4)) E
theorem el_cat2 {ys : List V} {q : Addr} (ha : Ev t1 σ H (.ref p)) (hp : H p = some (.lst xs)) (hb : Ev t2 σ H (.ref q)) (hq : H q = some (.lst ys)) (hz : xs.length + ys.length ≤ 100000) : EvL (tOp rCat t1 t2) σ H (xs ++ ys) := fun H1 e Q k =>
  ha H1 e _ fun H2 e2 => hb H2 (e.trans e2) _ fun H3 e3 => ⟨p, q, xs, ys, rfl, rfl, ((e.trans e2).trans e3) _ _ hp, ((e.trans e2).trans e3) _ _ hq, sz_of hz, fun l hl => k l _ (fresh_back (e2.trans e3) hl) ((e2.trans e3).trans (Ex.new hl)) upd_same⟩
theorem ex_end (hne : ns ≠ []) (g : Bool) : ∃ m, EndL ns g m := by
  have hp : 0 < (srt ns).length := by rw [srt_len]; exact List.length_pos_iff.mpr hne
  cases g with
  | true =>
    refine ⟨(srt ns)[(srt ns).length - 1]'(by omega), srt_mem.mp (List.getElem_mem _), fun y hy => ?_⟩
    obtain ⟨i, hi, rfl⟩ := List.mem_iff_getElem.mp (srt_mem.mpr hy)
    rw [if_pos rfl]
    exact pw_le (srt_pw ns) (by omega) (by omega)
  | false =>
    refine ⟨(srt ns)[0], srt_mem.mp (List.getElem_mem _), fun y hy => ?_⟩
    obtain ⟨i, hi, rfl⟩ := List.mem_iff_getElem.mp (srt_mem.mpr hy)
    rw [if_neg (by decide)]
    exact pw_le (srt_pw ns) (by omega) (by omega)
theorem rc_minE (h : SqL K H p (ns.map V.int)) (hm : EndL ns false m) : RC (rMin K) [.ref p] H (.int m) := rc_of fun H1 e Q q => ⟨p, ns, rfl, ex_l e h, List.length_pos_of_mem hm.1, fun m' h1 h2 => by
  have : m' = m := Int.le_antisymm (h2 m hm.1) (hm.2 m' h1)
  rw [this]
  exact q⟩
theorem rc_maxE (h : SqL K H p (ns.map V.int)) (hm : EndL ns true m) : RC (rMax K) [.ref p] H (.int m) := rc_of fun H1 e Q q => ⟨p, ns, rfl, ex_l e h, List.length_pos_of_mem hm.1, fun m' h1 h2 => by
  have : m' = m := Int.le_antisymm (hm.2 m' h1) (h2 m hm.1)
  rw [this]
  exact q⟩
/-- told three times, fewer others -/
theorem lc_told {a : Addr} {o : Int} {ja jo jw : Nat} {Q : VK} (hS : SqL K H a (ns.map V.int)) (hne : ns ≠ []) (hl : ns.length < 64) (h0 : 0 ≤ o) (h1 : o ≤ 1000) (hk : okLiars ns.length o = true) (hw : ∀ x, wipe ((wipe σ [jw]).set jw (some x)) [jw] = wipe σ [jw])
    (g0 : ∀ x, ((wipe σ [jw]).set jw (some x))[ja]? = some (some (.ref a))) (g1 : ∀ x, ((wipe σ [jw]).set jw (some x))[jo]? = some (some (.int o))) (g2 : ∀ x, ((wipe σ [jw]).set jw (some x))[jw]? = some (some x))
    (q : ∀ (Dl t p1 p2 : Addr) (m1 m2 : Int) (H' : Hp), Ex H H' → H' Dl = some (.lst [.ref t, .ref p1, .ref p2]) → H' t = some (.tup [.int (loL ns o), .int (hiL ns o)]) → EndL ns false m1 → H' p1 = some (.lst (List.replicate o.toNat (.int m1))) → EndL ns true m2 → H' p2 = some (.lst (List.replicate o.toNat (.int m2))) → Q (.ref Dl) H') :
    tLc (iRng1 (tCons (tC (.int 3)) tNil)) (gName jw) tYes (tCall (sp_l_told K A) [] E (tCons (tVar ja) (tCons (tVar jo) (tCons (tVar jw) tNil)))) [jw] σ H Q := by
  refine lc_R1 (n := 3) (ea_cons ev_c ea_nil) (by decide) hw (fun i acc Dl H' => Ex H H' ∧ H Dl = none ∧ ∃ (t p1 p2 : Addr) (m1 m2 : Int), acc = ([.ref t, .ref p1, .ref p2] : List V).take i ∧ (1 ≤ i → H' t = some (.tup [.int (loL ns o), .int (hiL ns o)]) ∧ t ≠ Dl) ∧ (2 ≤ i → EndL ns false m1 ∧ H' p1 = some (.lst (List.replicate o.toNat (.int m1))) ∧ p1 ≠ Dl) ∧ (3 ≤ i → EndL ns true m2 ∧ H' p2 = some (.lst (List.replicate o.toNat (.int m2))) ∧ p2 ≠ Dl))
    (fun H1 Dl e hD => ⟨e.trans (Ex.new hD), fresh_back e hD, 0, 0, 0, 0, 0, rfl, fun h => absurd h (by decide), fun h => absurd h (by decide), fun h => absurd h (by decide)⟩) ?hs ?hk
  case hk =>
    intro acc Dl H' _ hDl ⟨e, nD, t, p1, p2, m1, m2, ea, f1, f2, f3⟩
    have ea : acc = [.ref t, .ref p1, .ref p2] := ea
    rw [ea] at hDl
    exact q Dl t p1 p2 m1 m2 H' e hDl (f1 (by decide)).1 (f2 (by decide)).1 (f2 (by decide)).2.1 (f3 (by decide)).1 (f3 (by decide)).2.1
  case hs =>
    intro i acc Dl H1 hi hacc hDl ⟨e, nD, t, p1, p2, m1, m2, ea, f1, f2, f3⟩ Q' k
    have hin : LiarsIn K H1 a ns o := ⟨ex_l e hS, hne, hl, h0, h1⟩
    have npD : ∀ p : Addr, H1 p = none → p ≠ Dl := fun p np z => by rw [z, hDl] at np; cases np
    refine ⟨.ref a, g0 _, .int o, g1 _, .int (i : Int), g2 _, ?_⟩
    show sp_l_told K A [.ref a, .int o, .int (i : Int)] H1 Q' E
    refine ⟨a, ns, o, (i : Int), rfl, hin, fun z => absurd (hk.symm.trans z) (by decide), fun _ hw0 H2 p e2 np hp => ?_, fun _ hw0 m hm H2 p e2 np hp => ?_⟩
    · obtain rfl : i = 0 := by omega
      refine k _ H2 (e2 _ _ hDl) ⟨(e.trans e2).mut nD, nD, p, p1, p2, m1, m2, by rw [ea]; rfl, fun _ => ⟨by rw [upd_ne (npD p np)]; exact hp, npD p np⟩, fun h => absurd h (by decide), fun h => absurd h (by decide)⟩
    · have hi12 : i = 1 ∨ i = 2 := by omega
      rcases hi12 with rfl | rfl
      · obtain ⟨ft, nt⟩ := f1 (by decide)
        refine k _ H2 (e2 _ _ hDl) ⟨(e.trans e2).mut nD, nD, t, p, p2, m, m2, by rw [ea]; rfl, fun _ => ⟨by rw [upd_ne nt]; exact e2 _ _ ft, nt⟩, fun _ => ⟨hm, by rw [upd_ne (npD p np)]; exact hp, npD p np⟩, fun h => absurd h (by decide)⟩
      · obtain ⟨ft, nt⟩ := f1 (by decide)
        obtain ⟨g1', g2', g3'⟩ := f2 (by decide)
        refine k _ H2 (e2 _ _ hDl) ⟨(e.trans e2).mut nD, nD, t, p1, p, m1, m, by rw [ea]; rfl, fun _ => ⟨by rw [upd_ne nt]; exact e2 _ _ ft, nt⟩, fun _ => ⟨g1', by rw [upd_ne g3']; exact e2 _ _ g2', g3'⟩, fun _ => ⟨hm, by rw [upd_ne (npD p np)]; exact hp, npD p np⟩⟩
end
theorem pure_law (T : Txt K mg A) (vs : List V) (H : Hp) (Q : VK) (E : XK) (h : spL K vs H Q E) : t_law K A E { nx := fun _ H' => Q .non H', rt := Q } (start ["_law_script", "_law_k", "_law_more", "_law_rights", "_law_j", "_law_one", "_law_far", "_law_others", "_law_handed", "_law_told_here", "_law_which", "_law_beyond", "_law_drawn_here", "_law_i", "_law_near"] vs) H := by
  obtain ⟨a, sc, rfl, hS, hl, q⟩ := h
  show t_law K A E _ [some (.ref a), none, none, none, none, none, none, none, none, none, none, none, none, none, none] H
  refine q_forR1 (n := if (if ((sc.map V.int).length : Int) < 4 then ((sc.map V.int).length : Int) else 4) > 1 then (if ((sc.map V.int).length : Int) < 4 then ((sc.map V.int).length : Int) else 4) else 1) (by walk_at "ev") (by (repeat' split) <;> omega)
    (fun k σ H' => ∃ y1 y2 y3 y4 y5 y6 y7 y8 y9 y10 y11 y12 y13 y14, σ = [some (V.ref a), y1, y2, y3, y4, y5, y6, y7, y8, y9, y10, y11, y12, y13, y14] ∧ Ex H H')
    (fun H1 e1 => ⟨_, _, _, _, _, _, _, _, _, _, _, _, _, _, rfl, e1⟩) (fun k σ H1 hk' ⟨y1, y2, y3, y4, y5, y6, y7, y8, y9, y10, y11, y12, y13, y14, es, e1⟩ => ?_) (fun σ H1 ⟨y1, y2, y3, y4, y5, y6, y7, y8, y9, y10, y11, y12, y13, y14, es, e1⟩ => ?_)
  · subst es
    have hS1 := ex_l e1 hS
    refine q_asg (v := .int (drawn (cell sc (k : Int)) (k : Int))) (by walk_at "ev") fun H2 e2 => ?_
    have d0 := drawn_nn (cell sc (k : Int)) (k : Int)
    generalize drawn (cell sc (k : Int)) (k : Int) = more at d0 ⊢
    have e02 := e1.trans e2
    -- the right ones
    refine q_asgL (el_lst ea_nil (by decide)) fun p H3 np e3 h3 => ?_
    have np0 : H p = none := fresh_back e02 np
    refine q_forR1 (n := 1 + more % 9) (by walk_at "ev") (by omega)
      (fun j σ H' => ∃ y4 y5 y6 ms, σ = [some (V.ref a), some (.int (k : Int)), some (.int more), some (.ref p), y4, y5, y6, y7, y8, y9, y10, y11, y12, y13, y14] ∧ Ex H H' ∧ H' p = some (.lst (ms.map V.int)) ∧ ms.length = j)
      (fun H4 e4 => ⟨_, _, _, [], rfl, (e02.trans e3).trans e4, e4 _ _ h3, rfl⟩) (fun j σ H4 hj ⟨y4, y5, y6, ms, es, e4, h4, hms⟩ => ?_) (fun σ H4 ⟨y4, y5, y6, ns, es, e4, h4, hms⟩ => ?_)
    · subst es
      have hS4 := ex_l e4 hS
      refine q_asg (v := .int (drawn (cell sc ((k : Int) + (j : Int))) ((k : Int) + (j : Int) + 40))) (by walk_at "ev") fun H5 e5 => ?_
      generalize drawn (cell sc ((k : Int) + (j : Int))) ((k : Int) + (j : Int) + 40) = one
      refine q_asgX (P := IsI) ⟨_, (by walk_at "ev"), _, rfl⟩ fun v H6 ⟨far, ef⟩ e6 => ?_
      subst ef
      refine s_appX (P := IsI) ((e5.trans e6) _ _ h4) (ev_var rfl) ⟨_, (by walk_at "ev"), _, rfl⟩ (by rw [List.length_map]; omega) fun v H7 ⟨m, em⟩ e7 => ?_
      subst em
      exact ⟨_, _, _, ms ++ [m], rfl, (((e4.trans e5).trans e6).trans e7).mut np0, by rw [upd_same, List.map_append]; rfl, by rw [List.length_append, hms]; rfl⟩
    · subst es
      have hns : 1 ≤ ns.length ∧ ns.length ≤ 9 := by omega
      have hne : ns ≠ [] := fun z => by rw [z] at hns; exact absurd hns.1 (by decide)
      have hR4 : SqL K H4 p (ns.map V.int) := sq_of h4
      have hmm : (ns.map V.int).length = ns.length := List.length_map ..
      refine q_asgX (P := fun v => ∃ o : Int, v = .int o ∧ 0 ≤ o ∧ o ≤ 10) ⟨_, (by walk_at "ev"), _, rfl, ?_⟩ fun v H5 ⟨o, eo, o0, o1⟩ e5 => ?_
      · have z0 := Int.emod_nonneg (more / 16) (show ((ns.map V.int).length : Int) + 2 ≠ 0 by omega)
        have z1 := Int.emod_lt_of_pos (more / 16) (show (0 : Int) < ((ns.map V.int).length : Int) + 2 by omega)
        omega
      subst eo
      have hR5 := ex_l e5 hR4
      refine q_asgL (el_list (ev_var rfl) hR5) fun hd H6 nhd e6 h6 => ?_
      have hR6 := ex_l e6 hR5
      have hD6 : SqL K H6 hd (ns.map V.int) := sq_of h6
      have e06 := (e4.trans e5).trans e6
      by_cases hk : okLiars ns.length o = true
      · -- fewer others
        have hkv : (decide (((ns.map V.int).length : Int) ≤ o) || decide ((o + ((ns.map V.int).length : Int)) % 2 = 0)) = false := by
          rw [hmm]
          unfold okLiars at hk
          simpa using hk
        refine q_asgR ?_
        refine lc_told hD6 hne (by omega) o0 (by omega) hk (fun _ => rfl) (fun _ => rfl) (fun _ => rfl) (fun _ => rfl) fun td t p1 p2 m1 m2 H7 e7 htd ht hm1 hp1 hm2 hp2 => ?_
        have hR7 := ex_l e7 hR6
        have hD7 := ex_l e7 hD6
        refine q_when (b := false) (et_test (ev_op (ev_var rfl) (ev_var rfl) (rv_neSame hD7 (ints_flat ns) hR7))) (fun hb => absurd hb (by decide)) fun _ H8 e8 => ?_
        have hR8 := ex_l e8 hR7
        refine q_when (b := false) (et_is (by walk_at "ev") hkv) (fun hb => absurd hb (by decide)) fun _ H9 e9 => ?_
        have e79 := e8.trans e9
        have tox : ∀ (H' : Hp) (σ : L2.St) (ti : TE) (n : Nat) (v : V), Ex H7 H' → σ[9]? = some (some (.ref td)) → Ev ti σ H' (.int (n : Int)) → ([.ref t, .ref p1, .ref p2] : List V)[n]? = some v → Ev (tOp (rIxL K) (tVar 9) ti) σ H' v := fun H' σ ti n v e h1 h2 h3 => ev_op (ev_var h1) h2 (rv_ixL (sq_of (e _ _ htd)) (atI_nat h3))
        refine q_when (b := false) (et_is (et_orB (et_not (et_B (ev_cb (ea_cons (tox H9 _ _ 0 _ e79 rfl ev_c rfl) (ea_cons ev_c ea_nil)) (isi_tup_tup (e79 _ _ ht))))) (et_orB (et_not (et_B (ev_cb (ea_cons (tox H9 _ _ 1 _ e79 rfl ev_c rfl) (ea_cons ev_c ea_nil)) (isi_list_list (e79 _ _ hp1))))) (et_not (et_B (ev_cb (ea_cons (tox H9 _ _ 2 _ e79 rfl ev_c rfl) (ea_cons ev_c ea_nil)) (isi_list_list (e79 _ _ hp2))))))) (by rfl)) (fun hb => absurd hb (by decide)) fun _ H10 e10 => ?_
        have e710 := e79.trans e10
        have eR : Ex H6 H10 := e7.trans e710
        obtain ⟨mn, hmn⟩ := ex_end hne false
        obtain ⟨mx, hmx⟩ := ex_end hne true
        -- the two worst
        refine q_forNLn (xs := [.int 1, .int 2]) (el_lst (ea_cons ev_c (ea_cons ev_c ea_nil)) (by show 2 ≤ 100000; decide)) (fun lp i σ H' => ∃ y4 y5 y6 y10 y11, σ = [some (V.ref a), some (.int (k : Int)), some (.int more), some (.ref p), y4, y5, y6, some (.int o), some (.ref hd), some (.ref td), y10, y11, y12, y13, y14] ∧ Ex H10 H' ∧ H' lp = some (.lst [.int 1, .int 2]))
          (fun lp H11 _ e11 h11 => ⟨_, _, _, _, _, rfl, e11, h11⟩) (fun lp i σ H11 _ ⟨_, _, _, _, _, _, _, h⟩ => sq_of h) (fun lp i x σ H11 hx ⟨y4, y5, y6, y10, y11, es, e11, h11⟩ => ?_) (fun lp σ H11 ⟨y4, y5, y6, y10, y11, es, e11, h11⟩ => ?_)
        · subst es
          have e711 := e710.trans e11
          have hR11 := ex_l (eR.trans e11) hR6
          obtain ⟨g, m, pp, n, ex, hn, hnp, hmE, hpp, hwh⟩ : ∃ (g : Bool) (m : Int) (pp : Addr) (n : Nat), x = .int (n : Int) ∧ (n = if g = true then 2 else 1) ∧ ([.ref t, .ref p1, .ref p2] : List V)[n]? = some (.ref pp) ∧ EndL ns g m ∧ H11 pp = some (.lst (List.replicate o.toNat (.int m))) ∧ atI ([.int (loL ns o), .int (hiL ns o)] : List V) ((n : Int) - 1) = some (.int (if g = true then hiL ns o else loL ns o)) := by
            match i, hx with
            | 0, hx => exact ⟨false, m1, p1, 1, (Option.some.inj hx).symm, rfl, rfl, hm1, e711 _ _ hp1, rfl⟩
            | 1, hx => exact ⟨true, m2, p2, 2, (Option.some.inj hx).symm, rfl, rfl, hm2, e711 _ _ hp2, rfl⟩
          subst ex
          have hmr : mn ≤ m ∧ m ≤ mx := ⟨hmn.2 m hmE.1, hmx.2 m hmE.1⟩
          refine q_asgL (xs := []) (el_is (el_lcM (fun _ => false) id (tox H11 _ _ n _ e711 rfl (ev_var rfl) hnp) (sq_of hpp) (by rw [List.length_replicate]; omega) (fun _ => rfl) (fun x H12 e12 hx => ?_) (fun x H12 e12 hx h => absurd h (by decide))) (by rw [List.filter_eq_nil_iff.mpr (fun _ _ => by decide)]; rfl)) fun bp H12 nbp e12 h12 => ?_
          · rw [List.eq_of_mem_replicate hx]
            have hR12 := ex_l e12 hR11
            refine et_is (et_not (et_test (ev_chain (ev_cb (ea_cons (ev_var rfl) ea_nil) (rc_minE hR12 hmn)) (ev_var rfl) (ev_cb (ea_cons (ev_var rfl) ea_nil) (rc_maxE hR12 hmx)) rv_I0 rv_I0))) ?_
            rw [decide_eq_true hmr.1, decide_eq_true hmr.2]
            rfl
          have e712 := e711.trans e12
          have hpp12 := e12 _ _ hpp
          refine q_when (b := false) (et_is (et_orB (et_test (ev_op (ev_len (tox H12 _ _ n _ e712 rfl (ev_var rfl) hnp) (sq_of hpp12)) (ev_var rfl) rv_neI)) (et_test (ev_neNil (ev_var rfl) (sq_of h12) rfl))) ?_) (fun hb => absurd hb (by decide)) fun _ H13 e13 => ?_
          · rw [List.length_replicate, decide_eq_true (show ((o.toNat : Nat) : Int) = o by omega)]
            rfl
          have e713 := e712.trans e13
          have hp13 : H13 p = some (.lst (ns.map V.int)) := ((eR.trans e11).trans (e12.trans e13)) _ _ ((e5.trans e6) _ _ h4)
          have hpp13 := e13 _ _ hpp12
          have hcat : ns.map V.int ++ List.replicate o.toNat (.int m) = (ns ++ List.replicate o.toNat m).map V.int := by rw [List.map_append, List.map_replicate]
          have hml : (ns ++ List.replicate o.toNat m).length < 64 := by rw [List.length_append, List.length_replicate]; omega
          refine s_when (b := false) (et_is (et_test (ev_op (ev_callL (sp := sp_middle K A) (z := .int (mid (ns ++ List.replicate o.toNat m) 0)) (el_is (el_cat2 (ev_var rfl) hp13 (tox H13 _ _ n _ e713 rfl (ev_var rfl) hnp) hpp13 (by rw [List.length_map, List.length_replicate]; omega)) hcat) ev_c fun pm H14 e14 h14 => spv_middle (sq_of h14) (by simp [hne]) hml) (ev_op (tox H13 _ _ 0 _ e713 rfl ev_c rfl) (ev_op (ev_var rfl) ev_c rv_I0) (rv_ixT (st_of (e713 _ _ ht)) hwh)) rv_neI)) ?_) (fun hb => absurd hb (by decide)) fun _ H14 e14 => ?_
          · rw [mid_worst hk o0 hmE, decide_eq_true rfl]
            rfl
          exact ⟨_, _, _, _, _, rfl, ((e11.trans e12).trans e13).trans e14, ((e12.trans e13).trans e14) _ _ h11⟩
        · subst es
          have e711 := e710.trans e11
          -- no others
          refine q_when (b := false) (et_is (et_andB (et_test (ev_op (ev_var rfl) ev_c rv_eqI)) (et_test (ev_op (ev_op (tox H11 _ _ 0 _ e711 rfl ev_c rfl) ev_c (rv_ixT (st_of (e711 _ _ ht)) (atI_nat (j := 0) rfl))) (ev_op (tox H11 _ _ 0 _ e711 rfl ev_c rfl) ev_c (rv_ixT (st_of (e711 _ _ ht)) (atI_nat (j := 1) rfl))) rv_neI))) ?_) (fun hb => absurd hb (by decide)) fun _ H12 e12 => ?_
          · by_cases c : o = 0
            · have : loL ns o = hiL ns o := by unfold loL hiL; rw [c]; congr 2
              rw [decide_eq_true c, decide_eq_true this]
              rfl
            · rw [decide_eq_false c]
              rfl
          have e712 := e711.trans e12
          have eR12 : Ex H6 H12 := e7.trans e712
          -- whatever is drawn
          refine s_forR1 (n := 10) (ea_cons ev_c ea_nil) (by decide)
            (fun j σ H' => ∃ y4 y5 y6 y10 y11 y12 y13 y14, σ = [some (V.ref a), some (.int (k : Int)), some (.int more), some (.ref p), y4, y5, y6, some (.int o), some (.ref hd), some (.ref td), y10, y11, y12, y13, y14] ∧ Ex H12 H')
            (fun H13 e13 => ⟨_, _, _, _, _, _, _, _, rfl, e13⟩) (fun j σ H13 hj ⟨y4, y5, y6, y10, y11, y12, y13, y14, es, e13⟩ => ?_) (fun σ H13 ⟨y4, y5, y6, y10, y11, y12, y13, y14, es, e13⟩ => ?_)
          · subst es
            have hS13 := ex_l ((e06.trans eR12).trans e13) hS
            refine q_asg (v := .int (drawn (cell sc (k : Int)) (10 * (k : Int) + (j : Int) + 90))) (by walk_at "ev") fun H14 e14 => ?_
            have w0 := drawn_nn (cell sc (k : Int)) (10 * (k : Int) + (j : Int) + 90)
            generalize drawn (cell sc (k : Int)) (10 * (k : Int) + (j : Int) + 90) = one at w0 ⊢
            refine q_asgL (el_lst ea_nil (by decide)) fun dp H15 ndp e15 h15 => ?_
            have e1215 := (e13.trans e14).trans e15
            have ndp12 : H12 dp = none := fresh_back (e13.trans e14) ndp
            refine q_forR1 (n := o) (ea_cons (ev_var rfl) ea_nil) (by omega)
              (fun i σ H' => ∃ y13 y14 xs, σ = [some (V.ref a), some (.int (k : Int)), some (.int more), some (.ref p), some (.int (j : Int)), some (.int one), y6, some (.int o), some (.ref hd), some (.ref td), y10, y11, some (.ref dp), y13, y14] ∧ Ex H12 H' ∧ H' dp = some (.lst (xs.map V.int)) ∧ xs.length = i)
              (fun H16 e16 => ⟨_, _, [], rfl, e1215.trans e16, e16 _ _ h15, rfl⟩) (fun i σ H16 hi ⟨y13, y14, xs, es, e16, h16, hxs⟩ => ?_) (fun σ H16 ⟨y13, y14, xs, es, e16, h16, hxs⟩ => ?_)
            · subst es
              have hR16 : SqL K H16 p (ns.map V.int) := ex_l (eR12.trans e16) hR6
              have z0 := Int.emod_nonneg (one / (3 + (i : Int))) (show ((ns.map V.int).length : Int) ≠ 0 by omega)
              have z1 := Int.emod_lt_of_pos (one / (3 + (i : Int))) (show (0 : Int) < ((ns.map V.int).length : Int) by omega)
              refine q_asgX (P := IsI) ⟨_, (by walk_at "ev"), _, rfl⟩ fun v H17 ⟨near, en⟩ e17 => ?_
              subst en
              refine s_appX (P := IsI) (e17 _ _ h16) (ev_var rfl) ⟨_, (by walk_at "ev"), _, rfl⟩ (by rw [List.length_map]; omega) fun v H18 ⟨m, em⟩ e18 => ?_
              subst em
              exact ⟨_, _, xs ++ [m], rfl, ((e16.trans e17).trans e18).mut ndp12, by rw [upd_same, List.map_append]; rfl, by rw [List.length_append, hxs]; rfl⟩
            · subst es
              have hxo : (xs.length : Int) = o := by omega
              have hp16 : H16 p = some (.lst (ns.map V.int)) := (eR12.trans e16) _ _ ((e5.trans e6) _ _ h4)
              have e716 := e712.trans e16
              obtain ⟨b1, b2⟩ := mid_hi hk o0 hxo
              have hml : (ns ++ xs).length < 64 := by rw [List.length_append]; omega
              refine s_when (b := false) (et_is (et_not (et_test (ev_chain (ev_op (tox H16 _ _ 0 _ e716 rfl ev_c rfl) ev_c (rv_ixT (st_of (e716 _ _ ht)) (atI_nat (j := 0) rfl))) (ev_callL (sp := sp_middle K A) (z := .int (mid (ns ++ xs) 0)) (el_is (el_cat2 (ev_var rfl) hp16 (ev_var rfl) h16 (by rw [List.length_map, List.length_map]; omega)) (List.map_append ..).symm) ev_c fun pm H17 e17 h17 => spv_middle (sq_of h17) (by simp [hne]) hml) (ev_op (tox H16 _ _ 0 _ e716 rfl ev_c rfl) ev_c (rv_ixT (st_of (e716 _ _ ht)) (atI_nat (j := 1) rfl))) rv_I0 rv_I0))) ?_) (fun hb => absurd hb (by decide)) fun _ H17 e17 => ?_
              · rw [decide_eq_true b1, decide_eq_true b2]
                rfl
              exact ⟨_, _, _, _, _, _, _, _, rfl, e16.trans e17⟩
          · subst es
            exact ⟨_, _, _, _, _, _, _, _, _, _, _, _, _, _, rfl, (e06.trans eR12).trans e13⟩
      · -- as many others, or an even number
        have hk0 : okLiars ns.length o = false := by simpa using hk
        have hkv : (decide (((ns.map V.int).length : Int) ≤ o) || decide ((o + ((ns.map V.int).length : Int)) % 2 = 0)) = true := by
          rw [hmm]
          unfold okLiars at hk0
          cases hc : (decide ((ns.length : Int) ≤ o) || decide ((o + (ns.length : Int)) % 2 = 0)) with
          | true => rfl
          | false => rw [hc] at hk0; cases hk0
        refine q_asgL (xs := [.str "BadStep", .str "BadStep", .str "BadStep"]) (el_is (el_lcR1 (fun _ => true) (fun _ => .str "BadStep") (n := 3) (ea_cons ev_c ea_nil) (by decide) (fun _ => rfl) (fun i H7 e7 hi => fun H8 _ Q' q' => q' H8 (Ex.refl H8)) (fun i H7 e7 hi _ => ev_call0 (vs := [.ref hd, .int o, .int (i : Int)]) (ea_cons (ev_var rfl) (ea_cons (ev_var rfl) (ea_cons (ev_var rfl) ea_nil))) fun H8 e8 Q' q' E' => ⟨hd, ns, o, (i : Int), rfl, ⟨ex_l (e7.trans e8) hD6, hne, by omega, o0, by omega⟩, fun _ => q', fun z => absurd z hk, fun z => absurd z hk⟩)) (by rfl)) fun td H7 ntd e7 h7 => ?_
        have hR7 := ex_l e7 hR6
        have hD7 := ex_l e7 hD6
        refine q_when (b := false) (et_test (ev_op (ev_var rfl) (ev_var rfl) (rv_neSame hD7 (ints_flat ns) hR7))) (fun hb => absurd hb (by decide)) fun _ H8 e8 => ?_
        have hR8 := ex_l e8 hR7
        refine q_when (b := true) (et_is (by walk_at "ev") hkv) (fun _ H9 e9 => ?_) (fun hb => absurd hb (by decide))
        have htd9 := (e8.trans e9) _ _ h7
        refine q_when (b := false) (et_test (ev_opL (ev_var rfl) (el_is (el_rep (x := .str "BadStep") (k := 3) (el_lst (ea_cons ev_c ea_nil) (by show 1 ≤ 100000; decide)) ev_c (by decide) (by decide)) (by rfl)) fun q2 H10 h10 e10 => rv_neSame (sq_of (e10 _ _ htd9)) (by decide +kernel) (sq_of h10))) (fun hb => absurd hb (by decide)) fun _ H10 e10 => ?_
        exact ⟨_, _, _, _, _, _, _, _, _, _, _, _, _, _, rfl, (((e06.trans e7).trans e8).trans e9).trans e10⟩
  · subst es
    exact s_ret ev_c fun H2 _ => q H2
end
end MV
namespace MV
open PySem PySem.Spec PyProof.Rows L2 Evl MVH
theorem ok_need_fewer {P : Program} {w : World} {K : PySem.W.Frag} {mg : Str → Option Value} {base : Heap} {A : Ads} (T : Txt K mg A) :
    FnOk P w K mg base (L2N.CX P w) 1 A.f_need_fewer A.d_need_fewer ["rights", "others"] (sp_need_fewer K A) := by
  refine okN T.F_need_fewer sc_need_fewer (fun vs H Q E h => len_need_fewer h) (fun cdv _ outer s H vs Q E hr h => ⟨t_need_fewer K A E, ?_, pure_need_fewer T vs H Q E h⟩)
  exact (pss_one (ps_if (PW.pt (pw_or (pt_cmpR op_ge (pv 1) (pe_callB call_len_seq (by rfl) T.n_len PySem.boot_len (pa_cons (pv 0) pa_nil)) (nomark _)) (pw_or1 (pt_cmpR op_eq (pe_op op_mod (pe_op op_add (pv 1) (pe_callB call_len_seq (by rfl) T.n_len PySem.boot_len (pa_cons (pv 0) pa_nil))) pe_int) pe_int (nomark _))))) (pss_one (L2N.ps_raise rfl (L2N.takes_of rfl rfl rfl rfl) (L2N.pmk_own PySem.F.excBase_ValueError T.x_BadStep T.g_BadStep T.k_BadStep (raises_own T.xb_BadStep T.xt_BadStep) (by exact rfl)))) pss_nil))
theorem ok_middle {P : Program} {w : World} {K : PySem.W.Frag} {mg : Str → Option Value} {base : Heap} {A : Ads} (T : Txt K mg A) :
    FnOk P w K mg base CX0 1 A.f_middle A.d_middle ["numbers", "near"] (sp_middle K A) := by
  refine T.F_middle.ok sc_middle (fun vs H Q E h => len_middle h) (fun cdv _ outer s H vs Q E hr h => ⟨t_middle K A E, ?_, pure_middle T vs H Q E h⟩)
  exact (pss_cons (ps_asg (pe_callB cr_sorted (by rfl) T.n_sorted PyProof.Rows.boot_sorted (pa_cons (pv 0) pa_nil)) (pg_name (i := 2) sc_middle.nd rfl (by first | exact Or.inl rfl | exact Or.inr rfl)))
      (pss_cons (ps_asg (pe_op op_fdivW (pe_callB call_len_seq (by rfl) T.n_len PySem.boot_len (pa_cons (pv 2) pa_nil)) pe_int) (pg_name (i := 3) sc_middle.nd rfl (by first | exact Or.inl rfl | exact Or.inr rfl)))
      (pss_cons (ps_if (pt_cmpR op_eq (pe_op op_mod (pe_callB call_len_seq (by rfl) T.n_len PySem.boot_len (pa_cons (pv 2) pa_nil)) pe_int) pe_int (nomark _)) (pss_one (ps_ret (pe_ix ix_list (pv 2) (pv 3) (fun _ _ => rfl)))) pss_nil)
      (pss_cons (ps_if (pt_cmpR op_lt (pe_callB call_abs (by rfl) T.n_abs PyProof.Rows.boot_abs (pa_cons (pe_op op_sub (pe_ix ix_list (pv 2) (pv 3) (fun _ _ => rfl)) (pv 1)) pa_nil)) (pe_callB call_abs (by rfl) T.n_abs PyProof.Rows.boot_abs (pa_cons (pe_op op_sub (pe_ix ix_list (pv 2) (pe_op op_sub (pv 3) pe_int) (fun _ _ => rfl)) (pv 1)) pa_nil)) (nomark _)) (pss_one (ps_ret (pe_ix ix_list (pv 2) (pv 3) (fun _ _ => rfl)))) pss_nil)
      (pss_one (ps_ret (pe_ix ix_list (pv 2) (pe_op op_sub (pv 3) pe_int) (fun _ _ => rfl))))))))
theorem ok_l_cell {P : Program} {w : World} {K : PySem.W.Frag} {mg : Str → Option Value} {base : Heap} {A : Ads} (T : Txt K mg A) :
    FnOk P w K mg base CX0 1 A.f_l_cell A.d_l_cell ["_law_script", "_law_k"] (sp_l_cell K A) := by
  refine T.F_l_cell.ok sc_l_cell (fun vs H Q E h => len_l_cell h) (fun cdv _ outer s H vs Q E hr h => ⟨t_l_cell K A E, ?_, pure_l_cell T vs H Q E h⟩)
  exact (pss_cons (ps_if (pt_cmpR (op_eqD hr.units) (pv 0) (pe_lst pa_nil) (nomark _)) (pss_one (ps_ret (pe_op op_mul (pv 1) pe_int))) pss_nil)
      (pss_one (ps_ret (pe_op op_add (pe_ix ix_list (pv 0) (pe_op op_mod (pv 1) (pe_callB call_len_seq (by rfl) T.n_len PySem.boot_len (pa_cons (pv 0) pa_nil))) (fun _ _ => rfl)) (pe_op op_mul (pe_op op_fdivW (pv 1) (pe_callB call_len_seq (by rfl) T.n_len PySem.boot_len (pa_cons (pv 0) pa_nil))) pe_int)))))
theorem ok_l_drawn {P : Program} {w : World} {K : PySem.W.Frag} {mg : Str → Option Value} {base : Heap} {A : Ads} (T : Txt K mg A) :
    FnOk P w K mg base CX0 1 A.f_l_drawn A.d_l_drawn ["_law_cell_here", "_law_k"] (sp_l_drawn K A) := by
  refine T.F_l_drawn.ok sc_l_drawn (fun vs H Q E h => len_l_drawn h) (fun cdv _ outer s H vs Q E hr h => ⟨t_l_drawn K A E, ?_, pure_l_drawn T vs H Q E h⟩)
  exact (pss_cons (ps_asg (pe_op op_mod (pe_op op_add (pe_op op_mul (pv 0) pe_int) (pe_op op_mul (pe_op op_add (pv 1) pe_int) pe_int)) pe_int) (pg_name (i := 2) sc_l_drawn.nd rfl (by first | exact Or.inl rfl | exact Or.inr rfl)))
      (pss_one (ps_ret (pe_op op_mod (pe_op op_mulW (pv 2) (pv 2)) pe_int))))
theorem ok_l_word {P : Program} {w : World} {K : PySem.W.Frag} {mg : Str → Option Value} {base : Heap} {A : Ads} (T : Txt K mg A) {A0 : Around} {outer : List Env} {s : Shared} {H : Hp} {args : Args} {us : List Value} {Q : VK} {E : XK} {p : Addr × Obj} {C : Addr} {wd : Str} (hr : L2H.RoomH 2 A0) (h1 : L2H.Hot1 A0 p) (hpin : L2H.PinOk outer H s p) (e0 : Env0 P w K mg base A0 outer s H) (hb : BindsTo s A.d_l_word args ((["_law_e"] : List Str).zip us)) (r : Vals [.ref p.1] us) (hz : Zc (.ref C) none p.2) (hf : ∃ vs, p.2.data = .fields vs) (hw : wordE A C wd) (q : ∀ H', Ex H H' → Q (.str wd) H') : codeAny (model P w) A0 (.call (.ref A.f_l_word) args) (CR CX0 outer P w H s Q E) s := by
  refine fn_pin T.F_l_word sc_l_word hr h1 hpin e0 hb r rfl fun cdv => ?_
  have hC : ExcC K C := exc_of T hw
  refine ⟨t_l_word K A E C p.1, ?_, pure_l_word T hw q⟩
  have hot : L2H.HotC (L2H.cxH CX0 P w K mg base ["_law_e", "_law_flags", "_law_flag"] "_law_word" (defScope s_l_word) A.f_l_word cdv A0 outer s H E p) := ⟨p, h1, List.mem_singleton.mpr rfl⟩
  have hp : p ∈ (L2H.cxH CX0 P w K mg base ["_law_e", "_law_flags", "_law_flag"] "_law_word" (defScope s_l_word) A.f_l_word cdv A0 outer s H E p).pn := List.mem_singleton.mpr rfl
  exact (pss_cons (ps_asg (pe_lst (pa_cons (pe_callB (call_isP hp hz hf hC) (by rfl) T.n_isinstance PyProof.Rows.boot_isinstance (pa_cons (pv 0) (pa_cons (pe_glob rfl T.g_BadSettings rfl) pa_nil))) (pa_cons (pe_callB (call_isP hp hz hf hC) (by rfl) T.n_isinstance PyProof.Rows.boot_isinstance (pa_cons (pv 0) (pa_cons (pe_glob rfl T.g_BadStep rfl) pa_nil))) (pa_cons (pe_callB (call_isP hp hz hf hC) (by rfl) T.n_isinstance PyProof.Rows.boot_isinstance (pa_cons (pv 0) (pa_cons (pe_glob rfl T.g_NoSensor rfl) pa_nil))) (pa_cons (pe_callB (call_isP hp hz hf hC) (by rfl) T.n_isinstance PyProof.Rows.boot_isinstance (pa_cons (pv 0) (pa_cons (pe_glob rfl T.g_BadRow rfl) pa_nil))) pa_nil))))) (pg_name (i := 1) sc_l_word.nd rfl (by first | exact Or.inl rfl | exact Or.inr rfl)))
      (pss_cons (ps_if (PW.pt (pw_or (pt_cmpR op_ne (pe_callB (cr_sumH hot) (by rfl) T.n_sum PyProof.Rows.boot_sum (pa_cons (pe_hotInts rfl hot sc_l_word.nd (blkOk_by (own := [("_law_flag", 2)]) (N := ["_law_e", "_law_flags", "_law_flag"]) (sc := defScope s_l_word) (by decide +kernel)) (by decide +kernel) (pv 1) (fun _ _ _ _ _ => (pg_name (i := 2) sc_l_word.nd rfl (by first | exact Or.inl rfl | exact Or.inr rfl))) (fun _ _ _ _ _ => (pe_callTy call_int1 (by rfl) T.n_int PyProof.Rows.boot_int (pa_cons (pv 2) pa_nil)))) pa_nil)) pe_int (nomark _)) (pw_or1 (pt_not (pt_val (pe_callB (call_isP hp hz hf hC) (by rfl) T.n_isinstance PyProof.Rows.boot_isinstance (pa_cons (pv 0) (pa_cons (pe_bltn (v := .ty "ValueError") (by rfl) T.n_ValueError (by decide +kernel) rfl) pa_nil)))))))) (pss_one (ps_ret pe_str)) pss_nil)
      (pss_one (ps_ret (pe_ix ix_list (pe_lst (pa_cons pe_str (pa_cons pe_str (pa_cons pe_str (pa_cons pe_str pa_nil))))) (pe_bm PySem.F.plainAttrs_list PySem.F.slot_list_index PySem.F.type_list_index mt_index (pv 1) (pa_cons pe_bl pa_nil)) (fun _ _ => rfl))))))
theorem ok_farthest {P : Program} {w : World} {K : PySem.W.Frag} {mg : Str → Option Value} {base : Heap} {A : Ads} (T : Txt K mg A) (G_need_fewer : FnOk P w K mg base (L2N.CX P w) 1 A.f_need_fewer A.d_need_fewer ["rights", "others"] (sp_need_fewer K A)) :
    FnOk P w K mg base (L2N.CX P w) 2 A.f_farthest A.d_farthest ["rights", "others"] (sp_farthest K A) := by
  refine okN T.F_farthest sc_farthest (fun vs H Q E h => len_farthest h) (fun cdv _ outer s H vs Q E hr h => ⟨t_farthest K A E, ?_, pure_farthest T vs H Q E h⟩)
  exact (pss_cons (ps_expr (pe_call G_need_fewer (hr.mono (by decide)) rfl T.g_need_fewer T.F_need_fewer.kp T.b_need_fewer .nil (L2N.passes_call (L2N.takes_of rfl rfl rfl rfl) (fun _ _ _ _ h => h)) (pa_cons (pv 0) (pa_cons (pv 1) pa_nil))))
      (pss_cons (ps_asg (pe_callB cr_sorted (by rfl) T.n_sorted PyProof.Rows.boot_sorted (pa_cons (pv 0) pa_nil)) (pg_name (i := 2) sc_farthest.nd rfl (by first | exact Or.inl rfl | exact Or.inr rfl)))
      (pss_cons (ps_asg (pe_op op_fdivW (pe_op op_add (pe_callB call_len_seq (by rfl) T.n_len PySem.boot_len (pa_cons (pv 0) pa_nil)) (pv 1)) pe_int) (pg_name (i := 3) sc_farthest.nd rfl (by first | exact Or.inl rfl | exact Or.inr rfl)))
      (pss_one (ps_ret (pe_tup (pa_cons (pe_ix ix_list (pv 2) (pe_op op_sub (pv 3) (pv 1)) (fun _ _ => rfl)) (pa_cons (pe_ix ix_list (pv 2) (pv 3) (fun _ _ => rfl)) pa_nil))))))))
theorem ok_worst {P : Program} {w : World} {K : PySem.W.Frag} {mg : Str → Option Value} {base : Heap} {A : Ads} (T : Txt K mg A) (G_need_fewer : FnOk P w K mg base (L2N.CX P w) 1 A.f_need_fewer A.d_need_fewer ["rights", "others"] (sp_need_fewer K A)) :
    FnOk P w K mg base (L2N.CX P w) 2 A.f_worst A.d_worst ["rights", "others", "is_great"] (sp_worst K A) := by
  refine okN T.F_worst sc_worst (fun vs H Q E h => len_worst h) (fun cdv _ outer s H vs Q E hr h => ⟨t_worst K A E, ?_, pure_worst T vs H Q E h⟩)
  exact (pss_cons (ps_expr (pe_call G_need_fewer (hr.mono (by decide)) rfl T.g_need_fewer T.F_need_fewer.kp T.b_need_fewer .nil (L2N.passes_call (L2N.takes_of rfl rfl rfl rfl) (fun _ _ _ _ h => h)) (pa_cons (pv 0) (pa_cons (pv 1) pa_nil))))
      (pss_cons (ps_if (pt_val (pv 2)) (pss_one (ps_ret (pe_op op_rep (pe_lst (pa_cons (pe_callB (cr_max rfl) (by rfl) T.n_max PyProof.Rows.boot_max (pa_cons (pv 0) pa_nil)) pa_nil)) (pv 1)))) pss_nil)
      (pss_one (ps_ret (pe_op op_rep (pe_lst (pa_cons (pe_callB (cr_min rfl) (by rfl) T.n_min PyProof.Rows.boot_min (pa_cons (pv 0) pa_nil)) pa_nil)) (pv 1))))))
theorem ok_l_told {P : Program} {w : World} {K : PySem.W.Frag} {mg : Str → Option Value} {base : Heap} {A : Ads} (T : Txt K mg A) (G_worst : FnOk P w K mg base (L2N.CX P w) 2 A.f_worst A.d_worst ["rights", "others", "is_great"] (sp_worst K A)) (G_farthest : FnOk P w K mg base (L2N.CX P w) 2 A.f_farthest A.d_farthest ["rights", "others"] (sp_farthest K A)) :
    FnOk P w K mg base CX0 3 A.f_l_told A.d_l_told ["_law_rights", "_law_others", "_law_which"] (sp_l_told K A) := by
  refine T.F_l_told.ok sc_l_told (fun vs H Q E h => len_l_told h) (fun cdv _ outer s H vs Q E hr h => ⟨t_l_told K A E, ?_, pure_l_told T vs H Q E h⟩)
  exact (pss_one (L2N.ps_try_as (c := .ref A.c_VoteError) (i := 3) (Wout := fun _ _ _ _ => False) (tb := fun W => (tSeq (tIfS (tTest (tOp rEq (tVar 2) (tC (.int 0)))) (tRet (tCall (sp_farthest K A) [] (EL 4 W) (tCons (tVar 0) (tCons (tVar 1) tNil)))) tNext)
      (tRet (tCall (sp_worst K A) [] (EL 4 W) (tCons (tVar 0) (tCons (tVar 1) (tCons (tOp rEq (tVar 2) (tC (.int 2))) tNil))))))) (ts := tsW (wordE A) 3) rfl rfl sc_l_told.nd rfl rfl ⟨rfl, by decide, .inl T.g_VoteError⟩ takesN0 (fun W pn xe tkW _ => (pss_cons (ps_if (pt_cmpR op_eq (pv 2) pe_int (nomark _)) (pss_one (ps_ret (pe_call G_farthest (hr.mono (by decide)) rfl T.g_farthest T.F_farthest.kp T.b_farthest .nil (L2N.passes_call (takesN_len tkW) (fun _ _ _ _ h e => h _ e)) (pa_cons (pv 0) (pa_cons (pv 1) pa_nil))))) pss_nil)
      (pss_one (ps_ret (pe_call G_worst (hr.mono (by decide)) rfl T.g_worst T.F_worst.kp T.b_worst .nil (L2N.passes_call (takesN_len tkW) (fun _ _ _ _ h e => h _ e)) (pa_cons (pv 0) (pa_cons (pv 1) (pa_cons (pe_cmpR op_eq (pv 2) pe_int (nomark _)) pa_nil)))))))) (fun a oe cls d pn hz hf => pss_retW fun C w h1 h2 h3 => by subst h1 h2; exact (pe_callP (k := 2) hz hf (fun A0 outer s H args us Q q1 q2 q3 q4 q5 q6 q7 => ok_l_word T q1 q2 q3 q4 q5 q6 hz.zc hf h3 q7) (hr.mono (by decide)) rfl T.g_l_word T.F_l_word.kp T.b_l_word rfl (pv 3)))))
theorem ok_law {P : Program} {w : World} {K : PySem.W.Frag} {mg : Str → Option Value} {base : Heap} {A : Ads} (T : Txt K mg A) (G_middle : FnOk P w K mg base CX0 1 A.f_middle A.d_middle ["numbers", "near"] (sp_middle K A)) (G_l_drawn : FnOk P w K mg base CX0 1 A.f_l_drawn A.d_l_drawn ["_law_cell_here", "_law_k"] (sp_l_drawn K A)) (G_l_cell : FnOk P w K mg base CX0 1 A.f_l_cell A.d_l_cell ["_law_script", "_law_k"] (sp_l_cell K A)) (G_l_told : FnOk P w K mg base CX0 3 A.f_l_told A.d_l_told ["_law_rights", "_law_others", "_law_which"] (sp_l_told K A)) :
    FnOk P w K mg base CX0 4 A.f_law A.d_law ["_law_script"] (sp_law K A) := by
  refine T.F_law.ok sc_law (fun vs H Q E h => len_law h) (fun cdv _ outer s H vs Q E hr h => ⟨t_law K A E, ?_, pure_law T vs H Q E h⟩)
  exact (pss_cons (ps_for PassesOwn.never rfl (pi_range1 (by rfl) T.n_range (pa_cons (pe_callB (call_max2 rfl) (by rfl) T.n_max PyProof.Rows.boot_max (pa_cons pe_int (pa_cons (pe_callB (call_min2 rfl) (by rfl) T.n_min PyProof.Rows.boot_min (pa_cons pe_int (pa_cons (pe_callB call_len_seq (by rfl) T.n_len PySem.boot_len (pa_cons (pv 0) pa_nil)) pa_nil))) pa_nil))) pa_nil)) (pg_name (i := 1) sc_law.nd rfl (by first | exact Or.inl rfl | exact Or.inr rfl)) (pss_cons (ps_asg (pe_call G_l_drawn (hr.mono (by decide)) rfl T.g_l_drawn T.F_l_drawn.kp T.b_l_drawn .nil pass0 (pa_cons (pe_call G_l_cell (hr.mono (by decide)) rfl T.g_l_cell T.F_l_cell.kp T.b_l_cell .nil pass0 (pa_cons (pv 0) (pa_cons (pv 1) pa_nil))) (pa_cons (pv 1) pa_nil))) (pg_name (i := 2) sc_law.nd rfl (by first | exact Or.inl rfl | exact Or.inr rfl)))
      (pss_cons (ps_asg (pe_lst pa_nil) (pg_name (i := 3) sc_law.nd rfl (by first | exact Or.inl rfl | exact Or.inr rfl)))
      (pss_cons (ps_for PassesOwn.never rfl (pi_range1 (by rfl) T.n_range (pa_cons (pe_op op_add pe_int (pe_op op_mod (pv 2) pe_int)) pa_nil)) (pg_name (i := 4) sc_law.nd rfl (by first | exact Or.inl rfl | exact Or.inr rfl)) (pss_cons (ps_asg (pe_call G_l_drawn (hr.mono (by decide)) rfl T.g_l_drawn T.F_l_drawn.kp T.b_l_drawn .nil pass0 (pa_cons (pe_call G_l_cell (hr.mono (by decide)) rfl T.g_l_cell T.F_l_cell.kp T.b_l_cell .nil pass0 (pa_cons (pv 0) (pa_cons (pe_op op_add (pv 1) (pv 4)) pa_nil))) (pa_cons (pe_op op_add (pe_op op_add (pv 1) (pv 4)) pe_int) pa_nil))) (pg_name (i := 5) sc_law.nd rfl (by first | exact Or.inl rfl | exact Or.inr rfl)))
      (pss_cons (ps_asg (pe_op op_sub (pe_op op_mod (pv 5) (pe_op op_add (pe_op op_mul pe_int (pe_op op_pow pe_int pe_int)) pe_int)) (pe_op op_pow pe_int pe_int)) (pg_name (i := 6) sc_law.nd rfl (by first | exact Or.inl rfl | exact Or.inr rfl)))
      (pss_one (ps_expr (pe_bm PySem.F.plainAttrs_list PySem.F.slot_list_append PySem.F.type_list_append mt_append (pv 3) (pa_cons (pe_ix ix_list (pe_lst (pa_cons (pe_op op_mod (pv 5) pe_int) (pa_cons (pe_op op_sub (pe_op op_mod (pv 5) pe_int) pe_int) (pa_cons (pv 6) pa_nil)))) (pe_op op_mod (pe_op op_fdivW (pv 5) (pe_op op_pow pe_int pe_int)) pe_int) (fun _ _ => rfl)) pa_nil)))))))
      (pss_cons (ps_asg (pe_op op_mod (pe_op op_fdivW (pv 2) pe_int) (pe_op op_add (pe_callB call_len_seq (by rfl) T.n_len PySem.boot_len (pa_cons (pv 3) pa_nil)) pe_int)) (pg_name (i := 7) sc_law.nd rfl (by first | exact Or.inl rfl | exact Or.inr rfl)))
      (pss_cons (ps_asg (pe_callTy call_list_of (by rfl) T.n_list PyProof.Rows.boot_list (pa_cons (pv 3) pa_nil)) (pg_name (i := 8) sc_law.nd rfl (by first | exact Or.inl rfl | exact Or.inr rfl)))
      (pss_cons (ps_setLc (i := 9) (own := [("_law_which", 10)]) rfl sc_law.nd rfl rfl (sw_true rfl rfl rfl (by decide +kernel)) (pi_range1 (by rfl) T.n_range (pa_cons pe_int pa_nil)) (blkOk_by (own := [("_law_which", 10)]) (N := ["_law_script", "_law_k", "_law_more", "_law_rights", "_law_j", "_law_one", "_law_far", "_law_others", "_law_handed", "_law_told_here", "_law_which", "_law_beyond", "_law_drawn_here", "_law_i", "_law_near"]) (sc := defScope s_law) (by decide +kernel)) (fun _ _ _ _ _ => (pg_name (i := 10) sc_law.nd rfl (by first | exact Or.inl rfl | exact Or.inr rfl))) (fun _ _ _ _ _ => pts_nil) (fun _ _ _ _ _ => (pe_call G_l_told (hr.mono (by decide)) rfl T.g_l_told T.F_l_told.kp T.b_l_told .nil pass0 (pa_cons (pv 8) (pa_cons (pv 7) (pa_cons (pv 10) pa_nil))))))
      (pss_cons (ps_if (pt_cmpR (op_neD hr.units) (pv 8) (pv 3) (nomark _)) (pss_one (ps_ret pe_bl)) pss_nil)
      (pss_cons (ps_if (PW.pt (pw_or (pt_cmpR op_ge (pv 7) (pe_callB call_len_seq (by rfl) T.n_len PySem.boot_len (pa_cons (pv 3) pa_nil)) (nomark _)) (pw_or1 (pt_cmpR op_eq (pe_op op_mod (pe_op op_add (pv 7) (pe_callB call_len_seq (by rfl) T.n_len PySem.boot_len (pa_cons (pv 3) pa_nil))) pe_int) pe_int (nomark _))))) (pss_cons (ps_if (pt_cmpR (op_neD hr.units) (pv 9) (pe_op op_rep (pe_lst (pa_cons pe_str pa_nil)) pe_int) (nomark _)) (pss_one (ps_ret pe_bl)) pss_nil)
      (pss_one ps_continue)) pss_nil)
      (pss_cons (ps_if (PW.pt (pw_or (pt_not (pt_val (pe_callB call_isi (by rfl) T.n_isinstance PyProof.Rows.boot_isinstance (pa_cons (pe_ix ix_list (pv 9) pe_int (fun _ _ => rfl)) (pa_cons (pe_bltn (v := .ty "tuple") (by rfl) T.n_tuple (by decide +kernel) rfl) pa_nil))))) (pw_or (pt_not (pt_val (pe_callB call_isi (by rfl) T.n_isinstance PyProof.Rows.boot_isinstance (pa_cons (pe_ix ix_list (pv 9) pe_int (fun _ _ => rfl)) (pa_cons (pe_bltn (v := .ty "list") (by rfl) T.n_list (by decide +kernel) rfl) pa_nil))))) (pw_or1 (pt_not (pt_val (pe_callB call_isi (by rfl) T.n_isinstance PyProof.Rows.boot_isinstance (pa_cons (pe_ix ix_list (pv 9) pe_int (fun _ _ => rfl)) (pa_cons (pe_bltn (v := .ty "list") (by rfl) T.n_list (by decide +kernel) rfl) pa_nil))))))))) (pss_one (ps_ret pe_bl)) pss_nil)
      (pss_cons (ps_for PassesOwn.never rfl (pi_list (pe_lst (pa_cons pe_int (pa_cons pe_int pa_nil)))) (pg_name (i := 10) sc_law.nd rfl (by first | exact Or.inl rfl | exact Or.inr rfl)) (pss_cons (ps_setLc (i := 11) (own := [("_law_one", 5)]) rfl sc_law.nd rfl rfl (sw_true rfl rfl rfl (by decide +kernel)) (pi_list (pe_ix ix_list (pv 9) (pv 10) (fun _ _ => rfl))) (blkOk_by (own := [("_law_one", 5)]) (N := ["_law_script", "_law_k", "_law_more", "_law_rights", "_law_j", "_law_one", "_law_far", "_law_others", "_law_handed", "_law_told_here", "_law_which", "_law_beyond", "_law_drawn_here", "_law_i", "_law_near"]) (sc := defScope s_law) (by decide +kernel)) (fun _ _ _ _ _ => (pg_name (i := 5) sc_law.nd rfl (by first | exact Or.inl rfl | exact Or.inr rfl))) (fun _ _ _ _ _ => (pts_one (pt_not (pt_chain op_le op_le (pe_callB (cr_min rfl) (by rfl) T.n_min PyProof.Rows.boot_min (pa_cons (pv 3) pa_nil)) (pv 5) (pe_callB (cr_max rfl) (by rfl) T.n_max PyProof.Rows.boot_max (pa_cons (pv 3) pa_nil)))))) (fun _ _ _ _ _ => (pv 5)))
      (pss_cons (ps_if (PW.pt (pw_or (pt_cmpR op_ne (pe_callB call_len_seq (by rfl) T.n_len PySem.boot_len (pa_cons (pe_ix ix_list (pv 9) (pv 10) (fun _ _ => rfl)) pa_nil)) (pv 7) (nomark _)) (pw_or1 (pt_cmpR (op_neD hr.units) (pv 11) (pe_lst pa_nil) (nomark _))))) (pss_one (ps_ret pe_bl)) pss_nil)
      (pss_one (ps_if (pt_cmpR op_ne (pe_call G_middle (hr.mono (by decide)) rfl T.g_middle T.F_middle.kp T.b_middle .nil pass0 (pa_cons (pe_op op_cat (pv 3) (pe_ix ix_list (pv 9) (pv 10) (fun _ _ => rfl))) (pa_cons pe_int pa_nil))) (pe_ix ix_tup (pe_ix ix_list (pv 9) pe_int (fun _ _ => rfl)) (pe_op op_sub (pv 10) pe_int) (fun _ _ => rfl)) (nomark _)) (pss_one (ps_ret pe_bl)) pss_nil)))))
      (pss_cons (ps_if (PW.pt (pw_and (pt_cmpR op_eq (pv 7) pe_int (nomark _)) (pw_and1 (pt_cmpR op_ne (pe_ix ix_tup (pe_ix ix_list (pv 9) pe_int (fun _ _ => rfl)) pe_int (fun _ _ => rfl)) (pe_ix ix_tup (pe_ix ix_list (pv 9) pe_int (fun _ _ => rfl)) pe_int (fun _ _ => rfl)) (nomark _))))) (pss_one (ps_ret pe_bl)) pss_nil)
      (pss_one (ps_for PassesOwn.never rfl (pi_range1 (by rfl) T.n_range (pa_cons pe_int pa_nil)) (pg_name (i := 4) sc_law.nd rfl (by first | exact Or.inl rfl | exact Or.inr rfl)) (pss_cons (ps_asg (pe_call G_l_drawn (hr.mono (by decide)) rfl T.g_l_drawn T.F_l_drawn.kp T.b_l_drawn .nil pass0 (pa_cons (pe_call G_l_cell (hr.mono (by decide)) rfl T.g_l_cell T.F_l_cell.kp T.b_l_cell .nil pass0 (pa_cons (pv 0) (pa_cons (pv 1) pa_nil))) (pa_cons (pe_op op_add (pe_op op_add (pe_op op_mul pe_int (pv 1)) (pv 4)) pe_int) pa_nil))) (pg_name (i := 5) sc_law.nd rfl (by first | exact Or.inl rfl | exact Or.inr rfl)))
      (pss_cons (ps_asg (pe_lst pa_nil) (pg_name (i := 12) sc_law.nd rfl (by first | exact Or.inl rfl | exact Or.inr rfl)))
      (pss_cons (ps_for PassesOwn.never rfl (pi_range1 (by rfl) T.n_range (pa_cons (pv 7) pa_nil)) (pg_name (i := 13) sc_law.nd rfl (by first | exact Or.inl rfl | exact Or.inr rfl)) (pss_cons (ps_asg (pe_ix ix_list (pv 3) (pe_op op_mod (pe_op op_fdivW (pv 5) (pe_op op_add pe_int (pv 13))) (pe_callB call_len_seq (by rfl) T.n_len PySem.boot_len (pa_cons (pv 3) pa_nil))) (fun _ _ => rfl)) (pg_name (i := 14) sc_law.nd rfl (by first | exact Or.inl rfl | exact Or.inr rfl)))
      (pss_one (ps_expr (pe_bm PySem.F.plainAttrs_list PySem.F.slot_list_append PySem.F.type_list_append mt_append (pv 12) (pa_cons (pe_ix ix_list (pe_lst (pa_cons (pv 14) (pa_cons (pe_op op_add (pv 14) pe_int) (pa_cons (pe_op op_sub (pv 14) pe_int) (pa_cons (pe_op op_pow pe_int pe_int) (pa_cons (pe_un un_neg (pe_op op_pow pe_int pe_int)) pa_nil)))))) (pe_op op_mod (pe_op op_fdivW (pv 5) (pe_op op_add pe_int (pe_op op_mul pe_int (pv 13)))) pe_int) (fun _ _ => rfl)) pa_nil))))))
      (pss_one (ps_if (pt_not (pt_chain op_le op_le (pe_ix ix_tup (pe_ix ix_list (pv 9) pe_int (fun _ _ => rfl)) pe_int (fun _ _ => rfl)) (pe_call G_middle (hr.mono (by decide)) rfl T.g_middle T.F_middle.kp T.b_middle .nil pass0 (pa_cons (pe_op op_cat (pv 3) (pv 12)) (pa_cons pe_int pa_nil))) (pe_ix ix_tup (pe_ix ix_list (pv 9) pe_int (fun _ _ => rfl)) pe_int (fun _ _ => rfl)))) (pss_one (ps_ret pe_bl)) pss_nil)))))))))))))))))))
      (pss_one (ps_ret pe_bl)))
theorem ok_all {P : Program} {w : World} {K : PySem.W.Frag} {mg : Str → Option Value} {base : Heap} {A : Ads} (T : Txt K mg A) : FnOk P w K mg base CX0 4 A.f_law A.d_law ["_law_script"] (spL K) := by
  have G_need_fewer := ok_need_fewer (P := P) (w := w) (base := base) T 
  have G_middle := ok_middle (P := P) (w := w) (base := base) T 
  have G_l_cell := ok_l_cell (P := P) (w := w) (base := base) T 
  have G_l_drawn := ok_l_drawn (P := P) (w := w) (base := base) T 
  have G_farthest := ok_farthest (P := P) (w := w) (base := base) T G_need_fewer
  have G_worst := ok_worst (P := P) (w := w) (base := base) T G_need_fewer
  have G_l_told := ok_l_told (P := P) (w := w) (base := base) T G_worst G_farthest
  have G_law := ok_law (P := P) (w := w) (base := base) T G_middle G_l_drawn G_l_cell G_l_told
  exact G_law
theorem fin_mk {P : Program} {w : World} {K : PySem.W.Frag} {h : Heap} {mg : Str → Option Value} {fa : Addr}
    {C_VoteError : Addr}
    {C_BadSettings : Addr}
    {C_BadStep : Addr}
    {C_NoSensor : Addr}
    {C_BadRow : Addr}
    {f_need_fewer : Addr} {od_need_fewer an_need_fewer : Option Addr} {sl_need_fewer : Array (Option Value)} {oc_need_fewer kV_need_fewer dc_need_fewer pm_need_fewer cd_need_fewer ct_need_fewer : Value}
    {f_farthest : Addr} {od_farthest an_farthest : Option Addr} {sl_farthest : Array (Option Value)} {oc_farthest kV_farthest dc_farthest pm_farthest cd_farthest ct_farthest : Value}
    {f_worst : Addr} {od_worst an_worst : Option Addr} {sl_worst : Array (Option Value)} {oc_worst kV_worst dc_worst pm_worst cd_worst ct_worst : Value}
    {f_middle : Addr} {od_middle an_middle : Option Addr} {sl_middle : Array (Option Value)} {oc_middle kV_middle dc_middle pm_middle cd_middle ct_middle : Value}
    {f_l_cell : Addr} {od_l_cell an_l_cell : Option Addr} {sl_l_cell : Array (Option Value)} {oc_l_cell kV_l_cell dc_l_cell pm_l_cell cd_l_cell ct_l_cell : Value}
    {f_l_drawn : Addr} {od_l_drawn an_l_drawn : Option Addr} {sl_l_drawn : Array (Option Value)} {oc_l_drawn kV_l_drawn dc_l_drawn pm_l_drawn cd_l_drawn ct_l_drawn : Value}
    {f_l_word : Addr} {od_l_word an_l_word : Option Addr} {sl_l_word : Array (Option Value)} {oc_l_word kV_l_word dc_l_word pm_l_word cd_l_word ct_l_word : Value}
    {f_l_told : Addr} {od_l_told an_l_told : Option Addr} {sl_l_told : Array (Option Value)} {oc_l_told kV_l_told dc_l_told pm_l_told cd_l_told ct_l_told : Value}
    {f_law : Addr} {od_law an_law : Option Addr} {sl_law : Array (Option Value)} {oc_law kV_law dc_law pm_law cd_law ct_law : Value}
    (X : K.In h) (G : h.Ns mainGlobals mg) (hfa : mg "law" = some (.ref fa))
    (n_ValueError : PySem.W.nsIn K mainGlobals "ValueError" = some none)
    (n_abs : PySem.W.nsIn K mainGlobals "abs" = some none)
    (n_int : PySem.W.nsIn K mainGlobals "int" = some none)
    (n_isinstance : PySem.W.nsIn K mainGlobals "isinstance" = some none)
    (n_len : PySem.W.nsIn K mainGlobals "len" = some none)
    (n_list : PySem.W.nsIn K mainGlobals "list" = some none)
    (n_max : PySem.W.nsIn K mainGlobals "max" = some none)
    (n_min : PySem.W.nsIn K mainGlobals "min" = some none)
    (n_range : PySem.W.nsIn K mainGlobals "range" = some none)
    (n_sorted : PySem.W.nsIn K mainGlobals "sorted" = some none)
    (n_sum : PySem.W.nsIn K mainGlobals "sum" = some none)
    (n_tuple : PySem.W.nsIn K mainGlobals "tuple" = some none)
    (g_VoteError : PySem.W.nsIn K mainGlobals "VoteError" = some (some (.ref C_VoteError)))
    (g_BadSettings : PySem.W.nsIn K mainGlobals "BadSettings" = some (some (.ref C_BadSettings)))
    (g_BadStep : PySem.W.nsIn K mainGlobals "BadStep" = some (some (.ref C_BadStep)))
    (g_NoSensor : PySem.W.nsIn K mainGlobals "NoSensor" = some (some (.ref C_NoSensor)))
    (g_BadRow : PySem.W.nsIn K mainGlobals "BadRow" = some (some (.ref C_BadRow)))
    (x_VoteError : PySem.W.excIn K C_VoteError [.type "ValueError", .type "Exception", .type "BaseException", .type "object"] "ValueError.__new__" = true)
    (k_VoteError : PySem.W.keepIn K (.ref C_VoteError) = true)
    (xb_VoteError : PySem.W.subIn K (.ref C_VoteError) (.type "BaseException") = some true)
    (xt_VoteError : PySem.W.typeIn K (.ref C_VoteError) = some (.type "type"))
    (xi_VoteError : PySem.W.isClsIn K C_VoteError = true)
    (xd_VoteError : PySem.W.hasDictIn K C_VoteError = true)
    (xs_VoteError_VoteError : PySem.W.subIn K (.ref C_VoteError) (.ref C_VoteError) = some true)
    (xs_VoteError_BadSettings : PySem.W.subIn K (.ref C_VoteError) (.ref C_BadSettings) = some false)
    (xs_VoteError_BadStep : PySem.W.subIn K (.ref C_VoteError) (.ref C_BadStep) = some false)
    (xs_VoteError_NoSensor : PySem.W.subIn K (.ref C_VoteError) (.ref C_NoSensor) = some false)
    (xs_VoteError_BadRow : PySem.W.subIn K (.ref C_VoteError) (.ref C_BadRow) = some false)
    (x_BadSettings : PySem.W.excIn K C_BadSettings [.type "ValueError", .type "Exception", .type "BaseException", .type "object"] "ValueError.__new__" = true)
    (k_BadSettings : PySem.W.keepIn K (.ref C_BadSettings) = true)
    (xb_BadSettings : PySem.W.subIn K (.ref C_BadSettings) (.type "BaseException") = some true)
    (xt_BadSettings : PySem.W.typeIn K (.ref C_BadSettings) = some (.type "type"))
    (xi_BadSettings : PySem.W.isClsIn K C_BadSettings = true)
    (xd_BadSettings : PySem.W.hasDictIn K C_BadSettings = true)
    (eg_BadSettings : PySem.W.findIn K (.ref C_BadSettings) "__getattribute__" = some (some (.builtin "BaseException.__getattribute__")))
    (ek_BadSettings : PySem.W.findIn K (.ref C_BadSettings) "__getattr__" = some none)
    (ea_BadSettings : PySem.W.findIn K (.ref C_BadSettings) "__class__" = some (some (.builtin "object.__class__")))
    (em_BadSettings : PySem.W.mroIn K C_BadSettings (.type "object") = some true)
    (en_ : PySem.W.specialIn K (.builtin "object.__class__") "__get__" = some (some (.builtin "getset_descriptor.__get__")))
    (et_ : PySem.W.takesIn K (.builtin "object.__class__") = some true)
    (kv_BadSettings : PySem.W.kitOne K (.ref C_BadSettings) (.type "ValueError") = some true)
    (ki_BadSettings_BadSettings : PySem.W.kitOne K (.ref C_BadSettings) (.ref C_BadSettings) = some true)
    (ki_BadSettings_BadStep : PySem.W.kitOne K (.ref C_BadSettings) (.ref C_BadStep) = some false)
    (ki_BadSettings_NoSensor : PySem.W.kitOne K (.ref C_BadSettings) (.ref C_NoSensor) = some false)
    (ki_BadSettings_BadRow : PySem.W.kitOne K (.ref C_BadSettings) (.ref C_BadRow) = some false)
    (xs_BadSettings_VoteError : PySem.W.subIn K (.ref C_BadSettings) (.ref C_VoteError) = some true)
    (xs_BadSettings_BadSettings : PySem.W.subIn K (.ref C_BadSettings) (.ref C_BadSettings) = some true)
    (xs_BadSettings_BadStep : PySem.W.subIn K (.ref C_BadSettings) (.ref C_BadStep) = some false)
    (xs_BadSettings_NoSensor : PySem.W.subIn K (.ref C_BadSettings) (.ref C_NoSensor) = some false)
    (xs_BadSettings_BadRow : PySem.W.subIn K (.ref C_BadSettings) (.ref C_BadRow) = some false)
    (x_BadStep : PySem.W.excIn K C_BadStep [.type "ValueError", .type "Exception", .type "BaseException", .type "object"] "ValueError.__new__" = true)
    (k_BadStep : PySem.W.keepIn K (.ref C_BadStep) = true)
    (xb_BadStep : PySem.W.subIn K (.ref C_BadStep) (.type "BaseException") = some true)
    (xt_BadStep : PySem.W.typeIn K (.ref C_BadStep) = some (.type "type"))
    (xi_BadStep : PySem.W.isClsIn K C_BadStep = true)
    (xd_BadStep : PySem.W.hasDictIn K C_BadStep = true)
    (eg_BadStep : PySem.W.findIn K (.ref C_BadStep) "__getattribute__" = some (some (.builtin "BaseException.__getattribute__")))
    (ek_BadStep : PySem.W.findIn K (.ref C_BadStep) "__getattr__" = some none)
    (ea_BadStep : PySem.W.findIn K (.ref C_BadStep) "__class__" = some (some (.builtin "object.__class__")))
    (em_BadStep : PySem.W.mroIn K C_BadStep (.type "object") = some true)
    (kv_BadStep : PySem.W.kitOne K (.ref C_BadStep) (.type "ValueError") = some true)
    (ki_BadStep_BadSettings : PySem.W.kitOne K (.ref C_BadStep) (.ref C_BadSettings) = some false)
    (ki_BadStep_BadStep : PySem.W.kitOne K (.ref C_BadStep) (.ref C_BadStep) = some true)
    (ki_BadStep_NoSensor : PySem.W.kitOne K (.ref C_BadStep) (.ref C_NoSensor) = some false)
    (ki_BadStep_BadRow : PySem.W.kitOne K (.ref C_BadStep) (.ref C_BadRow) = some false)
    (xs_BadStep_VoteError : PySem.W.subIn K (.ref C_BadStep) (.ref C_VoteError) = some true)
    (xs_BadStep_BadSettings : PySem.W.subIn K (.ref C_BadStep) (.ref C_BadSettings) = some false)
    (xs_BadStep_BadStep : PySem.W.subIn K (.ref C_BadStep) (.ref C_BadStep) = some true)
    (xs_BadStep_NoSensor : PySem.W.subIn K (.ref C_BadStep) (.ref C_NoSensor) = some false)
    (xs_BadStep_BadRow : PySem.W.subIn K (.ref C_BadStep) (.ref C_BadRow) = some false)
    (x_NoSensor : PySem.W.excIn K C_NoSensor [.type "ValueError", .type "Exception", .type "BaseException", .type "object"] "ValueError.__new__" = true)
    (k_NoSensor : PySem.W.keepIn K (.ref C_NoSensor) = true)
    (xb_NoSensor : PySem.W.subIn K (.ref C_NoSensor) (.type "BaseException") = some true)
    (xt_NoSensor : PySem.W.typeIn K (.ref C_NoSensor) = some (.type "type"))
    (xi_NoSensor : PySem.W.isClsIn K C_NoSensor = true)
    (xd_NoSensor : PySem.W.hasDictIn K C_NoSensor = true)
    (eg_NoSensor : PySem.W.findIn K (.ref C_NoSensor) "__getattribute__" = some (some (.builtin "BaseException.__getattribute__")))
    (ek_NoSensor : PySem.W.findIn K (.ref C_NoSensor) "__getattr__" = some none)
    (ea_NoSensor : PySem.W.findIn K (.ref C_NoSensor) "__class__" = some (some (.builtin "object.__class__")))
    (em_NoSensor : PySem.W.mroIn K C_NoSensor (.type "object") = some true)
    (kv_NoSensor : PySem.W.kitOne K (.ref C_NoSensor) (.type "ValueError") = some true)
    (ki_NoSensor_BadSettings : PySem.W.kitOne K (.ref C_NoSensor) (.ref C_BadSettings) = some false)
    (ki_NoSensor_BadStep : PySem.W.kitOne K (.ref C_NoSensor) (.ref C_BadStep) = some false)
    (ki_NoSensor_NoSensor : PySem.W.kitOne K (.ref C_NoSensor) (.ref C_NoSensor) = some true)
    (ki_NoSensor_BadRow : PySem.W.kitOne K (.ref C_NoSensor) (.ref C_BadRow) = some false)
    (xs_NoSensor_VoteError : PySem.W.subIn K (.ref C_NoSensor) (.ref C_VoteError) = some true)
    (xs_NoSensor_BadSettings : PySem.W.subIn K (.ref C_NoSensor) (.ref C_BadSettings) = some false)
    (xs_NoSensor_BadStep : PySem.W.subIn K (.ref C_NoSensor) (.ref C_BadStep) = some false)
    (xs_NoSensor_NoSensor : PySem.W.subIn K (.ref C_NoSensor) (.ref C_NoSensor) = some true)
    (xs_NoSensor_BadRow : PySem.W.subIn K (.ref C_NoSensor) (.ref C_BadRow) = some false)
    (x_BadRow : PySem.W.excIn K C_BadRow [.type "ValueError", .type "Exception", .type "BaseException", .type "object"] "ValueError.__new__" = true)
    (k_BadRow : PySem.W.keepIn K (.ref C_BadRow) = true)
    (xb_BadRow : PySem.W.subIn K (.ref C_BadRow) (.type "BaseException") = some true)
    (xt_BadRow : PySem.W.typeIn K (.ref C_BadRow) = some (.type "type"))
    (xi_BadRow : PySem.W.isClsIn K C_BadRow = true)
    (xd_BadRow : PySem.W.hasDictIn K C_BadRow = true)
    (eg_BadRow : PySem.W.findIn K (.ref C_BadRow) "__getattribute__" = some (some (.builtin "BaseException.__getattribute__")))
    (ek_BadRow : PySem.W.findIn K (.ref C_BadRow) "__getattr__" = some none)
    (ea_BadRow : PySem.W.findIn K (.ref C_BadRow) "__class__" = some (some (.builtin "object.__class__")))
    (em_BadRow : PySem.W.mroIn K C_BadRow (.type "object") = some true)
    (kv_BadRow : PySem.W.kitOne K (.ref C_BadRow) (.type "ValueError") = some true)
    (ki_BadRow_BadSettings : PySem.W.kitOne K (.ref C_BadRow) (.ref C_BadSettings) = some false)
    (ki_BadRow_BadStep : PySem.W.kitOne K (.ref C_BadRow) (.ref C_BadStep) = some false)
    (ki_BadRow_NoSensor : PySem.W.kitOne K (.ref C_BadRow) (.ref C_NoSensor) = some false)
    (ki_BadRow_BadRow : PySem.W.kitOne K (.ref C_BadRow) (.ref C_BadRow) = some true)
    (xs_BadRow_VoteError : PySem.W.subIn K (.ref C_BadRow) (.ref C_VoteError) = some true)
    (xs_BadRow_BadSettings : PySem.W.subIn K (.ref C_BadRow) (.ref C_BadSettings) = some false)
    (xs_BadRow_BadStep : PySem.W.subIn K (.ref C_BadRow) (.ref C_BadStep) = some false)
    (xs_BadRow_NoSensor : PySem.W.subIn K (.ref C_BadRow) (.ref C_NoSensor) = some false)
    (xs_BadRow_BadRow : PySem.W.subIn K (.ref C_BadRow) (.ref C_BadRow) = some true)
    (a_need_fewer : PySem.W.nsIn K mainGlobals "need_fewer" = some (some (.ref f_need_fewer)))
    (l_need_fewer : K.lookup f_need_fewer = some ⟨oc_need_fewer, od_need_fewer, .func (PySem.W.fnOf "need_fewer" "need_fewer" (defArgs s_need_fewer) (defBody s_need_fewer) (defScope s_need_fewer) .none kV_need_fewer dc_need_fewer pm_need_fewer an_need_fewer cd_need_fewer ct_need_fewer), sl_need_fewer⟩)
    (o_need_fewer : PySem.W.codeIn K cd_need_fewer "need_fewer" = true)
    (k_need_fewer : PySem.W.keepIn K (.ref f_need_fewer) = true)
    (a_farthest : PySem.W.nsIn K mainGlobals "farthest" = some (some (.ref f_farthest)))
    (l_farthest : K.lookup f_farthest = some ⟨oc_farthest, od_farthest, .func (PySem.W.fnOf "farthest" "farthest" (defArgs s_farthest) (defBody s_farthest) (defScope s_farthest) .none kV_farthest dc_farthest pm_farthest an_farthest cd_farthest ct_farthest), sl_farthest⟩)
    (o_farthest : PySem.W.codeIn K cd_farthest "farthest" = true)
    (k_farthest : PySem.W.keepIn K (.ref f_farthest) = true)
    (a_worst : PySem.W.nsIn K mainGlobals "worst" = some (some (.ref f_worst)))
    (l_worst : K.lookup f_worst = some ⟨oc_worst, od_worst, .func (PySem.W.fnOf "worst" "worst" (defArgs s_worst) (defBody s_worst) (defScope s_worst) .none kV_worst dc_worst pm_worst an_worst cd_worst ct_worst), sl_worst⟩)
    (o_worst : PySem.W.codeIn K cd_worst "worst" = true)
    (k_worst : PySem.W.keepIn K (.ref f_worst) = true)
    (a_middle : PySem.W.nsIn K mainGlobals "middle" = some (some (.ref f_middle)))
    (l_middle : K.lookup f_middle = some ⟨oc_middle, od_middle, .func (PySem.W.fnOf "middle" "middle" (defArgs s_middle) (defBody s_middle) (defScope s_middle) .none kV_middle dc_middle pm_middle an_middle cd_middle ct_middle), sl_middle⟩)
    (o_middle : PySem.W.codeIn K cd_middle "middle" = true)
    (k_middle : PySem.W.keepIn K (.ref f_middle) = true)
    (a_l_cell : PySem.W.nsIn K mainGlobals "_law_cell" = some (some (.ref f_l_cell)))
    (l_l_cell : K.lookup f_l_cell = some ⟨oc_l_cell, od_l_cell, .func (PySem.W.fnOf "_law_cell" "_law_cell" (defArgs s_l_cell) (defBody s_l_cell) (defScope s_l_cell) .none kV_l_cell dc_l_cell pm_l_cell an_l_cell cd_l_cell ct_l_cell), sl_l_cell⟩)
    (o_l_cell : PySem.W.codeIn K cd_l_cell "_law_cell" = true)
    (k_l_cell : PySem.W.keepIn K (.ref f_l_cell) = true)
    (a_l_drawn : PySem.W.nsIn K mainGlobals "_law_drawn" = some (some (.ref f_l_drawn)))
    (l_l_drawn : K.lookup f_l_drawn = some ⟨oc_l_drawn, od_l_drawn, .func (PySem.W.fnOf "_law_drawn" "_law_drawn" (defArgs s_l_drawn) (defBody s_l_drawn) (defScope s_l_drawn) .none kV_l_drawn dc_l_drawn pm_l_drawn an_l_drawn cd_l_drawn ct_l_drawn), sl_l_drawn⟩)
    (o_l_drawn : PySem.W.codeIn K cd_l_drawn "_law_drawn" = true)
    (k_l_drawn : PySem.W.keepIn K (.ref f_l_drawn) = true)
    (a_l_word : PySem.W.nsIn K mainGlobals "_law_word" = some (some (.ref f_l_word)))
    (l_l_word : K.lookup f_l_word = some ⟨oc_l_word, od_l_word, .func (PySem.W.fnOf "_law_word" "_law_word" (defArgs s_l_word) (defBody s_l_word) (defScope s_l_word) .none kV_l_word dc_l_word pm_l_word an_l_word cd_l_word ct_l_word), sl_l_word⟩)
    (o_l_word : PySem.W.codeIn K cd_l_word "_law_word" = true)
    (k_l_word : PySem.W.keepIn K (.ref f_l_word) = true)
    (a_l_told : PySem.W.nsIn K mainGlobals "_law_told" = some (some (.ref f_l_told)))
    (l_l_told : K.lookup f_l_told = some ⟨oc_l_told, od_l_told, .func (PySem.W.fnOf "_law_told" "_law_told" (defArgs s_l_told) (defBody s_l_told) (defScope s_l_told) .none kV_l_told dc_l_told pm_l_told an_l_told cd_l_told ct_l_told), sl_l_told⟩)
    (o_l_told : PySem.W.codeIn K cd_l_told "_law_told" = true)
    (k_l_told : PySem.W.keepIn K (.ref f_l_told) = true)
    (a_law : PySem.W.nsIn K mainGlobals "law" = some (some (.ref f_law)))
    (l_law : K.lookup f_law = some ⟨oc_law, od_law, .func (PySem.W.fnOf "law" "law" (defArgs s_law) (defBody s_law) (defScope s_law) .none kV_law dc_law pm_law an_law cd_law ct_law), sl_law⟩)
    (o_law : PySem.W.codeIn K cd_law "law" = true)
    (k_law : PySem.W.keepIn K (.ref f_law) = true) :
    ∃ fd : FuncData, (∀ (s : Shared) (v : Value), BindsTo s fd ⟨[v], []⟩ [("_law_script", v)]) ∧ ∀ base : Heap, K.In base → base.Ns mainGlobals mg → FnOk P w K mg base CX0 4 fa fd ["_law_script"] (spL K) := by
  have e := hfa.symm.trans (PySem.W.mg_of X G a_law)
  cases e
  have F_need_fewer := fun_mk (st := s_need_fewer) l_need_fewer o_need_fewer k_need_fewer
  have b_need_fewer := F_need_fewer.binds (ps := ["rights", "others"]) fun _ _ _ _ _ _ us hl => match us, hl with | [_, _], _ => rfl
  have F_farthest := fun_mk (st := s_farthest) l_farthest o_farthest k_farthest
  have b_farthest := F_farthest.binds (ps := ["rights", "others"]) fun _ _ _ _ _ _ us hl => match us, hl with | [_, _], _ => rfl
  have F_worst := fun_mk (st := s_worst) l_worst o_worst k_worst
  have b_worst := F_worst.binds (ps := ["rights", "others", "is_great"]) fun _ _ _ _ _ _ us hl => match us, hl with | [_, _, _], _ => rfl
  have F_middle := fun_mk (st := s_middle) l_middle o_middle k_middle
  have b_middle := F_middle.binds (ps := ["numbers", "near"]) fun _ _ _ _ _ _ us hl => match us, hl with | [_, _], _ => rfl
  have F_l_cell := fun_mk (st := s_l_cell) l_l_cell o_l_cell k_l_cell
  have b_l_cell := F_l_cell.binds (ps := ["_law_script", "_law_k"]) fun _ _ _ _ _ _ us hl => match us, hl with | [_, _], _ => rfl
  have F_l_drawn := fun_mk (st := s_l_drawn) l_l_drawn o_l_drawn k_l_drawn
  have b_l_drawn := F_l_drawn.binds (ps := ["_law_cell_here", "_law_k"]) fun _ _ _ _ _ _ us hl => match us, hl with | [_, _], _ => rfl
  have F_l_word := fun_mk (st := s_l_word) l_l_word o_l_word k_l_word
  have b_l_word := F_l_word.binds (ps := ["_law_e"]) fun _ _ _ _ _ _ us hl => match us, hl with | [_], _ => rfl
  have F_l_told := fun_mk (st := s_l_told) l_l_told o_l_told k_l_told
  have b_l_told := F_l_told.binds (ps := ["_law_rights", "_law_others", "_law_which"]) fun _ _ _ _ _ _ us hl => match us, hl with | [_, _, _], _ => rfl
  have F_law := fun_mk (st := s_law) l_law o_law k_law
  have b_law := F_law.binds (ps := ["_law_script"]) fun _ _ _ _ _ _ us hl => match us, hl with | [_], _ => rfl
  have T : Txt K mg { c_VoteError := C_VoteError, c_BadSettings := C_BadSettings, c_BadStep := C_BadStep, c_NoSensor := C_NoSensor, c_BadRow := C_BadRow, f_need_fewer := f_need_fewer, d_need_fewer := _, f_farthest := f_farthest, d_farthest := _, f_worst := f_worst, d_worst := _, f_middle := f_middle, d_middle := _, f_l_cell := f_l_cell, d_l_cell := _, f_l_drawn := f_l_drawn, d_l_drawn := _, f_l_word := f_l_word, d_l_word := _, f_l_told := f_l_told, d_l_told := _, f_law := fa, d_law := _ } :=
    { n_ValueError := PySem.W.mg_none_of X G n_ValueError,
      n_abs := PySem.W.mg_none_of X G n_abs,
      n_int := PySem.W.mg_none_of X G n_int,
      n_isinstance := PySem.W.mg_none_of X G n_isinstance,
      n_len := PySem.W.mg_none_of X G n_len,
      n_list := PySem.W.mg_none_of X G n_list,
      n_max := PySem.W.mg_none_of X G n_max,
      n_min := PySem.W.mg_none_of X G n_min,
      n_range := PySem.W.mg_none_of X G n_range,
      n_sorted := PySem.W.mg_none_of X G n_sorted,
      n_sum := PySem.W.mg_none_of X G n_sum,
      n_tuple := PySem.W.mg_none_of X G n_tuple,
      g_VoteError := PySem.W.mg_of X G g_VoteError,
      xd_VoteError := xd_VoteError,
      x_VoteError := x_VoteError, k_VoteError := k_VoteError, xb_VoteError := xb_VoteError, xt_VoteError := xt_VoteError, xi_VoteError := xi_VoteError,
      xs_VoteError_VoteError := xs_VoteError_VoteError,
      xs_VoteError_BadSettings := xs_VoteError_BadSettings,
      xs_VoteError_BadStep := xs_VoteError_BadStep,
      xs_VoteError_NoSensor := xs_VoteError_NoSensor,
      xs_VoteError_BadRow := xs_VoteError_BadRow,
      g_BadSettings := PySem.W.mg_of X G g_BadSettings,
      xd_BadSettings := xd_BadSettings,
      ec_BadSettings := ⟨eg_BadSettings, ek_BadSettings, xb_BadSettings, xd_BadSettings, ea_BadSettings, en_, et_, em_BadSettings⟩,
      kv_BadSettings := kv_BadSettings,
      ki_BadSettings_BadSettings := ki_BadSettings_BadSettings,
      ki_BadSettings_BadStep := ki_BadSettings_BadStep,
      ki_BadSettings_NoSensor := ki_BadSettings_NoSensor,
      ki_BadSettings_BadRow := ki_BadSettings_BadRow,
      x_BadSettings := x_BadSettings, k_BadSettings := k_BadSettings, xb_BadSettings := xb_BadSettings, xt_BadSettings := xt_BadSettings, xi_BadSettings := xi_BadSettings,
      xs_BadSettings_VoteError := xs_BadSettings_VoteError,
      xs_BadSettings_BadSettings := xs_BadSettings_BadSettings,
      xs_BadSettings_BadStep := xs_BadSettings_BadStep,
      xs_BadSettings_NoSensor := xs_BadSettings_NoSensor,
      xs_BadSettings_BadRow := xs_BadSettings_BadRow,
      g_BadStep := PySem.W.mg_of X G g_BadStep,
      xd_BadStep := xd_BadStep,
      ec_BadStep := ⟨eg_BadStep, ek_BadStep, xb_BadStep, xd_BadStep, ea_BadStep, en_, et_, em_BadStep⟩,
      kv_BadStep := kv_BadStep,
      ki_BadStep_BadSettings := ki_BadStep_BadSettings,
      ki_BadStep_BadStep := ki_BadStep_BadStep,
      ki_BadStep_NoSensor := ki_BadStep_NoSensor,
      ki_BadStep_BadRow := ki_BadStep_BadRow,
      x_BadStep := x_BadStep, k_BadStep := k_BadStep, xb_BadStep := xb_BadStep, xt_BadStep := xt_BadStep, xi_BadStep := xi_BadStep,
      xs_BadStep_VoteError := xs_BadStep_VoteError,
      xs_BadStep_BadSettings := xs_BadStep_BadSettings,
      xs_BadStep_BadStep := xs_BadStep_BadStep,
      xs_BadStep_NoSensor := xs_BadStep_NoSensor,
      xs_BadStep_BadRow := xs_BadStep_BadRow,
      g_NoSensor := PySem.W.mg_of X G g_NoSensor,
      xd_NoSensor := xd_NoSensor,
      ec_NoSensor := ⟨eg_NoSensor, ek_NoSensor, xb_NoSensor, xd_NoSensor, ea_NoSensor, en_, et_, em_NoSensor⟩,
      kv_NoSensor := kv_NoSensor,
      ki_NoSensor_BadSettings := ki_NoSensor_BadSettings,
      ki_NoSensor_BadStep := ki_NoSensor_BadStep,
      ki_NoSensor_NoSensor := ki_NoSensor_NoSensor,
      ki_NoSensor_BadRow := ki_NoSensor_BadRow,
      x_NoSensor := x_NoSensor, k_NoSensor := k_NoSensor, xb_NoSensor := xb_NoSensor, xt_NoSensor := xt_NoSensor, xi_NoSensor := xi_NoSensor,
      xs_NoSensor_VoteError := xs_NoSensor_VoteError,
      xs_NoSensor_BadSettings := xs_NoSensor_BadSettings,
      xs_NoSensor_BadStep := xs_NoSensor_BadStep,
      xs_NoSensor_NoSensor := xs_NoSensor_NoSensor,
      xs_NoSensor_BadRow := xs_NoSensor_BadRow,
      g_BadRow := PySem.W.mg_of X G g_BadRow,
      xd_BadRow := xd_BadRow,
      ec_BadRow := ⟨eg_BadRow, ek_BadRow, xb_BadRow, xd_BadRow, ea_BadRow, en_, et_, em_BadRow⟩,
      kv_BadRow := kv_BadRow,
      ki_BadRow_BadSettings := ki_BadRow_BadSettings,
      ki_BadRow_BadStep := ki_BadRow_BadStep,
      ki_BadRow_NoSensor := ki_BadRow_NoSensor,
      ki_BadRow_BadRow := ki_BadRow_BadRow,
      x_BadRow := x_BadRow, k_BadRow := k_BadRow, xb_BadRow := xb_BadRow, xt_BadRow := xt_BadRow, xi_BadRow := xi_BadRow,
      xs_BadRow_VoteError := xs_BadRow_VoteError,
      xs_BadRow_BadSettings := xs_BadRow_BadSettings,
      xs_BadRow_BadStep := xs_BadRow_BadStep,
      xs_BadRow_NoSensor := xs_BadRow_NoSensor,
      xs_BadRow_BadRow := xs_BadRow_BadRow,
      F_need_fewer := F_need_fewer, b_need_fewer := b_need_fewer,
      g_need_fewer := PySem.W.mg_of X G a_need_fewer,
      F_farthest := F_farthest, b_farthest := b_farthest,
      g_farthest := PySem.W.mg_of X G a_farthest,
      F_worst := F_worst, b_worst := b_worst,
      g_worst := PySem.W.mg_of X G a_worst,
      F_middle := F_middle, b_middle := b_middle,
      g_middle := PySem.W.mg_of X G a_middle,
      F_l_cell := F_l_cell, b_l_cell := b_l_cell,
      g_l_cell := PySem.W.mg_of X G a_l_cell,
      F_l_drawn := F_l_drawn, b_l_drawn := b_l_drawn,
      g_l_drawn := PySem.W.mg_of X G a_l_drawn,
      F_l_word := F_l_word, b_l_word := b_l_word,
      g_l_word := PySem.W.mg_of X G a_l_word,
      F_l_told := F_l_told, b_l_told := b_l_told,
      g_l_told := PySem.W.mg_of X G a_l_told,
      F_law := F_law, b_law := b_law,
      g_law := PySem.W.mg_of X G a_law }
  exact ⟨PySem.W.fnOf "law" "law" (defArgs s_law) (defBody s_law) (defScope s_law) .none kV_law dc_law pm_law an_law cd_law ct_law, fun s v => .of_eq rfl, fun base _ _ => ok_all T⟩
end MV
open PySem PySem.W PyProof.Rows
set_option maxHeartbeats 0 in
theorem PySem.Challenge.cw_midvalue_k17_what_liars_can_do_holds : PySem.Challenge.rw_midvalue_k17_what_liars_can_do.Holds := by
  w_on; o_law; k_head; (case hw => w_witness2)
  k_fill
  refine L2.walk_of (l := PySem.Challenge.rw_midvalue_k17_what_liars_can_do) (n := 63) (k := 4) (x := "_law_script") (CX := fun _ => L2.CX0) (sp := fun w => MV.spL _) rfl (by decide) rfl ⟨rfl, by decide, by decide⟩ (fun w h Y => PySem.W.kIn_of Y) ?F (fun _ _ a ns hl _ hS => ⟨a, ns, rfl, hS, hl, fun _ => rfl⟩) (fun _ _ _ _ _ h => h)
  case F =>
    intro w mg fa h KX G hmg
    refine' MV.fin_mk KX G hmg ?n_ValueError ?n_abs ?n_int ?n_isinstance ?n_len ?n_list ?n_max ?n_min ?n_range ?n_sorted ?n_sum ?n_tuple ?g_VoteError ?g_BadSettings ?g_BadStep ?g_NoSensor ?g_BadRow ?x_VoteError ?k_VoteError ?xb_VoteError ?xt_VoteError ?xi_VoteError ?xd_VoteError ?xs_VoteError_VoteError ?xs_VoteError_BadSettings ?xs_VoteError_BadStep ?xs_VoteError_NoSensor ?xs_VoteError_BadRow ?x_BadSettings ?k_BadSettings ?xb_BadSettings ?xt_BadSettings ?xi_BadSettings ?xd_BadSettings ?eg_BadSettings ?ek_BadSettings ?ea_BadSettings ?em_BadSettings ?en_ ?et_ ?kv_BadSettings ?ki_BadSettings_BadSettings ?ki_BadSettings_BadStep ?ki_BadSettings_NoSensor ?ki_BadSettings_BadRow ?xs_BadSettings_VoteError ?xs_BadSettings_BadSettings ?xs_BadSettings_BadStep ?xs_BadSettings_NoSensor ?xs_BadSettings_BadRow ?x_BadStep ?k_BadStep ?xb_BadStep ?xt_BadStep ?xi_BadStep ?xd_BadStep ?eg_BadStep ?ek_BadStep ?ea_BadStep ?em_BadStep ?kv_BadStep ?ki_BadStep_BadSettings ?ki_BadStep_BadStep ?ki_BadStep_NoSensor ?ki_BadStep_BadRow ?xs_BadStep_VoteError ?xs_BadStep_BadSettings ?xs_BadStep_BadStep ?xs_BadStep_NoSensor ?xs_BadStep_BadRow ?x_NoSensor ?k_NoSensor ?xb_NoSensor ?xt_NoSensor ?xi_NoSensor ?xd_NoSensor ?eg_NoSensor ?ek_NoSensor ?ea_NoSensor ?em_NoSensor ?kv_NoSensor ?ki_NoSensor_BadSettings ?ki_NoSensor_BadStep ?ki_NoSensor_NoSensor ?ki_NoSensor_BadRow ?xs_NoSensor_VoteError ?xs_NoSensor_BadSettings ?xs_NoSensor_BadStep ?xs_NoSensor_NoSensor ?xs_NoSensor_BadRow ?x_BadRow ?k_BadRow ?xb_BadRow ?xt_BadRow ?xi_BadRow ?xd_BadRow ?eg_BadRow ?ek_BadRow ?ea_BadRow ?em_BadRow ?kv_BadRow ?ki_BadRow_BadSettings ?ki_BadRow_BadStep ?ki_BadRow_NoSensor ?ki_BadRow_BadRow ?xs_BadRow_VoteError ?xs_BadRow_BadSettings ?xs_BadRow_BadStep ?xs_BadRow_NoSensor ?xs_BadRow_BadRow ?a_need_fewer ?l_need_fewer ?o_need_fewer ?k_need_fewer ?a_farthest ?l_farthest ?o_farthest ?k_farthest ?a_worst ?l_worst ?o_worst ?k_worst ?a_middle ?l_middle ?o_middle ?k_middle ?a_l_cell ?l_l_cell ?o_l_cell ?k_l_cell ?a_l_drawn ?l_l_drawn ?o_l_drawn ?k_l_drawn ?a_l_word ?l_l_word ?o_l_word ?k_l_word ?a_l_told ?l_l_told ?o_l_told ?k_l_told ?a_law ?l_law ?o_law ?k_law
    (case n_ValueError => k_is)
    (case n_abs => k_is)
    (case n_int => k_is)
    (case n_isinstance => k_is)
    (case n_len => k_is)
    (case n_list => k_is)
    (case n_max => k_is)
    (case n_min => k_is)
    (case n_range => k_is)
    (case n_sorted => k_is)
    (case n_sum => k_is)
    (case n_tuple => k_is)
    (case g_VoteError => k_is)
    (case g_BadSettings => k_is)
    (case g_BadStep => k_is)
    (case g_NoSensor => k_is)
    (case g_BadRow => k_is)
    (case x_VoteError => k_exc)
    (case k_VoteError => k_is)
    (case xb_VoteError => k_is)
    (case xt_VoteError => k_is)
    (case xi_VoteError => k_is)
    (case xd_VoteError => k_is)
    (case xs_VoteError_VoteError => k_is)
    (case xs_VoteError_BadSettings => k_is)
    (case xs_VoteError_BadStep => k_is)
    (case xs_VoteError_NoSensor => k_is)
    (case xs_VoteError_BadRow => k_is)
    (case x_BadSettings => k_exc)
    (case k_BadSettings => k_is)
    (case xb_BadSettings => k_is)
    (case xt_BadSettings => k_is)
    (case xi_BadSettings => k_is)
    (case xd_BadSettings => k_is)
    (case eg_BadSettings => k_is)
    (case ek_BadSettings => k_is)
    (case ea_BadSettings => k_is)
    (case em_BadSettings => k_is)
    (case en_ => k_is)
    (case et_ => k_is)
    (case kv_BadSettings => kit_is)
    (case ki_BadSettings_BadSettings => kit_is)
    (case ki_BadSettings_BadStep => kit_is)
    (case ki_BadSettings_NoSensor => kit_is)
    (case ki_BadSettings_BadRow => kit_is)
    (case xs_BadSettings_VoteError => k_is)
    (case xs_BadSettings_BadSettings => k_is)
    (case xs_BadSettings_BadStep => k_is)
    (case xs_BadSettings_NoSensor => k_is)
    (case xs_BadSettings_BadRow => k_is)
    (case x_BadStep => k_exc)
    (case k_BadStep => k_is)
    (case xb_BadStep => k_is)
    (case xt_BadStep => k_is)
    (case xi_BadStep => k_is)
    (case xd_BadStep => k_is)
    (case eg_BadStep => k_is)
    (case ek_BadStep => k_is)
    (case ea_BadStep => k_is)
    (case em_BadStep => k_is)
    (case kv_BadStep => kit_is)
    (case ki_BadStep_BadSettings => kit_is)
    (case ki_BadStep_BadStep => kit_is)
    (case ki_BadStep_NoSensor => kit_is)
    (case ki_BadStep_BadRow => kit_is)
    (case xs_BadStep_VoteError => k_is)
    (case xs_BadStep_BadSettings => k_is)
    (case xs_BadStep_BadStep => k_is)
    (case xs_BadStep_NoSensor => k_is)
    (case xs_BadStep_BadRow => k_is)
    (case x_NoSensor => k_exc)
    (case k_NoSensor => k_is)
    (case xb_NoSensor => k_is)
    (case xt_NoSensor => k_is)
    (case xi_NoSensor => k_is)
    (case xd_NoSensor => k_is)
    (case eg_NoSensor => k_is)
    (case ek_NoSensor => k_is)
    (case ea_NoSensor => k_is)
    (case em_NoSensor => k_is)
    (case kv_NoSensor => kit_is)
    (case ki_NoSensor_BadSettings => kit_is)
    (case ki_NoSensor_BadStep => kit_is)
    (case ki_NoSensor_NoSensor => kit_is)
    (case ki_NoSensor_BadRow => kit_is)
    (case xs_NoSensor_VoteError => k_is)
    (case xs_NoSensor_BadSettings => k_is)
    (case xs_NoSensor_BadStep => k_is)
    (case xs_NoSensor_NoSensor => k_is)
    (case xs_NoSensor_BadRow => k_is)
    (case x_BadRow => k_exc)
    (case k_BadRow => k_is)
    (case xb_BadRow => k_is)
    (case xt_BadRow => k_is)
    (case xi_BadRow => k_is)
    (case xd_BadRow => k_is)
    (case eg_BadRow => k_is)
    (case ek_BadRow => k_is)
    (case ea_BadRow => k_is)
    (case em_BadRow => k_is)
    (case kv_BadRow => kit_is)
    (case ki_BadRow_BadSettings => kit_is)
    (case ki_BadRow_BadStep => kit_is)
    (case ki_BadRow_NoSensor => kit_is)
    (case ki_BadRow_BadRow => kit_is)
    (case xs_BadRow_VoteError => k_is)
    (case xs_BadRow_BadSettings => k_is)
    (case xs_BadRow_BadStep => k_is)
    (case xs_BadRow_NoSensor => k_is)
    (case xs_BadRow_BadRow => k_is)
    (case a_need_fewer => k_is)
    (case l_need_fewer => k_is)
    (case o_need_fewer => k_is)
    (case k_need_fewer => k_is)
    (case a_farthest => k_is)
    (case l_farthest => k_is)
    (case o_farthest => k_is)
    (case k_farthest => k_is)
    (case a_worst => k_is)
    (case l_worst => k_is)
    (case o_worst => k_is)
    (case k_worst => k_is)
    (case a_middle => k_is)
    (case l_middle => k_is)
    (case o_middle => k_is)
    (case k_middle => k_is)
    (case a_l_cell => k_is)
    (case l_l_cell => k_is)
    (case o_l_cell => k_is)
    (case k_l_cell => k_is)
    (case a_l_drawn => k_is)
    (case l_l_drawn => k_is)
    (case o_l_drawn => k_is)
    (case k_l_drawn => k_is)
    (case a_l_word => k_is)
    (case l_l_word => k_is)
    (case o_l_word => k_is)
    (case k_l_word => k_is)
    (case a_l_told => k_is)
    (case l_l_told => k_is)
    (case o_l_told => k_is)
    (case k_l_told => k_is)
    (case a_law => k_is)
    (case l_law => k_is)
    (case o_law => k_is)
    (case k_law => k_is)
