import PyProof.Rows.All
import Wide.All
import OpenK.AllK
import Wide.FinOn
import HandS.ForMost
import HandS.ForExc
import HandS.Evl
import HandS.Wide
import HandS.Walk
import HandS.IsInst
import HandS.Small
import HandS.ExcIs
import HandS.ExcValue
import HandS.Hot
import HandS.HotCalls
import KE.GoesComp
import HandS.EndTab
import HandS.SortKw
import HandS.Conv
import KE.SortCalls
import PySem.Challenge.RW_midvalue_k15_whole_liars_found
set_option Elab.async false
set_option linter.all false
set_option maxRecDepth 100000
set_option maxHeartbeats 4000000
namespace MV
open PySem PySem.Spec PyProof.Rows L2 Evl

/-! ### operators by name -/
abbrev oAdd : R2 := rI0 fun i j => .int (i + j)
abbrev oSub : R2 := rI0 fun i j => .int (i - j)
abbrev oMul : R2 := rI CMul fun i j => .int (i * j)
abbrev oMulW : R2 := rI CMulW fun i j => .int (i * j)
abbrev oMod : R2 := rI (fun _ j => 0 < j) fun i j => .int (i % j)
abbrev oDivW : R2 := rI CDivW fun i j => .int (i / j)
abbrev oPow : R2 := rI CPow fun i j => .int (i ^ j.toNat)
abbrev oShl : R2 := rI CPow fun i j => .int (i * 2 ^ j.toNat)
abbrev oLt : R2 := rI0 fun i j => .bl (decide (i < j))
abbrev oLe : R2 := rI0 fun i j => .bl (decide (i ≤ j))
abbrev oGt : R2 := rI0 fun i j => .bl (decide (j < i))
abbrev oGe : R2 := rI0 fun i j => .bl (decide (j ≤ i))
abbrev oNeg : V → Hp → VK → Prop := rU fun i => .int (-i)
def oIsN : R2 := fun x y H Q => y = .non ∧ Q (.bl (decide (x = .non))) H
def oNotN : R2 := fun x y H Q => y = .non ∧ Q (.bl (!decide (x = .non))) H
def oAddS : R2 := fun x y H Q => ∃ i j, x = .str i ∧ y = .str j ∧ i.length + j.length ≤ sizeLine ∧ Q (.str (i ++ j)) H
def rAbs : List V → Hp → VK → Prop := fun xs H Q => ∃ i, xs = [.int i] ∧ Q (.int (if i < 0 then -i else i)) H
def rMin2 : List V → Hp → VK → Prop := fun xs H Q => ∃ i j, xs = [.int i, .int j] ∧ Q (.int (if j < i then j else i)) H
def rInt1 : List V → Hp → VK → Prop := fun xs H Q => (∃ i, xs = [.int i] ∧ Q (.int i) H) ∨ ∃ k, xs = [.bl k] ∧ Q (.int (if k then 1 else 0)) H
def tRaise (E : XK) (cls : Value) : TS := fun _ _ H => E cls none H

section
variable {K : PySem.W.Frag} {σ : L2.St} {H H' H0 : Hp} {ta tb tc te tx : TE} {t u : TT} {x y z v : V} {r r' : R2} {a b i j : Int} {p : Addr} {xs ys : List V} {ns ms : List Int}

/-! ### values of operators -/
theorem rv_eqI : RV rEq (.int a) (.int b) H (.bl (decide (a = b))) := fun H1 _ Q q => ⟨rfl, by
  have e : decide (V.int a = V.int b) = decide (a = b) := decide_eq_decide.mpr ⟨fun h => V.int.inj h, fun h => by rw [h]⟩
  rw [e]; exact q H1 (Ex.refl H1)⟩
theorem rv_neI : RV rNe (.int a) (.int b) H (.bl (!decide (a = b))) := fun H1 _ Q q => ⟨rfl, by
  have e : decide (V.int a = V.int b) = decide (a = b) := decide_eq_decide.mpr ⟨fun h => V.int.inj h, fun h => by rw [h]⟩
  rw [e]; exact q H1 (Ex.refl H1)⟩
theorem rv_eqS {s t : Str} : RV rEq (.str s) (.str t) H (.bl (decide (s = t))) := fun H1 _ Q q => ⟨rfl, by
  have e : decide (V.str s = V.str t) = decide (s = t) := decide_eq_decide.mpr ⟨fun h => V.str.inj h, fun h => by rw [h]⟩
  rw [e]; exact q H1 (Ex.refl H1)⟩
theorem rv_neS {s t : Str} : RV rNe (.str s) (.str t) H (.bl (!decide (s = t))) := fun H1 _ Q q => ⟨rfl, by
  have e : decide (V.str s = V.str t) = decide (s = t) := decide_eq_decide.mpr ⟨fun h => V.str.inj h, fun h => by rw [h]⟩
  rw [e]; exact q H1 (Ex.refl H1)⟩
theorem rv_neB {s t : Bool} : RV rNe (.bl s) (.bl t) H (.bl (!decide (s = t))) := fun H1 _ Q q => ⟨rfl, by
  have e : decide (V.bl s = V.bl t) = decide (s = t) := decide_eq_decide.mpr ⟨fun h => V.bl.inj h, fun h => by rw [h]⟩
  rw [e]; exact q H1 (Ex.refl H1)⟩
theorem rv_isN : RV oIsN x .non H (.bl (decide (x = .non))) := fun H1 _ _ q => ⟨rfl, q H1 (Ex.refl H1)⟩
theorem rv_notN : RV oNotN x .non H (.bl (!decide (x = .non))) := fun H1 _ _ q => ⟨rfl, q H1 (Ex.refl H1)⟩
theorem rv_addS {s t : Str} (h : s.length + t.length ≤ sizeLine) : RV oAddS (.str s) (.str t) H (.str (s ++ t)) := fun H1 _ _ q => ⟨s, t, rfl, rfl, h, q H1 (Ex.refl H1)⟩
theorem at_ints (h0 : 0 ≤ i) (h1 : i < ns.length) : atI (ns.map V.int) i = some (.int (ns.getD i.toNat 0)) := by
  obtain ⟨k, rfl⟩ := Int.eq_ofNat_of_zero_le h0
  have hk : k < ns.length := by omega
  refine atI_nat ?_
  rw [List.getElem?_map, List.getElem?_eq_getElem hk, Int.toNat_natCast, List.getD_eq_getElem?_getD, List.getElem?_eq_getElem hk]
  rfl
theorem at_vals (h0 : 0 ≤ i) (h1 : i < xs.length) : atI xs i = some (xs.getD i.toNat .non) := by
  obtain ⟨k, rfl⟩ := Int.eq_ofNat_of_zero_le h0
  have hk : k < xs.length := by omega
  refine atI_nat ?_
  rw [List.getElem?_eq_getElem hk, Int.toNat_natCast, List.getD_eq_getElem?_getD, List.getElem?_eq_getElem hk]
  rfl
theorem rv_ixInts (h : SqL K H p (ns.map V.int)) (h0 : 0 ≤ i) (h1 : i < ns.length) : RV (rIxL K) (.ref p) (.int i) H (.int (ns.getD i.toNat 0)) := rv_ixL h (at_ints h0 h1)
/-- a written list of whole numbers at a place -/
theorem ev_menu (hl : EvL ta σ H (ns.map V.int)) (hi : Ev tb σ H (.int i)) (h0 : 0 ≤ i) (h1 : i < ns.length) : Ev (tOp (rIxL K) ta tb) σ H (.int (ns.getD i.toNat 0)) :=
  ev_opL1 hl (fun _ e => hi.mono e) fun _ _ h _ => rv_ixL (sq_of h) (at_ints h0 h1)
theorem ev_menuV (hl : EvL ta σ H xs) (hi : Ev tb σ H (.int i)) (h0 : 0 ≤ i) (h1 : i < xs.length) : Ev (tOp (rIxL K) ta tb) σ H (xs.getD i.toNat .non) :=
  ev_opL1 hl (fun _ e => hi.mono e) fun _ _ h _ => rv_ixL (sq_of h) (at_vals h0 h1)
theorem el_is (h : EvL te σ H xs) (e : xs = ys) : EvL te σ H ys := e ▸ h

theorem ev_chain {c1 c2 : Bool} (ha : Ev ta σ H x) (hb : Ev tb σ H y) (hc : Ev tc σ H z) (h1 : RV r x y H (.bl c1)) (h2 : RV r' y z H (.bl c2)) : Ev (tChain r r' ta tb tc) σ H (.bl (c1 && c2)) := fun H1 e1 Q q =>
  ha H1 e1 _ fun H2 e2 => hb H2 (e1.trans e2) _ fun H3 e3 => h1 H3 ((e1.trans e2).trans e3) _ fun H4 e4 => ⟨c1, rfl, by
    have e5 := ((e1.trans e2).trans e3).trans e4
    cases c1 with
    | true =>
      rw [if_pos rfl]
      exact hc H4 e5 _ fun H5 e6 => h2 H5 (e5.trans e6) _ fun H6 e7 => q H6 ((((e2.trans e3).trans e4).trans e6).trans e7)
    | false =>
      rw [if_neg Bool.false_ne_true]
      exact q H4 ((e2.trans e3).trans e4)⟩

/-! ### values of calls -/
theorem rc_of {rr : List V → Hp → VK → Prop} {vs : List V} (h : ∀ H1, Ex H H1 → ∀ Q : VK, Q z H1 → rr vs H1 Q) : RC rr vs H z := fun H1 e Q q => h H1 e Q (q H1 (Ex.refl H1))
theorem rc_len (h : SqL K H p xs) : RC (rLenS K) [.ref p] H (.int (xs.length : Int)) := rc_of fun _ e _ q => ⟨p, xs, rfl, .inl (ex_l e h), q⟩
theorem rc_lenT (h : SqT K H p xs) : RC (rLenS K) [.ref p] H (.int (xs.length : Int)) := rc_of fun _ e _ q => ⟨p, xs, rfl, .inr (ex_t e h), q⟩
theorem rc_abs : RC rAbs [.int i] H (.int (if i < 0 then -i else i)) := rc_of fun _ _ _ q => ⟨i, rfl, q⟩
theorem rc_min2 : RC rMin2 [.int i, .int j] H (.int (if j < i then j else i)) := rc_of fun _ _ _ q => ⟨i, j, rfl, q⟩
theorem rc_max2 : RC rMax2 [.int i, .int j] H (.int (if j > i then j else i)) := rc_of fun _ _ _ q => ⟨i, j, rfl, q⟩
theorem rc_int : RC rInt1 [.int i] H (.int i) := rc_of fun _ _ _ q => .inl ⟨i, rfl, q⟩
theorem rc_intB {k : Bool} : RC rInt1 [.bl k] H (.int (if k then 1 else 0)) := rc_of fun _ _ _ q => .inr ⟨k, rfl, q⟩
theorem rc_all {bs : List Bool} (h : SqL K H p (bs.map V.bl)) : RC (rAll K) [.ref p] H (.bl (bs.all id)) := rc_of fun _ e _ q => ⟨p, bs, rfl, ex_l e h, q⟩
theorem rc_sum (h : SqL K H p (ns.map V.int)) : RC (rSum K) [.ref p] H (.int ns.sum) := rc_of fun _ e _ q => ⟨p, ns, rfl, ex_l e h, q⟩

/-! ### sorted -/
def srt (ns : List Int) : List Int := ns.mergeSort (fun a b => decide (a ≤ b))
theorem srt_perm (ns : List Int) : (srt ns).Perm ns := List.mergeSort_perm ns _
theorem srt_pw (ns : List Int) : (srt ns).Pairwise (· ≤ ·) := by
  have h := List.pairwise_mergeSort (le := fun a b : Int => decide (a ≤ b)) (fun a b c h1 h2 => by simp only [decide_eq_true_eq] at *; omega) (fun a b => by simp only [Bool.or_eq_true, decide_eq_true_eq]; omega) ns
  exact h.imp fun h => by simpa using h
theorem srt_len (ns : List Int) : (srt ns).length = ns.length := (srt_perm ns).length_eq
theorem srt_mem {ns : List Int} {n : Int} : n ∈ srt ns ↔ n ∈ ns := (srt_perm ns).mem_iff
theorem srt_uniq (h1 : ms.Perm ns) (h2 : ms.Pairwise (· ≤ ·)) : ms = srt ns :=
  List.Perm.eq_of_pairwise (le := (· ≤ ·)) (fun a b _ _ h1 h2 => Int.le_antisymm h1 h2) h2 (srt_pw ns) (h1.trans (srt_perm ns).symm)
theorem rcl_sorted (h : SqL K H p (ns.map V.int)) (hl : ns.length < 64) : RCL (rSorted K) [.ref p] H ((srt ns).map V.int) := fun H1 e Q q =>
  ⟨p, ns, rfl, ex_l e h, hl, fun ns' l hp hs hn => by
    have e1 := srt_uniq hp hs
    subst e1
    exact q l _ hn (Ex.new hn) upd_same⟩

/-! ### lists compared -/
/-- a flat value as data -/
def vD : V → PyData
  | .non => .none
  | .bl b => .bool b
  | .int i => .int i
  | .str s => .str s
  | _ => .none
def flat4 : V → Bool
  | .non | .bl _ | .int _ => true
  | .str s => SeqAt.shaped (.str s)
  | _ => false
theorem dp_flat (h : flat4 x = true) : Dp K H x (vD x) := by
  cases x with
  | non => exact .non
  | bl b => exact .bl b
  | int i => exact .int i
  | str s => exact .str s
  | _ => cases h
theorem dpAll_flat : ∀ {xs : List V}, xs.all flat4 = true → DpAll K H xs (xs.map vD)
  | [], _ => .nil
  | x :: xs, h => by
    rw [List.all_cons, Bool.and_eq_true] at h
    exact .cons (dp_flat h.1) (dpAll_flat h.2)
theorem lay_flat (h : flat4 x = true) : (vD x).canLay0 = true ∧ (vD x).depth = 0 := by
  cases x with
  | non => exact ⟨by simp [vD, PyData.canLay0], by simp [vD, PyData.depth]⟩
  | bl b => exact ⟨by simp [vD, PyData.canLay0], by simp [vD, PyData.depth]⟩
  | int i => exact ⟨by simp [vD, PyData.canLay0], by simp [vD, PyData.depth]⟩
  | str s => exact ⟨SeqAt.canLay_of_shaped h, by simp [vD, PyData.depth]⟩
  | _ => cases h
theorem lay_flats : ∀ {xs : List V}, xs.all flat4 = true → PyData.canLayAll0 (xs.map vD) = true ∧ PyData.depthAll (xs.map vD) = 0
  | [], _ => ⟨by simp [PyData.canLayAll0], by simp [PyData.depthAll]⟩
  | x :: xs, h => by
    rw [List.all_cons, Bool.and_eq_true] at h
    have h1 := lay_flat h.1
    have h2 := lay_flats h.2
    exact ⟨by rw [List.map_cons, PyData.canLayAll0, h1.1, h2.1]; rfl, by rw [List.map_cons, PyData.depthAll, h1.2, h2.2]; rfl⟩
theorem shaped_list (h : xs.all flat4 = true) : SeqAt.shaped (.list (xs.map vD)) = true := by
  obtain ⟨h1, h2⟩ := lay_flats h
  show ((PyData.list (xs.map vD)).canLay0 && decide ((PyData.list (xs.map vD)).depth ≤ 64)) = true
  rw [PyData.canLay0, PyData.depth, h1, h2]
  rfl
theorem shaped_tup (h : xs.all flat4 = true) : SeqAt.shaped (.tuple (xs.map vD)) = true := by
  obtain ⟨h1, h2⟩ := lay_flats h
  show ((PyData.tuple (xs.map vD)).canLay0 && decide ((PyData.tuple (xs.map vD)).depth ≤ 64)) = true
  rw [PyData.canLay0, PyData.depth, h1, h2]
  rfl
theorem ints_flat (ns : List Int) : (ns.map V.int).all flat4 = true := by
  rw [List.all_eq_true]
  intro x hx
  obtain ⟨n, _, rfl⟩ := List.mem_map.mp hx
  rfl
/-- a list and the empty list -/
theorem rv_eqNil {q : Addr} (h : SqL K H p xs) (hf : xs.all flat4 = true) (h2 : SqL K H q []) : RV (rEqD K) (.ref p) (.ref q) H (.bl (decide (xs = []))) := fun H1 e Q k => by
  refine ⟨.list (xs.map vD), .list [], .lst (ex_l e h) (dpAll_flat hf), .lst (ex_l e h2) .nil, shaped_list hf, by decide, ?_⟩
  have e2 : PyData.eqv (.list (xs.map vD)) (.list []) = decide (xs = []) := by
    cases xs with
    | nil => simp [PyData.eqv, PyData.eqvAll]
    | cons x r => simp [PyData.eqv, PyData.eqvAll]
  rw [e2]
  exact k H1 (Ex.refl H1)
theorem rv_neNil {q : Addr} (h : SqL K H p xs) (hf : xs.all flat4 = true) (h2 : SqL K H q []) : RV (rNeD K) (.ref p) (.ref q) H (.bl (!decide (xs = []))) := fun H1 e Q k => by
  refine ⟨.list (xs.map vD), .list [], .lst (ex_l e h) (dpAll_flat hf), .lst (ex_l e h2) .nil, shaped_list hf, by decide, ?_⟩
  have e2 : PyData.eqv (.list (xs.map vD)) (.list []) = decide (xs = []) := by
    cases xs with
    | nil => simp [PyData.eqv, PyData.eqvAll]
    | cons x r => simp [PyData.eqv, PyData.eqvAll]
  rw [e2]
  exact k H1 (Ex.refl H1)
/-- two lists of the same flat items -/
theorem rv_neSame {q : Addr} (h : SqL K H p xs) (hf : xs.all flat4 = true) (h2 : SqL K H q xs) : RV (rNeD K) (.ref p) (.ref q) H (.bl false) := fun H1 e Q k => by
  refine ⟨.list (xs.map vD), .list (xs.map vD), .lst (ex_l e h) (dpAll_flat hf), .lst (ex_l e h2) (dpAll_flat hf), shaped_list hf, shaped_list hf, ?_⟩
  have e2 : PyData.eqv (.list (xs.map vD)) (.list (xs.map vD)) = true := PySem.SeqAt.eqv_refl _ (SeqAt.canLay_of_shaped (shaped_list hf))
  rw [e2]
  exact k H1 (Ex.refl H1)
theorem ev_eqNil (ha : Ev ta σ H (.ref p)) (h : SqL K H p xs) (hf : xs.all flat4 = true) : Ev (tOp (rEqD K) ta (tLst tNil)) σ H (.bl (decide (xs = []))) :=
  ev_opL ha (el_lst ea_nil (by decide)) fun _ _ h1 e1 => rv_eqNil (ex_l e1 h) hf (sq_of h1)
theorem ev_neNil (ha : Ev ta σ H (.ref p)) (h : SqL K H p xs) (hf : xs.all flat4 = true) : Ev (tOp (rNeD K) ta (tLst tNil)) σ H (.bl (!decide (xs = []))) :=
  ev_opL ha (el_lst ea_nil (by decide)) fun _ _ h1 e1 => rv_neNil (ex_l e1 h) hf (sq_of h1)

/-! ### comprehensions over enumerate -/
theorem el_lcE {A : TA} {p : Addr} {xs : List V} {g : TG} {vs : List Nat} (f : Nat → Bool) (v : Nat → V) (ha : EvA A σ H [.ref p]) (hx : SqL K H p xs) (hz : xs.length ≤ 40000) {i1 i2 : Nat} (hg : g = gTup K 2 (gCons (gName i1) (gCons (gName i2) gNil)))
    (hw : ∀ y z, wipe (((wipe σ vs).set i1 (some y)).set i2 (some z)) vs = wipe σ vs)
    (ht : ∀ (i : Nat) (x : V) H1, Ex H H1 → xs[i]? = some x → EvT t (((wipe σ vs).set i1 (some (.int i))).set i2 (some x)) H1 (f i))
    (he : ∀ (i : Nat) (x : V) H1, Ex H H1 → xs[i]? = some x → f i = true → Ev te (((wipe σ vs).set i1 (some (.int i))).set i2 (some x)) H1 (v i)) :
    EvL (tLc (iEnum K A) g t te vs) σ H (Evl.given xs.length f v) := fun H0 e Q q => ha H0 e _ fun H1 e1 => ⟨p, xs, rfl, ex_l (e.trans e1) hx, fun Dl hD => by
  subst hg
  refine lc_it (walk_enum (K := K) (a := p) (xs := xs)) (Cw H1 f v Dl) ⟨hD, Ex.new hD, upd_same⟩ (fun i H' _ pc => ex_l ((e.trans e1).trans pc.2.1) hx) (fun i y H2 H2' hi pc hy => ?_) (fun H' pc => q Dl H' (fresh_back e1 pc.1) (e1.trans pc.2.1) pc.2.2)
  obtain ⟨T, x1, x2, rfl, nT, rfl, f1, f2⟩ := hy
  have ex1 : V.int (i : Nat) = x1 := Option.some.inj f1
  subst ex1
  have p2 : Cw H1 f v Dl i (upd H2 T (.tup [.int (i : Nat), x2])) := by
    obtain ⟨c1, c2, c3⟩ := pc
    refine ⟨c1, c2.trans (Ex.new nT), ?_⟩
    rw [upd_ne (ne_of_none c3 nT)]
    exact c3
  exact ⟨T, _, rfl, .inl (.inl upd_same), rfl, _, _, rfl, _, _, rfl, rfl, hw _ _, cw_turn p2 (by omega) (ht i x2 H1 (e.trans e1) f2) (fun hf => he i x2 H1 (e.trans e1) f2 hf)⟩⟩
end
end MV
namespace MV
open PySem PySem.Spec PyProof.Rows L2 Evl
theorem cmul_r {i j : Int} (h1 : -18446744073709551616 < j) (h2 : j < 18446744073709551616) : CMul i j := .inr ⟨h1, h2⟩
theorem cmul_l {i j : Int} (h1 : -18446744073709551616 < i) (h2 : i < 18446744073709551616) : CMul i j := .inl ⟨h1, h2⟩
theorem cdiv_c {i j : Int} (h1 : 0 < j) (h2 : j.natAbs.log2 < 9000) : CDivW i j := ⟨h1, h2⟩
theorem cdiv_s {i j : Int} (h1 : 0 < j) (h2 : j < 18446744073709551616) : CDivW i j := wide_div (b := 64) h1 (by omega) (by decide) (by decide)
theorem cpow_c {i j : Int} (h1 : 0 ≤ j) (h2 : j ≤ 1000000) (h3 : i.natAbs < 2 ^ 64) : CPow i j := ⟨h1, h2, h3⟩
end MV
namespace MV
open PySem PySem.Spec PyProof.Rows L2 Evl
def toInt : V → Int
  | .int i => i
  | _ => 0
def toInts (vs : List V) : List Int := vs.map toInt
section
variable {K : PySem.W.Frag} {σ : L2.St} {H : Hp} {ta : TA} {tb : TE} {vs : List V} {i : Int}
/-- a written list of whole numbers at a place that lies in it -/
theorem ev_menuL (h : EvA ta σ H vs) (hi : Ev tb σ H (.int i)) (e : vs = (toInts vs).map V.int) (h0 : 0 ≤ i) (h1 : i < (vs.length : Int)) (hs : vs.length ≤ 100) : Ev (tOp (rIxL K) (tLst ta) tb) σ H (.int ((toInts vs).getD i.toNat 0)) := by
  have h2 : EvL (tLst ta) σ H ((toInts vs).map V.int) := e ▸ el_lst h (by omega)
  exact ev_menu h2 hi h0 (by unfold toInts; rw [List.length_map]; exact h1)
theorem ev_menuG (h : EvA ta σ H vs) (hi : Ev tb σ H (.int i)) (h0 : 0 ≤ i) (h1 : i < (vs.length : Int)) (hs : vs.length ≤ 100) : Ev (tOp (rIxL K) (tLst ta) tb) σ H (vs.getD i.toNat .non) :=
  ev_menuV (el_lst h (by omega)) hi h0 h1
end
/-- a turn's list grows -/
theorem exGrow {H H' H1 : Hp} {p : Addr} {o : HO} (e : Ex H H') (e1 : Ex H' H1) (hp : H p = none) : Ex H (upd H1 p o) := (e.trans e1).mut hp
theorem wipe0 (σ : L2.St) : wipe σ [] = σ := rfl
end MV
namespace MV
open PySem PySem.Spec PyProof.Rows L2 Evl
section
variable {K : PySem.W.Frag} {σ : L2.St} {H H' : Hp} {ta tb te : TE} {t : TT} {x y z v : V} {D : Ends} {tz tu : TS} {P : List V → Prop} {xs ys vs : List V}
/-- a new list, of which P is known -/
def EvLP (te : TE) (σ : L2.St) (H : Hp) (P : List V → Prop) : Prop := ∀ H1, Ex H H1 → ∀ Q : VK, (∀ xs p H2, P xs → H1 p = none → Ex H1 H2 → H2 p = some (.lst xs) → Q (.ref p) H2) → te σ H1 Q
theorem q_asgLP {i : Nat} (h : EvLP te σ H P) (k : ∀ xs p H1, P xs → H p = none → Ex H H1 → H1 p = some (.lst xs) → tz D (σ.set i (some (.ref p))) H1) : tSeq (tAsg te (gName i)) tz D σ H := h H (Ex.refl H) _ fun xs p H1 hP hp e h1 => k xs p H1 hP hp e h1
theorem elp_call {sp : Sp} {dvs : List V} {E : XK} {ta : TA} (h : EvA ta σ H vs) (hs : ∀ H1, Ex H H1 → ∀ Q : VK, (∀ xs p H2, P xs → H1 p = none → Ex H1 H2 → H2 p = some (.lst xs) → Q (.ref p) H2) → ∀ E : XK, sp (vs ++ dvs) H1 Q E) : EvLP (tCall sp dvs E ta) σ H P := fun H1 e Q q =>
  h H1 e _ fun H2 e2 => hs H2 (e.trans e2) Q (fun xs p H3 hP hp e3 h3 => q xs p H3 hP (fresh_back e2 hp) (e2.trans e3) h3) E
/-- a call of one new list that gives a new list | a value -/
theorem el_cbN {rr : List V → Hp → VK → Prop} (ha : EvL ta σ H xs) (hr : ∀ p H1, Ex H H1 → H1 p = some (.lst xs) → RCL rr [.ref p] H1 ys) : EvL (tCB rr (tCons ta tNil)) σ H ys := fun H1 e Q q =>
  ha H1 e _ fun p H2 hp e2 h2 => hr p H2 (e.trans e2) h2 H2 (Ex.refl H2) Q fun p3 H3 hp3 e3 h3 => q p3 H3 (fresh_back e2 hp3) (e2.trans e3) h3
theorem ev_cbN {rr : List V → Hp → VK → Prop} (ha : EvL ta σ H xs) (hr : ∀ p H1, Ex H H1 → H1 p = some (.lst xs) → RC rr [.ref p] H1 z) : Ev (tCB rr (tCons ta tNil)) σ H z := fun H1 e Q q =>
  ha H1 e _ fun p H2 hp e2 h2 => hr p H2 (e.trans e2) h2 H2 (Ex.refl H2) Q fun H3 e3 => q H3 (e2.trans e3)
theorem ev_andB {a b : Bool} (h1 : Ev ta σ H (.bl a)) (h2 : Ev tb σ H (.bl b)) : Ev (tAndV ta tb) σ H (.bl (a && b)) := ev_andV h1 fun _ => h2
theorem ev_orB {a b : Bool} (h1 : Ev ta σ H (.bl a)) (h2 : Ev tb σ H (.bl b)) : Ev (tOrV ta tb) σ H (.bl (a || b)) := ev_orV h1 fun _ => h2
theorem et_andB {a b : Bool} {t u : TT} (h1 : EvT t σ H a) (h2 : EvT u σ H b) : EvT (tAnd t u) σ H (a && b) := et_and h1 fun _ => h2
theorem et_orB {a b : Bool} {t u : TT} (h1 : EvT t σ H a) (h2 : EvT u σ H b) : EvT (tOr t u) σ H (a || b) := et_or h1 fun _ => h2

theorem given_take (xs : List V) (p : V → Bool) (g : V → V) : ∀ i, i ≤ xs.length → Evl.given i (fun i => p (xs.getD i .non)) (fun i => g (xs.getD i .non)) = ((xs.take i).filter p).map g
  | 0, _ => rfl
  | i + 1, h => by
    have hi : i < xs.length := h
    have e : xs.getD i .non = xs[i] := by rw [List.getD_eq_getElem?_getD, List.getElem?_eq_getElem hi]; rfl
    have e2 : xs.take (i + 1) = xs.take i ++ [xs[i]] := by rw [List.take_add_one, List.getElem?_eq_getElem hi]; rfl
    have ih := given_take xs p g i (by omega)
    rw [e2, List.filter_append, List.map_append, ← ih]
    cases hp : p xs[i] with
    | true =>
      rw [Evl.given_yes (by show p (xs.getD i .non) = true; rw [e]; exact hp)]
      show _ ++ [g (xs.getD i .non)] = _
      rw [e, List.filter_cons, hp]
      rfl
    | false =>
      rw [Evl.given_no (by show p (xs.getD i .non) = false; rw [e]; exact hp), List.filter_cons, hp]
      simp
theorem given_list (xs : List V) (p : V → Bool) (g : V → V) : Evl.given xs.length (fun i => p (xs.getD i .non)) (fun i => g (xs.getD i .non)) = (xs.filter p).map g := by
  rw [given_take xs p g xs.length (Nat.le_refl _), List.take_length]
/-- [g(x) for x in xs if p(x)] -/
theorem el_lcM {a : Addr} {tl : TE} {j : Nat} {vs : List Nat} (p : V → Bool) (g : V → V) (h : Ev tl σ H (.ref a)) (hx : SqL K H a xs) (hz : xs.length ≤ 40000) (hw : ∀ x, wipe ((wipe σ vs).set j (some x)) vs = wipe σ vs)
    (ht : ∀ x H1, Ex H H1 → x ∈ xs → EvT t ((wipe σ vs).set j (some x)) H1 (p x)) (he : ∀ x H1, Ex H H1 → x ∈ xs → p x = true → Ev te ((wipe σ vs).set j (some x)) H1 (g x)) :
    EvL (tLc (iList K tl) (gName j) t te vs) σ H ((xs.filter p).map g) := by
  rw [← given_list]
  have get : ∀ {i : Nat} {x : V}, xs[i]? = some x → xs.getD i .non = x ∧ x ∈ xs := fun {i x} e => ⟨by rw [List.getD_eq_getElem?_getD, e]; rfl, List.mem_of_getElem? e⟩
  refine el_lcL (fun i => p (xs.getD i .non)) (fun i => g (xs.getD i .non)) h hx hz hw (fun i x H1 e1 hi => ?_) (fun i x H1 e1 hi hf => ?_)
  · obtain ⟨e, m⟩ := get hi
    show EvT t _ H1 (p (xs.getD i .non))
    rw [e]
    exact ht x H1 e1 m
  · obtain ⟨e, m⟩ := get hi
    show Ev te _ H1 (g (xs.getD i .non))
    rw [e]
    exact he x H1 e1 m (by rw [← e]; exact hf)
theorem ints_filter (ns : List Int) (p : V → Bool) (q : Int → Bool) (h : ∀ n, p (.int n) = q n) : ((ns.map V.int).filter p).map id = (ns.filter q).map V.int := by
  rw [List.map_id, List.filter_map]
  congr 1
  exact List.filter_congr fun n _ => h n
/-- [n for n in ns if q(n)], whole numbers -/
theorem el_lcI {a : Addr} {ns : List Int} {tl : TE} {j : Nat} {vs : List Nat} (q : Int → Bool) (h : Ev tl σ H (.ref a)) (hx : SqL K H a (ns.map V.int)) (hz : ns.length ≤ 40000) (hw : ∀ x, wipe ((wipe σ vs).set j (some x)) vs = wipe σ vs)
    (ht : ∀ n H1, Ex H H1 → n ∈ ns → EvT t ((wipe σ vs).set j (some (.int n))) H1 (q n)) (he : ∀ n H1, Ex H H1 → n ∈ ns → Ev te ((wipe σ vs).set j (some (.int n))) H1 (.int n)) :
    EvL (tLc (iList K tl) (gName j) t te vs) σ H ((ns.filter q).map V.int) := by
  rw [← ints_filter ns (fun x => q (toInt x)) q fun _ => rfl]
  refine el_lcM (fun x => q (toInt x)) id h hx (by rw [List.length_map]; exact hz) hw (fun x H1 e1 hm => ?_) (fun x H1 e1 hm _ => ?_)
  · obtain ⟨n, hn, rfl⟩ := List.mem_map.mp hm
    exact ht n H1 e1 hn
  · obtain ⟨n, hn, rfl⟩ := List.mem_map.mp hm
    exact he n H1 e1 hn
/-! ### isinstance -/
theorem rc_isi {c : V} {tt u : Value} {b : Bool} (hc : ClsV c u) (ht : ∀ H1, Ex H H1 → TyX K H1 x tt) (hk : PySem.W.kitOne K tt u = some b) : RC (rIsi K) [x, c] H (.bl b) := rc_of fun H1 e _ q => ⟨x, c, tt, u, b, rfl, hc, ht H1 e, hk, q⟩
theorem isi_int_bool {i : Int} : RC (rIsi K) [.int i, .ty "bool"] H (.bl false) := rc_isi (.ty _) (fun _ _ => .base (.int i)) (kit_ty (by decide +kernel))
theorem isi_int_int {i : Int} : RC (rIsi K) [.int i, .ty "int"] H (.bl true) := rc_isi (.ty _) (fun _ _ => .base (.int i)) (kit_ty (by decide +kernel))
theorem isi_list_list {p : Addr} (h : H p = some (.lst xs)) : RC (rIsi K) [.ref p, .ty "list"] H (.bl true) := rc_isi (.ty _) (fun _ e => .base (.lst (e p _ h))) (kit_ty (by decide +kernel))
theorem isi_tup_tup {p : Addr} (h : H p = some (.tup xs)) : RC (rIsi K) [.ref p, .ty "tuple"] H (.bl true) := rc_isi (.ty _) (fun _ e => .base (.tup (e p _ h))) (kit_ty (by decide +kernel))
theorem isi_list_tup {p : Addr} (h : H p = some (.lst xs)) : RC (rIsi K) [.ref p, .ty "tuple"] H (.bl false) := rc_isi (.ty _) (fun _ e => .base (.lst (e p _ h))) (kit_ty (by decide +kernel))
end
end MV
namespace MV
open PySem PySem.Spec PyProof.Rows L2 Evl
section
variable {σ : L2.St} {H : Hp} {sp : Sp} {E : XK} {ta : TA} {vs xs : List V} {z : V} {P : List V → Prop}
theorem ev_call0 (h : EvA ta σ H vs) (hs : SpV sp vs H z) : Ev (tCall sp [] E ta) σ H z := ev_call h (by rw [List.append_nil]; exact hs)
theorem el_call0 (h : EvA ta σ H vs) (hs : SpL sp vs H xs) : EvL (tCall sp [] E ta) σ H xs := el_call h (by rw [List.append_nil]; exact hs)
theorem elp_call0 (h : EvA ta σ H vs) (hs : ∀ H1, Ex H H1 → ∀ Q : VK, (∀ xs p H2, P xs → H1 p = none → Ex H1 H2 → H2 p = some (.lst xs) → Q (.ref p) H2) → ∀ E : XK, sp vs H1 Q E) : EvLP (tCall sp [] E ta) σ H P := elp_call h (by rw [List.append_nil]; exact hs)
end
end MV
namespace MV
open PySem PySem.Spec PyProof.Rows L2 Evl
section
variable {K : PySem.W.Frag} {σ : L2.St} {H : Hp} {ta te : TE} {D : Ends} {tz : TS} {xs : List V} {P : V → Prop}
/-- with a value of which only P is told on -/
theorem s_appX {l : Addr} (hl : H l = some (.lst xs)) (ha : Ev ta σ H (.ref l)) (h : ∃ v, Ev te σ H v ∧ P v) (hz : xs.length < 100000) (k : ∀ v H1, P v → Ex H H1 → D.nx σ (upd H1 l (.lst (xs ++ [v])))) :
    tDrop (tBM K "list" rAppend ta (tCons te tNil)) D σ H := by
  obtain ⟨v, hv, hp⟩ := h
  exact s_app hl ha hv hz fun H1 e => k v H1 hp e
theorem q_asgX {i : Nat} (h : ∃ v, Ev te σ H v ∧ P v) (k : ∀ v H1, P v → Ex H H1 → tz D (σ.set i (some v)) H1) : tSeq (tAsg te (gName i)) tz D σ H := by
  obtain ⟨v, hv, hp⟩ := h
  exact q_asg hv fun H1 e => k v H1 hp e
end
abbrev IsI (v : V) : Prop := ∃ i : Int, v = .int i
end MV
namespace MV
open PySem PySem.Spec PyProof.Rows L2 Evl
section
variable {K : PySem.W.Frag} {σ : L2.St} {H H' : Hp} {ta to tv te : TE} {a C dx : Addr} {fs fs' : List (Str × V)} {f m : Str} {x y z v : V} {D : Ends} {tz tu tw : TS} {sp : Sp} {E : XK} {ar : TA} {vs xs : List V} {t u : TT} {b : Bool}
/-! ### attributes, methods -/
theorem ev_fld (h : Ev ta σ H (.ref a)) (ho : H a = some (.ins C dx fs)) (c : Cls K C) (n : NoAttr K C f) (l : fs.lookup f = some v) : Ev (tFld K ta f) σ H v := fun H1 e Q q =>
  h H1 e _ fun H2 e2 => ⟨a, C, dx, fs, v, rfl, e2 a _ (e a _ ho), c, n, l, q H2 e2⟩
theorem ev_meth (h : Ev to σ H (.ref a)) (ho : H a = some (.ins C dx fs)) (l : fs.lookup m = none) (ha : EvA ar σ H vs) (hs : SpV sp (.ref a :: vs) H z) : Ev (tMeth C m sp [] E to ar) σ H z := fun H1 e Q q =>
  h H1 e _ fun H2 e2 => ⟨a, dx, fs, rfl, e2 a _ (e a _ ho), l, ha H2 (e.trans e2) _ fun H3 e3 => by
    rw [List.append_nil]
    exact hs H3 ((e.trans e2).trans e3) Q (fun H4 e4 => q H4 ((e2.trans e3).trans e4)) E⟩
theorem s_fld (hv : Ev tv σ H y) (ha : Ev ta σ H (.ref a)) (ho : H a = some (.ins C dx fs)) (hc : Cls K C) (hn : NoAttr K C f) (hl : fs.length < 1000) (hp : putF f y fs = fs') (k : ∀ H1, Ex H H1 → D.nx σ (upd H1 a (.ins C dx fs'))) : sFld K ta tv f D σ H :=
  hv H (Ex.refl H) _ fun H1 e1 => ha H1 e1 _ fun H2 e2 => ⟨a, C, dx, fs, rfl, (e1.trans e2) a _ ho, hc, hn, hl, by rw [hp]; exact k H2 (e1.trans e2)⟩
theorem q_fld (hv : Ev tv σ H y) (ha : Ev ta σ H (.ref a)) (ho : H a = some (.ins C dx fs)) (hc : Cls K C) (hn : NoAttr K C f) (hl : fs.length < 1000) (hp : putF f y fs = fs') (k : ∀ H1, Ex H H1 → tz D σ (upd H1 a (.ins C dx fs'))) : tSeq (sFld K ta tv f) tz D σ H :=
  s_fld (D := { D with nx := tz D }) hv ha ho hc hn hl hp k
/-- a call whose promise is read by hand -/
theorem s_dropC (ha : EvA ar σ H vs) (k : ∀ H1, Ex H H1 → sp vs H1 (fun _ H2 => D.nx σ H2) E) : tDrop (tCall sp [] E ar) D σ H := ha H (Ex.refl H) _ fun H1 e1 => by
  rw [List.append_nil]
  exact k H1 e1
theorem q_dropC (ha : EvA ar σ H vs) (k : ∀ H1, Ex H H1 → sp vs H1 (fun _ H2 => tz D σ H2) E) : tSeq (tDrop (tCall sp [] E ar)) tz D σ H := s_dropC (D := { D with nx := tz D }) ha k
theorem q_asgC {i : Nat} (ha : EvA ar σ H vs) (k : ∀ H1, Ex H H1 → sp vs H1 (fun v H2 => tz D (σ.set i (some v)) H2) E) : tSeq (tAsg (tCall sp [] E ar) (gName i)) tz D σ H := ha H (Ex.refl H) _ fun H1 e1 => by
  rw [List.append_nil]
  exact k H1 e1
theorem s_retC (ha : EvA ar σ H vs) (k : ∀ H1, Ex H H1 → sp vs H1 D.rt E) : tRet (tCall sp [] E ar) D σ H := ha H (Ex.refl H) _ fun H1 e1 => by
  rw [List.append_nil]
  exact k H1 e1
theorem s_dropM (h : Ev to σ H (.ref a)) (ho : H a = some (.ins C dx fs)) (l : fs.lookup m = none) (ha : EvA ar σ H vs) (k : ∀ H1, Ex H H1 → sp (.ref a :: vs) H1 (fun _ H2 => D.nx σ H2) E) : tDrop (tMeth C m sp [] E to ar) D σ H :=
  h H (Ex.refl H) _ fun H1 e1 => ⟨a, dx, fs, rfl, e1 a _ ho, l, ha H1 e1 _ fun H2 e2 => by
    rw [List.append_nil]
    exact k H2 (e1.trans e2)⟩
theorem q_dropM (h : Ev to σ H (.ref a)) (ho : H a = some (.ins C dx fs)) (l : fs.lookup m = none) (ha : EvA ar σ H vs) (k : ∀ H1, Ex H H1 → sp (.ref a :: vs) H1 (fun _ H2 => tz D σ H2) E) : tSeq (tDrop (tMeth C m sp [] E to ar)) tz D σ H :=
  s_dropM (D := { D with nx := tz D }) h ho l ha k
theorem q_asgM {i : Nat} (h : Ev to σ H (.ref a)) (ho : H a = some (.ins C dx fs)) (l : fs.lookup m = none) (ha : EvA ar σ H vs) (k : ∀ H1, Ex H H1 → sp (.ref a :: vs) H1 (fun v H2 => tz D (σ.set i (some v)) H2) E) : tSeq (tAsg (tMeth C m sp [] E to ar) (gName i)) tz D σ H :=
  h H (Ex.refl H) _ fun H1 e1 => ⟨a, dx, fs, rfl, e1 a _ ho, l, ha H1 e1 _ fun H2 e2 => by
    rw [List.append_nil]
    exact k H2 (e1.trans e2)⟩
/-- a method that raises, whatever is wanted -/
theorem s_retFM {g : Str} (h : Ev to σ H (.ref a)) (ho : H a = some (.ins C dx fs)) (l : fs.lookup m = none) (ha : EvA ar σ H vs) (k : ∀ H1, Ex H H1 → ∀ Q : VK, sp (.ref a :: vs) H1 Q E) : tRet (tFld K (tMeth C m sp [] E to ar) g) D σ H :=
  h H (Ex.refl H) _ fun H1 e1 => ⟨a, dx, fs, rfl, e1 a _ ho, l, ha H1 e1 _ fun H2 e2 => by
    rw [List.append_nil]
    exact k H2 (e1.trans e2) _⟩
/-- a tuple told apart into five names -/
theorem q_tup5 {p : Addr} {v1 v2 v3 v4 v5 : V} {i1 i2 i3 i4 i5 : Nat} (h : Ev te σ H (.ref p)) (ht : SqT K H p [v1, v2, v3, v4, v5])
    (k : ∀ H1, Ex H H1 → tz D (((((σ.set i1 (some v1)).set i2 (some v2)).set i3 (some v3)).set i4 (some v4)).set i5 (some v5)) H1) :
    tSeq (tAsg te (gTup K 5 (gCons (gName i1) (gCons (gName i2) (gCons (gName i3) (gCons (gName i4) (gCons (gName i5) gNil))))))) tz D σ H :=
  h H (Ex.refl H) _ fun H1 e1 => ⟨p, _, rfl, ex_t e1 ht, rfl, v1, _, rfl, v2, _, rfl, v3, _, rfl, v4, _, rfl, v5, _, rfl, rfl, k H1 e1⟩
theorem q_tup2 {p : Addr} {v1 v2 : V} {i1 i2 : Nat} (h : Ev te σ H (.ref p)) (ht : SqT K H p [v1, v2])
    (k : ∀ H1, Ex H H1 → tz D ((σ.set i1 (some v1)).set i2 (some v2)) H1) :
    tSeq (tAsg te (gTup K 2 (gCons (gName i1) (gCons (gName i2) gNil)))) tz D σ H :=
  h H (Ex.refl H) _ fun H1 e1 => ⟨p, _, rfl, ex_t e1 ht, rfl, v1, _, rfl, v2, _, rfl, rfl, k H1 e1⟩
theorem s_raise {cls : Value} (q : ∀ H1, Ex H H1 → E cls none H1) : tRaise E cls D σ H := q H (Ex.refl H)
/-- two ways of one value -/
theorem ev_ifB {tt : TT} (h : EvT tt σ H b) (h1 : Ev ta σ H x) (h2 : Ev te σ H y) : Ev (tIf tt ta te) σ H (if b = true then x else y) := by
  cases b with
  | true => exact ev_if h (fun _ => h1) (fun z => nomatch z)
  | false => exact ev_if h (fun z => nomatch z) (fun _ => h2)
/-- what the and's second part may lean on -/
theorem ev_andIf {a1 b1 : Bool} (h1 : Ev ta σ H (.bl a1)) (h2 : a1 = true → Ev te σ H (.bl b1)) : Ev (tAndV ta te) σ H (.bl (a1 && b1)) := ev_andV h1 h2
end
/-- kept but at one place -/
def But (s : Addr) (H H' : Hp) : Prop := ∀ b o, b ≠ s → H b = some o → H' b = some o
/-- kept but at the places of fp -/
def Buts (fp : List Addr) (H H' : Hp) : Prop := ∀ b o, b ∉ fp → H b = some o → H' b = some o
theorem Buts.refl (fp : List Addr) (H : Hp) : Buts fp H H := fun _ _ _ h => h
theorem Buts.trans {fp : List Addr} {H H1 H2 : Hp} (a : Buts fp H H1) (b : Buts fp H1 H2) : Buts fp H H2 := fun x o h e => b x o h (a x o h e)
theorem Buts.of {fp : List Addr} {H H' : Hp} (e : Ex H H') : Buts fp H H' := fun b o _ h => e b o h
theorem Buts.but {fp : List Addr} {s : Addr} {H H' : Hp} (hs : s ∈ fp) (e : But s H H') : Buts fp H H' := fun b o hb h => e b o (fun z => hb (z ▸ hs)) h
theorem Buts.mono {fp fq : List Addr} {H H' : Hp} (h : ∀ b ∈ fp, b ∈ fq) (e : Buts fp H H') : Buts fq H H' := fun b o hb => e b o fun z => hb (h b z)
theorem But.of {s : Addr} {H H' : Hp} (e : Ex H H') : But s H H' := fun b o _ h => e b o h
theorem But.upd {s : Addr} {H H' : Hp} {o : HO} (e : Ex H H') : But s H (upd H' s o) := fun b u hb h => by rw [upd_ne hb]; exact e b u h
theorem But.trans {s : Addr} {H H1 H2 : Hp} (a : But s H H1) (b : But s H1 H2) : But s H H2 := fun x o h e => b x o h (a x o h e)
theorem Buts.seq {K : PySem.W.Frag} {fp : List Addr} {H H' : Hp} {a : Addr} {xs : List V} (e : Buts fp H H') (ha : a ∉ fp) (h : SqL K H a xs) : SqL K H' a xs := by
  rcases h with (h | ⟨o, h⟩) | h
  · exact .inl (.inl (e _ _ ha h))
  · exact .inl (.inr ⟨o, e _ _ ha h⟩)
  · exact .inr h
theorem Buts.tup {K : PySem.W.Frag} {fp : List Addr} {H H' : Hp} {a : Addr} {xs : List V} (e : Buts fp H H') (ha : a ∉ fp) (h : SqT K H a xs) : SqT K H' a xs := by
  rcases h with (h | ⟨o, h⟩) | h
  · exact .inl (.inl (e _ _ ha h))
  · exact .inl (.inr ⟨o, e _ _ ha h⟩)
  · exact .inr h
end MV
namespace MV
open PySem PySem.Spec PyProof.Rows L2 Evl
section
variable {K : PySem.W.Frag} {σ : L2.St} {H H' : Hp} {te : TE} {D : Ends} {tz tu : TS} {ar : TA} {xs : List V}
/-- for i, x in enumerate(xs) -/
theorem s_forE {p : Addr} {i1 i2 : Nat} (h : EvA ar σ H [.ref p]) (hx : SqL K H p xs) (Pv : Nat → L2.St → Hp → Prop) (h0 : ∀ H1, Ex H H1 → Pv 0 σ H1) (hl : ∀ i σ' H', i ≤ xs.length → Pv i σ' H' → SqL K H' p xs)
    (hs : ∀ i x σ' H', xs[i]? = some x → Pv i σ' H' → ∀ H2, Ex H' H2 → tu { D with nx := Pv (i + 1), ct := Pv (i + 1), bk := D.nx } ((σ'.set i1 (some (.int (i : Nat)))).set i2 (some x)) H2) (hd : ∀ σ' H', Pv xs.length σ' H' → D.nx σ' H') :
    tFor (iEnum K ar) (gTup K 2 (gCons (gName i1) (gCons (gName i2) gNil))) tu D σ H := h H (Ex.refl H) _ fun H1 e => ⟨p, xs, rfl, ex_l e hx, by
  refine for_it (walk_enum (K := K) (a := p) (xs := xs)) Pv (h0 H1 e) hl (fun i y σ' H2 H2' hi pc hy => ?_) hd
  obtain ⟨T, x1, x2, rfl, nT, rfl, f1, f2⟩ := hy
  have ex1 : V.int (i : Nat) = x1 := Option.some.inj f1
  subst ex1
  exact ⟨T, _, rfl, .inl (.inl upd_same), rfl, _, _, rfl, _, _, rfl, rfl, hs i x2 σ' H2 f2 pc _ (Ex.new nT)⟩⟩
theorem q_forE {p : Addr} {i1 i2 : Nat} (h : EvA ar σ H [.ref p]) (hx : SqL K H p xs) (Pv : Nat → L2.St → Hp → Prop) (h0 : ∀ H1, Ex H H1 → Pv 0 σ H1) (hl : ∀ i σ' H', i ≤ xs.length → Pv i σ' H' → SqL K H' p xs)
    (hs : ∀ i x σ' H', xs[i]? = some x → Pv i σ' H' → ∀ H2, Ex H' H2 → tu { D with nx := Pv (i + 1), ct := Pv (i + 1), bk := tz D } ((σ'.set i1 (some (.int (i : Nat)))).set i2 (some x)) H2) (hd : ∀ σ' H', Pv xs.length σ' H' → tz D σ' H') :
    tSeq (tFor (iEnum K ar) (gTup K 2 (gCons (gName i1) (gCons (gName i2) gNil))) tu) tz D σ H := s_forE (D := { D with nx := tz D }) h hx Pv h0 hl hs hd
/-- a comprehension over a range whose turns may change the heap -/
theorem lc_R1 {n : Int} {j : Nat} {vs : List Nat} (h : EvA ar σ H [.int n]) (hn : 0 ≤ n ∧ n ≤ 10000) (hw : ∀ x, wipe ((wipe σ vs).set j (some x)) vs = wipe σ vs) (Pv : Nat → List V → Addr → Hp → Prop)
    (h0 : ∀ H1 Dl, Ex H H1 → H1 Dl = none → Pv 0 [] Dl (upd H1 Dl (.lst []))) (hs : ∀ (i : Nat) acc Dl H', (i : Int) < n → acc.length = i → H' Dl = some (.lst acc) → Pv i acc Dl H' → ∀ Q : VK, (∀ y H4, H4 Dl = some (.lst acc) → Pv (i + 1) (acc ++ [y]) Dl (upd H4 Dl (.lst (acc ++ [y]))) → Q y H4) → te ((wipe σ vs).set j (some (.int (i : Int)))) H' Q)
    {Q : VK} (k : ∀ acc Dl H', acc.length = n.toNat → H' Dl = some (.lst acc) → Pv n.toNat acc Dl H' → Q (.ref Dl) H') : tLc (iRng1 ar) (gName j) tYes te vs σ H Q :=
  h H (Ex.refl H) _ fun H1 e1 => ⟨n, rfl, by omega, by omega, fun Dl hD =>
    lc_range (lo := 0) (n := n.toNat) (fun i H' => ∃ acc : List V, acc.length = i ∧ H' Dl = some (.lst acc) ∧ Pv i acc Dl H') ⟨[], rfl, upd_same, h0 H1 Dl e1 hD⟩ (fun i H' hi ⟨acc, a1, a2, a3⟩ => by
      have e0 : (0 : Int) + (i : Int) = (i : Int) := Int.zero_add _
      show wipe ((wipe σ vs).set j (some (.int ((0 : Int) + (i : Int))))) vs = wipe σ vs ∧ te ((wipe σ vs).set j (some (.int ((0 : Int) + (i : Int))))) H' fun y H4 => ∃ acc, H4 Dl = some (.lst acc) ∧ acc.length < sizeLine ∧ ∃ acc' : List V, acc'.length = i + 1 ∧ (upd H4 Dl (.lst (acc ++ [y]))) Dl = some (.lst acc') ∧ Pv (i + 1) acc' Dl (upd H4 Dl (.lst (acc ++ [y])))
      rw [e0]
      refine ⟨hw _, ?_⟩
      exact hs i acc Dl H' (by omega) a1 a2 a3 _ fun y H4 h4 p4 => ⟨acc, h4, by rw [sizeLine_eq]; omega, acc ++ [y], by rw [List.length_append, a1]; rfl, upd_same, p4⟩) fun H' ⟨acc, a1, a2, a3⟩ => k acc Dl H' a1 a2 a3⟩
end
end MV
namespace MV
open PySem PySem.Spec PyProof.Rows L2 Evl
section
variable {K : PySem.W.Frag} {σ : L2.St} {H : Hp} {ta te : TE} {D : Ends} {tz : TS} {xs : List V} {P : List V → Prop}
theorem s_appLP {l : Addr} (hl : H l = some (.lst xs)) (ha : Ev ta σ H (.ref l)) (h : EvLP te σ H P) (hz : xs.length < 100000) (k : ∀ ys p H1, P ys → H p = none → Ex H H1 → H1 p = some (.lst ys) → D.nx σ (upd H1 l (.lst (xs ++ [.ref p])))) :
    tDrop (tBM K "list" rAppend ta (tCons te tNil)) D σ H := ha H (Ex.refl H) _ fun H1 e1 =>
  ⟨.inl ⟨rfl, xs, sq_of (e1 l _ hl)⟩, h H1 e1 _ fun ys p H2 hP hp e2 h2 => ⟨l, xs, .ref p, rfl, rfl, e2 l _ (e1 l _ hl), sz_lt hz, k ys p H2 hP (fresh_back e1 hp) (e1.trans e2) h2⟩⟩
end
end MV
namespace MV
open PySem PySem.Spec PyProof.Rows L2 Evl
section
variable {K : PySem.W.Frag} {σ : L2.St} {H H' : Hp} {te ta tl : TE} {D : Ends} {tz tu tw : TS} {xs ys : List V} {p q : Addr}
theorem elp_of {P : List V → Prop} (h : EvL te σ H xs) (hp : P xs) : EvLP te σ H P := fun H1 e Q k => h H1 e Q fun p H2 hn e2 h2 => k xs p H2 hp hn e2 h2
/-- a comprehension over a list whose turns may change the heap -/
theorem lc_L1 {a : Addr} {j : Nat} {vs : List Nat} (h : Ev tl σ H (.ref a)) (hx : SqL K H a xs) (hz : xs.length ≤ 10000) (hw : ∀ x, wipe ((wipe σ vs).set j (some x)) vs = wipe σ vs) (Pv : Nat → List V → Addr → Hp → Prop)
    (h0 : ∀ H1 Dl, Ex H H1 → H1 Dl = none → Pv 0 [] Dl (upd H1 Dl (.lst []))) (hl : ∀ i acc Dl H', H' Dl = some (.lst acc) → Pv i acc Dl H' → SqL K H' a xs)
    (hs : ∀ (i : Nat) x acc Dl H', xs[i]? = some x → acc.length = i → H' Dl = some (.lst acc) → Pv i acc Dl H' → ∀ Q : VK, (∀ y H4, H4 Dl = some (.lst acc) → Pv (i + 1) (acc ++ [y]) Dl (upd H4 Dl (.lst (acc ++ [y]))) → Q y H4) → te ((wipe σ vs).set j (some x)) H' Q)
    {Q : VK} (k : ∀ acc Dl H', acc.length = xs.length → H' Dl = some (.lst acc) → Pv xs.length acc Dl H' → Q (.ref Dl) H') : tLc (iList K tl) (gName j) tYes te vs σ H Q :=
  h H (Ex.refl H) _ fun H1 e1 => ⟨a, rfl, ⟨xs, ex_l e1 hx⟩, fun Dl hD =>
    lc_list (xs := xs) (fun i H' => ∃ acc : List V, acc.length = i ∧ H' Dl = some (.lst acc) ∧ Pv i acc Dl H') ⟨[], rfl, upd_same, h0 H1 Dl e1 hD⟩ (fun i H' _ ⟨acc, _, a2, a3⟩ => hl i acc Dl H' a2 a3) (fun i x H' hi ⟨acc, a1, a2, a3⟩ => by
      have hi' := (List.getElem?_eq_some_iff.mp hi).1
      show wipe ((wipe σ vs).set j (some x)) vs = wipe σ vs ∧ te ((wipe σ vs).set j (some x)) H' fun y H4 => ∃ acc, H4 Dl = some (.lst acc) ∧ acc.length < sizeLine ∧ ∃ acc' : List V, acc'.length = i + 1 ∧ (upd H4 Dl (.lst (acc ++ [y]))) Dl = some (.lst acc') ∧ Pv (i + 1) acc' Dl (upd H4 Dl (.lst (acc ++ [y])))
      refine ⟨hw _, ?_⟩
      exact hs i x acc Dl H' hi a1 a2 a3 _ fun y H4 h4 p4 => ⟨acc, h4, by rw [sizeLine_eq]; omega, acc ++ [y], by rw [List.length_append, a1]; rfl, upd_same, p4⟩) fun H' ⟨acc, a1, a2, a3⟩ => k acc Dl H' a1 a2 a3⟩
theorem q_asgR {i : Nat} (k : te σ H fun v H1 => tz D (σ.set i (some v)) H1) : tSeq (tAsg te (gName i)) tz D σ H := k
/-- objects made one after the other, each from an item of a list -/
theorem lc_objs {β : Type} [Inhabited β] (own : β → List Addr) (rep : β → V) (P : Nat → β → Hp → Prop) {a : Addr} {j : Nat} {vs : List Nat} (h : Ev tl σ H (.ref a)) (hx : SqL K H a xs) (hz : xs.length ≤ 10000) (hw : ∀ x, wipe ((wipe σ vs).set j (some x)) vs = wipe σ vs)
    (hk : ∀ i b H1 H2 Dl, H Dl = none → P i b H1 → But Dl H1 H2 → Dl ∉ own b → P i b H2) (ho : ∀ i b H1, P i b H1 → ∀ x ∈ own b, H1 x ≠ none)
    (hs : ∀ (i : Nat) x H1, xs[i]? = some x → Ex H H1 → ∀ Q : VK, (∀ b H2, Ex H1 H2 → (∀ x ∈ own b, H1 x = none) → P i b H2 → Q (rep b) H2) → te ((wipe σ vs).set j (some x)) H1 Q)
    {Q : VK} (k : ∀ (B : Nat → β) Dl H1, H Dl = none → Ex H H1 → H1 Dl = some (.lst ((List.range xs.length).map fun i => rep (B i))) → (∀ i, i < xs.length → P i (B i) H1 ∧ (∀ x ∈ own (B i), H x = none ∧ x ≠ Dl)) → (∀ i i', i < xs.length → i' < xs.length → i ≠ i' → ∀ x ∈ own (B i), x ∉ own (B i')) → Q (.ref Dl) H1) :
    tLc (iList K tl) (gName j) tYes te vs σ H Q := by
  refine lc_L1 h hx hz hw (fun n acc Dl H1 => H Dl = none ∧ Ex H H1 ∧ ∃ B : Nat → β, acc = (List.range n).map (fun i => rep (B i)) ∧ (∀ i, i < n → P i (B i) H1 ∧ (∀ x ∈ own (B i), H x = none ∧ x ≠ Dl)) ∧ ∀ i i', i < n → i' < n → i ≠ i' → ∀ x ∈ own (B i), x ∉ own (B i'))
    (fun H1 Dl e1 hD => ⟨fresh_back e1 hD, e1.trans (Ex.new hD), fun _ => default, rfl, fun i hi => absurd hi (by omega), fun i _ hi => absurd hi (by omega)⟩)
    (fun i acc Dl H1 _ ⟨_, e, _⟩ => ex_l e hx) ?hs ?hk
  case hs =>
    intro n x acc Dl H1 hxn hacc hDl ⟨hn, e, B, ea, hP, hd⟩ Q' k'
    refine hs n x H1 hxn e Q' fun b H2 e2 hf hPb => ?_
    have hDb : Dl ∉ own b := fun z => by have := hf Dl z; rw [hDl] at this; cases this
    have eU : But Dl H2 (upd H2 Dl (.lst (acc ++ [rep b]))) := But.upd (Ex.refl H2)
    have fr : ∀ i, i < n → ∀ x ∈ own (B i), x ∉ own b := fun i hi x hx hb => ho i (B i) H1 (hP i hi).1 x hx (hf x hb)
    refine k' _ H2 (e2 _ _ hDl) ⟨hn, (e.trans e2).mut hn, fun i => if i = n then b else B i, ?_, fun i hi => ?_, fun i i' hi hi' hne x hx => ?_⟩
    · rw [List.range_succ, List.map_append, ea]
      congr 1
      · refine List.map_congr_left fun i hi => ?_
        have : i < n := List.mem_range.mp hi
        show rep (B i) = rep (if i = n then b else B i)
        rw [if_neg (by omega)]
      · show [rep b] = [rep (if n = n then b else B n)]
        rw [if_pos rfl]
    · by_cases c : i = n
      · subst c
        show P i (if i = i then b else B i) _ ∧ ∀ x ∈ own (if i = i then b else B i), H x = none ∧ x ≠ Dl
        rw [if_pos rfl]
        exact ⟨hk i b H2 _ Dl hn hPb eU hDb, fun x hx => ⟨fresh_back e (hf x hx), fun z => hDb (z ▸ hx)⟩⟩
      · show P i (if i = n then b else B i) _ ∧ ∀ x ∈ own (if i = n then b else B i), H x = none ∧ x ≠ Dl
        rw [if_neg c]
        obtain ⟨h1, h2⟩ := hP i (by omega)
        have hDi : Dl ∉ own (B i) := fun z => (h2 Dl z).2 rfl
        exact ⟨hk i _ H1 _ Dl hn h1 ((But.of e2).trans eU) hDi, h2⟩
    · have hx' : x ∈ own (if i = n then b else B i) := hx
      show x ∉ own (if i' = n then b else B i')
      by_cases c : i = n
      · rw [if_pos c] at hx'
        rw [if_neg (by omega)]
        exact fun z => fr i' (by omega) x z hx'
      · rw [if_neg c] at hx'
        by_cases c' : i' = n
        · rw [if_pos c']
          exact fr i (by omega) x hx'
        · rw [if_neg c']
          exact hd i i' (by omega) (by omega) hne x hx'
  case hk =>
    intro acc Dl H1 hacc hDl ⟨hn, e, B, ea, hP, hd⟩
    subst ea
    exact k B Dl H1 hn e hDl hP hd
/-! ### tests told part by part -/
theorem q_orW {t u : TT} (h1 : EvT t σ H false) (k : ∀ H1, Ex H H1 → tSeq (tIfS u tu tw) tz D σ H1) : tSeq (tIfS (tOr t u) tu tw) tz D σ H := h1 H (Ex.refl H) _ fun H1 e => by
  show (if false = true then _ else _)
  rw [if_neg (by decide)]
  exact k H1 e
theorem s_orW {t u : TT} (h1 : EvT t σ H false) (k : ∀ H1, Ex H H1 → tIfS u tu tw D σ H1) : tIfS (tOr t u) tu tw D σ H := h1 H (Ex.refl H) _ fun H1 e => by
  show (if false = true then _ else _)
  rw [if_neg (by decide)]
  exact k H1 e
theorem rv_neTup (h : SqT K H p xs) (hf : xs.all flat4 = true) (h2 : SqT K H q xs) : RV (rNeD K) (.ref p) (.ref q) H (.bl false) := fun H1 e Q k => by
  refine ⟨.tuple (xs.map vD), .tuple (xs.map vD), .tup (ex_t e h) (dpAll_flat hf), .tup (ex_t e h2) (dpAll_flat hf), shaped_tup hf, shaped_tup hf, ?_⟩
  have e2 : PyData.eqv (.tuple (xs.map vD)) (.tuple (xs.map vD)) = true := PySem.SeqAt.eqv_refl _ (SeqAt.canLay_of_shaped (shaped_tup hf))
  rw [e2]
  exact k H1 (Ex.refl H1)
/-- found != stepped(..)[:2], the two alike -/
theorem q_neCut {i : Nat} {sp : Sp} {E : XK} {ar : TA} {vs : List V} (h : σ[i]? = some (some (.ref p))) (ha : EvA ar σ H vs) (hf : xs.all flat4 = true)
    (k : ∀ H1, Ex H H1 → ∀ Q : VK, (∀ q ys H2, SqT K H2 q ys → ¬ (HT.sIx ys.length 0 none = 0 ∧ HT.sIx ys.length ys.length (some 2) = ys.length) → cutV ys none (some 2) = xs → SqT K H2 p xs → (∀ H3, Ex H2 H3 → tz D σ H3) → Q (.ref q) H2) → sp vs H1 Q E) :
    tSeq (tIfS (tTest (tOp (rNeD K) (tVar i) (tSl (rSlT K) (tCall sp [] E ar) tNoPart (tPart (tC (.int 2)))))) tu tNext) tz D σ H := by
  refine ⟨.ref p, h, ?_⟩
  refine ha H (Ex.refl H) _ fun H1 e1 => ?_
  rw [List.append_nil]
  refine k H1 e1 _ fun q ys H2 hq hn hc hp kz => ?_
  refine ⟨2, rfl, q, ys, rfl, hq, hn, fun r hr => ?_⟩
  have e2 : Ex H2 (upd H2 r (.tup (cutV ys none (some 2)))) := Ex.new hr
  rw [hc] at e2 ⊢
  refine rv_neTup (ex_t e2 hp) hf (st_of upd_same) _ (Ex.refl _) _ fun H3 e3 => ⟨false, rfl, ?_⟩
  exact kz H3 (e2.trans e3)
theorem q_clear {i : Nat} (h : σ[i]? = some (some (.ref p))) (hp : H p = some (.lst xs)) (k : tz D σ (upd H p (.lst []))) : tSeq (tDrop (tBM0 K "list" rClear (tVar i))) tz D σ H :=
  ⟨.ref p, h, .inl ⟨rfl, xs, sq_of hp⟩, p, xs, rfl, rfl, hp, k⟩
theorem Buts.mut {fp : List Addr} {o : HO} (e : Buts fp H H') (h : H p = none) : Buts fp H (upd H' p o) := fun b u hb hu => by
  have : b ≠ p := fun z => by rw [z, h] at hu; cases hu
  rw [upd_ne this]
  exact e b u hb hu
theorem ev_neTup {tb : TE} (ha : EvU ta σ H xs) (hb : EvU tb σ H xs) (hf : xs.all flat4 = true) : Ev (tOp (rNeD K) ta tb) σ H (.bl false) := ev_opUU ha hb fun p q H1 h1 h2 _ => rv_neTup (st_of h1) hf (st_of h2)
theorem q_joinSet {c : TT} {t u : TS} {i : Nat} {x : V} (h : ∀ D' : Ends, (∀ y H1, y = x → Ex H H1 → D'.nx (σ.set i (some y)) H1) → tIfS c t u D' σ H) (k : ∀ H1, Ex H H1 → tz D (σ.set i (some x)) H1) : tSeq (tIfS c t u) tz D σ H :=
  h { D with nx := tz D } fun y H1 e eH => by
    subst e
    exact k H1 eH
end
end MV
namespace MV
open PySem PySem.Spec PyProof.Rows L2 Evl
/-! ### xs.count(y) of flat things -/
def rCntF (K : PySem.W.Frag) : V → List V → Hp → VK → Prop := fun x xs H Q => ∃ (p : Addr) (ys : List V) (y : V), x = .ref p ∧ xs = [y] ∧ SqL K H p ys ∧ flatV y = true ∧ ys.all flatV = true ∧ Q (.int ((ys.countP fun z => eqV z y : Nat) : Int)) H
theorem count_eqU {x : V} : ∀ {xs : List V} {us : List Value}, Vals xs us → xs.all flatV = true → us.countP (eqU x) = xs.countP fun y => eqV y x
  | _, _, .nil, _ => rfl
  | y :: xs, u :: us, .cons r t, f => by
    rw [List.all_cons, Bool.and_eq_true] at f
    rw [List.countP_cons, List.countP_cons, count_eqU t f.2, eqU_of r f.1]
theorem mt_countF {X : Cx} : MtR X "list.count" (rCntF X.K) := by
  intro pins s σ H x xs v us Q I rx rxs h
  obtain ⟨p, ys, y, rfl, rfl, hs, fy, fys, q⟩ := h
  cases rx
  cases rxs with
  | cons ry rt =>
    rename_i uy ut
    cases rt
    obtain ⟨its, rv, ⟨⟨cls, dd, data, sl⟩, n, ho, hc, hdn, hd⟩, hlen⟩ := I.list hs
    simp only at hc hd
    subst hc hd
    refine call_meets PySem.F.slot_list_count ⟨_, ho, rfl⟩ PySem.F.entry_list_count (PySem.F.args_list_count_2 _ _)
      (SeqAt.list_countAt p its.toArray n dd sl uy (eqU y)) ⟨ho, fun u hu => mem_eqAt ry fy rv fys u (by simpa using hu), ?_⟩
    have ec : its.toArray.toList.countP (eqU y) = ys.countP fun z => eqV z y := count_eqU rv fys
    refine ⟨.int ((ys.countP fun z => eqV z y : Nat) : Int), H, I.tok _, ⟨s.toks, ?_⟩, q⟩
    show Value.int ((its.toArray.toList.countP (eqU y) : Nat) : Int) s.toks = Value.int ((ys.countP fun z => eqV z y : Nat) : Int) s.toks
    rw [ec]
section
variable {K : PySem.W.Frag} {σ : L2.St} {H : Hp} {to : TE} {p : Addr} {ys : List V} {y : V} {te : TE}
theorem ev_count (ho : Ev to σ H (.ref p)) (hs : SqL K H p ys) (h : Ev te σ H y) (fy : flatV y = true) (fys : ys.all flatV = true) (ht : ∀ H1, Ex H H1 → tyV K "list" (.ref p) H1) : Ev (tBM K "list" (rCntF K) to (tCons te tNil)) σ H (.int ((ys.countP fun z => eqV z y : Nat) : Int)) := fun H1 e Q q =>
  ho H1 e _ fun H2 e2 => ⟨ht H2 (e.trans e2), h H2 (e.trans e2) _ fun H3 e3 => ⟨p, ys, y, rfl, rfl, ex_l ((e.trans e2).trans e3) hs, fy, fys, q H3 (e2.trans e3)⟩⟩
theorem ty_list (h : H p = some (.lst ys)) : tyV K "list" (.ref p) H := .inl ⟨rfl, ys, sq_of h⟩
end
end MV
namespace MV
open PySem PySem.Spec PyProof.Rows L2 Evl LamX
/-! ### sorted(xs, key=lambda a: body): some order of the items -/
theorem vals_perm : ∀ {us vs : List Value}, us.Perm vs → ∀ {xs : List V}, Vals xs us → ∃ ys, ys.Perm xs ∧ Vals ys vs := by
  intro us vs h
  induction h with
  | nil => intro xs r; exact ⟨xs, .refl _, r⟩
  | cons u _ ih =>
    intro xs r
    cases r with
    | cons r1 r2 =>
      obtain ⟨ys, p, q⟩ := ih r2
      exact ⟨_, p.cons _, .cons r1 q⟩
  | swap u v l =>
    intro xs r
    cases r with
    | cons r1 r2 =>
      cases r2 with
      | cons r3 r4 => exact ⟨_, List.Perm.swap _ _ _, .cons r3 (.cons r1 r4)⟩
  | trans _ _ ih1 ih2 =>
    intro xs r
    obtain ⟨ys, p, q⟩ := ih1 r
    obtain ⟨zs, p2, q2⟩ := ih2 q
    exact ⟨zs, p2.trans p, q2⟩
theorem kskout_perm {kz : List Int} {vs out : List Value} (h : KskOut false kz vs out) (hl : kz.length = vs.length) : out.Perm vs := by
  obtain ⟨ps, hp, e, _⟩ := h
  rw [e]
  have := hp.map Prod.snd
  rwa [List.map_snd_zip (Nat.le_of_eq hl.symm)] at this
section
variable {X : Cx} {pins : List (Addr × Obj)} {σ : L2.St} {H H' : Hp} {s : Shared}
/-- an object not tracked yet, new since the entry, is tracked from now on -/
theorem inv_track {o : HO} {a : Addr} (I : Inv X pins σ H s) (f : FpOk X pins H a) (hx : X.ex = []) (new : ObjOk X.prog X.w (upd H a o) s.heap a o) : Inv X pins σ (upd H a o) s := by
  obtain ⟨f0, f1, f2, f3, f4, f5⟩ := f
  have hge : X.s_0.heap.objs.size ≤ a := f3.resolve_left fun z => by rw [hx] at z; cases z
  have ne : ∀ b u, H b = some u → b ≠ a := fun b u e => ne_of_none e f0
  refine ⟨I.ok, I.os, I.bare, ⟨I.base.keep, I.base.slot, fun b o' e n hb => ?_, I.base.there, fun b xs e => ?_, fun b o' xs e => ?_, fun b ps e => ?_⟩, I.loc, I.cell, ?_, fun x c e => ?_, fun p hp => ?_, fun b u e => ?_, I.len⟩
  · have hlt := Heap.lt_size e
    rw [upd_ne (Nat.ne_of_lt (Nat.lt_of_lt_of_le hlt hge))]
    exact I.base.free b o' e n hb
  · have q := I.base.tups b xs e
    rw [upd_ne (ne b _ q)]
    exact q
  · have q := I.base.frzs b o' xs e
    rw [upd_ne (ne b _ q)]
    exact q
  · obtain ⟨more, q⟩ := I.base.tbls b ps e
    exact ⟨more, by rw [upd_ne (ne b _ q)]; exact q⟩
  · rw [upd_ne (Ne.symm f1)]
    exact I.free
  · rw [upd_ne (f4 x c e)]
    exact I.freeC x c e
  · obtain ⟨e, n, r⟩ := I.pin p hp
    exact ⟨e, by rw [upd_ne (f5 p hp)]; exact n, r⟩
  · by_cases hb : b = a
    · subst hb
      rw [upd_same] at e
      cases e
      exact new
    · rw [upd_ne hb] at e
      exact (I.hok b u e).stay (fun c v _ q => q) (fun c q => by rw [upd_ne (ne c _ q)]; exact q) fun c xs q => by rw [upd_ne (ne c _ q)]; exact q
theorem inv_turn {h' : Heap} {it : Addr} (I : Inv X pins σ H s) (f : FpOk X pins H it) (k : Heap.SameBut it s.heap h') : Inv X pins σ H { s with heap := h', toks := s.toks } := by
  obtain ⟨f0, f1, f2, f3, f4, f5⟩ := f
  exact I.turned (fun b o hb e => (k.2 b hb).trans e) f0 f1 f3 f4 f5
end
section
variable {X : Cx} {pins : List (Addr × Obj)} {σ : L2.St} {H H2 : Hp} {s : Shared} {A : Around} {E : Value → Shared → Prop} {a kS : Addr} {vs : List Value} {kz : List Int} {keys : Array Value} {e e1 : Nat} {P : PySem.Fin → Shared → Prop}
/-- what the sort leaves -/
abbrev SortEnd (X : Cx) (pins : List (Addr × Obj)) (σ : L2.St) (H2 : Hp) (a : Addr) (vs : List Value) (P : PySem.Fin → Shared → Prop) : Prop :=
  ∀ (H : Hp) (s' : Shared) (out : Array Value) (c : Nat), Inv X pins σ H s' → Ex H2 H → FpOk X pins H a → s'.heap.get? a = some (seqObj "list" out c) → out.toList.Perm vs → P (.done (.ret .none)) s'
theorem lam_tail {st : SortSt} (I : Inv X pins σ H s) (hx : Ex H2 H) (fa : FpOk X pins H a) (fk : FpOk X pins H kS) (hka : kS ≠ a) (nk : s.heap.get? kS = some (seqObj "list" keys e)) (na : s.heap.get? a = some (seqObj "list" #[] e1))
    (hk : IntsAre keys.toList kz) (hlen : kz.length = vs.length) (h64 : vs.length < 64) (hp : (arrOf st).Perm (keys.zip vs.toArray)) (hs : SortedTo (arrOf st) (arrOf st).size) (hfl : failedOf st = none) (h : SortEnd X pins σ H2 a vs P) :
    wpAny (model X.prog X.w) A (ksk_tail a false e1 (.ref kS) st) P E s := by
  have hsz : keys.size = vs.length := by
    have h1 := hk.length
    rw [Array.length_toList] at h1
    omega
  have hsz2 : (arrOf st).size = vs.length := by rw [hp.size_eq, Array.size_zip, hsz, List.size_toArray, Nat.min_self]
  have s1 := Heap.SameBut.update s.heap kS (Obj.mapSeq fun _ => (#[] : Array Value))
  have na1 : (s.heap.update kS (Obj.mapSeq fun _ => (#[] : Array Value))).get? a = some (seqObj "list" #[] e1) := (s1.2 a hka.symm).trans na
  have s2 := Heap.SameBut.update (s.heap.update kS (Obj.mapSeq fun _ => (#[] : Array Value))) a (Obj.mapSeq fun _ => (arrOf st).map (·.2))
  obtain ⟨c2, hc2⟩ : ∃ c2, ((s.heap.update kS (Obj.mapSeq fun _ => (#[] : Array Value))).update a (Obj.mapSeq fun _ => (arrOf st).map (·.2))).get? a = some (seqObj "list" ((arrOf st).map (·.2)) c2) :=
    ⟨_, get?_update_seq na1 fun _ => (arrOf st).map (·.2)⟩
  have I1 := inv_turn I fk s1
  have I2 := inv_turn I1 fa s2
  unfold ksk_tail
  try dsimp only
  refine wpAny_bind (listUpdate_at nk rfl ?_ (by rw [hsz, sizeLine_eq]; omega) (Nat.zero_le _))
  refine wpAny_bind (wpAny_letGo ?_)
  refine wpAny_bind (seqEpoch_at na1 rfl ?_)
  refine wpAny_bind (listUpdate_at na1 rfl ?_ (Nat.zero_le _) (by show ((arrOf st).map (·.2)).size ≤ _; rw [Array.size_map, hsz2, sizeLine_eq]; omega))
  rw [hfl]
  simp only [bne_self_eq_false, Bool.false_eq_true, if_false]
  have ho := ksk_out (b := false) hk hp hs
  exact wpAny_pure (h H _ _ c2 I2 hx fa hc2 (kskout_perm ho hlen))
theorem lam_end (I : Inv X pins σ H s) (hx : Ex H2 H) (fa : FpOk X pins H a) (fk : FpOk X pins H kS) (hka : kS ≠ a) (nk : s.heap.get? kS = some (seqObj "list" keys e)) (na : s.heap.get? a = some (seqObj "list" #[] e1))
    (hk : IntsAre keys.toList kz) (hlen : kz.length = vs.length) (h64 : vs.length < 64) (h : SortEnd X pins σ H2 a vs P) :
    wpAny (model X.prog X.w) A (ksk_end a false vs.toArray e1 (.ref kS) keys) P E s := by
  have hsz : keys.size = vs.length := by
    have h1 := hk.length
    rw [Array.length_toList] at h1
    omega
  have hzs : (keys.zip vs.toArray).size = vs.length := by rw [Array.size_zip, hsz, List.size_toArray, Nat.min_self]
  unfold ksk_end
  simp only [Bool.false_eq_true, if_false]
  by_cases h2 : vs.toArray.size < 2
  · rw [if_pos h2, if_pos h2]
    refine wpAny_bind (wpAny_pure ?_)
    rw [StateT.run_pure]
    refine wpAny_bind (wpAny_pure ?_)
    try dsimp only
    refine lam_tail (st := SortSt.mk' general' (keys.zip vs.toArray) #[] 7 none) I hx fa fk hka nk na hk hlen h64 (Array.Perm.refl _) ?_ rfl h
    intro i j hij hj
    have hj2 : j < (keys.zip vs.toArray).size := hj
    rw [hzs] at hj2
    rw [List.size_toArray] at h2
    have : i = j := by omega
    subst this
    exact Int.le_refl _
  · rw [if_neg h2, if_neg h2]
    rw [List.size_toArray] at h2
    rw [ksk_kind hk (by rw [hsz]; omega)]
    refine wpAny_bind (wpAny_pure ?_)
    refine wpAny_bind (wpAny_mono (wpS_sortRuns (a₀ := keys.zip vs.toArray) (st := SortSt.mk' oneType' (keys.zip vs.toArray) #[] 7 none)
      (Q := fun _ st' => (arrOf st').Perm (keys.zip vs.toArray) ∧ failedOf st' = none ∧ SortedTo (arrOf st') (keys.zip vs.toArray).size)
      (ksk_intKeys hk) ⟨Array.Perm.refl _, rfl, rfl, rfl⟩ (by rw [hzs]; omega) (by rw [hzs]; exact h64) fun st' a1 a2 a3 => ⟨a1, a2, a3⟩) ?_ fun _ _ e => e)
    rintro ⟨⟨⟩, st'⟩ s' ⟨rfl, hp, hf, hs⟩
    try dsimp only
    exact lam_tail I hx fa fk hka nk na hk hlen h64 hp (by rw [hp.size_eq]; exact hs) hf h
/-- the keys are asked, one by one -/
theorem lam_rest {f : Value} (I : Inv X pins σ H s) (hx : Ex H2 H) (fa : FpOk X pins H a) (fk : FpOk X pins H kS) (hka : kS ≠ a) (nk : s.heap.get? kS = some (seqObj "list" #[] 0)) (na : s.heap.get? a = some (seqObj "list" #[] e1)) (h64 : vs.length < 64)
    (turn : ∀ (pins' : List (Addr × Obj)) (H' : Hp) (s' : Shared) (v : Value), v ∈ vs → Inv X (pins ++ pins') σ H' s' → Ex H2 H' → wpAny (model X.prog X.w) A (call f [v]) (EP X (pins ++ pins') σ fun v H'' => (∃ n, v = .int n) ∧ Ex H2 H'') (fun _ _ => False) s')
    (h : SortEnd X pins σ H2 a vs P) :
    wpAny (model X.prog X.w) A (ksk_rest a f false vs.toArray e1 (.ref kS)) P E s := by
  have up : ∀ {H0 : Hp} {b : Addr}, FpOk X pins H b → H0 b = none → FpOk X pins H0 b := fun f n => ⟨n, f.2⟩
  unfold ksk_rest
  refine wpAny_bind (wpAny_rule ?_)
  first
    | rw [List.forIn_toArray]
    | (rw [← Array.forIn_toList]; simp only [List.toList_toArray])
    | rw [← Array.forIn_toList]
  refine wpAny_bind (ksk_fold (fun i s' => ∃ H' kA e kz, Inv X pins σ H' s' ∧ Ex H2 H' ∧ H' a = none ∧ H' kS = none ∧ s'.heap.get? kS = some (seqObj "list" kA e) ∧ s'.heap.get? a = some (seqObj "list" #[] e1) ∧ IntsAre kA.toList kz ∧ kz.length = i) vs 0 s
    ⟨H, #[], 0, [], I, hx, fa.1, fk.1, nk, na, IntsAre.nil, rfl⟩ ?step ?done)
  case step =>
    rintro j x s' hx' ⟨H', kA, e, kz, I', ex', na0, nk0, nk', na', hk, hl⟩
    have hj : j < vs.length := (List.getElem?_eq_some_iff.mp hx').1
    have hz : kA.size ≤ vs.length := by
      have h1 := hk.length
      rw [Array.length_toList] at h1
      omega
    have noc : ∀ (xs : Array Value) (n : Nat) (v : Option Value), (seqObj "list" xs n).data ≠ .cell v := fun _ _ _ z => by cases z
    have Ip : Inv X (pins ++ [(a, seqObj "list" #[] e1), (kS, seqObj "list" kA e)]) σ H' s' := I'.pins_of fun p hp => by
      rcases List.mem_append.mp hp with z | z
      · exact I'.pin p (List.mem_append_right _ z)
      · rcases List.mem_cons.mp z with z | z
        · subst z
          exact ⟨na', na0, fa.2.1, fa.2.2.1, noc _ _⟩
        · rw [List.mem_singleton.mp z]
          exact ⟨nk', nk0, fk.2.1, fk.2.2.1, noc _ _⟩
    refine wpAny_bind (wpAny_attempt (wpAny_mono (turn _ H' s' x (List.mem_of_getElem? hx') Ip ex') (fun v s'' he => ?_) fun _ _ hF => hF.elim))
    obtain ⟨v', H'', I'', rv, ⟨n, hn⟩, ex''⟩ := he
    subst hn
    obtain ⟨t, rfl⟩ := rv
    try dsimp only
    obtain ⟨pa, na2, _⟩ := I''.pin (a, seqObj "list" #[] e1) (List.mem_append_right _ (List.mem_append_right _ List.mem_cons_self))
    obtain ⟨pk, nk2, _⟩ := I''.pin (kS, seqObj "list" kA e) (List.mem_append_right _ (List.mem_append_right _ (List.mem_cons_of_mem _ List.mem_cons_self)))
    have J := I''.unpinned
    have s1 := Heap.SameBut.update s''.heap kS (Obj.mapSeq (·.push (.int n t)))
    obtain ⟨c2, hc2⟩ : ∃ c2, (s''.heap.update kS (Obj.mapSeq (·.push (.int n t)))).get? kS = some (seqObj "list" (kA.push (.int n t)) c2) := ⟨_, get?_update_seq pk (·.push (.int n t))⟩
    have ea : (kA.push (Value.int n t)).toList = kA.toList ++ [Value.int n t] := by simp
    refine wpAny_bind (listUpdate_at pk rfl ?_ (by rw [sizeLine_eq]; omega) (Nat.le_trans (Nat.le_of_eq (Array.size_push ..)) (by rw [sizeLine_eq]; omega)))
    exact wpAny_pure ⟨rfl, H'', kA.push (.int n t), c2, kz ++ [n], inv_turn J (up fk nk2) s1, ex'', na2, nk2, hc2, (s1.2 a hka.symm).trans pa, by rw [ea]; exact ksk_snoc hk, by rw [List.length_append, hl]; rfl⟩
  case done =>
    rintro s' ⟨H', kA, e, kz, I', ex', na0, nk0, nk', na', hk, hl⟩
    try dsimp only
    refine wpAny_bind (listItems_at nk' rfl ?_)
    exact lam_end I' ex' (up fa na0) (up fk nk0) hka nk' na' hk (by omega) h64 h
/-- sorted(xs, key=f), f's calls told by turn -/
theorem lam_sorted {l : Addr} {xs : List V} {f : Addr} {Q : VK} {E : Value → Shared → Prop} (hex : X.ex = []) (I : Inv X pins σ H s) (hl : SqL X.K H l xs) (h64 : xs.length < 64)
    (turn : ∀ (pins' : List (Addr × Obj)) (H' : Hp) (s' : Shared) (v : Value) (x : V), x ∈ xs → RelV x v → Inv X (pins ++ pins') σ H' s' → Ex H H' → wpAny (model X.prog X.w) X.A.in1.in1 (call (.ref f) [v]) (EP X (pins ++ pins') σ fun v H'' => (∃ n, v = .int n) ∧ Ex H H'') (fun _ _ => False) s')
    (q : ∀ (ys : List V) (p : Addr) (H1 : Hp), ys.Perm xs → H p = none → Ex H H1 → H1 p = some (.lst ys) → Q (.ref p) H1) :
    wpAny (model X.prog X.w) X.A (call (.builtin "sorted") [.ref l] [(Str.ofString "key", .ref f)]) (EP X pins σ Q) E s := by
  obtain ⟨its, rv, hli, hz⟩ := I.list hl
  have hlen := rv.length
  have h64' : its.length < 64 := by omega
  refine PySem.W.sorted_of_sort hli.isList (by rw [← hlen]; exact hz) (ksk_s1 _ _) (fun _ => ksk_l1 _ _) fun E' => ?_
  rw [ksk_t1]
  have hge : s.heap.objs.size ≤ s.heap.objs.size + 1 := Nat.le_succ _
  have fa : FpOk X pins H (s.heap.objs.size + 1) := I.fpOk hge (I.hok.fresh hge)
  have I1 : Inv X pins σ H { s with heap := PySem.W.copyHeap s.heap its } := I.kept (t' := s.toks) fun b o e => PySem.W.copyHeap_old e
  have ho := PySem.W.copyHeap_at s.heap its
  generalize hs1 : ({ s with heap := PySem.W.copyHeap s.heap its } : Shared) = s1 at I1
  have ho : s1.heap.get? (s.heap.objs.size + 1) = some (seqObj "list" its.toArray 0) := by rw [← hs1]; exact ho
  generalize s.heap.objs.size + 1 = a at fa ho
  have b1 := Heap.SameBut.update s1.heap a (Obj.mapSeq fun _ => (#[] : Array Value))
  obtain ⟨e1, ho1⟩ : ∃ e1, (s1.heap.update a (Obj.mapSeq fun _ => (#[] : Array Value))).get? a = some (seqObj "list" #[] e1) := ⟨_, get?_update_seq ho fun _ => #[]⟩
  have I2 := inv_turn I1 fa b1
  have I3 : Inv X pins σ H { s1 with heap := ((s1.heap.update a (Obj.mapSeq fun _ => (#[] : Array Value))).push (seqObj "tuple" its.toArray 0)).push (seqObj "list" #[] 0) } := I2.kept (t' := s1.toks) fun b o e => Heap.get?_push_of_some _ (Heap.get?_push_of_some _ e)
  have hkS : ((s1.heap.update a (Obj.mapSeq fun _ => (#[] : Array Value))).push (seqObj "tuple" its.toArray 0)).objs.size = s1.heap.objs.size + 1 := by rw [size_push', Heap.size_update]
  have hgk : s1.heap.objs.size ≤ s1.heap.objs.size + 1 := Nat.le_succ _
  have fk : FpOk X pins H (s1.heap.objs.size + 1) := I1.fpOk hgk (I1.hok.fresh hgk)
  have hka : s1.heap.objs.size + 1 ≠ a := fun z => Nat.lt_irrefl _ (Nat.lt_of_lt_of_le (Heap.lt_size ho) (by rw [← z]; exact hgk))
  unfold ksk_tree
  refine wpAny_bind (listItems_at ho rfl ?_)
  refine wpAny_bind (listUpdate_at ho rfl ?_ (by rw [List.size_toArray, sizeLine_eq]; omega) (Nat.zero_le _))
  refine wpAny_bind (seqEpoch_at ho1 rfl ?_)
  refine wpAny_bind (wpAny_newTuple ?_ (by show its.length ≤ _; rw [sizeLine_eq]; omega))
  refine wpAny_bind (wpAny_newList ?_ (Nat.zero_le _))
  refine wpAny_holding ?_
  rw [hkS]
  have nk : ((((s1.heap.update a (Obj.mapSeq fun _ => (#[] : Array Value))).push (seqObj "tuple" its.toArray 0)).push (seqObj "list" #[] 0))).get? (s1.heap.objs.size + 1) = some (seqObj "list" #[] 0) := by
    rw [← hkS]
    exact Heap.get?_push_size _ rfl
  refine lam_rest (H2 := H) (e1 := e1) I3 (Ex.refl H) fa fk hka nk (Heap.get?_push_of_some _ (Heap.get?_push_of_some _ ho1)) h64' (fun pins' H' s' v hv J ex => ?_) fun H' s' out c J ex fa' ha hp => ⟨rfl, ?_⟩
  · obtain ⟨j, hj⟩ := List.mem_iff_getElem?.mp hv
    have hjl := (List.getElem?_eq_some_iff.mp hj).1
    have hjx : j < xs.length := by omega
    obtain ⟨u, hu, ru⟩ := rv.get (List.getElem?_eq_getElem hjx)
    rw [hj] at hu
    cases hu
    exact turn pins' H' s' v _ (List.getElem_mem hjx) ru J ex
  · obtain ⟨ys, py, ry⟩ := vals_perm hp.symm rv
    have hly : ys.length = xs.length := py.length_eq
    have J2 := inv_track (o := .lst ys) J fa' hex ⟨by rw [hly]; exact hz, out.toList, c, ry, by rw [Array.toArray_toList]; exact ha⟩
    exact ⟨.ref a, upd H' a (.lst ys), J2, rfl, q ys a _ py fa.1 (ex.mut fa.1) upd_same⟩
end
end MV
namespace MV
open PySem PySem.Spec PyProof.Rows L2 Evl LamX
/-! ### a lambda of one parameter, as the key of sorted -/
structure LamS1 (sc scope : Scope) (a : Str) : Prop where
  kind : scope.kind = .function
  co : scope.isCoroutine = false
  gen : scope.isGenerator = false
  par : scope.names.lookup a = some .local
  loc : ∀ y, scope.names.lookup y = some .local → y = a
  nocell : ∀ y ∈ scope.names, y.2 ≠ .cell
  free : ∀ y ∈ scope.names, y.2 = .free → sc.names.lookup y.1 = some .cell ∨ sc.names.lookup y.1 = some .free
def lamS1B (sc scope : Scope) (a : Str) : Bool :=
  decide (scope.kind = .function) && !scope.isCoroutine && !scope.isGenerator && decide (scope.names.lookup a = some .local) && scope.names.all fun y => (!decide (y.2 = .local) || decide (y.1 = a)) && !decide (y.2 = .cell) && (!decide (y.2 = .free) || decide (sc.names.lookup y.1 = some .cell) || decide (sc.names.lookup y.1 = some .free))
theorem lamS1_by {sc scope : Scope} {a : Str} (h : lamS1B sc scope a = true) : LamS1 sc scope a := by
  unfold lamS1B at h
  simp only [Bool.and_eq_true, Bool.or_eq_true, Bool.not_eq_true', decide_eq_true_eq, decide_eq_false_iff_not, List.all_eq_true] at h
  obtain ⟨⟨⟨⟨h1, h2⟩, h3⟩, h5⟩, h4⟩ := h
  refine ⟨h1, h2, h3, h5, fun y hy => ?_, fun y hy => (h4 y hy).1.2, fun y hy e => ?_⟩
  · rcases (h4 _ (PySem.mem_of_lookup hy)).1.1 with z | z
    · exact absurd rfl z
    · exact z
  · rcases (h4 y hy).2 with (z | z) | z
    · exact absurd e z
    · exact .inl z
    · exact .inr z
theorem LamS1.has {X : Cx} {scope : Scope} {a : Str} (L : LamS1 X.env.scope scope a) (ok : X.Ok) : ∀ y ∈ scope.names, y.2 = .free → ∃ c, X.env.cells.lookup y.1 = some c := fun y hy e => by
  rcases L.free y hy e with k | k
  · exact ok.has _ (.inl k)
  · exact ok.has _ (.inr k)
section
variable {X : Cx} {pins : List (Addr × Obj)} {σ : L2.St} {H : Hp} {s : Shared}
theorem lam_start1 {A : Around} {E : XK} {scope : Scope} {f c' : Addr} {h₁ : Heap} {tk i : Nat} {a : Str} {x : V} {u : Value} (I : Inv X pins σ H s) (hN : X.N.Nodup) (L : LamS1 X.env.scope scope a) (hi : X.N[i]? = some a) (e0 : Env0 X.prog X.w X.K X.mg X.base A X.stack s H) (hd : A.handled = none)
    (r : RelV x u) (hns : h₁.Ns s.heap.objs.size fun y => ([(a, u)] : List (Str × Value)).reverse.lookup y) (kp : ∀ b o, s.heap.get? b = some o → h₁.get? b = some o) :
    Inv (lamCx X A X.stack s H E scope f c') [] (σ.set i (some x)) H { s with heap := h₁, toks := tk } := by
  have hfree := L.has I.ok
  have cm : ∀ {y c}, (cloFrom X.env.cells scope.names []).lookup y = some c → X.env.cells.lookup y = some c := fun {y c} e => by
    rcases cloFrom_mem (PySem.mem_of_lookup e) with hm | ⟨h1, h2⟩
    · cases hm
    · obtain ⟨c1, hc⟩ := hfree _ h1 rfl
      have hc : X.env.cells.lookup y = some c1 := hc
      have e2 : c = c1 := by
        rw [h2, hc] <;> rfl
      rw [e2]
      exact hc
  have look : ∀ {y}, scope.names.lookup y = some .free → ∃ c, (cloFrom X.env.cells scope.names []).lookup y = some c := fun {y} hl => by
    have hy : (y, NameKind.free) ∈ scope.names := PySem.mem_of_lookup hl
    exact mem_lookup (cloFrom_has (cells := X.env.cells) (acc := []) hy)
  have cellK : ∀ {c : Addr} {v : Option Value}, s.heap.IsCell c v → h₁.IsCell c v := fun {c v} ⟨o, ho, hd⟩ => ⟨o, kp _ _ ho, hd⟩
  have noA : ∀ b : Addr, b ∉ (lamCx X A X.stack s H E scope f c').ex := fun b z => absurd (show b ∈ ([] : List Addr) from z) (by simp)
  have hiσ : i < σ.length := by rw [I.len]; exact (List.getElem?_eq_some_iff.mp hi).1
  refine ⟨⟨e0.mod, L.kind, rfl, rfl, Nat.le_refl _, fun y z c e1 e2 => I.ok.inj y z c (cm e1) (cm e2), fun y hy => ?_, fun y c z _ => ?_, fun _ => hd, Around.frames_deeper e0.frames, .inr ⟨rfl, rfl⟩, fun b z => absurd z (noA b), e0.bs, e0.bsz, fun b _ _ => noA b,
      fun b z => absurd z (noA b), e0.funs, e0.frf⟩,
    rfl, e0.bare, Un.kept kp, ⟨_, hns, fun j y v e1 e2 e3 => ?_⟩, fun y c e => ?_, e0.hok.fresh (Nat.le_refl _), fun y c e => ?_, fun q hq => absurd (show q ∈ ([] : List (Addr × Obj)) ++ [] from hq) (by simp), e0.hok.kept kp, by rw [List.length_set]; exact I.len⟩
  · have hy : scope.names.lookup y = some .cell ∨ scope.names.lookup y = some .free := hy
    rcases hy with hy | hy
    · exact absurd rfl (L.nocell _ (PySem.mem_of_lookup hy))
    · exact look hy
  · have z : false = true := z
    cases z
  · have e3 : Vis scope y := e3
    have e1 : X.N[j]? = some y := e1
    rcases e3 with k | k | k
    · have ya := L.loc y k
      subst ya
      have hj := nodup_ix hN e1 hi
      subst hj
      rw [List.getElem?_set_self hiσ] at e2
      cases e2
      refine ⟨u, r, .inl ⟨k, ?_⟩⟩
      show ([(y, u)] : List (Str × Value)).reverse.lookup y = some u
      simp
    · exact absurd rfl (L.nocell _ (PySem.mem_of_lookup k))
    · have hne : i ≠ j := fun z => by
        subst z
        rw [hi] at e1
        cases e1
        rw [L.par] at k
        cases k
      rw [List.getElem?_set_ne hne] at e2
      obtain ⟨m, hn, hl⟩ := I.loc
      have hvis : Vis X.env.scope y := (L.free _ (PySem.mem_of_lookup k) rfl).elim (fun k => .inr (.inl k)) (fun k => .inr (.inr k))
      obtain ⟨w', r', q⟩ := hl j y v e1 e2 hvis
      obtain ⟨c2, h2⟩ := look k
      refine ⟨w', r', .inr ⟨.inr k, c2, h2, ?_⟩⟩
      have c1 := cm h2
      rcases q with ⟨k', _⟩ | ⟨_, c3, e', z⟩
      · have k' : X.env.scope.names.lookup y = some .local := k'
        rcases L.free _ (PySem.mem_of_lookup k) rfl with k2 | k2 <;> rw [show X.env.scope.names.lookup y = _ from k2] at k' <;> cases k'
      · rw [c1] at e'
        cases e'
        exact cellK z
  · obtain ⟨w', z⟩ := I.cell y c (cm e)
    exact ⟨w', cellK z⟩
  · exact I.freeC y c (cm e)
/-- the key's call -/
theorem lam_key {params : Arguments} {body : Expr} {scope : Scope} {pm ctv : Value} {f c' : Addr} {a : Str} {i k : Nat} {x : V} {u : Value} {tb : TE} {Q : VK} {A : Around} (I : Inv X pins σ H s) (hN : X.N.Nodup) (L : LamS1 X.env.scope scope a) (hi : X.N[i]? = some a)
    (hf : s.heap.get? f = some (PySem.W.kla_obj "<lambda>" (X.env.qual ++ "<lambda>") params body scope (cloFrom X.env.cells scope.names []) pm c' ctv)) (hc : H c' = some (CodeO c' (X.env.qual ++ "<lambda>")))
    (hbind : bindArgs (PySem.W.kla_fn "<lambda>" (X.env.qual ++ "<lambda>") params body scope (cloFrom X.env.cells scope.names []) pm (.ref c') ctv) ⟨[u], []⟩ = pure [(a, u)])
    (e0 : Env0 X.prog X.w X.K X.mg X.base A X.stack s H) (hr : Room (k + 1) A)
    (hbody : ∀ (A : Around) (outer : List Env) (s : Shared) (H : Hp) (f c' : Addr), Room k (A.deeper (lamEnv X scope s.heap.objs.size f c')) → PE (lamCx X A outer s H C8.E0 scope f c') body tb)
    (r : RelV x u) (ht : tb (σ.set i (some x)) H Q) : wpAny (model X.prog X.w) A (call (.ref f) [u]) (EP X pins σ Q) (fun _ _ => False) s := by
  obtain ⟨⟨oc, vs, t, hoc, hdc, hvc⟩, _, _⟩ := I.hok c' _ hc
  have rc : codeAny (model X.prog X.w) A (.call (.ref f) ⟨[u], []⟩) (CR (L2.CX X.prog X.w) X.stack X.prog X.w H s Q C8.E0) s := by
    refine PySem.W.kla_callFunE hr.depth hf rfl L.co L.gen rfl ⟨c', oc, vs, t, rfl, hoc, hdc, hvc⟩ ?_
    rw [hbind]
    refine wpAny_pure (wpAny_newFunctionEnv (fun y hy => L.nocell y hy) (fun y hy => by rw [List.mem_singleton.mp hy]; exact L.par) (fun h₁ hns hsb => ⟨I.nolimit.fresh _ hsb, ?_⟩) L.kind)
    show codeAny _ _ (.expr body (lamEnv X scope s.heap.objs.size f c')) _ _
    have kp : ∀ b o, s.heap.get? b = some o → h₁.get? b = some o := fun b o e => hsb.extBut b o (Nat.ne_of_lt (Heap.lt_size e)) (Heap.get?_push_of_some _ e)
    have J : Inv (lamCx X A X.stack s H C8.E0 scope f c') [] (σ.set i (some x)) H { s with heap := h₁, toks := s.toks + ([(a, u)] : List (Str × Value)).length } := lam_start1 I hN L hi e0 hr.hd r hns kp
    refine PySem.W.kla_codeExpr (wpAny_mono ((hbody A X.stack s H f c' (hr.deeper _)).run [] _ _ H Q J ht) (fun v s' hq => ?_) fun e s' hq => hq)
    obtain ⟨w', H', J', rv, q⟩ := hq
    exact ⟨w', H', J'.os, J'.bare, J'.base, J'.hok, rv, q⟩
  refine wpAny_call (codeAny_mono rc fun r s' hq => ?_)
  cases r with
  | error e =>
    obtain ⟨_, _, _, _, _, _, _, _, _, _, _, _, z⟩ := hq
    exact False.elim z
  | ok fl =>
    cases fl with
    | ret u => exact I.after hq
    | next => exact False.elim hq
    | brk => exact False.elim hq
    | cont => exact False.elim hq
/-- sorted(e, key=lambda a: body): P the table of the def's code object -/
def tSortL (K : PySem.W.Frag) (P : Addr) (q : Str) (i : Nat) (ta : TA) (tb : TE) : TE := fun σ H Q => ta σ H fun vs H1 => ∃ (l : Addr) (xs : List V), vs = [.ref l] ∧ SqL K H1 l xs ∧ xs.length < 64 ∧ TabS H1 P q ∧ ∀ H2, ExtN H1 H2 → TabS H2 P q → SqL K H2 l xs ∧
  (∀ x ∈ xs, ∀ H3, Ex H2 H3 → tb (σ.set i (some x)) H3 fun v H4 => (∃ n, v = .int n) ∧ Ex H3 H4) ∧ ∀ (ys : List V) (p : Addr) (H3 : Hp), ys.Perm xs → H2 p = none → Ex H2 H3 → H3 p = some (.lst ys) → Q (.ref p) H3
theorem pe_sortL {P c : Addr} {a : Str} {i k : Nat} {e : Expr} {ta : TA} {tb : TE} {params : Arguments} {body : Expr} {scope : Scope} {p pos lpos kpos : Pos} (hg : Gl X "sorted") (hm : X.mg "sorted" = none) (hex : X.ex = []) (hN : X.N.Nodup) (hi : X.N[i]? = some a)
    (TB : TabB X.base X.mg c P) (hcode : X.env.code = .ref c) (L : LamS1 X.env.scope scope a) (hr : Room (k + 3) X.A) (he : PA X [e] ta)
    (hbody : ∀ (A : Around) (outer : List Env) (s : Shared) (H : Hp) (f c' : Addr), Room k (A.deeper (lamEnv X scope s.heap.objs.size f c')) → PE (lamCx X A outer s H C8.E0 scope f c') body tb)
    (hdef : defaultsOf params X.env = ([], []) := by rfl)
    (hbind : ∀ (q : Str) (cl : List (Str × Addr)) (pm cv ctv u : Value), bindArgs (PySem.W.kla_fn "<lambda>" q params body scope cl pm cv ctv) ⟨[u], []⟩ = pure [(a, u)] := by intros; rfl)
    (hse : backTo pos (starEach [e] X.env) = (false, eval e X.env) :: backTo pos (starEach [] X.env) := by rfl) (hpl : (backTo pos (starEach [e] X.env)).any (·.1) = false := by rfl) :
    PE X (.Call (.Name "sorted" p) [e] [⟨some (Str.ofString "key"), .Lambda params body scope lpos, kpos⟩] pos) (tSortL X.K P (X.env.qual ++ "<lambda>") i ta tb) := by
  refine ⟨fun pins s σ H Q I h => ?_⟩
  refine wpAny_Call_Name_kw (ld_blt I hg hm PyProof.Rows.boot_sorted ?_)
  refine PyProof.Rows.callWith_kw (thn (he.run pos pins s σ H _ I h) fun us s1 ⟨vs, H1, I1, r1, l, xs, evs, hs, h64, hT, k1⟩ => ?_) hse hpl (by rfl) (by rfl)
  subst evs
  obtain rfl := Vals.ref1 r1
  show wpAny _ _ (evalAll [do let v ← eval (.Lambda params body scope lpos) X.env; standAt pos; pure v]) _ _ s1
  have hTs : Tabs [(P, X.env.qual ++ "<lambda>")] H1 := fun z hz => by rw [List.mem_singleton.mp hz]; exact hT
  refine wpAny_evalAll_cons (wpAny_bind (lam_make2 I1 TB hcode (List.mem_singleton.mpr rfl) (fun z hz _ => by rw [List.mem_singleton.mp hz]) hTs hdef (L.has I1.ok) fun f c' pm ctv H2 s2 I2 eN T2 hf hfn hfr hco => wpAny_bind (wpAny_standAt (wpAny_pure (wpAny_evalAll_nil ?_)))))
  obtain ⟨hs2, hkey, hq⟩ := k1 H2 eN (T2 _ (List.mem_singleton.mpr rfl))
  show wpAny _ _ (call (.builtin "sorted") [.ref l] [(Str.ofString "key", .ref f)]) _ _ s2
  have nL : f ≠ X.env.locals := fun z => by
    obtain ⟨m, ⟨o, es, ep, ho, hd, _⟩, _⟩ := I2.loc
    rw [← z, hf] at ho
    cases ho
    cases hd
  have nfs : f ∉ X.fs := fun z => by
    rcases I2.ok.stk with e | ⟨e, hfm⟩
    · rw [e] at hfr
      exact hfr z
    · rw [e] at hfr
      refine hfr ?_
      show f ∈ List.filterMap (·.frame) (X.env :: X.outer)
      rw [List.filterMap_cons, hfm]
      exact List.mem_cons_of_mem _ z
  have Ip : Inv X (pins ++ [(f, PySem.W.kla_obj "<lambda>" (X.env.qual ++ "<lambda>") params body scope (cloFrom X.env.cells scope.names []) pm c' ctv)]) σ H2 s2 := I2.pins_of fun z hz => by
    rcases List.mem_append.mp hz with w | w
    · exact I2.pin z (List.mem_append_right _ w)
    · rw [List.mem_singleton.mp w]
      exact ⟨hf, hfn, nL, nfs, fun v e => by cases e⟩
  refine thn (lam_sorted (Q := Q) hex Ip hs2 h64 (fun pins' H' s' v x hx rv J ex => ?_) hq) fun u s3 hu => ?_
  · have hf' := (J.pin (f, PySem.W.kla_obj "<lambda>" (X.env.qual ++ "<lambda>") params body scope (cloFrom X.env.cells scope.names []) pm c' ctv) (List.mem_append_right _ (List.mem_append_left _ (List.mem_append_right _ (List.mem_singleton.mpr rfl))))).1
    refine thn (lam_key J hN L hi hf' (ex _ _ hco) (hbind _ _ _ _ _ _) (e0 := J.env0.in1.in1) (k := k) ((hr.in1).in1) hbody rv (hkey x hx H' ex)) fun u s4 hu => ?_
    obtain ⟨w, H4, J4, r4, hn, e4⟩ := hu
    exact ⟨w, H4, J4, r4, hn, ex.trans e4⟩
  · obtain ⟨v, H', J, rv, hv⟩ := hu
    exact ⟨v, H', J.unpinned, rv, hv⟩
end
end MV
namespace MV
open PySem PySem.Spec PyProof.Rows L2 Evl LamX
/-! ### a def that makes lambdas: its code object is at c -/
structure FunC (K : PySem.W.Frag) (x qual : Str) (st : Stmt) (f : Addr) (fd : FuncData) (c : Addr) : Prop where
  ex : ∃ (oc : Value) (od : Option Addr) (kV doc pm : Value) (an : Option Addr) (ct : Value) (osl : Array (Option Value)),
    fd = PySem.W.fnOf x qual (defArgs st) (defBody st) (defScope st) .none kV doc pm an (.ref c) ct ∧ K.lookup f = some ⟨oc, od, .func fd, osl⟩ ∧ PySem.W.codeIn K (.ref c) qual = true
abbrev lamQ (q : Str) : Str := (q ++ ".<locals>.") ++ "<lambda>"
theorem okC {P : Program} {w : World} {K : PySem.W.Frag} {mg : Str → Option Value} {base : Heap} {x qual : Str} {st : Stmt} {f c : Addr} {fd : FuncData} {N ps : List Str} {k : Nat} {sp : Sp} (F : FunC K x qual st f fd c) (S : FnScope N ps (defScope st)) (len : ∀ vs H Q E, sp vs H Q E → vs.length = ps.length)
    (hbody : ∀ (A : Around) (outer : List Env) (s : Shared) (H : Hp) (vs : List V) (Q : VK) (E : XK), Room k (A.deeper (envOfC qual (defScope st) s.heap.objs.size f (.ref c))) → sp vs H Q E →
      ∃ t, PSs (cxOf CX0 P w K mg base N qual (defScope st) f (.ref c) A outer s H E).nox (defBody st) t ∧ t { nx := fun _ H' => Q .non H', rt := Q } (L2.start N vs) H) : FnOk P w K mg base CX0 (k + 1) f fd ps sp := by
  obtain ⟨oc, od, kV, doc, pm, an, ct, osl, rfl, lk, hcd⟩ := F.ex
  refine fn_of lk hcd S len fun A outer s H vs Q E hr hsp => ?_
  obtain ⟨t, h, q⟩ := hbody A outer s H vs Q E hr hsp
  exact ⟨t, h.nox, q⟩
end MV
namespace MV
open PySem PySem.Spec PyProof.Rows L2 Evl LamX
/-! ### heaps behind the making of a lambda: all but the tables are kept -/
theorem exn_rd {H H' : Hp} {a : Addr} {u : HO} (e : ExtN H H') (hu : ∀ ps, u ≠ .tbl ps) (h : Rd H a u) : Rd H' a u := by
  rcases h with h | ⟨o, h⟩
  · exact .inl (e a _ h hu)
  · exact .inr ⟨o, e a _ h fun ps z => by cases z⟩
theorem exn_l {K : PySem.W.Frag} {H H' : Hp} {a : Addr} {xs : List V} (e : ExtN H H') (h : SqL K H a xs) : SqL K H' a xs := by
  rcases h with h | h
  · exact .inl (exn_rd e (fun ps z => by cases z) h)
  · exact .inr h
theorem exn_t {K : PySem.W.Frag} {H H' : Hp} {a : Addr} {xs : List V} (e : ExtN H H') (h : SqT K H a xs) : SqT K H' a xs := by
  rcases h with h | h
  · exact .inl (exn_rd e (fun ps z => by cases z) h)
  · exact .inr h
theorem exn_lst {H H' : Hp} {a : Addr} {xs : List V} (e : ExtN H H') (h : H a = some (.lst xs)) : H' a = some (.lst xs) := e a _ h fun ps z => by cases z
theorem exn_tup {H H' : Hp} {a : Addr} {xs : List V} (e : ExtN H H') (h : H a = some (.tup xs)) : H' a = some (.tup xs) := e a _ h fun ps z => by cases z
theorem exn_ins {H H' : Hp} {a C d : Addr} {fs : List (Str × V)} (e : ExtN H H') (h : H a = some (.ins C d fs)) : H' a = some (.ins C d fs) := e a _ h fun ps z => by cases z
theorem codeO_neL {c : Addr} {q : Str} (xs : List V) : CodeO c q ≠ .lst xs := fun z => by
  unfold CodeO at z
  cases z
/-- a table stays told where tables and code objects are kept -/
theorem tabS_mono {H H' : Hp} {P : Addr} {q : Str} (t : TabS H P q) (e : ∀ b o, H b = some o → ((∃ ps, o = .tbl ps) ∨ ∃ c q, o = CodeO c q) → H' b = some o) : TabS H' P q := by
  obtain ⟨ps, h1, h2, h3⟩ := t
  refine ⟨ps, e _ _ h1 (.inl ⟨ps, rfl⟩), h2, fun pos cv hc => ?_⟩
  obtain ⟨c, e1, e2⟩ := h3 pos cv hc
  exact ⟨c, e1, e _ _ e2 (.inr ⟨c, q, rfl⟩)⟩
theorem tabS_upd {H : Hp} {P p : Addr} {q : Str} {xs ys : List V} (t : TabS H P q) (h : H p = some (.lst xs)) : TabS (upd H p (.lst ys)) P q := tabS_mono t fun b o hb ho => by
  have : b ≠ p := fun z => by
    rw [z, h] at hb
    have hb := Option.some.inj hb
    rcases ho with ⟨ps, z2⟩ | ⟨c, q2, z2⟩
    · rw [z2] at hb; cases hb
    · rw [z2] at hb; exact codeO_neL xs hb.symm
  rw [upd_ne this]
  exact hb
theorem exn_mut {H H' : Hp} {p : Addr} {o : HO} (e : ExtN H H') (h : H p = none) : ExtN H (upd H' p o) := fun b u hb hn => by
  rw [upd_ne (ne_of_none hb h)]
  exact e b u hb hn
/-- places in an order -/
theorem perm_ints {ys : List V} {pl : List Nat} (h : ys.Perm (pl.map fun (i : Nat) => V.int (i : Int))) : ∃ ord : List Nat, ord.Perm pl ∧ ys = ord.map fun (i : Nat) => V.int (i : Int) := by
  let g : V → Nat := fun v => match v with | .int i => i.toNat | _ => 0
  refine ⟨ys.map g, ?_, ?_⟩
  · have := h.map g
    rw [List.map_map] at this
    have e : (pl.map (g ∘ fun (i : Nat) => V.int (i : Int))) = pl := by
      rw [show (g ∘ fun (i : Nat) => V.int (i : Int)) = id from funext fun i => Int.toNat_natCast i, List.map_id]
    rw [e] at this
    exact this
  · rw [List.map_map]
    refine (List.map_id ys).symm.trans (List.map_congr_left fun y hy => ?_)
    obtain ⟨i, _, rfl⟩ := List.mem_map.mp (h.mem_iff.mp hy)
    show V.int (i : Int) = V.int ((((i : Int)).toNat : Nat) : Int)
    rw [Int.toNat_natCast]
section
variable {K : PySem.W.Frag} {σ : L2.St} {H : Hp} {ta : TA} {tb : TE} {D : Ends} {tz : TS} {xs : List V} {l P : Addr} {q : Str} {i j : Nat}
theorem q_sortL (ha : EvA ta σ H [.ref l]) (hl : SqL K H l xs) (h64 : xs.length < 64) (hT : TabS H P q)
    (k : ∀ H2, ExtN H H2 → TabS H2 P q → (∀ x ∈ xs, ∃ n, Ev tb (σ.set i (some x)) H2 (.int n)) ∧ ∀ (ys : List V) (p : Addr) (H3 : Hp), ys.Perm xs → H2 p = none → Ex H2 H3 → H3 p = some (.lst ys) → tz D (σ.set j (some (.ref p))) H3) :
    tSeq (tAsg (tSortL K P q i ta tb) (gName j)) tz D σ H := by
  refine ha H (Ex.refl H) _ fun H1 e1 => ⟨l, xs, rfl, ex_l e1 hl, h64, hT.ext e1, fun H2 e2 T2 => ?_⟩
  have e02 := (ExtN.of e1).trans e2
  obtain ⟨k1, k2⟩ := k H2 e02 T2
  refine ⟨exn_l e02 hl, fun x hx H3 e3 => ?_, k2⟩
  obtain ⟨n, hn⟩ := k1 x hx
  exact hn H3 e3 _ fun H4 e4 => ⟨⟨n, rfl⟩, e4⟩
end
end MV
local macro_rules | `(tactic| walk_at "ev1") => `(tactic| (first
  | ((with_reducible apply Evl.ev_var); exact rfl)
  | with_reducible exact Evl.ev_c
  | with_reducible apply MV.ev_menuL
  | with_reducible exact Evl.ea_nil
  | with_reducible apply Evl.ea_cons
  | with_reducible apply MV.ev_chain
  | with_reducible apply Evl.ev_op
  | with_reducible apply Evl.ev_un
  | with_reducible apply Evl.ev_cb
  | with_reducible apply Evl.ev_notV
  | with_reducible apply Evl.et_test
  | with_reducible apply Evl.et_B
  | with_reducible apply Evl.et_not
  | with_reducible exact Evl.rv_I0
  | with_reducible exact Evl.ru_neg
  | with_reducible exact MV.rv_eqI
  | with_reducible exact MV.rv_neI
  | with_reducible exact MV.rv_eqS
  | with_reducible exact MV.rv_neS
  | with_reducible exact MV.rv_isN
  | with_reducible exact MV.rv_notN
  | with_reducible exact MV.rc_abs
  | with_reducible exact MV.rc_min2
  | with_reducible exact MV.rc_max2
  | with_reducible exact MV.rc_int
  | with_reducible exact MV.rc_intB
  | with_reducible exact MV.rc_len (by assumption)
  | with_reducible exact MV.rc_lenT (by assumption)
  | with_reducible exact MV.rv_ixInts (by assumption) (by omega) (by omega)
  | with_reducible exact Evl.rv_I (MV.cmul_r (by omega) (by omega))
  | with_reducible exact Evl.rv_I (MV.cmul_l (by omega) (by omega))
  | with_reducible exact Evl.rv_I (MV.cdiv_s (by omega) (by omega))
  | with_reducible exact Evl.rv_I (MV.cdiv_c (by decide +kernel) (by decide +kernel))
  | with_reducible exact Evl.rv_I (MV.cpow_c (by decide) (by decide) (by decide))
  | with_reducible exact Evl.rv_I (show (0 : Int) < _ by first | omega | decide +kernel)
  | with_reducible apply Evl.rv_I
  | (show _ = List.map L2.V.int (MV.toInts _); exact rfl)
  | (show (0 : Int) ≤ _; omega)
  | (show (_ : Int) < (List.length _ : Nat); simp only [List.length_cons, List.length_nil]; omega)
  | (show List.length _ ≤ 100; simp only [List.length_cons, List.length_nil]; omega)))
local macro_rules | `(tactic| walk_at "ev1") => `(tactic| with_reducible apply MV.ev_call0)
local macro_rules | `(tactic| walk_at "ev") => `(tactic| repeat' (walk_at "ev1"))
local macro_rules | `(tactic| walk_at "ev1") => `(tactic| (first
  | with_reducible apply MV.ev_andB
  | with_reducible apply MV.ev_orB
  | with_reducible apply MV.et_andB
  | with_reducible apply MV.et_orB
  | with_reducible exact MV.isi_int_bool
  | with_reducible exact MV.isi_int_int
  | with_reducible exact MV.isi_list_list (by assumption)
  | with_reducible exact MV.isi_tup_tup (by assumption)
  | with_reducible exact MV.isi_list_tup (by assumption)))
namespace MV
open PySem PySem.Spec PyProof.Rows L2 Evl LamX
def topS (i : Nat) : Stmt := PySem.Challenge.pw_midvalue_k15_whole_liars_found.main.body.getD i (.Pass ⟨0, 0, 0, 0⟩)
structure Ads where
  c_VoteError : Addr
  c_BadSettings : Addr
  c_BadStep : Addr
  c_NoSensor : Addr
  c_Sensor : Addr
  c_Voter : Addr
  f_middle : Addr
  d_middle : FuncData
  f_moved : Addr
  d_moved : FuncData
  f_agree : Addr
  d_agree : FuncData
  f_need_settings : Addr
  d_need_settings : FuncData
  f_need_step : Addr
  d_need_step : FuncData
  f_Sensor_init : Addr
  d_Sensor_init : FuncData
  f_Voter_init : Addr
  d_Voter_init : FuncData
  f_Voter_sensor : Addr
  d_Voter_sensor : FuncData
  f_Voter_state : Addr
  d_Voter_state : FuncData
  f_Voter_word : Addr
  d_Voter_word : FuncData
  f_Voter_is_close : Addr
  d_Voter_is_close : FuncData
  f_Voter_watch : Addr
  d_Voter_watch : FuncData
  f_Voter_wait : Addr
  d_Voter_wait : FuncData
  f_Voter_step : Addr
  d_Voter_step : FuncData
  f_l_cell : Addr
  d_l_cell : FuncData
  f_l_drawn : Addr
  d_l_drawn : FuncData
  f_l_settings : Addr
  d_l_settings : FuncData
  f_l_said : Addr
  d_l_said : FuncData
  f_law : Addr
  d_law : FuncData
  cd_law : Addr
  P_law : Addr
abbrev s_middle : Stmt := (topS 6)
abbrev s_moved : Stmt := (topS 7)
abbrev s_agree : Stmt := (topS 8)
abbrev s_need_settings : Stmt := (topS 15)
abbrev s_need_step : Stmt := (topS 16)
abbrev s_Sensor_init : Stmt := (inClass (topS 17) 0)
abbrev s_Voter_init : Stmt := (inClass (topS 18) 0)
abbrev s_Voter_given : Stmt := (inClass (topS 18) 1)
abbrev s_Voter_sensor : Stmt := (inClass (topS 18) 2)
abbrev s_Voter_state : Stmt := (inClass (topS 18) 3)
abbrev s_Voter_count : Stmt := (inClass (topS 18) 4)
abbrev s_Voter_word : Stmt := (inClass (topS 18) 5)
abbrev s_Voter_is_close : Stmt := (inClass (topS 18) 6)
abbrev s_Voter_watch : Stmt := (inClass (topS 18) 7)
abbrev s_Voter_wait : Stmt := (inClass (topS 18) 8)
abbrev s_Voter_step : Stmt := (inClass (topS 18) 9)
abbrev s_l_cell : Stmt := (topS 20)
abbrev s_l_drawn : Stmt := (topS 21)
abbrev s_l_settings : Stmt := (topS 22)
abbrev s_l_values : Stmt := (topS 23)
abbrev s_l_steps : Stmt := (topS 24)
abbrev s_l_said : Stmt := (topS 25)
abbrev s_law : Stmt := (topS 26)
structure Txt (K : PySem.W.Frag) (mg : Str → Option Value) (A : Ads) : Prop where
  n_ValueError : mg "ValueError" = none
  n_abs : mg "abs" = none
  n_all : mg "all" = none
  n_enumerate : mg "enumerate" = none
  n_int : mg "int" = none
  n_len : mg "len" = none
  n_list : mg "list" = none
  n_max : mg "max" = none
  n_min : mg "min" = none
  n_range : mg "range" = none
  n_sorted : mg "sorted" = none
  c_LEAST : ∃ t, mg "LEAST" = some (.int 3 t)
  c_MOST : ∃ t, mg "MOST" = some (.int 9 t)
  c_MOST_THRESHOLD : ∃ t, mg "MOST_THRESHOLD" = some (.int 1000000 t)
  c_MOST_COUNT : ∃ t, mg "MOST_COUNT" = some (.int 1000 t)
  c_MOST_VALUE : ∃ t, mg "MOST_VALUE" = some (.int 1000000000 t)
  g_VoteError : mg "VoteError" = some (.ref A.c_VoteError)
  x_VoteError : PySem.W.excIn K A.c_VoteError [.type "ValueError", .type "Exception", .type "BaseException", .type "object"] "ValueError.__new__" = true
  k_VoteError : PySem.W.keepIn K (.ref A.c_VoteError) = true
  xb_VoteError : PySem.W.subIn K (.ref A.c_VoteError) (.type "BaseException") = some true
  xt_VoteError : PySem.W.typeIn K (.ref A.c_VoteError) = some (.type "type")
  xi_VoteError : PySem.W.isClsIn K A.c_VoteError = true
  xs_VoteError_VoteError : PySem.W.subIn K (.ref A.c_VoteError) (.ref A.c_VoteError) = some true
  xs_VoteError_BadSettings : PySem.W.subIn K (.ref A.c_VoteError) (.ref A.c_BadSettings) = some false
  xs_VoteError_BadStep : PySem.W.subIn K (.ref A.c_VoteError) (.ref A.c_BadStep) = some false
  xs_VoteError_NoSensor : PySem.W.subIn K (.ref A.c_VoteError) (.ref A.c_NoSensor) = some false
  g_BadSettings : mg "BadSettings" = some (.ref A.c_BadSettings)
  x_BadSettings : PySem.W.excIn K A.c_BadSettings [.type "ValueError", .type "Exception", .type "BaseException", .type "object"] "ValueError.__new__" = true
  k_BadSettings : PySem.W.keepIn K (.ref A.c_BadSettings) = true
  xb_BadSettings : PySem.W.subIn K (.ref A.c_BadSettings) (.type "BaseException") = some true
  xt_BadSettings : PySem.W.typeIn K (.ref A.c_BadSettings) = some (.type "type")
  xi_BadSettings : PySem.W.isClsIn K A.c_BadSettings = true
  xs_BadSettings_VoteError : PySem.W.subIn K (.ref A.c_BadSettings) (.ref A.c_VoteError) = some true
  xs_BadSettings_BadSettings : PySem.W.subIn K (.ref A.c_BadSettings) (.ref A.c_BadSettings) = some true
  xs_BadSettings_BadStep : PySem.W.subIn K (.ref A.c_BadSettings) (.ref A.c_BadStep) = some false
  xs_BadSettings_NoSensor : PySem.W.subIn K (.ref A.c_BadSettings) (.ref A.c_NoSensor) = some false
  g_BadStep : mg "BadStep" = some (.ref A.c_BadStep)
  x_BadStep : PySem.W.excIn K A.c_BadStep [.type "ValueError", .type "Exception", .type "BaseException", .type "object"] "ValueError.__new__" = true
  k_BadStep : PySem.W.keepIn K (.ref A.c_BadStep) = true
  xb_BadStep : PySem.W.subIn K (.ref A.c_BadStep) (.type "BaseException") = some true
  xt_BadStep : PySem.W.typeIn K (.ref A.c_BadStep) = some (.type "type")
  xi_BadStep : PySem.W.isClsIn K A.c_BadStep = true
  xs_BadStep_VoteError : PySem.W.subIn K (.ref A.c_BadStep) (.ref A.c_VoteError) = some true
  xs_BadStep_BadSettings : PySem.W.subIn K (.ref A.c_BadStep) (.ref A.c_BadSettings) = some false
  xs_BadStep_BadStep : PySem.W.subIn K (.ref A.c_BadStep) (.ref A.c_BadStep) = some true
  xs_BadStep_NoSensor : PySem.W.subIn K (.ref A.c_BadStep) (.ref A.c_NoSensor) = some false
  g_NoSensor : mg "NoSensor" = some (.ref A.c_NoSensor)
  x_NoSensor : PySem.W.excIn K A.c_NoSensor [.type "ValueError", .type "Exception", .type "BaseException", .type "object"] "ValueError.__new__" = true
  k_NoSensor : PySem.W.keepIn K (.ref A.c_NoSensor) = true
  xb_NoSensor : PySem.W.subIn K (.ref A.c_NoSensor) (.type "BaseException") = some true
  xt_NoSensor : PySem.W.typeIn K (.ref A.c_NoSensor) = some (.type "type")
  xi_NoSensor : PySem.W.isClsIn K A.c_NoSensor = true
  xs_NoSensor_VoteError : PySem.W.subIn K (.ref A.c_NoSensor) (.ref A.c_VoteError) = some true
  xs_NoSensor_BadSettings : PySem.W.subIn K (.ref A.c_NoSensor) (.ref A.c_BadSettings) = some false
  xs_NoSensor_BadStep : PySem.W.subIn K (.ref A.c_NoSensor) (.ref A.c_BadStep) = some false
  xs_NoSensor_NoSensor : PySem.W.subIn K (.ref A.c_NoSensor) (.ref A.c_NoSensor) = some true
  g_Sensor : mg "Sensor" = some (.ref A.c_Sensor)
  cl_Sensor : Cls K A.c_Sensor
  mk_Sensor : Mk K A.c_Sensor A.f_Sensor_init
  na_Sensor_is_out : NoAttr K A.c_Sensor "is_out"
  na_Sensor_many : NoAttr K A.c_Sensor "many"
  g_Voter : mg "Voter" = some (.ref A.c_Voter)
  cl_Voter : Cls K A.c_Voter
  mk_Voter : Mk K A.c_Voter A.f_Voter_init
  na_Voter_threshold : NoAttr K A.c_Voter "threshold"
  na_Voter_rate : NoAttr K A.c_Voter "rate"
  na_Voter_misses : NoAttr K A.c_Voter "misses"
  na_Voter_backs : NoAttr K A.c_Voter "backs"
  na_Voter_sensors : NoAttr K A.c_Voter "sensors"
  na_Voter_last : NoAttr K A.c_Voter "last"
  F_middle : Fun K "middle" "middle" s_middle A.f_middle A.d_middle
  g_middle : mg "middle" = some (.ref A.f_middle)
  b_middle : Binds K A.d_middle ["numbers", "near"] []
  F_moved : Fun K "moved" "moved" s_moved A.f_moved A.d_moved
  g_moved : mg "moved" = some (.ref A.f_moved)
  b_moved : Binds K A.d_moved ["one", "goal", "most"] []
  F_agree : Fun K "agree" "agree" s_agree A.f_agree A.d_agree
  g_agree : mg "agree" = some (.ref A.f_agree)
  b_agree : Binds K A.d_agree ["numbers", "value", "threshold"] []
  F_need_settings : Fun K "need_settings" "need_settings" s_need_settings A.f_need_settings A.d_need_settings
  g_need_settings : mg "need_settings" = some (.ref A.f_need_settings)
  b_need_settings : Binds K A.d_need_settings ["settings"] []
  F_need_step : Fun K "need_step" "need_step" s_need_step A.f_need_step A.d_need_step
  g_need_step : mg "need_step" = some (.ref A.f_need_step)
  b_need_step : Binds K A.d_need_step ["values", "many"] []
  F_Sensor_init : Fun K "__init__" "Sensor.__init__" s_Sensor_init A.f_Sensor_init A.d_Sensor_init
  b_Sensor_init : Binds K A.d_Sensor_init ["self"] []
  F_Voter_init : Fun K "__init__" "Voter.__init__" s_Voter_init A.f_Voter_init A.d_Voter_init
  b_Voter_init : Binds K A.d_Voter_init ["self", "settings", "start"] []
  F_Voter_sensor : Fun K "sensor" "Voter.sensor" s_Voter_sensor A.f_Voter_sensor A.d_Voter_sensor
  m_Voter_sensor : Meth K A.c_Voter "sensor" A.f_Voter_sensor
  b_Voter_sensor : Binds K A.d_Voter_sensor ["self", "place"] []
  F_Voter_state : Fun K "state" "Voter.state" s_Voter_state A.f_Voter_state A.d_Voter_state
  m_Voter_state : Meth K A.c_Voter "state" A.f_Voter_state
  b_Voter_state : Binds K A.d_Voter_state ["self", "place"] []
  F_Voter_word : Fun K "word" "Voter.word" s_Voter_word A.f_Voter_word A.d_Voter_word
  m_Voter_word : Meth K A.c_Voter "word" A.f_Voter_word
  b_Voter_word : Binds K A.d_Voter_word ["self", "numbers", "value"] []
  F_Voter_is_close : Fun K "is_close" "Voter.is_close" s_Voter_is_close A.f_Voter_is_close A.d_Voter_is_close
  m_Voter_is_close : Meth K A.c_Voter "is_close" A.f_Voter_is_close
  b_Voter_is_close : Binds K A.d_Voter_is_close ["self", "thing", "value"] []
  F_Voter_watch : Fun K "watch" "Voter.watch" s_Voter_watch A.f_Voter_watch A.d_Voter_watch
  m_Voter_watch : Meth K A.c_Voter "watch" A.f_Voter_watch
  b_Voter_watch : Binds K A.d_Voter_watch ["self", "one", "is_close"] []
  F_Voter_wait : Fun K "wait" "Voter.wait" s_Voter_wait A.f_Voter_wait A.d_Voter_wait
  m_Voter_wait : Meth K A.c_Voter "wait" A.f_Voter_wait
  b_Voter_wait : Binds K A.d_Voter_wait ["self", "one", "is_close"] []
  F_Voter_step : Fun K "step" "Voter.step" s_Voter_step A.f_Voter_step A.d_Voter_step
  m_Voter_step : Meth K A.c_Voter "step" A.f_Voter_step
  b_Voter_step : Binds K A.d_Voter_step ["self", "values"] []
  F_l_cell : Fun K "_law_cell" "_law_cell" s_l_cell A.f_l_cell A.d_l_cell
  g_l_cell : mg "_law_cell" = some (.ref A.f_l_cell)
  b_l_cell : Binds K A.d_l_cell ["_law_script", "_law_k"] []
  F_l_drawn : Fun K "_law_drawn" "_law_drawn" s_l_drawn A.f_l_drawn A.d_l_drawn
  g_l_drawn : mg "_law_drawn" = some (.ref A.f_l_drawn)
  b_l_drawn : Binds K A.d_l_drawn ["_law_cell_here", "_law_k"] []
  F_l_settings : Fun K "_law_settings" "_law_settings" s_l_settings A.f_l_settings A.d_l_settings
  g_l_settings : mg "_law_settings" = some (.ref A.f_l_settings)
  b_l_settings : Binds K A.d_l_settings ["_law_more"] []
  F_l_said : Fun K "_law_said" "_law_said" s_l_said A.f_l_said A.d_l_said
  g_l_said : mg "_law_said" = some (.ref A.f_l_said)
  b_l_said : Binds K A.d_l_said ["_law_more", "_law_way", "_law_rights", "_law_threshold"] []
  F_law : Fun K "law" "law" s_law A.f_law A.d_law
  FC_law : FunC K "law" "law" s_law A.f_law A.d_law A.cd_law
  g_law : mg "law" = some (.ref A.f_law)
  b_law : Binds K A.d_law ["_law_script"] []
def spL (K : PySem.W.Frag) : Sp := fun vs H Q _ => ∃ (a : Addr) (ns : List Int), vs = [.ref a] ∧ SqL K H a (ns.map V.int) ∧ ns.length ≤ 63 ∧ ∀ H', Q (.bl true) H'
def cell (ns : List Int) (k : Int) : Int := if ns = [] then k * 7919 else ns.getD (k % (ns.length : Int)).toNat 0 + k / (ns.length : Int) * 104729
def sp_l_cell (K : PySem.W.Frag) (A : Ads) : Sp := fun vs H Q _ => ∃ (a : Addr) (ns : List Int) (k : Int), vs = [.ref a, .int k] ∧ SqL K H a (ns.map V.int) ∧ ns.length ≤ 63 ∧ RetV (.int (cell ns k)) H Q
def drawn (c k : Int) : Int := ((c * 6364136223846793005 + (k + 1) * 1442695040888963407) % 340282366920938463463374607431768211507) * ((c * 6364136223846793005 + (k + 1) * 1442695040888963407) % 340282366920938463463374607431768211507) % 340282366920938463463374607431768211297
def sp_l_drawn (K : PySem.W.Frag) (A : Ads) : Sp := fun vs H Q _ => ∃ (c k : Int), vs = [.int c, .int k] ∧ RetV (.int (drawn c k)) H Q
theorem drawn_nn (c k : Int) : 0 ≤ drawn c k := Int.emod_nonneg _ (by decide)
theorem drawn_lt (c k : Int) : drawn c k < 340282366920938463463374607431768211297 := Int.emod_lt_of_pos _ (by decide)
theorem len_spL {K : PySem.W.Frag} {vs : List V} {H : Hp} {Q : VK} {E : XK} (h : spL K vs H Q E) : vs.length = 1 := by
  obtain ⟨_, _, rfl, _⟩ := h
  rfl
theorem len_l_cell {K : PySem.W.Frag} {A : Ads} {vs : List V} {H : Hp} {Q : VK} {E : XK} (h : sp_l_cell K A vs H Q E) : vs.length = 2 := by
  obtain ⟨_, _, _, rfl, _⟩ := h
  rfl
theorem len_l_drawn {K : PySem.W.Frag} {A : Ads} {vs : List V} {H : Hp} {Q : VK} {E : XK} (h : sp_l_drawn K A vs H Q E) : vs.length = 2 := by
  obtain ⟨_, _, rfl, _⟩ := h
  rfl
def spLT (K : PySem.W.Frag) (P : Addr) : Sp := fun vs H Q _ => ∃ (a : Addr) (ns : List Int), vs = [.ref a] ∧ SqL K H a (ns.map V.int) ∧ ns.length ≤ 63 ∧ H P = some (.tbl #[]) ∧ ∀ H', Q (.bl true) H'
abbrev sp_law (K : PySem.W.Frag) (A : Ads) : Sp := spLT K A.P_law
theorem len_law {K : PySem.W.Frag} {A : Ads} {vs : List V} {H : Hp} {Q : VK} {E : XK} (h : sp_law K A vs H Q E) : vs.length = 1 := by
  obtain ⟨_, _, rfl, _⟩ := h
  rfl
def ab (i : Int) : Int := if i < 0 then -i else i
/-- the middle one of numbers, of two the nearer -/
def mid (ns : List Int) (near : Int) : Int :=
  if ((srt ns).length : Int) % 2 = 1 then (srt ns).getD (((srt ns).length : Int) / 2).toNat 0
  else if ab ((srt ns).getD (((srt ns).length : Int) / 2).toNat 0 - near) < ab ((srt ns).getD (((srt ns).length : Int) / 2 - 1).toNat 0 - near) then (srt ns).getD (((srt ns).length : Int) / 2).toNat 0
  else (srt ns).getD (((srt ns).length : Int) / 2 - 1).toNat 0
def mvd (one goal most : Int) : Int := if one < goal then (if one + most < goal then one + most else goal) else (if one - most > goal then one - most else goal)
def agr (ns : List Int) (v t : Int) : List V := Evl.given ns.length (fun i => decide (ab (ns.getD i 0 - v) ≤ t)) fun i => .int (i : Int)
def sp_middle (K : PySem.W.Frag) (A : Ads) : Sp := fun vs H Q _ => ∃ (a : Addr) (ns : List Int) (near : Int), vs = [.ref a, .int near] ∧ SqL K H a (ns.map V.int) ∧ ns ≠ [] ∧ ns.length < 64 ∧ RetV (.int (mid ns near)) H Q
theorem len_middle {K : PySem.W.Frag} {A : Ads} {vs : List V} {H : Hp} {Q : VK} {E : XK} (h : sp_middle K A vs H Q E) : vs.length = 2 := by
  obtain ⟨_, _, _, rfl, _⟩ := h
  rfl
def sp_moved (K : PySem.W.Frag) (A : Ads) : Sp := fun vs H Q _ => ∃ (one goal most : Int), vs = [.int one, .int goal, .int most] ∧ RetV (.int (mvd one goal most)) H Q
def sp_agree (K : PySem.W.Frag) (A : Ads) : Sp := fun vs H Q _ => ∃ (a : Addr) (ns : List Int) (v t : Int), vs = [.ref a, .int v, .int t] ∧ SqL K H a (ns.map V.int) ∧ ns.length ≤ 1000 ∧ RetL (agr ns v t) H Q
theorem len_moved {K : PySem.W.Frag} {A : Ads} {vs : List V} {H : Hp} {Q : VK} {E : XK} (h : sp_moved K A vs H Q E) : vs.length = 3 := by
  obtain ⟨_, _, _, rfl, _⟩ := h
  rfl
theorem len_agree {K : PySem.W.Frag} {A : Ads} {vs : List V} {H : Hp} {Q : VK} {E : XK} (h : sp_agree K A vs H Q E) : vs.length = 3 := by
  obtain ⟨_, _, _, _, rfl, _⟩ := h
  rfl
/-! ### the voter as a plain model -/
structure Vst where
  th : Int
  rate : Int
  mis : Int
  bk : Int
  last : Int
  ss : List (Bool × Int)
def vfs (v : Vst) (l : Addr) : List (Str × V) := [("threshold", .int v.th), ("rate", .int v.rate), ("misses", .int v.mis), ("backs", .int v.bk), ("sensors", .ref l), ("last", .int v.last)]
def sfs (o : Bool) (m : Int) : List (Str × V) := [("is_out", .bl o), ("many", .int m)]
abbrev S0 : Bool × Int := (false, 0)
def oV : Option Int → V
  | none => .non
  | some i => .int i
def clo (th value : Int) : Option Int → Bool
  | none => false
  | some i => decide (ab (i - value) ≤ th)
def okOne : Option Int → Bool
  | none => true
  | some i => decide (ab i ≤ 1000000000)
def okStep (vals : List (Option Int)) (many : Int) : Bool := decide ((vals.length : Int) = many) && vals.all okOne
def okSet (m t r ms b : Int) : Bool := (decide (3 ≤ m) && decide (m ≤ 9)) && ((decide (0 ≤ t) && decide (t ≤ 1000000)) && ((decide (1 ≤ r) && decide (r ≤ 1000000)) && ((decide (1 ≤ ms) && decide (ms ≤ 1000)) && (decide (1 ≤ b) && decide (b ≤ 1000)))))
def isHere (ss : List (Bool × Int)) (vals : List (Option Int)) (i : Nat) : Bool := (!(ss.getD i S0).1) && (vals.getD i none).isSome
def there (ss : List (Bool × Int)) (vals : List (Option Int)) : List Int := ((List.range ss.length).filter (isHere ss vals)).map fun i => (vals.getD i none).getD 0
def valueOf (v : Vst) (vals : List (Option Int)) : Int := if there v.ss vals = [] then v.last else mid (there v.ss vals) v.last
def wordOf (n : Nat) (th : Int) (t : List Int) (value : Int) : Str :=
  if t = [] then "lost" else if t.length = 1 then "single" else if 2 * (agr t value th).length ≤ t.length then "split" else if (agr t value th).length = n then "all" else "most"
def inN (ss : List (Bool × Int)) : Nat := (ss.filter fun s => !s.1).length
def nextW (bk : Int) (any : Bool) (s : Bool × Int) (c : Bool) : Bool × Int := if (s.2 + 1) * (if (c && any) = true then 1 else 0) = bk then (false, 0) else (true, (s.2 + 1) * (if (c && any) = true then 1 else 0))
def nextG (mis : Int) (n : Nat) (s : Bool × Int) (c : Bool) : Bool × Int := if c = true then (false, if s.2 - 1 > 0 then s.2 - 1 else 0) else if mis ≤ s.2 + 1 ∧ 1 < n then (true, 0) else (false, s.2 + 1)
def nextS (v : Vst) (any : Bool) (ss : List (Bool × Int)) (s : Bool × Int) (c : Bool) : Bool × Int := if s.1 = true then nextW v.bk any s c else nextG v.mis (inN ss) s c
def turnS (v : Vst) (any : Bool) (value : Int) (vals : List (Option Int)) (ss : List (Bool × Int)) (i : Nat) : List (Bool × Int) := ss.set i (nextS v any ss (ss.getD i S0) (clo v.th value (vals.getD i none)))
def turns (v : Vst) (any : Bool) (value : Int) (vals : List (Option Int)) (n : Nat) : List (Bool × Int) := (List.range n).foldl (turnS v any value vals) v.ss
def anyHere (v : Vst) (vals : List (Option Int)) : Bool := !decide (there v.ss vals = [])
def stepS (v : Vst) (vals : List (Option Int)) : List (Bool × Int) := turns v (anyHere v vals) (valueOf v vals) vals v.ss.length
def stepV (v : Vst) (vals : List (Option Int)) : Vst := { v with last := mvd v.last (valueOf v vals) v.rate, ss := stepS v vals }
def stepW (v : Vst) (vals : List (Option Int)) : Str := wordOf v.ss.length v.th (there v.ss vals) (valueOf v vals)
def stateW (s : Bool × Int) : Str := if s.1 = true then "out" else if s.2 = 0 then "good" else "suspect"
def freshV (m t r ms b start : Int) : Vst := ⟨t, r, ms, b, start, List.replicate m.toNat S0⟩
/-- at p a voter stands, its sensors at as, their list at l -/
structure VAt (A : Ads) (H : Hp) (p l : Addr) (as : List Addr) (v : Vst) : Prop where
  own : ∃ dx, H p = some (.ins A.c_Voter dx (vfs v l))
  lst : H l = some (.lst (as.map V.ref))
  len : as.length = v.ss.length
  small : as.length ≤ 9
  nd : as.Nodup
  np : p ∉ as
  sens : ∀ i s, as[i]? = some s → ∃ dy, H s = some (.ins A.c_Sensor dy (sfs (v.ss.getD i S0).1 (v.ss.getD i S0).2))
/-! ### promises -/
def sp_need_settings (K : PySem.W.Frag) (A : Ads) : Sp := fun vs H Q E => ∃ (a : Addr) (m t r ms b : Int), vs = [.ref a] ∧ SqT K H a [.int m, .int t, .int r, .int ms, .int b] ∧
  (okSet m t r ms b = true → RetV .non H Q) ∧ (okSet m t r ms b = false → ∀ H', Ex H H' → E (.ref A.c_BadSettings) none H')
def sp_need_step (K : PySem.W.Frag) (A : Ads) : Sp := fun vs H Q E => ∃ (a : Addr) (vals : List (Option Int)) (many : Int), vs = [.ref a, .int many] ∧ SqL K H a (vals.map oV) ∧ vals.length ≤ 40000 ∧
  (okStep vals many = true → RetV .non H Q) ∧ (okStep vals many = false → ∀ H', Ex H H' → E (.ref A.c_BadStep) none H')
def sp_Sensor_init (K : PySem.W.Frag) (A : Ads) : Sp := fun vs H Q _ => ∃ (x dx : Addr), vs = [.ref x] ∧ H x = some (.ins A.c_Sensor dx []) ∧ ∀ H', But x H H' → H' x = some (.ins A.c_Sensor dx (sfs false 0)) → Q .non H'
def sp_Voter_init (K : PySem.W.Frag) (A : Ads) : Sp := fun vs H Q E => ∃ (p dx a : Addr) (m t r ms b start : Int), vs = [.ref p, .ref a, .int start] ∧ H p = some (.ins A.c_Voter dx []) ∧ SqT K H a [.int m, .int t, .int r, .int ms, .int b] ∧
  (okSet m t r ms b = true → ∀ (H' : Hp) (l : Addr) (as : List Addr), But p H H' → (∀ s ∈ as, H s = none) → H l = none → VAt A H' p l as (freshV m t r ms b start) → Q .non H') ∧ (okSet m t r ms b = false → ∀ H', Ex H H' → E (.ref A.c_BadSettings) none H')
def sp_Voter_given (K : PySem.W.Frag) (A : Ads) : Sp := fun vs H Q _ => ∃ (p l : Addr) (as : List Addr) (v : Vst), vs = [.ref p] ∧ VAt A H p l as v ∧ RetV (.int v.last) H Q
def sp_Voter_sensor (K : PySem.W.Frag) (A : Ads) : Sp := fun vs H Q E => ∃ (p l : Addr) (as : List Addr) (v : Vst) (i : Int), vs = [.ref p, .int i] ∧ VAt A H p l as v ∧
  (∀ s, 0 ≤ i → as[i.toNat]? = some s → RetV (.ref s) H Q) ∧ (¬ (0 ≤ i ∧ i < (as.length : Int)) → ∀ H', Ex H H' → E (.ref A.c_NoSensor) none H')
def sp_Voter_state (K : PySem.W.Frag) (A : Ads) : Sp := fun vs H Q E => ∃ (p l : Addr) (as : List Addr) (v : Vst) (i : Int), vs = [.ref p, .int i] ∧ VAt A H p l as v ∧
  (0 ≤ i ∧ i < (as.length : Int) → RetV (.str (stateW (v.ss.getD i.toNat S0))) H Q) ∧ (¬ (0 ≤ i ∧ i < (as.length : Int)) → ∀ H', Ex H H' → E (.ref A.c_NoSensor) none H')
def sp_Voter_count (K : PySem.W.Frag) (A : Ads) : Sp := fun vs H Q E => ∃ (p l : Addr) (as : List Addr) (v : Vst) (i : Int), vs = [.ref p, .int i] ∧ VAt A H p l as v ∧
  (0 ≤ i ∧ i < (as.length : Int) → RetV (.int (v.ss.getD i.toNat S0).2) H Q) ∧ (¬ (0 ≤ i ∧ i < (as.length : Int)) → ∀ H', Ex H H' → E (.ref A.c_NoSensor) none H')
def sp_Voter_word (K : PySem.W.Frag) (A : Ads) : Sp := fun vs H Q _ => ∃ (p l : Addr) (as : List Addr) (v : Vst) (a : Addr) (t : List Int) (value : Int), vs = [.ref p, .ref a, .int value] ∧ VAt A H p l as v ∧ SqL K H a (t.map V.int) ∧ t.length ≤ 100 ∧ RetV (.str (wordOf as.length v.th t value)) H Q
def sp_Voter_is_close (K : PySem.W.Frag) (A : Ads) : Sp := fun vs H Q _ => ∃ (p l : Addr) (as : List Addr) (v : Vst) (x : Option Int) (value : Int), vs = [.ref p, oV x, .int value] ∧ VAt A H p l as v ∧ RetV (.bl (clo v.th value x)) H Q
def sp_Voter_watch (K : PySem.W.Frag) (A : Ads) : Sp := fun vs H Q _ => ∃ (p l : Addr) (as : List Addr) (v : Vst) (s : Addr) (i : Nat) (c : Bool), vs = [.ref p, .ref s, .bl c] ∧ VAt A H p l as v ∧ as[i]? = some s ∧ (v.ss.getD i S0).1 = false ∧
  ∀ H', But s H H' → VAt A H' p l as { v with ss := v.ss.set i (nextG v.mis (inN v.ss) (v.ss.getD i S0) c) } → Q .non H'
def sp_Voter_wait (K : PySem.W.Frag) (A : Ads) : Sp := fun vs H Q _ => ∃ (p l : Addr) (as : List Addr) (v : Vst) (s : Addr) (i : Nat) (c : Bool), vs = [.ref p, .ref s, .bl c] ∧ VAt A H p l as v ∧ as[i]? = some s ∧ (v.ss.getD i S0).1 = true ∧
  ∀ H', But s H H' → VAt A H' p l as { v with ss := v.ss.set i (nextW v.bk true (v.ss.getD i S0) c) } → Q .non H'
def sp_Voter_step (K : PySem.W.Frag) (A : Ads) : Sp := fun vs H Q E => ∃ (p l : Addr) (as : List Addr) (v : Vst) (a : Addr) (vals : List (Option Int)), vs = [.ref p, .ref a] ∧ VAt A H p l as v ∧ SqL K H a (vals.map oV) ∧ vals.length ≤ 40000 ∧ a ∉ p :: as ∧
  (okStep vals as.length = true → ∀ (H' : Hp) (q : Addr), Buts (p :: as) H H' → H q = none → H' q = some (.tup [.int (stepV v vals).last, .str (stepW v vals)]) → VAt A H' p l as (stepV v vals) → Q (.ref q) H') ∧
  (okStep vals as.length = false → ∀ H', Ex H H' → E (.ref A.c_BadStep) none H')
section
variable {K : PySem.W.Frag} {A : Ads} {vs : List V} {H : Hp} {Q : VK} {E : XK}
theorem len_need_settings (h : sp_need_settings K A vs H Q E) : vs.length = 1 := by obtain ⟨_, _, _, _, _, _, rfl, _⟩ := h; rfl
theorem len_need_step (h : sp_need_step K A vs H Q E) : vs.length = 2 := by obtain ⟨_, _, _, rfl, _⟩ := h; rfl
theorem len_Sensor_init (h : sp_Sensor_init K A vs H Q E) : vs.length = 1 := by obtain ⟨_, _, rfl, _⟩ := h; rfl
theorem len_Voter_init (h : sp_Voter_init K A vs H Q E) : vs.length = 3 := by obtain ⟨_, _, _, _, _, _, _, _, _, rfl, _⟩ := h; rfl
theorem len_Voter_given (h : sp_Voter_given K A vs H Q E) : vs.length = 1 := by obtain ⟨_, _, _, _, rfl, _⟩ := h; rfl
theorem len_Voter_sensor (h : sp_Voter_sensor K A vs H Q E) : vs.length = 2 := by obtain ⟨_, _, _, _, _, rfl, _⟩ := h; rfl
theorem len_Voter_state (h : sp_Voter_state K A vs H Q E) : vs.length = 2 := by obtain ⟨_, _, _, _, _, rfl, _⟩ := h; rfl
theorem len_Voter_count (h : sp_Voter_count K A vs H Q E) : vs.length = 2 := by obtain ⟨_, _, _, _, _, rfl, _⟩ := h; rfl
theorem len_Voter_word (h : sp_Voter_word K A vs H Q E) : vs.length = 3 := by obtain ⟨_, _, _, _, _, _, _, rfl, _⟩ := h; rfl
theorem len_Voter_is_close (h : sp_Voter_is_close K A vs H Q E) : vs.length = 3 := by obtain ⟨_, _, _, _, _, _, rfl, _⟩ := h; rfl
theorem len_Voter_watch (h : sp_Voter_watch K A vs H Q E) : vs.length = 3 := by obtain ⟨_, _, _, _, _, _, _, rfl, _⟩ := h; rfl
theorem len_Voter_wait (h : sp_Voter_wait K A vs H Q E) : vs.length = 3 := by obtain ⟨_, _, _, _, _, _, _, rfl, _⟩ := h; rfl
theorem len_Voter_step (h : sp_Voter_step K A vs H Q E) : vs.length = 2 := by obtain ⟨_, _, _, _, _, _, rfl, _⟩ := h; rfl
end
theorem sc_middle : FnScope ["numbers", "near", "row", "half"] ["numbers", "near"] (defScope s_middle) := ⟨rfl, rfl, rfl, by decide +kernel, rfl, by decide +kernel, by decide +kernel⟩
def t_middle (K : PySem.W.Frag) (A : Ads) (E : XK) : TS :=
      (tSeq (tAsg (tCB (rSorted K) (tCons (tVar 0) tNil)) (gName 2))
      (tSeq (tAsg (tOp oDivW (tCB (rLenS K) (tCons (tVar 2) tNil)) (tC (.int 2))) (gName 3))
      (tSeq (tIfS (tTest (tOp rEq (tOp oMod (tCB (rLenS K) (tCons (tVar 2) tNil)) (tC (.int 2))) (tC (.int 1)))) (tRet (tOp (rIxL K) (tVar 2) (tVar 3))) tNext)
      (tSeq (tIfS (tTest (tOp oLt (tCB rAbs (tCons (tOp oSub (tOp (rIxL K) (tVar 2) (tVar 3)) (tVar 1)) tNil)) (tCB rAbs (tCons (tOp oSub (tOp (rIxL K) (tVar 2) (tOp oSub (tVar 3) (tC (.int 1)))) (tVar 1)) tNil)))) (tRet (tOp (rIxL K) (tVar 2) (tVar 3))) tNext)
      (tRet (tOp (rIxL K) (tVar 2) (tOp oSub (tVar 3) (tC (.int 1)))))))))
theorem sc_moved : FnScope ["one", "goal", "most"] ["one", "goal", "most"] (defScope s_moved) := ⟨rfl, rfl, rfl, by decide +kernel, rfl, by decide +kernel, by decide +kernel⟩
def t_moved (K : PySem.W.Frag) (A : Ads) (E : XK) : TS :=
      (tSeq (tIfS (tTest (tOp oGt (tVar 1) (tVar 0))) (tRet (tCB rMin2 (tCons (tVar 1) (tCons (tOp oAdd (tVar 0) (tVar 2)) tNil)))) tNext)
      (tRet (tCB rMax2 (tCons (tVar 1) (tCons (tOp oSub (tVar 0) (tVar 2)) tNil)))))
theorem sc_agree : FnScope ["numbers", "value", "threshold", "place", "number"] ["numbers", "value", "threshold"] (defScope s_agree) := ⟨rfl, rfl, rfl, by decide +kernel, rfl, by decide +kernel, by decide +kernel⟩
def t_agree (K : PySem.W.Frag) (A : Ads) (E : XK) : TS :=
      (tRet (tLc (iEnum K (tCons (tVar 0) tNil)) (gTup K 2 (gCons (gName 3) (gCons (gName 4) gNil))) (tTest (tOp oLe (tCB rAbs (tCons (tOp oSub (tVar 4) (tVar 1)) tNil)) (tVar 2))) (tVar 3) [3, 4]))
theorem sc_need_settings : FnScope ["settings", "many", "threshold", "rate", "misses", "backs"] ["settings"] (defScope s_need_settings) := ⟨rfl, rfl, rfl, by decide +kernel, rfl, by decide +kernel, by decide +kernel⟩
def t_need_settings (K : PySem.W.Frag) (A : Ads) (E : XK) : TS :=
      (tSeq (tAsg (tVar 0) (gTup K 5 (gCons (gName 1) (gCons (gName 2) (gCons (gName 3) (gCons (gName 4) (gCons (gName 5) gNil)))))))
      (tSeq (tIfS (tOr (tNot (tTest (tChain oLe oLe (tC (.int 3)) (tVar 1) (tC (.int 9))))) (tOr (tNot (tTest (tChain oLe oLe (tC (.int 0)) (tVar 2) (tC (.int 1000000))))) (tNot (tTest (tChain oLe oLe (tC (.int 1)) (tVar 3) (tC (.int 1000000))))))) (tRaise E (.ref A.c_BadSettings)) tNext)
      (tIfS (tOr (tNot (tTest (tChain oLe oLe (tC (.int 1)) (tVar 4) (tC (.int 1000))))) (tNot (tTest (tChain oLe oLe (tC (.int 1)) (tVar 5) (tC (.int 1000)))))) (tRaise E (.ref A.c_BadSettings)) tNext)))
theorem sc_need_step : FnScope ["values", "many", "value"] ["values", "many"] (defScope s_need_step) := ⟨rfl, rfl, rfl, by decide +kernel, rfl, by decide +kernel, by decide +kernel⟩
def t_need_step (K : PySem.W.Frag) (A : Ads) (E : XK) : TS :=
      (tSeq (tIfS (tTest (tOp rNe (tCB (rLenS K) (tCons (tVar 0) tNil)) (tVar 1))) (tRaise E (.ref A.c_BadStep)) tNext)
      (tIfS (tNot (tB (tCB (rAll K) (tCons (tLc (iList K (tVar 0)) (gName 2) (tTest (tOp oNotN (tVar 2) (tC .non))) (tOp oLe (tCB rAbs (tCons (tVar 2) tNil)) (tC (.int 1000000000))) [2]) tNil)))) (tRaise E (.ref A.c_BadStep)) tNext))
theorem sc_Sensor_init : FnScope ["self"] ["self"] (defScope s_Sensor_init) := ⟨rfl, rfl, rfl, by decide +kernel, rfl, by decide +kernel, by decide +kernel⟩
def t_Sensor_init (K : PySem.W.Frag) (A : Ads) (E : XK) : TS :=
      (tSeq (sFld K (tVar 0) (tC (.bl false)) "is_out")
      (sFld K (tVar 0) (tC (.int 0)) "many"))
theorem sc_Voter_init : FnScope ["self", "settings", "start", "many", "threshold", "rate", "misses", "backs", "k"] ["self", "settings", "start"] (defScope s_Voter_init) := ⟨rfl, rfl, rfl, by decide +kernel, rfl, by decide +kernel, by decide +kernel⟩
def t_Voter_init (K : PySem.W.Frag) (A : Ads) (E : XK) : TS :=
      (tSeq (tDrop (tCall (sp_need_settings K A) [] E (tCons (tVar 1) tNil)))
      (tSeq (tAsg (tVar 1) (gTup K 5 (gCons (gName 3) (gCons (gName 4) (gCons (gName 5) (gCons (gName 6) (gCons (gName 7) gNil)))))))
      (tSeq (sFld K (tVar 0) (tVar 4) "threshold")
      (tSeq (sFld K (tVar 0) (tVar 5) "rate")
      (tSeq (sFld K (tVar 0) (tVar 6) "misses")
      (tSeq (sFld K (tVar 0) (tVar 7) "backs")
      (tSeq (sFld K (tVar 0) (tLc (iRng1 (tCons (tVar 3) tNil)) (gName 8) tYes (tMake A.c_Sensor (sp_Sensor_init K A) [] E0 tNil) [8]) "sensors")
      (sFld K (tVar 0) (tVar 2) "last"))))))))
theorem sc_Voter_given : FnScope ["self"] ["self"] (defScope s_Voter_given) := ⟨rfl, rfl, rfl, by decide +kernel, rfl, by decide +kernel, by decide +kernel⟩
def t_Voter_given (K : PySem.W.Frag) (A : Ads) (E : XK) : TS :=
      (tRet (tFld K (tVar 0) "last"))
theorem sc_Voter_sensor : FnScope ["self", "place"] ["self", "place"] (defScope s_Voter_sensor) := ⟨rfl, rfl, rfl, by decide +kernel, rfl, by decide +kernel, by decide +kernel⟩
def t_Voter_sensor (K : PySem.W.Frag) (A : Ads) (E : XK) : TS :=
      (tSeq (tIfS (tNot (tTest (tChain oLe oLt (tC (.int 0)) (tVar 1) (tCB (rLenS K) (tCons (tFld K (tVar 0) "sensors") tNil))))) (tRaise E (.ref A.c_NoSensor)) tNext)
      (tRet (tOp (rIxL K) (tFld K (tVar 0) "sensors") (tVar 1))))
theorem sc_Voter_state : FnScope ["self", "place", "one"] ["self", "place"] (defScope s_Voter_state) := ⟨rfl, rfl, rfl, by decide +kernel, rfl, by decide +kernel, by decide +kernel⟩
def t_Voter_state (K : PySem.W.Frag) (A : Ads) (E : XK) : TS :=
      (tSeq (tAsg (tMeth A.c_Voter "sensor" (sp_Voter_sensor K A) [] E (tVar 0) (tCons (tVar 1) tNil)) (gName 2))
      (tSeq (tIfS (tB (tFld K (tVar 2) "is_out")) (tRet (tC (.str "out"))) tNext)
      (tRet (tIf (tTest (tOp rEq (tFld K (tVar 2) "many") (tC (.int 0)))) (tC (.str "good")) (tC (.str "suspect"))))))
theorem sc_Voter_count : FnScope ["self", "place"] ["self", "place"] (defScope s_Voter_count) := ⟨rfl, rfl, rfl, by decide +kernel, rfl, by decide +kernel, by decide +kernel⟩
def t_Voter_count (K : PySem.W.Frag) (A : Ads) (E : XK) : TS :=
      (tRet (tFld K (tMeth A.c_Voter "sensor" (sp_Voter_sensor K A) [] E (tVar 0) (tCons (tVar 1) tNil)) "many"))
theorem sc_Voter_word : FnScope ["self", "numbers", "value", "close"] ["self", "numbers", "value"] (defScope s_Voter_word) := ⟨rfl, rfl, rfl, by decide +kernel, rfl, by decide +kernel, by decide +kernel⟩
def t_Voter_word (K : PySem.W.Frag) (A : Ads) (E : XK) : TS :=
      (tSeq (tIfS (tTest (tOp (rEqD K) (tVar 1) (tLst tNil))) (tRet (tC (.str "lost"))) tNext)
      (tSeq (tIfS (tTest (tOp rEq (tCB (rLenS K) (tCons (tVar 1) tNil)) (tC (.int 1)))) (tRet (tC (.str "single"))) tNext)
      (tSeq (tAsg (tCB (rLenS K) (tCons (tCall (sp_agree K A) [] E0 (tCons (tVar 1) (tCons (tVar 2) (tCons (tFld K (tVar 0) "threshold") tNil)))) tNil)) (gName 3))
      (tSeq (tIfS (tTest (tOp oLe (tOp oMul (tC (.int 2)) (tVar 3)) (tCB (rLenS K) (tCons (tVar 1) tNil)))) (tRet (tC (.str "split"))) tNext)
      (tRet (tIf (tTest (tOp rEq (tVar 3) (tCB (rLenS K) (tCons (tFld K (tVar 0) "sensors") tNil)))) (tC (.str "all")) (tC (.str "most"))))))))
theorem sc_Voter_is_close : FnScope ["self", "thing", "value"] ["self", "thing", "value"] (defScope s_Voter_is_close) := ⟨rfl, rfl, rfl, by decide +kernel, rfl, by decide +kernel, by decide +kernel⟩
def t_Voter_is_close (K : PySem.W.Frag) (A : Ads) (E : XK) : TS :=
      (tRet (tAndV (tOp oNotN (tVar 1) (tC .non)) (tOp oLe (tCB rAbs (tCons (tOp oSub (tVar 1) (tVar 2)) tNil)) (tFld K (tVar 0) "threshold"))))
theorem sc_Voter_watch : FnScope ["self", "one", "is_close", "others", "other"] ["self", "one", "is_close"] (defScope s_Voter_watch) := ⟨rfl, rfl, rfl, by decide +kernel, rfl, by decide +kernel, by decide +kernel⟩
def t_Voter_watch (K : PySem.W.Frag) (A : Ads) (E : XK) : TS :=
      (tSeq (tIfS (tB (tVar 2)) (tSeq (sFld K (tVar 1) (tCB rMax2 (tCons (tC (.int 0)) (tCons (tOp oSub (tFld K (tVar 1) "many") (tC (.int 1))) tNil))) "many")
      tRetN) tNext)
      (tSeq (sFld K (tVar 1) (tOp oAdd (tFld K (tVar 1) "many") (tC (.int 1))) "many")
      (tSeq (tAsg (tLc (iList K (tFld K (tVar 0) "sensors")) (gName 4) (tNot (tB (tFld K (tVar 4) "is_out"))) (tVar 4) [4]) (gName 3))
      (tIfS (tAnd (tTest (tOp oGe (tFld K (tVar 1) "many") (tFld K (tVar 0) "misses"))) (tTest (tOp oGt (tCB (rLenS K) (tCons (tVar 3) tNil)) (tC (.int 1))))) (tSeq (sFld K (tVar 1) (tC (.bl true)) "is_out")
      (sFld K (tVar 1) (tC (.int 0)) "many")) tNext))))
theorem sc_Voter_wait : FnScope ["self", "one", "is_close"] ["self", "one", "is_close"] (defScope s_Voter_wait) := ⟨rfl, rfl, rfl, by decide +kernel, rfl, by decide +kernel, by decide +kernel⟩
def t_Voter_wait (K : PySem.W.Frag) (A : Ads) (E : XK) : TS :=
      (tSeq (sFld K (tVar 1) (tOp oMul (tOp oAdd (tFld K (tVar 1) "many") (tC (.int 1))) (tCB rInt1 (tCons (tVar 2) tNil))) "many")
      (tIfS (tTest (tOp rEq (tFld K (tVar 1) "many") (tFld K (tVar 0) "backs"))) (tSeq (sFld K (tVar 1) (tC (.bl false)) "is_out")
      (sFld K (tVar 1) (tC (.int 0)) "many")) tNext))
theorem sc_Voter_step : FnScope ["self", "values", "numbers", "place", "one", "value", "word", "is_close"] ["self", "values"] (defScope s_Voter_step) := ⟨rfl, rfl, rfl, by decide +kernel, rfl, by decide +kernel, by decide +kernel⟩
def t_Voter_step (K : PySem.W.Frag) (A : Ads) (E : XK) : TS :=
      (tSeq (tDrop (tCall (sp_need_step K A) [] E (tCons (tVar 1) (tCons (tCB (rLenS K) (tCons (tFld K (tVar 0) "sensors") tNil)) tNil))))
      (tSeq (tAsg (tLc (iEnum K (tCons (tFld K (tVar 0) "sensors") tNil)) (gTup K 2 (gCons (gName 3) (gCons (gName 4) gNil))) (tAnd (tNot (tB (tFld K (tVar 4) "is_out"))) (tTest (tOp oNotN (tOp (rIxL K) (tVar 1) (tVar 3)) (tC .non)))) (tOp (rIxL K) (tVar 1) (tVar 3)) [3, 4]) (gName 2))
      (tSeq (tAsg (tFld K (tVar 0) "last") (gName 5))
      (tSeq (tIfS (tTest (tOp (rNeD K) (tVar 2) (tLst tNil))) (tAsg (tCall (sp_middle K A) [] E0 (tCons (tVar 2) (tCons (tFld K (tVar 0) "last") tNil))) (gName 5)) tNext)
      (tSeq (tAsg (tMeth A.c_Voter "word" (sp_Voter_word K A) [] E0 (tVar 0) (tCons (tVar 2) (tCons (tVar 5) tNil))) (gName 6))
      (tSeq (tFor (iEnum K (tCons (tFld K (tVar 0) "sensors") tNil)) (gTup K 2 (gCons (gName 3) (gCons (gName 4) gNil))) (tSeq (tAsg (tMeth A.c_Voter "is_close" (sp_Voter_is_close K A) [] E0 (tVar 0) (tCons (tOp (rIxL K) (tVar 1) (tVar 3)) (tCons (tVar 5) tNil))) (gName 7))
      (tIfS (tB (tFld K (tVar 4) "is_out")) (tDrop (tMeth A.c_Voter "wait" (sp_Voter_wait K A) [] E0 (tVar 0) (tCons (tVar 4) (tCons (tAndV (tVar 7) (tOp (rNeD K) (tVar 2) (tLst tNil))) tNil)))) (tDrop (tMeth A.c_Voter "watch" (sp_Voter_watch K A) [] E0 (tVar 0) (tCons (tVar 4) (tCons (tVar 7) tNil)))))))
      (tSeq (sFld K (tVar 0) (tCall (sp_moved K A) [] E0 (tCons (tFld K (tVar 0) "last") (tCons (tVar 5) (tCons (tFld K (tVar 0) "rate") tNil)))) "last")
      (tRet (tTup (tCons (tFld K (tVar 0) "last") (tCons (tVar 6) tNil)))))))))))
end MV
namespace MV
open PySem PySem.Spec PyProof.Rows L2 Evl
section
variable {K : PySem.W.Frag} {mg : Str → Option Value} {A : Ads}
theorem pure_middle (T : Txt K mg A) (vs : List V) (H : Hp) (Q : VK) (E : XK) (h : sp_middle K A vs H Q E) : t_middle K A E { nx := fun _ H' => Q .non H', rt := Q } (start ["numbers", "near", "row", "half"] vs) H := by
  obtain ⟨a, ns, near, rfl, hS, hne, hl, q⟩ := h
  show t_middle K A E _ [some (.ref a), some (.int near), none, none] H
  have hp : 0 < (srt ns).length := by rw [srt_len]; exact List.length_pos_iff.mpr hne
  refine q_asgL (el_cb (by walk_at "ev") (rcl_sorted hS hl)) fun p H1 np e1 h1 => ?_
  have hS1 : SqL K H1 p ((srt ns).map V.int) := sq_of h1
  have hm : (((srt ns).map V.int).length : Int) = ((srt ns).length : Int) := by rw [List.length_map]
  refine q_asg (v := .int (((srt ns).length : Int) / 2)) ?_ fun H2 e2 => ?_
  · rw [← hm]
    walk_at "ev"
  have hS2 := ex_l e2 hS1
  refine q_when (b := decide (((srt ns).length : Int) % 2 = 1)) ?_ (fun hb H3 e3 => ?_) (fun hb H3 e3 => ?_)
  · rw [← hm]
    walk_at "ev"
  · have hb1 : ((srt ns).length : Int) % 2 = 1 := by simpa using hb
    refine s_ret (v := .int (mid ns near)) ?_ fun H4 e4 => q H4 (((e1.trans e2).trans e3).trans e4)
    have e : mid ns near = (srt ns).getD (((srt ns).length : Int) / 2).toNat 0 := by unfold mid; rw [if_pos hb1]
    rw [e]
    have hS3 := ex_l e3 hS2
    walk_at "ev"
  · have hb1 : ¬ ((srt ns).length : Int) % 2 = 1 := by simpa using hb
    have hS3 := ex_l e3 hS2
    refine q_when (b := decide (ab ((srt ns).getD (((srt ns).length : Int) / 2).toNat 0 - near) < ab ((srt ns).getD (((srt ns).length : Int) / 2 - 1).toNat 0 - near))) ?_ (fun hc H4 e4 => ?_) (fun hc H4 e4 => ?_)
    · unfold ab
      walk_at "ev"
    · have hc1 := of_decide_eq_true hc
      have hS4 := ex_l e4 hS3
      refine s_ret (v := .int (mid ns near)) ?_ fun H5 e5 => q H5 ((((e1.trans e2).trans e3).trans e4).trans e5)
      have e : mid ns near = (srt ns).getD (((srt ns).length : Int) / 2).toNat 0 := by unfold mid; rw [if_neg hb1, if_pos hc1]
      rw [e]
      walk_at "ev"
    · have hc1 := of_decide_eq_false hc
      have hS4 := ex_l e4 hS3
      refine s_ret (v := .int (mid ns near)) ?_ fun H5 e5 => q H5 ((((e1.trans e2).trans e3).trans e4).trans e5)
      have e : mid ns near = (srt ns).getD (((srt ns).length : Int) / 2 - 1).toNat 0 := by unfold mid; rw [if_neg hb1, if_neg hc1]
      rw [e]
      walk_at "ev"
end
end MV
namespace MV
open PySem PySem.Spec PyProof.Rows L2 Evl
theorem spv_middle {K : PySem.W.Frag} {A : Ads} {H : Hp} {a : Addr} {ns : List Int} {near : Int} (hS : SqL K H a (ns.map V.int)) (hn : ns ≠ []) (hl : ns.length < 64) : SpV (sp_middle K A) [.ref a, .int near] H (.int (mid ns near)) := fun H1 e Q q E => ⟨a, ns, near, rfl, ex_l e hS, hn, hl, q⟩
end MV
namespace MV
open PySem PySem.Spec PyProof.Rows L2 Evl
section
variable {K : PySem.W.Frag} {mg : Str → Option Value} {A : Ads}
theorem pure_moved (T : Txt K mg A) (vs : List V) (H : Hp) (Q : VK) (E : XK) (h : sp_moved K A vs H Q E) : t_moved K A E { nx := fun _ H' => Q .non H', rt := Q } (start ["one", "goal", "most"] vs) H := by
  obtain ⟨one, goal, most, rfl, q⟩ := h
  show t_moved K A E _ [some (.int one), some (.int goal), some (.int most)] H
  refine q_when (b := decide (one < goal)) (by walk_at "ev") (fun hb H1 e1 => ?_) (fun hb H1 e1 => ?_)
  · have e : mvd one goal most = if one + most < goal then one + most else goal := by unfold mvd; rw [if_pos (of_decide_eq_true hb)]
    refine s_ret (v := .int (mvd one goal most)) ?_ fun H2 e2 => q H2 (e1.trans e2)
    rw [e]
    walk_at "ev"
  · have e : mvd one goal most = if one - most > goal then one - most else goal := by unfold mvd; rw [if_neg (of_decide_eq_false hb)]
    refine s_ret (v := .int (mvd one goal most)) ?_ fun H2 e2 => q H2 (e1.trans e2)
    rw [e]
    walk_at "ev"
theorem pure_agree (T : Txt K mg A) (vs : List V) (H : Hp) (Q : VK) (E : XK) (h : sp_agree K A vs H Q E) : t_agree K A E { nx := fun _ H' => Q .non H', rt := Q } (start ["numbers", "value", "threshold", "place", "number"] vs) H := by
  obtain ⟨a, ns, v, t, rfl, hS, hl, q⟩ := h
  show t_agree K A E _ [some (.ref a), some (.int v), some (.int t), none, none] H
  have hm : (ns.map V.int).length = ns.length := List.length_map ..
  refine s_retL (xs := agr ns v t) (el_is (el_lcE (xs := ns.map V.int) (fun i => decide (ab (ns.getD i 0 - v) ≤ t)) (fun i => .int (i : Int)) (by walk_at "ev") hS (by omega) rfl (fun _ _ => rfl) (fun i x H1 e1 hx => ?_) (fun i x H1 e1 hx _ => ?_)) ?_) q
  · rw [List.getElem?_map] at hx
    have e : x = .int (ns.getD i 0) := by
      rw [List.getD_eq_getElem?_getD]
      cases hn : ns[i]? with
      | none => rw [hn] at hx; cases hx
      | some n => rw [hn] at hx; exact (Option.some.inj hx).symm
    subst e
    unfold ab
    walk_at "ev"
  · walk_at "ev"
  · unfold agr
    rw [hm]
end
end MV
namespace MV
open PySem PySem.Spec PyProof.Rows L2 Evl
theorem spv_moved {K : PySem.W.Frag} {A : Ads} {H : Hp} {one goal most : Int} : SpV (sp_moved K A) [.int one, .int goal, .int most] H (.int (mvd one goal most)) := fun H1 e Q q E => ⟨one, goal, most, rfl, q⟩
theorem spl_agree {K : PySem.W.Frag} {A : Ads} {H : Hp} {a : Addr} {ns : List Int} {v t : Int} (hS : SqL K H a (ns.map V.int)) (hl : ns.length ≤ 1000) : SpL (sp_agree K A) [.ref a, .int v, .int t] H (agr ns v t) := fun H1 e Q q E => ⟨a, ns, v, t, rfl, ex_l e hS, hl, q⟩
end MV
namespace MV
open PySem PySem.Spec PyProof.Rows L2 Evl
section
variable {K : PySem.W.Frag} {mg : Str → Option Value} {A : Ads} {H H' : Hp} {p l s a : Addr} {as : List Addr} {v : Vst} {σ : L2.St} {ta : TE} {i : Nat}
theorem VAt.ext (h : VAt A H p l as v) (e : Ex H H') : VAt A H' p l as v := by
  obtain ⟨⟨dx, h1⟩, h2, h3, h4, h5, h6, h7⟩ := h
  exact ⟨⟨dx, e _ _ h1⟩, e _ _ h2, h3, h4, h5, h6, fun i s hs => let ⟨dy, q⟩ := h7 i s hs; ⟨dy, e _ _ q⟩⟩
/-- what else is kept keeps the voter -/
theorem VAt.buts {fp : List Addr} (h : VAt A H p l as v) (e : Buts fp H H') (h1 : p ∉ fp) (h2 : l ∉ fp) (h3 : ∀ s ∈ as, s ∉ fp) : VAt A H' p l as v := by
  obtain ⟨⟨dx, q1⟩, q2, q3, q4, q5, q6, q7⟩ := h
  exact ⟨⟨dx, e _ _ h1 q1⟩, e _ _ h2 q2, q3, q4, q5, q6, fun i s hs => let ⟨dy, q⟩ := q7 i s hs; ⟨dy, e _ _ (h3 s (List.mem_of_getElem? hs)) q⟩⟩
theorem VAt.seq (h : VAt A H p l as v) : SqL K H l (as.map V.ref) := sq_of h.lst
theorem VAt.nl (h : VAt A H p l as v) (hs : as[i]? = some s) : l ≠ s := by
  obtain ⟨dy, q⟩ := h.sens i s hs
  exact ne_of h.lst q (by intro z; cases z)
theorem VAt.nlp (h : VAt A H p l as v) : l ≠ p := by
  obtain ⟨dy, q⟩ := h.own
  exact ne_of h.lst q (by intro z; cases z)
/-- what holds another thing than an instance is none of the voter's -/
theorem VAt.free_lst (h : VAt A H p l as v) {xs : List V} (ha : H a = some (.lst xs)) : a ∉ p :: as := by
  intro z
  rcases List.mem_cons.mp z with z | z
  · obtain ⟨dx, q⟩ := h.own
    rw [z, q] at ha
    cases ha
  · obtain ⟨j, hj, e⟩ := List.mem_iff_getElem.mp z
    obtain ⟨dy, q⟩ := h.sens j a (by rw [List.getElem?_eq_getElem hj, e])
    rw [q] at ha
    cases ha
theorem VAt.new (h : VAt A H p l as v) (ha : H a = none) : a ∉ p :: as := by
  intro z
  rcases List.mem_cons.mp z with z | z
  · obtain ⟨dx, q⟩ := h.own
    rw [z, q] at ha
    cases ha
  · obtain ⟨j, hj, e⟩ := List.mem_iff_getElem.mp z
    obtain ⟨dy, q⟩ := h.sens j a (by rw [List.getElem?_eq_getElem hj, e])
    rw [q] at ha
    cases ha
/-- a sensor is stored -/
theorem VAt.set {dy : Addr} {o : Bool} {m : Int} (h : VAt A H p l as v) (hs : as[i]? = some s) : VAt A (upd H s (.ins A.c_Sensor dy (sfs o m))) p l as { v with ss := v.ss.set i (o, m) } := by
  have hm : s ∈ as := List.mem_of_getElem? hs
  have nps : p ≠ s := fun z => h.np (z ▸ hm)
  have hi : i < as.length := (List.getElem?_eq_some_iff.mp hs).1
  obtain ⟨dx, q1⟩ := h.own
  refine ⟨⟨dx, by rw [upd_ne nps]; exact q1⟩, by rw [upd_ne (h.nl hs)]; exact h.lst, by rw [List.length_set]; exact h.len, h.small, h.nd, h.np, fun j t ht => ?_⟩
  by_cases e : j = i
  · subst e
    have e2 : t = s := Option.some.inj (ht.symm.trans hs)
    subst e2
    refine ⟨dy, ?_⟩
    have e3 : (v.ss.set j (o, m)).getD j S0 = (o, m) := by
      rw [List.getD_eq_getElem?_getD, List.getElem?_set_self (by rw [← h.len]; exact hi)]
      rfl
    rw [upd_same, e3]
  · obtain ⟨dz, q⟩ := h.sens j t ht
    have nts : t ≠ s := fun z => by
      subst z
      obtain ⟨hj, ej⟩ := List.getElem?_eq_some_iff.mp ht
      obtain ⟨hi2, ei⟩ := List.getElem?_eq_some_iff.mp hs
      exact e ((List.getElem_inj h.nd).mp (ej.trans ei.symm))
    have e3 : (v.ss.set i (o, m)).getD j S0 = v.ss.getD j S0 := by
      rw [List.getD_eq_getElem?_getD, List.getElem?_set_ne (Ne.symm e), List.getD_eq_getElem?_getD]
    exact ⟨dz, by rw [upd_ne nts, e3]; exact q⟩
theorem VAt.last {dx : Addr} {n : Int} (h : VAt A H p l as v) : VAt A (upd H p (.ins A.c_Voter dx (vfs { v with last := n } l))) p l as { v with last := n } := by
  refine ⟨⟨dx, upd_same⟩, by rw [upd_ne h.nlp]; exact h.lst, h.len, h.small, h.nd, h.np, fun j t ht => ?_⟩
  obtain ⟨dz, q⟩ := h.sens j t ht
  have e : t ≠ p := fun z => h.np (z ▸ List.mem_of_getElem? ht)
  exact ⟨dz, by rw [upd_ne e]; exact q⟩
/-! ### fields -/
theorem ev_v_last (h : Ev ta σ H (.ref p)) (hv : VAt A H p l as v) (T : Txt K mg A) : Ev (tFld K ta "last") σ H (.int v.last) := let ⟨_, q⟩ := hv.own; ev_fld h q T.cl_Voter T.na_Voter_last rfl
theorem ev_v_th (h : Ev ta σ H (.ref p)) (hv : VAt A H p l as v) (T : Txt K mg A) : Ev (tFld K ta "threshold") σ H (.int v.th) := let ⟨_, q⟩ := hv.own; ev_fld h q T.cl_Voter T.na_Voter_threshold rfl
theorem ev_v_rate (h : Ev ta σ H (.ref p)) (hv : VAt A H p l as v) (T : Txt K mg A) : Ev (tFld K ta "rate") σ H (.int v.rate) := let ⟨_, q⟩ := hv.own; ev_fld h q T.cl_Voter T.na_Voter_rate rfl
theorem ev_v_mis (h : Ev ta σ H (.ref p)) (hv : VAt A H p l as v) (T : Txt K mg A) : Ev (tFld K ta "misses") σ H (.int v.mis) := let ⟨_, q⟩ := hv.own; ev_fld h q T.cl_Voter T.na_Voter_misses rfl
theorem ev_v_bk (h : Ev ta σ H (.ref p)) (hv : VAt A H p l as v) (T : Txt K mg A) : Ev (tFld K ta "backs") σ H (.int v.bk) := let ⟨_, q⟩ := hv.own; ev_fld h q T.cl_Voter T.na_Voter_backs rfl
theorem ev_v_sens (h : Ev ta σ H (.ref p)) (hv : VAt A H p l as v) (T : Txt K mg A) : Ev (tFld K ta "sensors") σ H (.ref l) := let ⟨_, q⟩ := hv.own; ev_fld h q T.cl_Voter T.na_Voter_sensors rfl
theorem ev_s_out (h : Ev ta σ H (.ref s)) (hv : VAt A H p l as v) (hs : as[i]? = some s) (T : Txt K mg A) : Ev (tFld K ta "is_out") σ H (.bl (v.ss.getD i S0).1) := let ⟨_, q⟩ := hv.sens i s hs; ev_fld h q T.cl_Sensor T.na_Sensor_is_out rfl
theorem ev_s_many (h : Ev ta σ H (.ref s)) (hv : VAt A H p l as v) (hs : as[i]? = some s) (T : Txt K mg A) : Ev (tFld K ta "many") σ H (.int (v.ss.getD i S0).2) := let ⟨_, q⟩ := hv.sens i s hs; ev_fld h q T.cl_Sensor T.na_Sensor_many rfl
end
end MV
local macro_rules | `(tactic| walk_at "ev1") => `(tactic| (first
  | with_reducible apply MV.ev_v_last
  | with_reducible apply MV.ev_v_th
  | with_reducible apply MV.ev_v_rate
  | with_reducible apply MV.ev_v_mis
  | with_reducible apply MV.ev_v_bk
  | with_reducible apply MV.ev_v_sens
  | with_reducible apply MV.ev_s_out
  | with_reducible apply MV.ev_s_many
  | with_reducible assumption))
namespace MV
open PySem PySem.Spec PyProof.Rows L2 Evl
section
variable {K : PySem.W.Frag} {mg : Str → Option Value} {A : Ads}
theorem pure_need_settings (T : Txt K mg A) (vs : List V) (H : Hp) (Q : VK) (E : XK) (h : sp_need_settings K A vs H Q E) : t_need_settings K A E { nx := fun _ H' => Q .non H', rt := Q } (start ["settings", "many", "threshold", "rate", "misses", "backs"] vs) H := by
  obtain ⟨a, m, t, r, ms, b, rfl, hS, q1, q2⟩ := h
  show t_need_settings K A E _ [some (.ref a), none, none, none, none, none] H
  refine q_tup5 (ev_var rfl) hS fun H1 e1 => ?_
  refine q_when (b := !(decide (3 ≤ m) && decide (m ≤ 9)) || (!(decide (0 ≤ t) && decide (t ≤ 1000000)) || !(decide (1 ≤ r) && decide (r ≤ 1000000)))) (by walk_at "ev") (fun hb H2 e2 => ?_) (fun hb H2 e2 => ?_)
  · refine s_raise fun H3 e3 => q2 ?_ H3 ((e1.trans e2).trans e3)
    unfold okSet
    simp only [Bool.or_eq_true, Bool.not_eq_true', Bool.and_eq_false_imp, decide_eq_true_eq, decide_eq_false_iff_not, Bool.and_eq_true] at hb ⊢
    omega
  · refine s_when (b := !(decide (1 ≤ ms) && decide (ms ≤ 1000)) || !(decide (1 ≤ b) && decide (b ≤ 1000))) (by walk_at "ev") (fun hc H3 e3 => ?_) (fun hc H3 e3 => ?_)
    · refine s_raise fun H4 e4 => q2 ?_ H4 (((e1.trans e2).trans e3).trans e4)
      unfold okSet
      simp only [Bool.or_eq_true, Bool.not_eq_true', Bool.and_eq_false_imp, decide_eq_true_eq, decide_eq_false_iff_not, Bool.and_eq_true] at hc ⊢
      omega
    · refine q1 ?_ H3 ((e1.trans e2).trans e3)
      unfold okSet
      simp only [Bool.or_eq_false_iff, Bool.not_eq_false', Bool.and_eq_true, decide_eq_true_eq] at hb hc ⊢
      omega
theorem oV_non {x : Option Int} : oV x = .non ↔ x = none := by
  cases x with
  | none => exact ⟨fun _ => rfl, fun _ => rfl⟩
  | some i => exact ⟨(fun z => nomatch z), (fun z => nomatch z)⟩
theorem map_oV_flat (vals : List (Option Int)) : (vals.map oV).all flat4 = true := by
  rw [List.all_eq_true]
  intro x hx
  obtain ⟨n, _, rfl⟩ := List.mem_map.mp hx
  cases n <;> rfl
theorem said_key : ∀ vals : List (Option Int), ((vals.map oV).filter (fun x => !decide (x = .non))).map (fun x => V.bl (decide (ab (toInt x) ≤ 1000000000))) = (vals.filterMap fun x => x.map fun i => decide (ab i ≤ 1000000000)).map V.bl
  | [] => rfl
  | none :: r => said_key r
  | some i :: r => congrArg (V.bl (decide (ab i ≤ 1000000000)) :: ·) (said_key r)
theorem said_all : ∀ vals : List (Option Int), (vals.filterMap fun x => x.map fun i => decide (ab i ≤ 1000000000)).all id = vals.all okOne
  | [] => rfl
  | none :: r => said_all r
  | some i :: r => congrArg (decide (ab i ≤ 1000000000) && ·) (said_all r)
theorem pure_need_step (T : Txt K mg A) (vs : List V) (H : Hp) (Q : VK) (E : XK) (h : sp_need_step K A vs H Q E) : t_need_step K A E { nx := fun _ H' => Q .non H', rt := Q } (start ["values", "many", "value"] vs) H := by
  obtain ⟨a, vals, many, rfl, hS, hz, q1, q2⟩ := h
  show t_need_step K A E _ [some (.ref a), some (.int many), none] H
  have hm : (vals.map oV).length = vals.length := List.length_map ..
  refine q_when (b := !decide (((vals.map oV).length : Int) = many)) (by walk_at "ev") (fun hb H1 e1 => ?_) (fun hb H1 e1 => ?_)
  · refine s_raise fun H2 e2 => q2 ?_ H2 (e1.trans e2)
    unfold okStep
    have h1 : ¬ ((vals.length : Int) = many) := by simpa [hm] using hb
    rw [decide_eq_false h1]
    rfl
  · have h1 : (vals.length : Int) = many := by simpa [hm] using hb
    have hS1 := ex_l e1 hS
    have key := said_key vals
    have key2 := said_all vals
    refine s_when (b := !(vals.all okOne)) (et_not (et_B ?_)) (fun hc H2 e2 => ?_) (fun hc H2 e2 => ?_)
    · rw [← key2]
      refine ev_cbN (xs := (vals.filterMap fun x => x.map fun i => decide (ab i ≤ 1000000000)).map V.bl) (el_is (el_lcM (fun x => !decide (x = .non)) (fun x => V.bl (decide (ab (toInt x) ≤ 1000000000))) (by walk_at "ev") hS1 (by omega) (fun _ => rfl) (fun x H3 e3 _ => by walk_at "ev") (fun x H3 e3 hx hp => ?_)) key) fun p2 H3 e3 h3 => rc_all (sq_of h3)
      obtain ⟨y, _, rfl⟩ := List.mem_map.mp hx
      cases y with
      | none => exact absurd hp (by decide)
      | some i =>
        show Ev _ ([some (.ref a), some (.int many), some (.int i)]) H3 (V.bl (decide ((if i < 0 then -i else i) ≤ 1000000000)))
        walk_at "ev"
    · refine s_raise fun H3 e3 => q2 ?_ H3 ((e1.trans e2).trans e3)
      unfold okStep
      rw [decide_eq_true h1]
      simpa using hc
    · refine q1 ?_ H2 (e1.trans e2)
      unfold okStep
      rw [decide_eq_true h1]
      simpa using hc
theorem pure_Sensor_init (T : Txt K mg A) (vs : List V) (H : Hp) (Q : VK) (E : XK) (h : sp_Sensor_init K A vs H Q E) : t_Sensor_init K A E { nx := fun _ H' => Q .non H', rt := Q } (start ["self"] vs) H := by
  obtain ⟨x, dx, rfl, h1, q⟩ := h
  show t_Sensor_init K A E _ [some (.ref x)] H
  refine q_fld (fs' := [("is_out", .bl false)]) ev_c (ev_var rfl) h1 T.cl_Sensor T.na_Sensor_is_out (by decide) rfl fun H1 e1 => ?_
  refine s_fld (fs' := sfs false 0) ev_c (ev_var rfl) upd_same T.cl_Sensor T.na_Sensor_many (by decide) rfl fun H2 e2 => ?_
  exact q _ ((But.upd e1).trans (But.upd e2)) upd_same
/-! ### reading a voter -/
theorem pure_Voter_given (T : Txt K mg A) (vs : List V) (H : Hp) (Q : VK) (E : XK) (h : sp_Voter_given K A vs H Q E) : t_Voter_given K A E { nx := fun _ H' => Q .non H', rt := Q } (start ["self"] vs) H := by
  obtain ⟨p, l, as, v, rfl, hv, q⟩ := h
  show t_Voter_given K A E _ [some (.ref p)] H
  exact s_ret (v := .int v.last) (by walk_at "ev") q
theorem refs_len (as : List Addr) : (as.map V.ref).length = as.length := List.length_map ..
theorem ref_at {as : List Addr} {i : Int} {s : Addr} (h0 : 0 ≤ i) (hs : as[i.toNat]? = some s) : atI (as.map V.ref) i = some (.ref s) := by
  obtain ⟨k, rfl⟩ := Int.eq_ofNat_of_zero_le h0
  refine atI_nat ?_
  rw [Int.toNat_natCast] at hs
  rw [List.getElem?_map, hs]
  rfl
theorem pure_Voter_sensor (T : Txt K mg A) (vs : List V) (H : Hp) (Q : VK) (E : XK) (h : sp_Voter_sensor K A vs H Q E) : t_Voter_sensor K A E { nx := fun _ H' => Q .non H', rt := Q } (start ["self", "place"] vs) H := by
  obtain ⟨p, l, as, v, i, rfl, hv, q1, q2⟩ := h
  show t_Voter_sensor K A E _ [some (.ref p), some (.int i)] H
  have hL : SqL K H l (as.map V.ref) := hv.seq
  have hm := refs_len as
  refine q_when (b := !(decide (0 ≤ i) && decide (i < ((as.map V.ref).length : Int)))) (by walk_at "ev") (fun hb H1 e1 => ?_) (fun hb H1 e1 => ?_)
  · refine s_raise fun H2 e2 => q2 (fun z => ?_) H2 (e1.trans e2)
    simp [hm] at hb
    omega
  · have hb1 : 0 ≤ i ∧ i < (as.length : Int) := by simpa [hm] using hb
    have hk : i.toNat < as.length := by omega
    have hs : as[i.toNat]? = some as[i.toNat] := List.getElem?_eq_getElem hk
    have hv1 := hv.ext e1
    have hL1 := ex_l e1 hL
    exact s_ret (v := .ref as[i.toNat]) (ev_op (by walk_at "ev") (by walk_at "ev") (rv_ixL hL1 (ref_at hb1.1 hs))) fun H2 e2 => q1 _ hb1.1 hs H2 (e1.trans e2)
theorem spv_sensor {H : Hp} {p l : Addr} {as : List Addr} {v : Vst} {i : Int} {s : Addr} (hv : VAt A H p l as v) (h0 : 0 ≤ i) (hs : as[i.toNat]? = some s) : SpV (sp_Voter_sensor K A) [.ref p, .int i] H (.ref s) := fun H1 e Q q E =>
  ⟨p, l, as, v, i, rfl, hv.ext e, (fun t _ ht => by
    have e2 : s = t := Option.some.inj (hs.symm.trans ht)
    subst e2
    exact q), fun hn => absurd ⟨h0, by have := (List.getElem?_eq_some_iff.mp hs).1; omega⟩ hn⟩
theorem own_no {m : Str} {v : Vst} {l : Addr} (h : (vfs v l).lookup m = none) : (vfs v l).lookup m = none := h
theorem pure_Voter_state (T : Txt K mg A) (vs : List V) (H : Hp) (Q : VK) (E : XK) (h : sp_Voter_state K A vs H Q E) : t_Voter_state K A E { nx := fun _ H' => Q .non H', rt := Q } (start ["self", "place", "one"] vs) H := by
  obtain ⟨p, l, as, v, i, rfl, hv, q1, q2⟩ := h
  show t_Voter_state K A E _ [some (.ref p), some (.int i), none] H
  obtain ⟨dx, hp⟩ := hv.own
  by_cases hi : 0 ≤ i ∧ i < (as.length : Int)
  · have hk : i.toNat < as.length := by omega
    have hs : as[i.toNat]? = some as[i.toNat] := List.getElem?_eq_getElem hk
    refine q_asg (v := .ref as[i.toNat]) (ev_meth (ev_var rfl) hp rfl (by walk_at "ev") (spv_sensor hv hi.1 hs)) fun H1 e1 => ?_
    have hv1 := hv.ext e1
    refine q_when (b := (v.ss.getD i.toNat S0).1) (by walk_at "ev") (fun hb H2 e2 => ?_) (fun hb H2 e2 => ?_)
    · refine s_ret (v := .str (stateW (v.ss.getD i.toNat S0))) ?_ fun H3 e3 => q1 hi H3 ((e1.trans e2).trans e3)
      unfold stateW
      rw [if_pos hb]
      exact ev_c
    · have hv2 := hv1.ext e2
      refine s_ret (v := .str (stateW (v.ss.getD i.toNat S0))) (ev_is (ev_ifB (b := decide ((v.ss.getD i.toNat S0).2 = 0)) (by walk_at "ev") ev_c ev_c) ?_) fun H3 e3 => q1 hi H3 ((e1.trans e2).trans e3)
      unfold stateW
      rw [hb]
      by_cases c : (v.ss.getD i.toNat S0).2 = 0
      · rw [decide_eq_true c, if_pos rfl, if_neg (by decide), if_pos c]
      · rw [decide_eq_false c, if_neg (by decide), if_neg (by decide), if_neg c]
  · exact q_asgM (ev_var rfl) hp rfl (by walk_at "ev") fun H1 e1 => ⟨p, l, as, v, i, rfl, hv.ext e1, (fun s h0 hs => absurd ⟨h0, by have := (List.getElem?_eq_some_iff.mp hs).1; omega⟩ hi), fun _ H2 e2 => q2 hi H2 (e1.trans e2)⟩
theorem pure_Voter_count (T : Txt K mg A) (vs : List V) (H : Hp) (Q : VK) (E : XK) (h : sp_Voter_count K A vs H Q E) : t_Voter_count K A E { nx := fun _ H' => Q .non H', rt := Q } (start ["self", "place"] vs) H := by
  obtain ⟨p, l, as, v, i, rfl, hv, q1, q2⟩ := h
  show t_Voter_count K A E _ [some (.ref p), some (.int i)] H
  obtain ⟨dx, hp⟩ := hv.own
  by_cases hi : 0 ≤ i ∧ i < (as.length : Int)
  · have hk : i.toNat < as.length := by omega
    have hs : as[i.toNat]? = some as[i.toNat] := List.getElem?_eq_getElem hk
    exact s_ret (v := .int (v.ss.getD i.toNat S0).2) (ev_s_many (ev_meth (ev_var rfl) hp rfl (by walk_at "ev") (spv_sensor hv hi.1 hs)) hv hs T) (q1 hi)
  · exact s_retFM (ev_var rfl) hp rfl (by walk_at "ev") fun H1 e1 Q' => ⟨p, l, as, v, i, rfl, hv.ext e1, (fun s h0 hs => absurd ⟨h0, by have := (List.getElem?_eq_some_iff.mp hs).1; omega⟩ hi), fun _ H2 e2 => q2 hi H2 (e1.trans e2)⟩
theorem pure_Voter_is_close (T : Txt K mg A) (vs : List V) (H : Hp) (Q : VK) (E : XK) (h : sp_Voter_is_close K A vs H Q E) : t_Voter_is_close K A E { nx := fun _ H' => Q .non H', rt := Q } (start ["self", "thing", "value"] vs) H := by
  obtain ⟨p, l, as, v, x, value, rfl, hv, q⟩ := h
  show t_Voter_is_close K A E _ [some (.ref p), some (oV x), some (.int value)] H
  cases x with
  | none => exact s_ret (v := .bl (clo v.th value none)) (ev_is (ev_andIf (a1 := false) (b1 := false) (ev_is (by walk_at "ev") (by rfl)) (fun z => nomatch z)) (by rfl)) q
  | some i =>
    refine s_ret (v := .bl (clo v.th value (some i))) (ev_is (ev_andIf (a1 := true) (b1 := decide ((if i - value < 0 then -(i - value) else i - value) ≤ v.th)) (ev_is (by walk_at "ev") (by rfl)) fun _ => ?_) (by rfl)) q
    show Ev _ [some (.ref p), some (.int i), some (.int value)] H _
    walk_at "ev"
theorem pure_Voter_word (T : Txt K mg A) (vs : List V) (H : Hp) (Q : VK) (E : XK) (h : sp_Voter_word K A vs H Q E) : t_Voter_word K A E { nx := fun _ H' => Q .non H', rt := Q } (start ["self", "numbers", "value", "close"] vs) H := by
  obtain ⟨p, l, as, v, a, t, value, rfl, hv, hS, hz, q⟩ := h
  show t_Voter_word K A E _ [some (.ref p), some (.ref a), some (.int value), none] H
  refine q_when (et_test (ev_eqNil (ev_var rfl) hS (ints_flat t))) (fun hb H1 e1 => ?_) (fun hb H1 e1 => ?_)
  · have h0 : t = [] := by simpa using hb
    refine s_ret (v := .str (wordOf as.length v.th t value)) ?_ fun H2 e2 => q H2 (e1.trans e2)
    unfold wordOf
    rw [if_pos h0]
    exact ev_c
  have h0 : ¬ t = [] := by simpa using hb
  have hS1 := ex_l e1 hS
  have hm : (t.map V.int).length = t.length := List.length_map ..
  refine q_when (b := decide (((t.map V.int).length : Int) = 1)) (by walk_at "ev") (fun hb H2 e2 => ?_) (fun hb H2 e2 => ?_)
  · have h1 : t.length = 1 := by
      have := of_decide_eq_true hb
      omega
    refine s_ret (v := .str (wordOf as.length v.th t value)) ?_ fun H3 e3 => q H3 ((e1.trans e2).trans e3)
    unfold wordOf
    rw [if_neg h0, if_pos h1]
    exact ev_c
  have h1 : ¬ t.length = 1 := by
    have := of_decide_eq_false hb
    omega
  have hv2 := hv.ext (e1.trans e2)
  have hS2 := ex_l e2 hS1
  refine q_asg (v := .int ((agr t value v.th).length : Int)) (ev_lenN (el_call0 (by walk_at "ev") (spl_agree hS2 (by omega)))) fun H3 e3 => ?_
  have hS3 := ex_l e3 hS2
  refine q_when (b := decide (2 * ((agr t value v.th).length : Int) ≤ ((t.map V.int).length : Int))) (by walk_at "ev") (fun hb H4 e4 => ?_) (fun hb H4 e4 => ?_)
  · have h2 : 2 * (agr t value v.th).length ≤ t.length := by
      have := of_decide_eq_true hb
      omega
    refine s_ret (v := .str (wordOf as.length v.th t value)) ?_ fun H5 e5 => q H5 ((((e1.trans e2).trans e3).trans e4).trans e5)
    unfold wordOf
    rw [if_neg h0, if_neg h1, if_pos h2]
    exact ev_c
  have h2 : ¬ 2 * (agr t value v.th).length ≤ t.length := by
    have := of_decide_eq_false hb
    omega
  have hv4 := hv2.ext (e3.trans e4)
  have hL4 : SqL K H4 l (as.map V.ref) := hv4.seq
  refine s_ret (v := .str (wordOf as.length v.th t value)) (ev_is (ev_ifB (b := decide (((agr t value v.th).length : Int) = ((as.map V.ref).length : Int))) (by walk_at "ev") ev_c ev_c) ?_) fun H5 e5 => q H5 ((((e1.trans e2).trans e3).trans e4).trans e5)
  unfold wordOf
  rw [if_neg h0, if_neg h1, if_neg h2, refs_len]
  by_cases c : (agr t value v.th).length = as.length
  · rw [if_pos c, decide_eq_true (by omega), if_pos rfl]
  · rw [if_neg c, decide_eq_false (by omega), if_neg (by decide)]
end
end MV
namespace MV
open PySem PySem.Spec PyProof.Rows L2 Evl
section
variable {K : PySem.W.Frag} {mg : Str → Option Value} {A : Ads}
theorem sfs_small {o : Bool} {m : Int} : (sfs o m).length < 1000 := by show 2 < 1000; decide
theorem vfs_small {v : Vst} {l : Addr} : (vfs v l).length < 1000 := by show 6 < 1000; decide
theorem given_gen {α : Type} (xs : List α) (d : α) (p : α → Bool) (g : Nat → V) : (Evl.given xs.length (fun i => p (xs.getD i d)) g).length = (xs.filter p).length := by
  have key : ∀ i, i ≤ xs.length → (Evl.given i (fun i => p (xs.getD i d)) g).length = ((xs.take i).filter p).length := by
    intro i
    induction i with
    | zero => intro _; rfl
    | succ i ih =>
      intro h
      have hi : i < xs.length := h
      have e : xs.getD i d = xs[i] := by rw [List.getD_eq_getElem?_getD, List.getElem?_eq_getElem hi]; rfl
      have e2 : xs.take (i + 1) = xs.take i ++ [xs[i]] := by rw [List.take_add_one, List.getElem?_eq_getElem hi]; rfl
      rw [e2, List.filter_append, List.length_append, ← ih (by omega)]
      cases hp : p xs[i] with
      | true =>
        rw [Evl.given_yes (by show p (xs.getD i d) = true; rw [e]; exact hp), List.length_append, List.filter_cons, hp]
        rfl
      | false =>
        rw [Evl.given_no (by show p (xs.getD i d) = false; rw [e]; exact hp), List.filter_cons, hp]
        rfl
  rw [key _ (Nat.le_refl _), List.take_length]
theorem getD_set_self {ss : List (Bool × Int)} {i : Nat} {x : Bool × Int} (h : i < ss.length) : (ss.set i x).getD i S0 = x := by
  rw [List.getD_eq_getElem?_getD, List.getElem?_set_self h]
  rfl
theorem set_set' {ss : List (Bool × Int)} {i : Nat} {x y : Bool × Int} : (ss.set i x).set i y = ss.set i y := List.set_set ..
theorem refs_get {as : List Addr} {i : Nat} {x : V} (h : (as.map V.ref)[i]? = some x) : ∃ s, as[i]? = some s ∧ x = .ref s := by
  rw [List.getElem?_map] at h
  cases e : as[i]? with
  | none => rw [e] at h; cases h
  | some s => rw [e] at h; exact ⟨s, rfl, (Option.some.inj h).symm⟩
theorem inN_set {ss : List (Bool × Int)} {i : Nat} {m : Int} (h : (ss.getD i S0).1 = false) : inN (ss.set i (false, m)) = inN ss := by
  unfold inN
  induction ss generalizing i with
  | nil => rfl
  | cons s r ih =>
    cases i with
    | zero =>
      have e : s.1 = false := h
      show (((false, m) :: r).filter fun s => !s.1).length = ((s :: r).filter fun s => !s.1).length
      rw [List.filter_cons, List.filter_cons, e]
      rfl
    | succ i =>
      have h2 : (r.getD i S0).1 = false := h
      show ((s :: r.set i (false, m)).filter fun s => !s.1).length = ((s :: r).filter fun s => !s.1).length
      rw [List.filter_cons, List.filter_cons]
      split
      · rw [List.length_cons, List.length_cons, ih h2]
      · exact ih h2
theorem pure_Voter_watch (T : Txt K mg A) (vs : List V) (H : Hp) (Q : VK) (E : XK) (h : sp_Voter_watch K A vs H Q E) : t_Voter_watch K A E { nx := fun _ H' => Q .non H', rt := Q } (start ["self", "one", "is_close", "others", "other"] vs) H := by
  obtain ⟨p, l, as, v, s, i, c, rfl, hv, hs, ho, q⟩ := h
  show t_Voter_watch K A E _ [some (.ref p), some (.ref s), some (.bl c), none, none] H
  have hi : i < v.ss.length := by rw [← hv.len]; exact (List.getElem?_eq_some_iff.mp hs).1
  refine q_when (b := c) (by walk_at "ev") (fun hb H1 e1 => ?_) (fun hb H1 e1 => ?_)
  · subst hb
    have hv1 := hv.ext e1
    obtain ⟨dy, hq⟩ := hv1.sens i s hs
    refine q_fld (y := .int (if (v.ss.getD i S0).2 - 1 > 0 then (v.ss.getD i S0).2 - 1 else 0)) (fs' := sfs (v.ss.getD i S0).1 (if (v.ss.getD i S0).2 - 1 > 0 then (v.ss.getD i S0).2 - 1 else 0)) (by walk_at "ev") (ev_var rfl) hq T.cl_Sensor T.na_Sensor_many sfs_small rfl fun H2 e2 => ?_
    refine q _ ((But.of e1).trans (But.upd e2)) ?_
    have hv2 := (hv1.ext e2).set (dy := dy) (o := (v.ss.getD i S0).1) (m := if (v.ss.getD i S0).2 - 1 > 0 then (v.ss.getD i S0).2 - 1 else 0) hs
    rw [ho] at hv2 ⊢
    exact hv2
  · subst hb
    have hv1 := hv.ext e1
    obtain ⟨dy, hq⟩ := hv1.sens i s hs
    refine q_fld (y := .int ((v.ss.getD i S0).2 + 1)) (fs' := sfs (v.ss.getD i S0).1 ((v.ss.getD i S0).2 + 1)) (by walk_at "ev") (ev_var rfl) hq T.cl_Sensor T.na_Sensor_many sfs_small rfl fun H2 e2 => ?_
    have hv2 := (hv1.ext e2).set (dy := dy) (o := (v.ss.getD i S0).1) (m := (v.ss.getD i S0).2 + 1) hs
    rw [ho] at hv2 ⊢
    have hL2 := hv2.seq (K := K)
    have b2 : But s H (upd H2 s (.ins A.c_Sensor dy (sfs false ((v.ss.getD i S0).2 + 1)))) := (But.of e1).trans (But.upd e2)
    generalize upd H2 s (.ins A.c_Sensor dy (sfs false ((v.ss.getD i S0).2 + 1))) = H3 at hv2 hL2 b2 ⊢
    have e9 : (v.ss.set i (false, (v.ss.getD i S0).2 + 1)).getD i S0 = (false, (v.ss.getD i S0).2 + 1) := getD_set_self hi
    have eL : (as.map V.ref).length = (v.ss.set i (false, (v.ss.getD i S0).2 + 1)).length := by rw [refs_len, List.length_set]; exact hv.len
    refine q_asgL (el_lcL (fun j => !((v.ss.set i (false, (v.ss.getD i S0).2 + 1)).getD j S0).1) (fun j => (as.map V.ref).getD j .non) (ev_v_sens (ev_var rfl) hv2 T) hL2 (by rw [refs_len]; have := hv.small; omega) (fun _ => rfl) (fun j x H4 e4 hx => ?_) (fun j x H4 e4 hx _ => ?_)) fun op H4 nop e4 h4 => ?_
    · obtain ⟨t, ht, rfl⟩ := refs_get hx
      have hv4 := hv2.ext e4
      exact et_not (et_B (ev_s_out (ev_var rfl) hv4 ht T))
    · have e : (as.map V.ref).getD j .non = x := by rw [List.getD_eq_getElem?_getD, hx]; rfl
      rw [e]
      exact ev_var rfl
    have hv4 := hv2.ext e4
    have hO4 : SqL K H4 op (Evl.given (as.map V.ref).length (fun j => !((v.ss.set i (false, (v.ss.getD i S0).2 + 1)).getD j S0).1) (fun j => (as.map V.ref).getD j .non)) := sq_of h4
    have eN : (Evl.given (as.map V.ref).length (fun j => !((v.ss.set i (false, (v.ss.getD i S0).2 + 1)).getD j S0).1) (fun j => (as.map V.ref).getD j .non)).length = inN v.ss := by
      rw [eL, given_gen (v.ss.set i (false, (v.ss.getD i S0).2 + 1)) S0 (fun s => !s.1)]
      exact inN_set ho
    have hmany : Ev (tFld K (tVar 1) "many") ([some (.ref p), some (.ref s), some (.bl false), none, none].set 3 (some (.ref op))) H4 (.int ((v.ss.getD i S0).2 + 1)) := by
      have := ev_s_many (σ := [some (.ref p), some (.ref s), some (.bl false), none, none].set 3 (some (.ref op))) (ta := tVar 1) (ev_var rfl) hv4 hs T
      rw [e9] at this
      exact this
    refine s_when (b := decide (v.mis ≤ (v.ss.getD i S0).2 + 1) && decide (1 < (inN v.ss : Int))) (et_andB (et_test (ev_op hmany (ev_v_mis (ev_var rfl) hv4 T) rv_I0)) (et_test (ev_op (ev_cb (ea_cons (ev_var rfl) ea_nil) (by have := rc_len hO4; rw [eN] at this; exact this)) ev_c rv_I0))) (fun hb H5 e5 => ?_) (fun hb H5 e5 => ?_)
    · rw [Bool.and_eq_true, decide_eq_true_eq, decide_eq_true_eq] at hb
      have hv5 := hv4.ext e5
      obtain ⟨dz, hq5⟩ := hv5.sens i s hs
      rw [e9] at hq5
      refine q_fld (y := .bl true) (fs' := sfs true ((v.ss.getD i S0).2 + 1)) ev_c (ev_var rfl) hq5 T.cl_Sensor T.na_Sensor_is_out sfs_small rfl fun H6 e6 => ?_
      have hv6 := (hv5.ext e6).set (dy := dz) (o := true) (m := (v.ss.getD i S0).2 + 1) hs
      refine s_fld (y := .int 0) (fs' := sfs true 0) ev_c (ev_var rfl) upd_same T.cl_Sensor T.na_Sensor_many sfs_small rfl fun H7 e7 => ?_
      have hv7 := (hv6.ext e7).set (dy := dz) (o := true) (m := 0) hs
      refine q _ ((((b2.trans (But.of e4)).trans (But.of e5)).trans (But.upd e6)).trans (But.upd e7)) ?_
      have en : nextG v.mis (inN v.ss) (v.ss.getD i S0) false = (true, 0) := by
        unfold nextG
        rw [if_neg (by decide), if_pos ⟨hb.1, by omega⟩]
      rw [en]
      have hv8 := hv7
      simp only [set_set'] at hv8
      exact hv8
    · refine q _ ((b2.trans (But.of e4)).trans (But.of e5)) ?_
      have en : nextG v.mis (inN v.ss) (v.ss.getD i S0) false = (false, (v.ss.getD i S0).2 + 1) := by
        unfold nextG
        rw [if_neg (by decide), if_neg]
        intro z
        rw [decide_eq_true z.1, decide_eq_true (by omega)] at hb
        cases hb
      rw [en]
      exact hv4.ext e5
theorem pure_Voter_wait (T : Txt K mg A) (vs : List V) (H : Hp) (Q : VK) (E : XK) (h : sp_Voter_wait K A vs H Q E) : t_Voter_wait K A E { nx := fun _ H' => Q .non H', rt := Q } (start ["self", "one", "is_close"] vs) H := by
  obtain ⟨p, l, as, v, s, i, c, rfl, hv, hs, ho, q⟩ := h
  show t_Voter_wait K A E _ [some (.ref p), some (.ref s), some (.bl c)] H
  have hi : i < v.ss.length := by rw [← hv.len]; exact (List.getElem?_eq_some_iff.mp hs).1
  obtain ⟨dy, hq⟩ := hv.sens i s hs
  have hb0 : -18446744073709551616 < (if c = true then (1 : Int) else 0) ∧ (if c = true then (1 : Int) else 0) < 18446744073709551616 := by cases c <;> decide
  refine q_fld (y := .int (((v.ss.getD i S0).2 + 1) * (if c = true then 1 else 0))) (fs' := sfs (v.ss.getD i S0).1 (((v.ss.getD i S0).2 + 1) * (if c = true then 1 else 0))) (ev_op (ev_op (ev_s_many (ev_var rfl) hv hs T) ev_c rv_I0) (ev_cb (ea_cons (ev_var rfl) ea_nil) rc_intB) (rv_I (.inr hb0))) (ev_var rfl) hq T.cl_Sensor T.na_Sensor_many sfs_small rfl fun H1 e1 => ?_
  have hv1 := (hv.ext e1).set (dy := dy) (o := (v.ss.getD i S0).1) (m := ((v.ss.getD i S0).2 + 1) * (if c = true then 1 else 0)) hs
  rw [ho] at hv1 ⊢
  have b1 : But s H (upd H1 s (.ins A.c_Sensor dy (sfs true (((v.ss.getD i S0).2 + 1) * (if c = true then 1 else 0))))) := But.upd e1
  generalize upd H1 s (.ins A.c_Sensor dy (sfs true (((v.ss.getD i S0).2 + 1) * (if c = true then 1 else 0)))) = H2 at hv1 b1 ⊢
  have e9 : (v.ss.set i (true, ((v.ss.getD i S0).2 + 1) * (if c = true then 1 else 0))).getD i S0 = (true, ((v.ss.getD i S0).2 + 1) * (if c = true then 1 else 0)) := getD_set_self hi
  have hmany : Ev (tFld K (tVar 1) "many") [some (.ref p), some (.ref s), some (.bl c)] H2 (.int (((v.ss.getD i S0).2 + 1) * (if c = true then 1 else 0))) := by
    have := ev_s_many (σ := [some (.ref p), some (.ref s), some (.bl c)]) (ta := tVar 1) (ev_var rfl) hv1 hs T
    rw [e9] at this
    exact this
  refine s_when (b := decide (((v.ss.getD i S0).2 + 1) * (if c = true then 1 else 0) = v.bk)) (et_test (ev_op hmany (ev_v_bk (ev_var rfl) hv1 T) rv_eqI)) (fun hb H3 e3 => ?_) (fun hb H3 e3 => ?_)
  · have hv3 := hv1.ext e3
    obtain ⟨dz, hq3⟩ := hv3.sens i s hs
    rw [e9] at hq3
    refine q_fld (y := .bl false) (fs' := sfs false (((v.ss.getD i S0).2 + 1) * (if c = true then 1 else 0))) ev_c (ev_var rfl) hq3 T.cl_Sensor T.na_Sensor_is_out sfs_small rfl fun H4 e4 => ?_
    have hv4 := (hv3.ext e4).set (dy := dz) (o := false) (m := ((v.ss.getD i S0).2 + 1) * (if c = true then 1 else 0)) hs
    refine s_fld (y := .int 0) (fs' := sfs false 0) ev_c (ev_var rfl) upd_same T.cl_Sensor T.na_Sensor_many sfs_small rfl fun H5 e5 => ?_
    have hv5 := (hv4.ext e5).set (dy := dz) (o := false) (m := 0) hs
    refine q _ (((b1.trans (But.of e3)).trans (But.upd e4)).trans (But.upd e5)) ?_
    have en : nextW v.bk true (v.ss.getD i S0) c = (false, 0) := by
      unfold nextW
      rw [Bool.and_true, if_pos (of_decide_eq_true hb)]
    rw [en]
    simp only [set_set'] at hv5
    exact hv5
  · refine q _ (b1.trans (But.of e3)) ?_
    have en : nextW v.bk true (v.ss.getD i S0) c = (true, ((v.ss.getD i S0).2 + 1) * (if c = true then 1 else 0)) := by
      unfold nextW
      rw [Bool.and_true, if_neg (of_decide_eq_false hb)]
    rw [en]
    exact hv1.ext e3
end
end MV
namespace MV
open PySem PySem.Spec PyProof.Rows L2 Evl
section
variable {K : PySem.W.Frag} {mg : Str → Option Value} {A : Ads}
theorem spv_word {H : Hp} {p l a : Addr} {as : List Addr} {v : Vst} {t : List Int} {value : Int} (hv : VAt A H p l as v) (hS : SqL K H a (t.map V.int)) (hz : t.length ≤ 100) : SpV (sp_Voter_word K A) [.ref p, .ref a, .int value] H (.str (wordOf as.length v.th t value)) := fun H1 e Q q E =>
  ⟨p, l, as, v, a, t, value, rfl, hv.ext e, ex_l e hS, hz, q⟩
theorem spv_is_close {H : Hp} {p l : Addr} {as : List Addr} {v : Vst} {x : Option Int} {value : Int} (hv : VAt A H p l as v) : SpV (sp_Voter_is_close K A) [.ref p, oV x, .int value] H (.bl (clo v.th value x)) := fun H1 e Q q E =>
  ⟨p, l, as, v, x, value, rfl, hv.ext e, q⟩
theorem said_at {vals : List (Option Int)} {i : Nat} (hi : i < vals.length) : atI (vals.map oV) (i : Int) = some (oV (vals.getD i none)) := by
  refine atI_nat ?_
  rw [List.getElem?_map, List.getElem?_eq_getElem hi, List.getD_eq_getElem?_getD, List.getElem?_eq_getElem hi]
  rfl
theorem there_len (ss : List (Bool × Int)) (vals : List (Option Int)) : (there ss vals).length ≤ ss.length := by
  unfold there
  rw [List.length_map]
  have h := List.length_filter_le (isHere ss vals) (List.range ss.length)
  rw [List.length_range] at h
  exact h
theorem there_given {ss : List (Bool × Int)} {vals : List (Option Int)} : Evl.given ss.length (isHere ss vals) (fun i => oV (vals.getD i none)) = (there ss vals).map V.int := by
  unfold Evl.given there
  rw [List.map_map]
  refine List.map_congr_left fun i hi => ?_
  have h := (List.mem_filter.mp hi).2
  unfold isHere at h
  rw [Bool.and_eq_true] at h
  obtain ⟨x, hx⟩ := Option.isSome_iff_exists.mp h.2
  show oV (vals.getD i none) = V.int ((vals.getD i none).getD 0)
  rw [hx]
  rfl
theorem turns_succ (v : Vst) (any : Bool) (value : Int) (vals : List (Option Int)) (i : Nat) : turns v any value vals (i + 1) = turnS v any value vals (turns v any value vals i) i := by
  unfold turns
  rw [List.range_succ, List.foldl_append]
  rfl
theorem turns_len (v : Vst) (any : Bool) (value : Int) (vals : List (Option Int)) : ∀ i, (turns v any value vals i).length = v.ss.length
  | 0 => rfl
  | i + 1 => by
    rw [turns_succ]
    unfold turnS
    rw [List.length_set]
    exact turns_len v any value vals i
theorem nextW_any (bk : Int) (any : Bool) (s : Bool × Int) (c : Bool) : nextW bk true s (c && any) = nextW bk any s c := by unfold nextW; simp
theorem Buts.fresh {fp : List Addr} {H H' : Hp} {q : Addr} (e : Buts fp H H') (hq : q ∉ fp) (h : H' q = none) : H q = none := by
  cases z : H q with
  | none => rfl
  | some o =>
    rw [e q o hq z] at h
    cases h
theorem pure_Voter_step (T : Txt K mg A) (vs : List V) (H : Hp) (Q : VK) (E : XK) (h : sp_Voter_step K A vs H Q E) : t_Voter_step K A E { nx := fun _ H' => Q .non H', rt := Q } (start ["self", "values", "numbers", "place", "one", "value", "word", "is_close"] vs) H := by
  obtain ⟨p, l, as, v, a, vals, rfl, hv, hS, hz, haf, q1, q2⟩ := h
  show t_Voter_step K A E _ [some (.ref p), some (.ref a), none, none, none, none, none, none] H
  have hL : SqL K H l (as.map V.ref) := hv.seq
  have hm := refs_len as
  by_cases hok : okStep vals as.length = true
  case neg =>
    have hok0 : okStep vals as.length = false := by simpa using hok
    refine q_dropC (vs := [.ref a, .int ((as.map V.ref).length : Int)]) (by walk_at "ev") fun H1 e1 => ⟨a, vals, _, rfl, ex_l e1 hS, hz, fun hn => ?_, fun _ H2 e2 => q2 hok0 H2 (e1.trans e2)⟩
    rw [hm] at hn
    exact absurd hn hok
  refine q_dropC (vs := [.ref a, .int ((as.map V.ref).length : Int)]) (by walk_at "ev") fun H1 e1 => ⟨a, vals, _, rfl, ex_l e1 hS, hz, fun _ H2 e2 => ?_, fun hn => ?_⟩
  case refine_2 =>
    rw [hm, hok] at hn
    cases hn
  have q1 := q1 hok
  have hlen : vals.length = as.length := by
    unfold okStep at hok
    rw [Bool.and_eq_true, decide_eq_true_eq] at hok
    omega
  have hv2 := hv.ext (e1.trans e2)
  have hS2 := ex_l (e1.trans e2) hS
  have hL2 : SqL K H2 l (as.map V.ref) := hv2.seq
  -- the numbers
  refine q_asgL (xs := (there v.ss vals).map V.int) (el_is (el_lcE (fun i => isHere v.ss vals i) (fun i => oV (vals.getD i none)) (ea_cons (ev_v_sens (ev_var rfl) hv2 T) ea_nil) hL2 (by rw [hm]; have := hv.small; omega) rfl (fun _ _ => rfl) (fun i x H3 e3 hx => ?_) (fun i x H3 e3 hx _ => ?_)) ?_) fun np H3 nnp e3 h3 => ?_
  · obtain ⟨s, hs, rfl⟩ := refs_get hx
    have hi : i < vals.length := by rw [hlen]; exact (List.getElem?_eq_some_iff.mp hs).1
    have hv3 := hv2.ext e3
    have hS3 := ex_l e3 hS2
    refine et_is (et_andB (et_not (et_B (ev_s_out (ev_var rfl) hv3 hs T))) (et_test (ev_op (ev_op (ev_var rfl) (ev_var rfl) (rv_ixL hS3 (said_at hi))) ev_c rv_notN))) ?_
    unfold isHere
    cases vals.getD i none <;> rfl
  · obtain ⟨s, hs, rfl⟩ := refs_get hx
    have hi : i < vals.length := by rw [hlen]; exact (List.getElem?_eq_some_iff.mp hs).1
    exact ev_op (ev_var rfl) (ev_var rfl) (rv_ixL (ex_l e3 hS2) (said_at hi))
  · rw [hm, hv.len]
    exact there_given
  have hv3 := hv2.ext e3
  have hN3 : SqL K H3 np ((there v.ss vals).map V.int) := sq_of h3
  have hS3 := ex_l e3 hS2
  -- value
  refine q_asg (v := .int v.last) (ev_v_last (ev_var rfl) hv3 T) fun H4 e4 => ?_
  have hv4 := hv3.ext e4
  have hN4 := ex_l e4 hN3
  have hS4 := ex_l e4 hS3
  have htl := there_len v.ss vals
  have hs9 := hv.small
  have hl9 := hv.len
  refine q_ifAsg (b := !decide ((there v.ss vals).map V.int = [])) (v := .int (valueOf v vals)) (et_test (ev_neNil (ev_var rfl) hN4 (ints_flat _))) (fun hb => ?_) (fun hb => ?_) fun H5 e5 => ?_
  · have h0 : there v.ss vals ≠ [] := by simpa using hb
    unfold valueOf
    rw [if_neg h0]
    exact ev_call0 (ea_cons (ev_var rfl) (ea_cons (ev_v_last (ev_var rfl) hv4 T) ea_nil)) (spv_middle hN4 h0 (by omega))
  · have h0 : there v.ss vals = [] := by simpa using hb
    unfold valueOf
    rw [if_pos h0]
    rfl
  have hv5 := hv4.ext e5
  have hN5 := ex_l e5 hN4
  have hS5 := ex_l e5 hS4
  -- word
  obtain ⟨dx5, hp5⟩ := hv5.own
  refine q_asg (v := .str (stepW v vals)) (ev_is (ev_meth (ev_var rfl) hp5 rfl (ea_cons (ev_var rfl) (ea_cons (ev_var rfl) ea_nil)) (spv_word hv5 hN5 (by omega))) (by unfold stepW; rw [hl9])) fun H6 e6 => ?_
  have hv6 := hv5.ext e6
  have hN6 := ex_l e6 hN5
  have hS6 := ex_l e6 hS5
  have hL6 : SqL K H6 l (as.map V.ref) := hv6.seq
  have eA : (!decide ((there v.ss vals).map V.int = [])) = anyHere v vals := by
    unfold anyHere
    simp
  -- the sensors, in order
  have hnp : np ∉ p :: as := hv2.new nnp
  refine q_forE (p := l) (xs := as.map V.ref) (ea_cons (ev_v_sens (ev_var rfl) hv6 T) ea_nil) hL6
    (fun i σ H' => ∃ y3 y4 y7, σ = [some (.ref p), some (.ref a), some (.ref np), y3, y4, some (.int (valueOf v vals)), some (.str (stepW v vals)), y7] ∧ Buts (p :: as) H6 H' ∧ VAt A H' p l as { v with ss := turns v (anyHere v vals) (valueOf v vals) vals i })
    (fun H7 e7 => ⟨none, none, none, rfl, Buts.of e7, hv6.ext e7⟩) (fun i σ H7 _ ⟨_, _, _, _, _, hv7⟩ => hv7.seq) (fun i x σ H7 hx ⟨y3, y4, y7, es, b7, hv7⟩ H8 e8 => ?_) (fun σ H7 ⟨y3, y4, y7, es, b7, hv7⟩ => ?_)
  · subst es
    obtain ⟨s, hs, rfl⟩ := refs_get hx
    have hia : i < as.length := (List.getElem?_eq_some_iff.mp hs).1
    have hi : i < vals.length := by omega
    have hv8 := hv7.ext e8
    have hS8 := ex_l e8 (b7.seq haf hS6)
    have hN8 := ex_l e8 (b7.seq hnp hN6)
    obtain ⟨dx8, hp8⟩ := hv8.own
    refine q_asg (v := .bl (clo v.th (valueOf v vals) (vals.getD i none))) (ev_meth (ev_var rfl) hp8 rfl (ea_cons (ev_op (ev_var rfl) (ev_var rfl) (rv_ixL hS8 (said_at hi))) (ea_cons (ev_var rfl) ea_nil)) (spv_is_close (v := { v with ss := turns v (anyHere v vals) (valueOf v vals) vals i }) hv8)) fun H9 e9 => ?_
    have hv9 := hv8.ext e9
    have hN9 := ex_l e9 hN8
    obtain ⟨dx9, hp9⟩ := hv9.own
    have b9 : Buts (p :: as) H6 H9 := b7.trans (Buts.of (e8.trans e9))
    have hsm : s ∈ p :: as := List.mem_cons_of_mem _ (List.mem_of_getElem? hs)
    refine s_if (et_B (ev_s_out (ev_var rfl) hv9 hs T)) (fun hb H10 e10 => ?_) (fun hb H10 e10 => ?_)
    · have hv10 := hv9.ext e10
      have hN10 := ex_l e10 hN9
      obtain ⟨dx10, hp10⟩ := hv10.own
      refine s_dropM (vs := [.ref s, .bl (clo v.th (valueOf v vals) (vals.getD i none) && anyHere v vals)]) (ev_var rfl) hp10 rfl (ea_cons (ev_var rfl) (ea_cons (ev_andB (ev_var rfl) (ev_is (ev_neNil (ev_var rfl) hN10 (ints_flat _)) (by rw [eA]))) ea_nil)) fun H11 e11 => ?_
      refine ⟨p, l, as, _, s, i, _, rfl, hv10.ext e11, hs, hb, fun H12 b12 hv12 => ⟨_, _, _, rfl, b9.trans ((Buts.of (e10.trans e11)).trans (Buts.but hsm b12)), ?_⟩⟩
      have en : turns v (anyHere v vals) (valueOf v vals) vals (i + 1) = (turns v (anyHere v vals) (valueOf v vals) vals i).set i (nextW v.bk true ((turns v (anyHere v vals) (valueOf v vals) vals i).getD i S0) (clo v.th (valueOf v vals) (vals.getD i none) && anyHere v vals)) := by
        rw [turns_succ, nextW_any]
        unfold turnS nextS
        rw [if_pos hb]
      rw [en]
      exact hv12
    · have hv10 := hv9.ext e10
      obtain ⟨dx10, hp10⟩ := hv10.own
      refine s_dropM (vs := [.ref s, .bl (clo v.th (valueOf v vals) (vals.getD i none))]) (ev_var rfl) hp10 rfl (ea_cons (ev_var rfl) (ea_cons (ev_var rfl) ea_nil)) fun H11 e11 => ?_
      refine ⟨p, l, as, _, s, i, _, rfl, hv10.ext e11, hs, hb, fun H12 b12 hv12 => ⟨_, _, _, rfl, b9.trans ((Buts.of (e10.trans e11)).trans (Buts.but hsm b12)), ?_⟩⟩
      have en : turns v (anyHere v vals) (valueOf v vals) vals (i + 1) = (turns v (anyHere v vals) (valueOf v vals) vals i).set i (nextG v.mis (inN (turns v (anyHere v vals) (valueOf v vals) vals i)) ((turns v (anyHere v vals) (valueOf v vals) vals i).getD i S0) (clo v.th (valueOf v vals) (vals.getD i none))) := by
        rw [turns_succ]
        unfold turnS nextS
        rw [if_neg (by rw [hb]; decide)]
      rw [en]
      exact hv12
  · subst es
    rw [hm, hl9] at hv7
    obtain ⟨dx7, hp7⟩ := hv7.own
    -- what is given
    refine q_fld (y := .int (mvd v.last (valueOf v vals) v.rate)) (fs' := vfs { v with last := mvd v.last (valueOf v vals) v.rate, ss := stepS v vals } l) (ev_call0 (ea_cons (ev_v_last (ev_var rfl) hv7 T) (ea_cons (ev_var rfl) (ea_cons (ev_v_rate (ev_var rfl) hv7 T) ea_nil))) spv_moved) (ev_var rfl) hp7 T.cl_Voter T.na_Voter_last vfs_small rfl fun H8 e8 => ?_
    have hv9 : VAt A (upd H8 p (.ins A.c_Voter dx7 (vfs { v with last := mvd v.last (valueOf v vals) v.rate, ss := stepS v vals } l))) p l as (stepV v vals) := (hv7.ext e8).last
    have b9 : Buts (p :: as) H (upd H8 p (.ins A.c_Voter dx7 (vfs { v with last := mvd v.last (valueOf v vals) v.rate, ss := stepS v vals } l))) :=
      (Buts.of (((((e1.trans e2).trans e3).trans e4).trans e5).trans e6)).trans (b7.trans (Buts.but List.mem_cons_self (But.upd e8)))
    generalize upd H8 p (.ins A.c_Voter dx7 (vfs { v with last := mvd v.last (valueOf v vals) v.rate, ss := stepS v vals } l)) = H9 at hv9 b9 ⊢
    refine s_retU (eu_tup (vs := [.int (stepV v vals).last, .str (stepW v vals)]) (ea_cons (ev_v_last (ev_var rfl) hv9 T) (ea_cons (ev_var rfl) ea_nil)) (by show 2 ≤ 100000; decide)) fun q H10 nq e10 h10 => ?_
    exact q1 H10 q (b9.trans (Buts.of e10)) (b9.fresh (hv9.new nq) nq) h10 (hv9.ext e10)
end
end MV
namespace MV
open PySem PySem.Spec PyProof.Rows L2 Evl
section
variable {K : PySem.W.Frag} {mg : Str → Option Value} {A : Ads}
theorem fresh_get (n i : Nat) : (List.replicate n S0).getD i S0 = S0 := by
  rw [List.getD_eq_getElem?_getD]
  by_cases h : i < n
  · rw [List.getElem?_replicate, if_pos h]
    rfl
  · rw [List.getElem?_replicate, if_neg h]
    rfl
/-- what the making of the sensors keeps -/
structure Made (A : Ads) (Hb : Hp) (i : Nat) (acc : List V) (Dl : Addr) (H : Hp) : Prop where
  ex : ∃ as : List Addr, acc = as.map V.ref ∧ as.length = i ∧ as.Nodup ∧ Dl ∉ as ∧ (∀ s ∈ as, Hb s = none) ∧ ∀ s ∈ as, ∃ dy, H s = some (.ins A.c_Sensor dy (sfs false 0))
  kept : Ex Hb H
  new : Hb Dl = none
theorem pure_Voter_init (T : Txt K mg A) (vs : List V) (H : Hp) (Q : VK) (E : XK) (h : sp_Voter_init K A vs H Q E) : t_Voter_init K A E { nx := fun _ H' => Q .non H', rt := Q } (start ["self", "settings", "start", "many", "threshold", "rate", "misses", "backs", "k"] vs) H := by
  obtain ⟨p, dx, a, m, t, r, ms, b, st, rfl, hp, hS, q1, q2⟩ := h
  show t_Voter_init K A E _ [some (.ref p), some (.ref a), some (.int st), none, none, none, none, none, none] H
  by_cases hok : okSet m t r ms b = true
  case neg =>
    have hok0 : okSet m t r ms b = false := by simpa using hok
    exact q_dropC (vs := [.ref a]) (by walk_at "ev") fun H1 e1 => ⟨a, m, t, r, ms, b, rfl, ex_t e1 hS, fun hn => absurd hn hok, fun _ H2 e2 => q2 hok0 H2 (e1.trans e2)⟩
  refine q_dropC (vs := [.ref a]) (by walk_at "ev") fun H1 e1 => ⟨a, m, t, r, ms, b, rfl, ex_t e1 hS, fun _ H2 e2 => ?_, fun hn => absurd (hok.symm.trans hn) (by decide)⟩
  have q1 := q1 hok
  have hm : 3 ≤ m ∧ m ≤ 9 := by
    unfold okSet at hok
    simp only [Bool.and_eq_true, decide_eq_true_eq] at hok
    exact hok.1
  refine q_tup5 (ev_var rfl) (ex_t (e1.trans e2) hS) fun H3 e3 => ?_
  have e13 := (e1.trans e2).trans e3
  refine q_fld (y := .int t) (fs' := [("threshold", .int t)]) (ev_var rfl) (ev_var rfl) (e13 p _ hp) T.cl_Voter T.na_Voter_threshold (by decide) rfl fun H4 e4 => ?_
  have b4 : But p H (upd H4 p (.ins A.c_Voter dx [("threshold", .int t)])) := (But.of e13).trans (But.upd e4)
  refine q_fld (y := .int r) (fs' := [("threshold", .int t), ("rate", .int r)]) (ev_var rfl) (ev_var rfl) upd_same T.cl_Voter T.na_Voter_rate (by show 1 < 1000; decide) rfl fun H5 e5 => ?_
  have b5 := b4.trans (But.upd (o := .ins A.c_Voter dx [("threshold", .int t), ("rate", .int r)]) e5)
  refine q_fld (y := .int ms) (fs' := [("threshold", .int t), ("rate", .int r), ("misses", .int ms)]) (ev_var rfl) (ev_var rfl) upd_same T.cl_Voter T.na_Voter_misses (by show 2 < 1000; decide) rfl fun H6 e6 => ?_
  have b6 := b5.trans (But.upd (o := .ins A.c_Voter dx [("threshold", .int t), ("rate", .int r), ("misses", .int ms)]) e6)
  refine q_fld (y := .int b) (fs' := [("threshold", .int t), ("rate", .int r), ("misses", .int ms), ("backs", .int b)]) (ev_var rfl) (ev_var rfl) upd_same T.cl_Voter T.na_Voter_backs (by show 3 < 1000; decide) rfl fun H7 e7 => ?_
  have b7 := b6.trans (But.upd (o := .ins A.c_Voter dx [("threshold", .int t), ("rate", .int r), ("misses", .int ms), ("backs", .int b)]) e7)
  have hp7 : (upd H7 p (.ins A.c_Voter dx [("threshold", .int t), ("rate", .int r), ("misses", .int ms), ("backs", .int b)])) p = some (.ins A.c_Voter dx [("threshold", .int t), ("rate", .int r), ("misses", .int ms), ("backs", .int b)]) := upd_same
  generalize upd H7 p (.ins A.c_Voter dx [("threshold", .int t), ("rate", .int r), ("misses", .int ms), ("backs", .int b)]) = H8 at b7 hp7 ⊢
  -- the sensors
  show sFld K (tVar 0) _ "sensors" _ _ _
  refine lc_R1 (n := m) (ea_cons (ev_var rfl) ea_nil) (by omega) (fun _ => rfl) (fun i acc Dl H' => Made A H8 i acc Dl H') (fun H9 Dl e9 hD => ⟨⟨[], rfl, rfl, List.nodup_nil, by simp, by simp, by simp⟩, e9.trans (Ex.new hD), fresh_back e9 hD⟩) (fun i acc Dl H' hi hacc hDl M Q' k => ?_) (fun acc Dl H' hacc hDl M => ?_)
  · obtain ⟨⟨as, rfl, hlen, hnd, hDa, hfr, hsen⟩, hk, hnew⟩ := M
    intro x dy hx hdy hne
    refine ⟨x, dy, rfl, upd_same, fun H2 b2 h2 => ⟨rfl, ?_⟩⟩
    have old : ∀ c o, H' c = some o → H2 c = some o := fun c o hc => b2 c o (ne_of_none hc hx) (by rw [upd_ne (ne_of_none hc hx), upd_ne (ne_of_none hc hdy)]; exact hc)
    have nxD : x ≠ Dl := (ne_of_none hDl hx).symm
    have hxa : x ∉ as := fun z => by
      obtain ⟨dz, q⟩ := hsen x z
      rw [q] at hx
      cases hx
    refine k _ H2 (old _ _ hDl) ⟨⟨as ++ [x], by rw [List.map_append]; rfl, by rw [List.length_append, hlen]; rfl, ?_, ?_, ?_, ?_⟩, ?_, hnew⟩
    · exact List.nodup_append.mpr ⟨hnd, by simp, fun a ha b hb => by rw [List.mem_singleton.mp hb]; exact fun z => hxa (z ▸ ha)⟩
    · intro z
      rcases List.mem_append.mp z with z | z
      · exact hDa z
      · exact nxD (List.mem_singleton.mp z).symm
    · intro s hs
      rcases List.mem_append.mp hs with z | z
      · exact hfr s z
      · rw [List.mem_singleton.mp z]
        exact fresh_back hk hx
    · intro s hs
      rcases List.mem_append.mp hs with z | z
      · obtain ⟨dz, q⟩ := hsen s z
        have nsD : s ≠ Dl := fun w => hDa (w ▸ z)
        exact ⟨dz, by rw [upd_ne nsD]; exact old _ _ q⟩
      · rw [List.mem_singleton.mp z]
        exact ⟨dy, by rw [upd_ne nxD]; exact h2⟩
    · exact (hk.trans old).mut hnew
  · obtain ⟨⟨as, rfl, hlen, hnd, hDa, hfr, hsen⟩, hk, hnew⟩ := M
    refine ⟨.ref p, rfl, p, A.c_Voter, dx, _, rfl, hk _ _ hp7, T.cl_Voter, T.na_Voter_sensors, by show 4 < 1000; decide, ?_⟩
    show sFld K (tVar 0) (tVar 2) "last" _ _ _
    have ef : putF "sensors" (V.ref Dl) [(("threshold" : Str), V.int t), ("rate", .int r), ("misses", .int ms), ("backs", .int b)] = ([("threshold", .int t), ("rate", .int r), ("misses", .int ms), ("backs", .int b), ("sensors", .ref Dl)] : List (Str × V)) := rfl
    rw [ef]
    have npD : p ≠ Dl := ne_of_none hp7 hnew
    refine s_fld (y := .int st) (fs' := vfs (freshV m t r ms b st) Dl) (ev_var rfl) (ev_var rfl) upd_same T.cl_Voter T.na_Voter_last (by show 5 < 1000; decide) rfl fun H9 e9 => ?_
    have hpa : p ∉ as := fun z => by
      have := hfr p z
      rw [hp7] at this
      cases this
    refine q1 _ Dl as (b7.trans ((But.of hk).trans ((But.upd (Ex.refl H')).trans (But.upd e9)))) (fun s hs => ?_) ?_ ⟨⟨dx, upd_same⟩, ?_, ?_, by omega, hnd, hpa, fun i s hs => ?_⟩
    · have nsp : s ≠ p := fun z => hpa (z ▸ hs)
      cases z : H s with
      | none => rfl
      | some o =>
        have := b7 s o nsp z
        rw [hfr s hs] at this
        cases this
    · cases z : H Dl with
      | none => rfl
      | some o =>
        have := b7 Dl o npD.symm z
        rw [hnew] at this
        cases this
    · rw [upd_ne npD.symm]
      exact e9 _ _ (by rw [upd_ne npD.symm]; exact hDl)
    · rw [hlen]
      show m.toNat = (List.replicate m.toNat S0).length
      rw [List.length_replicate]
    · have hsm := List.mem_of_getElem? hs
      obtain ⟨dy, q⟩ := hsen s hsm
      have nsp : s ≠ p := fun z => hpa (z ▸ hsm)
      refine ⟨dy, ?_⟩
      rw [upd_ne nsp]
      refine e9 _ _ ?_
      rw [upd_ne nsp]
      show H' s = some (.ins A.c_Sensor dy (sfs ((List.replicate m.toNat S0).getD i S0).1 ((List.replicate m.toNat S0).getD i S0).2))
      rw [fresh_get]
      exact q
end
end MV
namespace MV
open PySem PySem.Spec PyProof.Rows L2 Evl LamX
/-- rows of what sensors say, the rows' list at S -/
structure RowsAt (H : Hp) (S : Addr) (rows : List Addr) (valss : List (List (Option Int))) : Prop where
  at_ : H S = some (.lst (rows.map V.ref))
  len : rows.length = valss.length
  row : ∀ (i : Nat) (r : Addr) (vals : List (Option Int)), rows[i]? = some r → valss[i]? = some vals → H r = some (.lst (vals.map oV))
def sp_l_settings (K : PySem.W.Frag) (A : Ads) : Sp := fun vs H Q _ => ∃ (more : Int), vs = [.int more] ∧ ∀ (m t r ms b : Int) (p : Addr) (H' : Hp), okSet m t r ms b = true → ms ≤ 12 → b ≤ 12 → H p = none → Ex H H' → H' p = some (.tup [.int m, .int t, .int r, .int ms, .int b]) → Q (.ref p) H'
def sp_l_values (K : PySem.W.Frag) (A : Ads) : Sp := fun vs H Q _ => ∃ (a : Addr) (ns : List Int) (k : Int) (s : Addr) (m t r ms b base : Int), vs = [.ref a, .int k, .ref s, .int base] ∧ SqL K H a (ns.map V.int) ∧ ns.length ≤ 63 ∧ SqT K H s [.int m, .int t, .int r, .int ms, .int b] ∧ okSet m t r ms b = true ∧
  ∀ (vals : List (Option Int)) (p : Addr) (H' : Hp), okStep vals m = true → H p = none → Ex H H' → H' p = some (.lst (vals.map oV)) → Q (.ref p) H'
def sp_l_steps (K : PySem.W.Frag) (A : Ads) : Sp := fun vs H Q _ => ∃ (a : Addr) (ns : List Int) (s : Addr) (m t r ms b many : Int), vs = [.ref a, .ref s, .int many] ∧ SqL K H a (ns.map V.int) ∧ ns.length ≤ 63 ∧ SqT K H s [.int m, .int t, .int r, .int ms, .int b] ∧ okSet m t r ms b = true ∧ 0 ≤ many ∧ many ≤ 63 ∧
  ∀ (rows : List Addr) (valss : List (List (Option Int))) (S : Addr) (H' : Hp), (valss.length : Int) = many → (∀ vals ∈ valss, okStep vals m = true) → H S = none → (∀ r ∈ rows, H r = none) → Ex H H' → RowsAt H' S rows valss → Q (.ref S) H'
theorem len_l_settings {K : PySem.W.Frag} {A : Ads} {vs : List V} {H : Hp} {Q : VK} {E : XK} (h : sp_l_settings K A vs H Q E) : vs.length = 1 := by obtain ⟨_, rfl, _⟩ := h; rfl
theorem len_l_values {K : PySem.W.Frag} {A : Ads} {vs : List V} {H : Hp} {Q : VK} {E : XK} (h : sp_l_values K A vs H Q E) : vs.length = 4 := by obtain ⟨_, _, _, _, _, _, _, _, _, _, rfl, _⟩ := h; rfl
theorem len_l_steps {K : PySem.W.Frag} {A : Ads} {vs : List V} {H : Hp} {Q : VK} {E : XK} (h : sp_l_steps K A vs H Q E) : vs.length = 3 := by obtain ⟨_, _, _, _, _, _, _, _, _, rfl, _⟩ := h; rfl
theorem sc_l_cell : FnScope ["_law_script", "_law_k"] ["_law_script", "_law_k"] (defScope s_l_cell) := ⟨rfl, rfl, rfl, by decide +kernel, rfl, by decide +kernel, by decide +kernel⟩
def t_l_cell (K : PySem.W.Frag) (A : Ads) (E : XK) : TS :=
      (tSeq (tIfS (tTest (tOp (rEqD K) (tVar 0) (tLst tNil))) (tRet (tOp oMul (tVar 1) (tC (.int 7919)))) tNext)
      (tRet (tOp oAdd (tOp (rIxL K) (tVar 0) (tOp oMod (tVar 1) (tCB (rLenS K) (tCons (tVar 0) tNil)))) (tOp oMul (tOp oDivW (tVar 1) (tCB (rLenS K) (tCons (tVar 0) tNil))) (tC (.int 104729))))))
theorem sc_l_drawn : FnScope ["_law_cell_here", "_law_k", "_law_more"] ["_law_cell_here", "_law_k"] (defScope s_l_drawn) := ⟨rfl, rfl, rfl, by decide +kernel, rfl, by decide +kernel, by decide +kernel⟩
def t_l_drawn (K : PySem.W.Frag) (A : Ads) (E : XK) : TS :=
      (tSeq (tAsg (tOp oMod (tOp oAdd (tOp oMul (tVar 0) (tC (.int 6364136223846793005))) (tOp oMul (tOp oAdd (tVar 1) (tC (.int 1))) (tC (.int 1442695040888963407)))) (tC (.int 340282366920938463463374607431768211507))) (gName 2))
      (tRet (tOp oMod (tOp oMulW (tVar 2) (tVar 2)) (tC (.int 340282366920938463463374607431768211297)))))
theorem sc_l_settings : FnScope ["_law_more", "_law_threshold", "_law_rate", "_law_misses", "_law_backs"] ["_law_more"] (defScope s_l_settings) := ⟨rfl, rfl, rfl, by decide +kernel, rfl, by decide +kernel, by decide +kernel⟩
def t_l_settings (K : PySem.W.Frag) (A : Ads) (E : XK) : TS :=
      (tSeq (tAsg (tOp (rIxL K) (tLst (tCons (tC (.int 0)) (tCons (tC (.int 1)) (tCons (tC (.int 5)) (tCons (tC (.int 50)) (tCons (tC (.int 1000000)) (tCons (tOp oMod (tOp oDivW (tVar 0) (tC (.int 8))) (tC (.int 1000))) tNil))))))) (tOp oMod (tVar 0) (tC (.int 6)))) (gName 1))
      (tSeq (tAsg (tOp (rIxL K) (tLst (tCons (tC (.int 1)) (tCons (tC (.int 1000000)) (tCons (tC (.int 7)) (tCons (tOp oAdd (tC (.int 1)) (tOp oMod (tOp oDivW (tVar 0) (tOp oPow (tC (.int 2)) (tC (.int 14)))) (tC (.int 1000)))) tNil))))) (tOp oMod (tOp oDivW (tVar 0) (tOp oPow (tC (.int 2)) (tC (.int 12)))) (tC (.int 4)))) (gName 2))
      (tSeq (tAsg (tOp (rIxL K) (tLst (tCons (tC (.int 1)) (tCons (tC (.int 2)) (tCons (tC (.int 3)) (tCons (tOp oAdd (tC (.int 1)) (tOp oMod (tOp oDivW (tVar 0) (tOp oPow (tC (.int 2)) (tC (.int 28)))) (tC (.int 12)))) tNil))))) (tOp oMod (tOp oDivW (tVar 0) (tOp oPow (tC (.int 2)) (tC (.int 26)))) (tC (.int 4)))) (gName 3))
      (tSeq (tAsg (tOp (rIxL K) (tLst (tCons (tC (.int 1)) (tCons (tC (.int 2)) (tCons (tC (.int 3)) (tCons (tOp oAdd (tC (.int 1)) (tOp oMod (tOp oDivW (tVar 0) (tOp oPow (tC (.int 2)) (tC (.int 36)))) (tC (.int 12)))) tNil))))) (tOp oMod (tOp oDivW (tVar 0) (tOp oPow (tC (.int 2)) (tC (.int 34)))) (tC (.int 4)))) (gName 4))
      (tRet (tTup (tCons (tOp oAdd (tC (.int 3)) (tOp oMod (tOp oDivW (tVar 0) (tOp oPow (tC (.int 2)) (tC (.int 44)))) (tC (.int 7)))) (tCons (tVar 1) (tCons (tVar 2) (tCons (tVar 3) (tCons (tVar 4) tNil)))))))))))
theorem sc_l_values : FnScope ["_law_script", "_law_k", "_law_settings_here", "_law_base", "_law_values_here", "_law_threshold", "_law_j", "_law_more", "_law_way", "_law_value"] ["_law_script", "_law_k", "_law_settings_here", "_law_base"] (defScope s_l_values) := ⟨rfl, rfl, rfl, by decide +kernel, rfl, by decide +kernel, by decide +kernel⟩
def t_l_values (K : PySem.W.Frag) (A : Ads) (E : XK) : TS :=
      (tSeq (tAsg (tLst tNil) (gName 4))
      (tSeq (tAsg (tOp (rIxT K) (tVar 2) (tC (.int 1))) (gName 5))
      (tSeq (tFor (iRng1 (tCons (tOp (rIxT K) (tVar 2) (tC (.int 0))) tNil)) (gName 6) (tSeq (tAsg (tCall (sp_l_drawn K A) [] E0 (tCons (tCall (sp_l_cell K A) [] E0 (tCons (tVar 0) (tCons (tVar 1) tNil))) (tCons (tOp oAdd (tOp oAdd (tOp oMul (tC (.int 11)) (tVar 1)) (tVar 6)) (tC (.int 50))) tNil))) (gName 7))
      (tSeq (tAsg (tOp (rIxL K) (tLst (tCons (tOp oMod (tOp oDivW (tVar 7) (tC (.int 4096))) (tC (.int 16))) (tCons (tOp oMod (tOp oAdd (tOp oMul (tVar 6) (tC (.int 5))) (tCall (sp_l_drawn K A) [] E0 (tCons (tCall (sp_l_cell K A) [] E0 (tCons (tVar 0) (tCons (tC (.int 0)) tNil))) (tCons (tC (.int 8)) tNil)))) (tC (.int 16))) tNil))) (tOp oMod (tVar 7) (tC (.int 2)))) (gName 8))
      (tSeq (tAsg (tOp oDivW (tVar 7) (tOp oPow (tC (.int 2)) (tC (.int 16)))) (gName 7))
      (tIfS (tTest (tOp oLt (tVar 8) (tC (.int 9)))) (tDrop (tBM K "list" rAppend (tVar 4) (tCons (tOp oAdd (tVar 3) (tOp (rIxL K) (tLst (tCons (tC (.int 0)) (tCons (tOp oSub (tOp oMod (tVar 7) (tC (.int 3))) (tC (.int 1))) (tCons (tOp oSub (tOp oSub (tOp oMod (tVar 7) (tOp oAdd (tOp oMul (tC (.int 2)) (tVar 5)) (tC (.int 3)))) (tVar 5)) (tC (.int 1))) tNil)))) (tOp oMod (tOp oDivW (tVar 7) (tOp oPow (tC (.int 2)) (tC (.int 30)))) (tC (.int 3))))) tNil))) (tIfS (tTest (tOp oLt (tVar 8) (tC (.int 13)))) (tDrop (tBM K "list" rAppend (tVar 4) (tCons (tOp oAdd (tVar 3) (tOp oMul (tOp oSub (tOp oMod (tVar 7) (tC (.int 7))) (tC (.int 3))) (tOp oAdd (tVar 5) (tOp oMod (tOp oDivW (tVar 7) (tC (.int 8))) (tC (.int 2)))))) tNil))) (tIfS (tTest (tOp rEq (tVar 8) (tC (.int 13)))) (tDrop (tBM K "list" rAppend (tVar 4) (tCons (tOp (rIxL K) (tLst (tCons (tC (.int 1000000000)) (tCons (tUn oNeg (tC (.int 1000000000))) (tCons (tOp oSub (tOp oMod (tVar 7) (tC (.int 2000000001))) (tC (.int 1000000000))) tNil)))) (tOp oMod (tOp oDivW (tVar 7) (tOp oPow (tC (.int 2)) (tC (.int 40)))) (tC (.int 3)))) tNil))) (tDrop (tBM K "list" rAppend (tVar 4) (tCons (tC .non) tNil))))))))))
      (tRet (tLc (iList K (tVar 4)) (gName 9) tYes (tIf (tTest (tOp oIsN (tVar 9) (tC .non))) (tC .non) (tCB rMax2 (tCons (tUn oNeg (tOp oPow (tC (.int 10)) (tC (.int 9)))) (tCons (tCB rMin2 (tCons (tOp oPow (tC (.int 10)) (tC (.int 9))) (tCons (tVar 9) tNil))) tNil)))) [9])))))
theorem sc_l_steps : FnScope ["_law_script", "_law_settings_here", "_law_many", "_law_base", "_law_steps_here", "_law_k", "_law_more"] ["_law_script", "_law_settings_here", "_law_many"] (defScope s_l_steps) := ⟨rfl, rfl, rfl, by decide +kernel, rfl, by decide +kernel, by decide +kernel⟩
def t_l_steps (K : PySem.W.Frag) (A : Ads) (E : XK) : TS :=
      (tSeq (tAsg (tOp oSub (tOp oMod (tCall (sp_l_drawn K A) [] E0 (tCons (tCall (sp_l_cell K A) [] E0 (tCons (tVar 0) (tCons (tC (.int 1)) tNil))) (tCons (tC (.int 9)) tNil))) (tC (.int 2001))) (tC (.int 1000))) (gName 3))
      (tSeq (tAsg (tLst tNil) (gName 4))
      (tSeq (tFor (iRng1 (tCons (tVar 2) tNil)) (gName 5) (tSeq (tAsg (tCall (sp_l_drawn K A) [] E0 (tCons (tCall (sp_l_cell K A) [] E0 (tCons (tVar 0) (tCons (tVar 5) tNil))) (tCons (tOp oAdd (tVar 5) (tC (.int 30))) tNil))) (gName 6))
      (tSeq (tAsg (tOp oAdd (tVar 3) (tOp (rIxL K) (tLst (tCons (tC (.int 0)) (tCons (tC (.int 0)) (tCons (tOp oSub (tOp oMod (tOp oDivW (tVar 6) (tC (.int 8))) (tC (.int 5))) (tC (.int 2))) (tCons (tOp oSub (tOp oMod (tOp oDivW (tVar 6) (tC (.int 8))) (tC (.int 200))) (tC (.int 100))) tNil))))) (tOp oMod (tVar 6) (tC (.int 4))))) (gName 3))
      (tDrop (tBM K "list" rAppend (tVar 4) (tCons (tCall (sp_l_values K A) [] E0 (tCons (tVar 0) (tCons (tVar 5) (tCons (tVar 1) (tCons (tVar 3) tNil))))) tNil))))))
      (tRet (tVar 4)))))
end MV
namespace MV
open PySem PySem.Spec PyProof.Rows L2 Evl
section
variable {K : PySem.W.Frag} {mg : Str → Option Value} {A : Ads}
theorem pure_l_cell (T : Txt K mg A) (vs : List V) (H : Hp) (Q : VK) (E : XK) (h : sp_l_cell K A vs H Q E) : t_l_cell K A E { nx := fun _ H' => Q .non H', rt := Q } (start ["_law_script", "_law_k"] vs) H := by
  obtain ⟨a, ns, k, rfl, hS, hl, q⟩ := h
  show t_l_cell K A E _ [some (.ref a), some (.int k)] H
  refine q_when (et_test (ev_eqNil (ev_var rfl) hS (ints_flat ns))) (fun hb H1 e1 => ?_) (fun hb H1 e1 => ?_)
  · have e0 : ns = [] := by simpa using hb
    refine s_ret (v := .int (cell ns k)) ?_ fun H2 e2 => q H2 (e1.trans e2)
    have e : cell ns k = k * 7919 := by unfold cell; rw [if_pos e0]
    rw [e]
    walk_at "ev"
  · have e0 : ns ≠ [] := by simpa using hb
    have hS1 := ex_l e1 hS
    have hp : 0 < ns.length := List.length_pos_iff.mpr e0
    have hm : (ns.map V.int).length = ns.length := List.length_map ..
    refine s_ret (v := .int (cell ns k)) ?_ fun H2 e2 => q H2 (e1.trans e2)
    have e : cell ns k = ns.getD (k % ((ns.map V.int).length : Int)).toNat 0 + k / ((ns.map V.int).length : Int) * 104729 := by unfold cell; rw [if_neg e0, hm]
    rw [e]
    have z0 := Int.emod_nonneg k (show ((ns.map V.int).length : Int) ≠ 0 by omega)
    have z1 := Int.emod_lt_of_pos k (show (0 : Int) < ((ns.map V.int).length : Int) by omega)
    walk_at "ev"
theorem pure_l_drawn (T : Txt K mg A) (vs : List V) (H : Hp) (Q : VK) (E : XK) (h : sp_l_drawn K A vs H Q E) : t_l_drawn K A E { nx := fun _ H' => Q .non H', rt := Q } (start ["_law_cell_here", "_law_k", "_law_more"] vs) H := by
  obtain ⟨c, k, rfl, q⟩ := h
  show t_l_drawn K A E _ [some (.int c), some (.int k), none] H
  refine q_asg (v := .int ((c * 6364136223846793005 + (k + 1) * 1442695040888963407) % 340282366920938463463374607431768211507)) ?_ fun H1 e1 => ?_
  · walk_at "ev"
  · refine s_ret (v := .int (drawn c k)) ?_ fun H2 e2 => q H2 (e1.trans e2)
    have h0 := Int.emod_nonneg (c * 6364136223846793005 + (k + 1) * 1442695040888963407) (show (340282366920938463463374607431768211507 : Int) ≠ 0 by decide)
    have h1 := Int.emod_lt_of_pos (c * 6364136223846793005 + (k + 1) * 1442695040888963407) (show (0 : Int) < 340282366920938463463374607431768211507 by decide)
    have hb : ((c * 6364136223846793005 + (k + 1) * 1442695040888963407) % 340282366920938463463374607431768211507).natAbs < 2 ^ 200 := Nat.lt_trans (m := 340282366920938463463374607431768211507) (by omega) (by decide)
    unfold drawn
    walk_at "ev"
    exact wide_mul hb hb (by decide) (by decide) (by decide)
end
end MV
namespace MV
open PySem PySem.Spec PyProof.Rows L2 Evl
section
variable {K : PySem.W.Frag} {A : Ads} {H : Hp} {a : Addr} {ns : List Int} {c k : Int}
theorem spv_cell (hS : SqL K H a (ns.map V.int)) (hl : ns.length ≤ 63) : SpV (sp_l_cell K A) [.ref a, .int k] H (.int (cell ns k)) := fun H1 e Q q E => ⟨a, ns, k, rfl, ex_l e hS, hl, q⟩
theorem spv_drawn : SpV (sp_l_drawn K A) [.int c, .int k] H (.int (drawn c k)) := fun H1 e Q q E => ⟨c, k, rfl, q⟩
end
end MV
local macro_rules | `(tactic| walk_at "ev1") => `(tactic| (first | with_reducible exact MV.spv_drawn | with_reducible exact MV.spv_cell (by assumption) (by assumption)))
namespace MV
open PySem PySem.Spec PyProof.Rows L2 Evl
section
variable {K : PySem.W.Frag} {mg : Str → Option Value} {A : Ads}
theorem getD_all {l : List Int} {i : Int} {P : Int → Prop} (h : ∀ x ∈ l, P x) (h0 : 0 ≤ i) (h1 : i < (l.length : Int)) : P (l.getD i.toNat 0) := by
  have hk : i.toNat < l.length := by omega
  rw [List.getD_eq_getElem?_getD, List.getElem?_eq_getElem hk]
  exact h _ (List.getElem_mem hk)
theorem all4 {P : Int → Prop} {a b c d : Int} (h1 : P a) (h2 : P b) (h3 : P c) (h4 : P d) : ∀ x ∈ toInts [.int a, .int b, .int c, .int d], P x := by
  intro x hx
  have hx : x ∈ [a, b, c, d] := hx
  simp only [List.mem_cons, List.not_mem_nil, or_false] at hx
  rcases hx with rfl | rfl | rfl | rfl <;> assumption
theorem all6 {P : Int → Prop} {a b c d e f : Int} (h1 : P a) (h2 : P b) (h3 : P c) (h4 : P d) (h5 : P e) (h6 : P f) : ∀ x ∈ toInts [.int a, .int b, .int c, .int d, .int e, .int f], P x := by
  intro x hx
  have hx : x ∈ [a, b, c, d, e, f] := hx
  simp only [List.mem_cons, List.not_mem_nil, or_false] at hx
  rcases hx with rfl | rfl | rfl | rfl | rfl | rfl <;> assumption
abbrev Btw (lo hi : Int) (v : V) : Prop := ∃ i : Int, v = .int i ∧ lo ≤ i ∧ i ≤ hi
theorem pure_l_settings (T : Txt K mg A) (vs : List V) (H : Hp) (Q : VK) (E : XK) (h : sp_l_settings K A vs H Q E) : t_l_settings K A E { nx := fun _ H' => Q .non H', rt := Q } (start ["_law_more", "_law_threshold", "_law_rate", "_law_misses", "_law_backs"] vs) H := by
  obtain ⟨more, rfl, q⟩ := h
  show t_l_settings K A E _ [some (.int more), none, none, none, none] H
  refine q_asgX (P := Btw 0 1000000) ⟨_, (by walk_at "ev"), _, rfl, getD_all (P := fun i => 0 ≤ i ∧ i ≤ 1000000) (all6 (by omega) (by omega) (by omega) (by omega) (by omega) (by omega)) (by omega) (by show _ < (6 : Int); omega)⟩ fun v H1 ⟨t, et, t0, t1⟩ e1 => ?_
  subst et
  refine q_asgX (P := Btw 1 1000000) ⟨_, (by walk_at "ev"), _, rfl, getD_all (P := fun i => 1 ≤ i ∧ i ≤ 1000000) (all4 (by omega) (by omega) (by omega) (by omega)) (by omega) (by show _ < (4 : Int); omega)⟩ fun v H2 ⟨r, er, r0, r1⟩ e2 => ?_
  subst er
  refine q_asgX (P := Btw 1 12) ⟨_, (by walk_at "ev"), _, rfl, getD_all (P := fun i => 1 ≤ i ∧ i ≤ 12) (all4 (by omega) (by omega) (by omega) (by omega)) (by omega) (by show _ < (4 : Int); omega)⟩ fun v H3 ⟨ms, em, m0, m1⟩ e3 => ?_
  subst em
  refine q_asgX (P := Btw 1 12) ⟨_, (by walk_at "ev"), _, rfl, getD_all (P := fun i => 1 ≤ i ∧ i ≤ 12) (all4 (by omega) (by omega) (by omega) (by omega)) (by omega) (by show _ < (4 : Int); omega)⟩ fun v H4 ⟨b, eb, b0, b1⟩ e4 => ?_
  subst eb
  refine s_retU (eu_tup (vs := [.int (3 + more / 2 ^ (44 : Int).toNat % 7), .int t, .int r, .int ms, .int b]) (by walk_at "ev") (by show 5 ≤ 100000; decide)) fun p H5 np e5 h5 => ?_
  have e15 := (((e1.trans e2).trans e3).trans e4)
  refine q _ t r ms b p H5 ?_ m1 b1 (fresh_back e15 np) (e15.trans e5) h5
  unfold okSet
  simp only [Bool.and_eq_true, decide_eq_true_eq]
  omega
def clampV : Option Int → Option Int
  | none => none
  | some i => some (if (if i < 10 ^ (9 : Int).toNat then i else 10 ^ (9 : Int).toNat) > -(10 ^ (9 : Int).toNat) then (if i < 10 ^ (9 : Int).toNat then i else 10 ^ (9 : Int).toNat) else -(10 ^ (9 : Int).toNat))
theorem clampV_ok (x : Option Int) : okOne (clampV x) = true := by
  cases x with
  | none => rfl
  | some i =>
    show decide (ab _ ≤ 1000000000) = true
    rw [show (10 : Int) ^ (9 : Int).toNat = 1000000000 by decide]
    unfold ab
    rw [decide_eq_true_eq]
    (repeat' split) <;> omega
def clampG : V → V
  | .int i => oV (clampV (some i))
  | _ => .non
theorem clamp_map : ∀ ws : List (Option Int), ((ws.map oV).filter fun _ => true).map clampG = (ws.map clampV).map oV
  | [] => rfl
  | none :: r => congrArg (V.non :: ·) (clamp_map r)
  | some i :: r => congrArg (oV (clampV (some i)) :: ·) (clamp_map r)
theorem okSet_m {m t r ms b : Int} (h : okSet m t r ms b = true) : (3 ≤ m ∧ m ≤ 9) ∧ (0 ≤ t ∧ t ≤ 1000000) ∧ (1 ≤ r ∧ r ≤ 1000000) ∧ (1 ≤ ms ∧ ms ≤ 1000) ∧ 1 ≤ b ∧ b ≤ 1000 := by
  unfold okSet at h
  simpa only [Bool.and_eq_true, decide_eq_true_eq] using h
abbrev IsO (v : V) : Prop := ∃ x : Option Int, v = oV x
theorem isO_of {v : V} (h : IsI v) : IsO v := let ⟨i, e⟩ := h; ⟨some i, e⟩
theorem pure_l_values (T : Txt K mg A) (vs : List V) (H : Hp) (Q : VK) (E : XK) (h : sp_l_values K A vs H Q E) : t_l_values K A E { nx := fun _ H' => Q .non H', rt := Q } (start ["_law_script", "_law_k", "_law_settings_here", "_law_base", "_law_values_here", "_law_threshold", "_law_j", "_law_more", "_law_way", "_law_value"] vs) H := by
  obtain ⟨a, ns, k, s, m, t, r, ms, b, base, rfl, hS, hl, hT, hok, q⟩ := h
  show t_l_values K A E _ [some (.ref a), some (.int k), some (.ref s), some (.int base), none, none, none, none, none, none] H
  obtain ⟨hm, ht, _⟩ := okSet_m hok
  refine q_asgL (el_lst ea_nil (by decide)) fun p H1 np e1 h1 => ?_
  have hT1 := ex_t e1 hT
  refine q_asg (v := .int t) (ev_op (ev_var rfl) ev_c (rv_ixT hT1 (atI_nat (j := 1) rfl))) fun H2 e2 => ?_
  have hT2 := ex_t e2 hT1
  refine q_forR1 (n := m) (ea_cons (ev_op (ev_var rfl) ev_c (rv_ixT hT2 (atI_nat (j := 0) rfl))) ea_nil) (by omega)
    (fun i σ H' => ∃ (y6 y7 y8 : Option V) (ws : List (Option Int)), σ = [some (.ref a), some (.int k), some (.ref s), some (.int base), some (.ref p), some (.int t), y6, y7, y8, none] ∧ Ex H H' ∧ H' p = some (.lst (ws.map oV)) ∧ ws.length = i)
    (fun H3 e3 => ⟨none, none, none, [], rfl, (e1.trans e2).trans e3, (e2.trans e3) p _ h1, rfl⟩) (fun i σ H3 hi ⟨y6, y7, y8, ws, es, e3, h3, hw⟩ => ?_) (fun σ H3 ⟨y6, y7, y8, ws, es, e3, h3, hw⟩ => ?_)
  · subst es
    have hS3 := ex_l e3 hS
    refine q_asg (v := .int (drawn (cell ns k) (11 * k + (i : Int) + 50))) (by walk_at "ev") fun H4 e4 => ?_
    generalize drawn (cell ns k) (11 * k + (i : Int) + 50) = more
    have hS4 := ex_l e4 hS3
    refine q_asgX (P := IsI) ⟨_, (by walk_at "ev"), _, rfl⟩ fun v H5 ⟨way, ew⟩ e5 => ?_
    subst ew
    refine q_asgX (P := IsI) ⟨_, (by walk_at "ev"), _, rfl⟩ fun v H6 ⟨mo, em⟩ e6 => ?_
    subst em
    have e36 := (e4.trans e5).trans e6
    have fin : ∀ (v : V) (H7 : Hp) (y6 y7 y8 : Option V), IsO v → Ex H6 H7 → ∃ (z6 z7 z8 : Option V) (ws' : List (Option Int)), [some (V.ref a), some (.int k), some (.ref s), some (.int base), some (.ref p), some (.int t), y6, y7, y8, none] = [some (V.ref a), some (.int k), some (.ref s), some (.int base), some (.ref p), some (.int t), z6, z7, z8, none] ∧ Ex H (upd H7 p (.lst (ws.map oV ++ [v]))) ∧ (upd H7 p (.lst (ws.map oV ++ [v]))) p = some (.lst (ws'.map oV)) ∧ ws'.length = i + 1 := by
      rintro v H7 y6 y7 y8 ⟨x, rfl⟩ e7
      exact ⟨_, _, _, ws ++ [x], rfl, exGrow e3 (e36.trans e7) np, by rw [upd_same, List.map_append]; rfl, by rw [List.length_append, hw]; rfl⟩
    have h6 := e36 p _ h3
    have hz : (ws.map oV).length < 100000 := by rw [List.length_map]; omega
    refine s_if (b := decide (way < 9)) (by walk_at "ev") (fun _ H7 e7 => ?_) (fun _ H7 e7 => ?_)
    · refine s_appX (P := IsI) (e7 p _ h6) (ev_var rfl) ⟨_, (by walk_at "ev"), _, rfl⟩ hz fun v H8 hv e8 => fin v H8 _ _ _ (isO_of hv) (e7.trans e8)
    · refine s_if (b := decide (way < 13)) (by walk_at "ev") (fun _ H8 e8 => ?_) (fun _ H8 e8 => ?_)
      · refine s_appX (P := IsI) ((e7.trans e8) p _ h6) (ev_var rfl) ⟨_, (by walk_at "ev"), _, rfl⟩ hz fun v H9 hv e9 => fin v H9 _ _ _ (isO_of hv) ((e7.trans e8).trans e9)
      · refine s_if (b := decide (way = 13)) (by walk_at "ev") (fun _ H9 e9 => ?_) (fun _ H9 e9 => ?_)
        · refine s_appX (P := IsI) (((e7.trans e8).trans e9) p _ h6) (ev_var rfl) ⟨_, (by walk_at "ev"), _, rfl⟩ hz fun v H10 hv e10 => fin v H10 _ _ _ (isO_of hv) (((e7.trans e8).trans e9).trans e10)
        · exact s_appX (P := IsO) (((e7.trans e8).trans e9) p _ h6) (ev_var rfl) ⟨.non, ev_c, none, rfl⟩ hz fun v H10 hv e10 => fin v H10 _ _ _ hv (((e7.trans e8).trans e9).trans e10)
  · subst es
    have hW : SqL K H3 p (ws.map oV) := sq_of h3
    refine s_retL (xs := (ws.map clampV).map oV) (el_is (el_lcM (fun _ => true) clampG (ev_var rfl) hW (by rw [List.length_map]; omega) (fun _ => rfl) (fun x H4 e4 _ => fun H5 _ Q' q' => q' H5 (Ex.refl H5)) (fun x H4 e4 hx _ => ?_)) (clamp_map ws)) fun pp H4 np4 e4 h4 => ?_
    · obtain ⟨y, _, rfl⟩ := List.mem_map.mp hx
      cases y with
      | none => exact ev_if (b := true) (et_is (by walk_at "ev") (by rfl)) (fun _ => ev_c) (fun z => nomatch z)
      | some i =>
        refine ev_if (b := false) (et_is (by walk_at "ev") (by rfl)) (fun z => nomatch z) (fun _ => ?_)
        show Ev _ [some (.ref a), some (.int k), some (.ref s), some (.int base), some (.ref p), some (.int t), y6, y7, y8, some (.int i)] H4 (.int (if (if i < 10 ^ (9 : Int).toNat then i else 10 ^ (9 : Int).toNat) > -(10 ^ (9 : Int).toNat) then (if i < 10 ^ (9 : Int).toNat then i else 10 ^ (9 : Int).toNat) else -(10 ^ (9 : Int).toNat)))
        walk_at "ev"
    · refine q (ws.map clampV) pp H4 ?_ (fresh_back e3 np4) (e3.trans e4) h4
      unfold okStep
      rw [List.length_map, Bool.and_eq_true, decide_eq_true_eq, List.all_eq_true]
      refine ⟨by omega, fun x hx => ?_⟩
      obtain ⟨y, _, rfl⟩ := List.mem_map.mp hx
      exact clampV_ok y
theorem pure_l_steps (T : Txt K mg A) (vs : List V) (H : Hp) (Q : VK) (E : XK) (h : sp_l_steps K A vs H Q E) : t_l_steps K A E { nx := fun _ H' => Q .non H', rt := Q } (start ["_law_script", "_law_settings_here", "_law_many", "_law_base", "_law_steps_here", "_law_k", "_law_more"] vs) H := by
  obtain ⟨a, ns, s, m, t, r, ms, b, many, rfl, hS, hl, hT, hok, hn0, hn1, q⟩ := h
  show t_l_steps K A E _ [some (.ref a), some (.ref s), some (.int many), none, none, none, none] H
  refine q_asgX (P := IsI) ⟨_, (by walk_at "ev"), _, rfl⟩ fun v H1 ⟨base, eb⟩ e1 => ?_
  subst eb
  refine q_asgL (el_lst ea_nil (by decide)) fun p H2 np e2 h2 => ?_
  have np0 := fresh_back e1 np
  refine q_forR1 (n := many) (by walk_at "ev") (by omega)
    (fun i σ H' => ∃ (y5 y6 : Option V) (base : Int) (rows : List Addr) (valss : List (List (Option Int))), σ = [some (.ref a), some (.ref s), some (.int many), some (.int base), some (.ref p), y5, y6] ∧ Ex H H' ∧ RowsAt H' p rows valss ∧ valss.length = i ∧ (∀ vals ∈ valss, okStep vals m = true) ∧ ∀ r ∈ rows, H r = none)
    (fun H3 e3 => ⟨none, none, base, [], [], rfl, (e1.trans e2).trans e3, ⟨e3 p _ h2, rfl, by simp⟩, rfl, by simp, by simp⟩) (fun i σ H3 hi ⟨y5, y6, base, rows, valss, es, e3, hr, hlen, hv, hf⟩ => ?_) (fun σ H3 ⟨y5, y6, base, rows, valss, es, e3, hr, hlen, hv, hf⟩ => ?_)
  · subst es
    have hS3 := ex_l e3 hS
    refine q_asg (v := .int (drawn (cell ns (i : Int)) ((i : Int) + 30))) (by walk_at "ev") fun H4 e4 => ?_
    generalize drawn (cell ns (i : Int)) ((i : Int) + 30) = more
    refine q_asgX (P := IsI) ⟨_, (by walk_at "ev"), _, rfl⟩ fun v H5 ⟨base2, eb⟩ e5 => ?_
    subst eb
    have hS5 := ex_l (e4.trans e5) hS3
    have hT5 := ex_t ((e3.trans e4).trans e5) hT
    have e35 := e4.trans e5
    refine s_appLP (P := fun xs => ∃ vals : List (Option Int), xs = vals.map oV ∧ okStep vals m = true) (e35 p _ hr.at_) (ev_var rfl) (elp_call0 (vs := [.ref a, .int (i : Int), .ref s, .int base2]) (by walk_at "ev") fun H6 e6 Q' q' E' => ⟨a, ns, _, s, m, t, r, ms, b, base2, rfl, ex_l e6 hS5, hl, ex_t e6 hT5, hok, fun vals pv H7 okv npv e7 h7 => q' _ pv H7 ⟨vals, rfl, okv⟩ npv e7 h7⟩) (by rw [List.length_map, hr.len]; omega) fun ys pv H8 ⟨vals, ey, okv⟩ npv e8 h8 => ?_
    subst ey
    have e38 : Ex H3 H8 := e35.trans e8
    have npp : pv ≠ p := (ne_of_none (e35 p _ hr.at_) npv).symm
    refine ⟨_, _, base2, rows ++ [pv], valss ++ [vals], rfl, (e3.trans e38).mut np0, ⟨by rw [upd_same, List.map_append]; rfl, by rw [List.length_append, List.length_append, hr.len]; rfl, fun j r' vals' h1' h2' => ?_⟩, by rw [List.length_append, hlen]; rfl, ?_, ?_⟩
    · by_cases hj : j < rows.length
      · rw [List.getElem?_append_left hj] at h1'
        rw [List.getElem?_append_left (by rw [← hr.len]; exact hj)] at h2'
        have hrow := hr.row j r' vals' h1' h2'
        have hne : r' ≠ p := fun z => by
          have := hf r' (List.mem_of_getElem? h1')
          have h3p := hr.at_
          subst z
          rw [hrow] at h3p
          have e9 : vals'.map oV = rows.map V.ref := by injection (Option.some.inj h3p)
          cases vals' with
          | nil =>
            cases rows with
            | nil => simp at hj
            | cons _ _ => cases e9
          | cons x _ =>
            cases rows with
            | nil => simp at hj
            | cons _ _ =>
              injection e9 with e9 _
              cases x <;> cases e9
        rw [upd_ne hne]
        exact e38 _ _ hrow
      · have hj2 : j = rows.length := by
          have := (List.getElem?_eq_some_iff.mp h1').1
          rw [List.length_append, List.length_singleton] at this
          omega
        subst hj2
        rw [List.getElem?_append_right (Nat.le_refl _), Nat.sub_self] at h1'
        rw [hr.len, List.getElem?_append_right (Nat.le_refl _), Nat.sub_self] at h2'
        have e1' : pv = r' := Option.some.inj h1'
        have e2' : vals = vals' := Option.some.inj h2'
        subst e1'
        subst e2'
        rw [upd_ne npp]
        exact h8
    · intro v hv'
      rcases List.mem_append.mp hv' with z | z
      · exact hv v z
      · rw [List.mem_singleton.mp z]; exact okv
    · intro r' hr'
      rcases List.mem_append.mp hr' with z | z
      · exact hf r' z
      · rw [List.mem_singleton.mp z]; exact fresh_back (e3.trans e35) npv
  · subst es
    exact s_ret (v := .ref p) (ev_var rfl) fun H4 e4 => q rows valss p H4 (by omega) hv np0 hf (e3.trans e4) ⟨e4 p _ hr.at_, hr.len, fun j r' vals' h1' h2' => e4 _ _ (hr.row j r' vals' h1' h2')⟩
end
end MV
namespace MV
open PySem PySem.Spec PyProof.Rows L2 Evl LamX
structure Own where
  p : Addr
  l : Addr
  as : List Addr
instance : Inhabited Own := ⟨⟨0, 0, []⟩⟩
abbrev Own.all (b : Own) : List Addr := b.p :: b.l :: b.as
/-- tuples of flat things, one behind the other -/
structure TupsAt (H : Hp) (rs : List Addr) (cs : List (List V)) : Prop where
  len : rs.length = cs.length
  row : ∀ (i : Nat) (r : Addr) (c : List V), rs[i]? = some r → cs[i]? = some c → H r = some (.tup c)
/-- what holds of a voter that has made steps -/
structure Good (v : Vst) : Prop where
  len : 3 ≤ v.ss.length ∧ v.ss.length ≤ 9
  rate : 1 ≤ v.rate
  bk : 1 ≤ v.bk
  ss : ∀ s ∈ v.ss, 0 ≤ s.2 ∧ (s.1 = true → s.2 < v.bk)
def sp_l_middle (K : PySem.W.Frag) (A : Ads) : Sp := fun vs H Q _ => ∃ (a : Addr) (t : List Int) (near : Int), vs = [.ref a, .int near] ∧ SqL K H a (t.map V.int) ∧ t ≠ [] ∧ t.length < 64 ∧ RetV (.int (mid t near)) H Q
theorem len_l_middle {K : PySem.W.Frag} {A : Ads} {vs : List V} {H : Hp} {Q : VK} {E : XK} (h : sp_l_middle K A vs H Q E) : vs.length = 2 := by obtain ⟨_, _, _, rfl, _⟩ := h; rfl
/-- what is far off the stretch -/
def FarO (lo hi th : Int) : Option Int → Prop
  | none => True
  | some x => hi + th < x ∨ x < lo - th
def InO (lo hi : Int) (o : Option Int) : Prop := ∃ x, o = some x ∧ lo ≤ x ∧ x ≤ hi
def sp_l_said (K : PySem.W.Frag) (A : Ads) : Sp := fun vs H Q _ => ∃ (T : Addr) (ns : List Int) (more way lo hi th : Int), vs = [.int more, .int way, .ref T, .int th] ∧ SqL K H T (ns.map V.int) ∧ (lo ∈ ns ∧ ∀ y ∈ ns, lo ≤ y) ∧ (hi ∈ ns ∧ ∀ y ∈ ns, y ≤ hi) ∧ 0 ≤ way ∧ -3000000 ≤ lo ∧ hi ≤ 3000000 ∧ 0 ≤ th ∧ th ≤ 1000000 ∧
  ∀ (x : Option Int) (far : Bool) (p : Addr) (H' : Hp), (far = true → FarO lo hi th x) → (far = false → InO lo hi x) → okOne x = true → H p = none → Ex H H' → H' p = some (.tup [oV x, .bl far]) → Q (.ref p) H'
theorem len_l_said {K : PySem.W.Frag} {A : Ads} {vs : List V} {H : Hp} {Q : VK} {E : XK} (h : sp_l_said K A vs H Q E) : vs.length = 4 := by obtain ⟨_, _, _, _, _, _, _, rfl, _⟩ := h; rfl
theorem sc_l_said : FnScope ["_law_more", "_law_way", "_law_rights", "_law_threshold", "_law_far"] ["_law_more", "_law_way", "_law_rights", "_law_threshold"] (defScope s_l_said) := ⟨rfl, rfl, rfl, by decide +kernel, rfl, by decide +kernel, by decide +kernel⟩
def t_l_said (K : PySem.W.Frag) (A : Ads) (E : XK) : TS :=
      (tSeq (tAsg (tLst (tCons (tOp oAdd (tOp oAdd (tOp oAdd (tCB (rMax K) (tCons (tVar 2) tNil)) (tVar 3)) (tC (.int 1))) (tOp oMod (tVar 0) (tC (.int 50)))) (tCons (tOp oSub (tOp oSub (tOp oSub (tCB (rMin K) (tCons (tVar 2) tNil)) (tVar 3)) (tC (.int 1))) (tOp oMod (tVar 0) (tC (.int 50)))) (tCons (tOp oPow (tC (.int 10)) (tC (.int 9))) (tCons (tUn oNeg (tOp oPow (tC (.int 10)) (tC (.int 9)))) (tCons (tC .non) tNil)))))) (gName 4))
      (tSeq (tIfS (tTest (tOp oLt (tVar 1) (tC (.int 5)))) (tRet (tTup (tCons (tOp (rIxL K) (tVar 4) (tVar 1)) (tCons (tC (.bl true)) tNil)))) tNext)
      (tSeq (tIfS (tTest (tOp rEq (tVar 1) (tC (.int 5)))) (tRet (tTup (tCons (tOp (rIxL K) (tVar 4) (tOp oMod (tOp oDivW (tVar 0) (tC (.int 64))) (tC (.int 5)))) (tCons (tC (.bl true)) tNil)))) tNext)
      (tSeq (tIfS (tAnd (tTest (tOp rEq (tVar 1) (tC (.int 6)))) (tTest (tOp oGt (tOp oMod (tOp oDivW (tVar 0) (tC (.int 64))) (tC (.int 4))) (tC (.int 0))))) (tRet (tTup (tCons (tOp (rIxL K) (tVar 4) (tOp oMod (tOp oDivW (tVar 0) (tC (.int 512))) (tC (.int 5)))) (tCons (tC (.bl true)) tNil)))) tNext)
      (tRet (tTup (tCons (tOp oAdd (tCB (rMin K) (tCons (tVar 2) tNil)) (tOp oMod (tOp oDivW (tVar 0) (tC (.int 64))) (tOp oAdd (tOp oSub (tCB (rMax K) (tCons (tVar 2) tNil)) (tCB (rMin K) (tCons (tVar 2) tNil))) (tC (.int 1))))) (tCons (tC (.bl false)) tNil))))))))
end MV
namespace MV
open PySem PySem.Spec PyProof.Rows L2 Evl
section
variable {K : PySem.W.Frag} {mg : Str → Option Value} {A : Ads} {H H' : Hp} {b : Own} {v : Vst} {σ : L2.St} {rs : List Addr} {cs : List (List V)} {p q a : Addr}
theorem VAt.old (h : VAt A H b.p b.l b.as v) : ∀ x ∈ b.all, H x ≠ none := by
  intro x hx
  rcases List.mem_cons.mp hx with z | z
  · obtain ⟨dx, q⟩ := h.own
    rw [z, q]
    exact fun w => nomatch w
  rcases List.mem_cons.mp z with z | z
  · rw [z, h.lst]
    exact fun w => nomatch w
  · obtain ⟨j, hj, e⟩ := List.mem_iff_getElem.mp z
    obtain ⟨dy, q⟩ := h.sens j x (by rw [List.getElem?_eq_getElem hj, e])
    rw [q]
    exact fun w => nomatch w
theorem VAt.not_tup (h : VAt A H b.p b.l b.as v) : ∀ x ∈ b.all, ∀ c, H x ≠ some (.tup c) := by
  intro x hx c
  rcases List.mem_cons.mp hx with z | z
  · obtain ⟨dx, q⟩ := h.own
    rw [z, q]
    exact fun w => nomatch w
  rcases List.mem_cons.mp z with z | z
  · rw [z, h.lst]
    exact fun w => nomatch w
  · obtain ⟨j, hj, e⟩ := List.mem_iff_getElem.mp z
    obtain ⟨dy, q⟩ := h.sens j x (by rw [List.getElem?_eq_getElem hj, e])
    rw [q]
    exact fun w => nomatch w
theorem VAt.keep {fp : List Addr} (h : VAt A H b.p b.l b.as v) (e : Buts fp H H') (hd : ∀ x ∈ b.all, x ∉ fp) : VAt A H' b.p b.l b.as v :=
  h.buts e (hd _ (by simp)) (hd _ (by simp)) fun s hs => hd _ (by simp [hs])
theorem own_sub {x : Addr} (h : x ∈ b.p :: b.as) : x ∈ b.all := by
  rcases List.mem_cons.mp h with z | z <;> simp [z]
theorem buts_one {x : Addr} (e : But x H H') : Buts [x] H H' := fun b o hb h => e b o (fun z => hb (by simp [z])) h
/-- what is kept but at new places is kept -/
theorem buts_ex {fp : List Addr} {H0 : Hp} (e0 : Ex H0 H) (e : Buts fp H H') (hf : ∀ x ∈ fp, H0 x = none) : Ex H0 H' := fun x o h => e x o (fun z => by rw [hf x z] at h; cases h) (e0 x o h)
theorem TupsAt.nil : TupsAt H [] [] := ⟨rfl, fun i r c h => by simp at h⟩
theorem TupsAt.ext (h : TupsAt H rs cs) (e : Ex H H') : TupsAt H' rs cs := ⟨h.len, fun i r c h1 h2 => e _ _ (h.row i r c h1 h2)⟩
theorem TupsAt.mem (h : TupsAt H rs cs) {r : Addr} (hr : r ∈ rs) : ∃ c, c ∈ cs ∧ H r = some (.tup c) := by
  obtain ⟨i, hi⟩ := List.mem_iff_getElem?.mp hr
  have hl := (List.getElem?_eq_some_iff.mp hi).1
  have hc : i < cs.length := by rw [← h.len]; exact hl
  exact ⟨_, List.getElem_mem hc, h.row i r _ hi (List.getElem?_eq_getElem hc)⟩
theorem TupsAt.keep {fp : List Addr} (h : TupsAt H rs cs) (e : Buts fp H H') (hd : ∀ x ∈ fp, ∀ c, H x ≠ some (.tup c)) : TupsAt H' rs cs := ⟨h.len, fun i r c h1 h2 => e _ _ (fun z => hd r z c (h.row i r c h1 h2)) (h.row i r c h1 h2)⟩
theorem TupsAt.upd {o : HO} {xs : List V} (h : TupsAt H rs cs) (hp : H p = some (.lst xs)) : TupsAt (upd H p o) rs cs := ⟨h.len, fun i r c h1 h2 => by
  have := h.row i r c h1 h2
  rw [upd_ne (ne_of this hp (by intro z; cases z))]
  exact this⟩
theorem TupsAt.push {r : Addr} {c : List V} (h : TupsAt H rs cs) (e : Ex H H') (hr : H' r = some (.tup c)) : TupsAt H' (rs ++ [r]) (cs ++ [c]) := by
  refine ⟨by rw [List.length_append, List.length_append, h.len]; rfl, fun i r' c' h1 h2 => ?_⟩
  by_cases hi : i < rs.length
  · rw [List.getElem?_append_left hi] at h1
    rw [List.getElem?_append_left (by rw [← h.len]; exact hi)] at h2
    exact e _ _ (h.row i r' c' h1 h2)
  · have hj : i = rs.length := by
      have := (List.getElem?_eq_some_iff.mp h1).1
      rw [List.length_append, List.length_singleton] at this
      omega
    subst hj
    rw [List.getElem?_append_right (Nat.le_refl _), Nat.sub_self] at h1
    rw [h.len, List.getElem?_append_right (Nat.le_refl _), Nat.sub_self] at h2
    have e1 : r = r' := Option.some.inj h1
    have e2 : c = c' := Option.some.inj h2
    subst e1
    subst e2
    exact hr
theorem TupsAt.app {rs' : List Addr} {cs' : List (List V)} (h : TupsAt H rs cs) (h' : TupsAt H rs' cs') : TupsAt H (rs ++ rs') (cs ++ cs') := by
  refine ⟨by rw [List.length_append, List.length_append, h.len, h'.len], fun i r c h1 h2 => ?_⟩
  by_cases hi : i < rs.length
  · rw [List.getElem?_append_left hi] at h1
    rw [List.getElem?_append_left (by rw [← h.len]; exact hi)] at h2
    exact h.row i r c h1 h2
  · rw [List.getElem?_append_right (by omega)] at h1
    rw [List.getElem?_append_right (by rw [← h.len]; omega), ← h.len] at h2
    exact h'.row _ r c h1 h2
theorem TupsAt.at (h : TupsAt H rs cs) {i : Nat} {c : List V} (hc : cs[i]? = some c) : ∃ r, rs[i]? = some r ∧ H r = some (.tup c) := by
  have hl : i < rs.length := by rw [h.len]; exact (List.getElem?_eq_some_iff.mp hc).1
  exact ⟨_, List.getElem?_eq_getElem hl, h.row i _ c (List.getElem?_eq_getElem hl) hc⟩
theorem dpAll_tups : ∀ {rs : List Addr} {cs : List (List V)}, TupsAt H rs cs → (∀ c ∈ cs, c.all flat4 = true) → DpAll K H (rs.map V.ref) (cs.map fun c => PyData.tuple (c.map vD))
  | [], [], _, _ => .nil
  | [], _ :: _, h, _ => nomatch h.len
  | _ :: _, [], h, _ => nomatch h.len
  | r :: rs, c :: cs, h, hf => .cons (.tup (st_of (h.row 0 r c rfl rfl)) (dpAll_flat (hf c (by simp)))) (dpAll_tups ⟨by have := h.len; simpa using this, fun i r' c' h1 h2 => h.row (i + 1) r' c' h1 h2⟩ fun c' hc' => hf c' (by simp [hc']))
theorem lay_tups : ∀ {cs : List (List V)}, (∀ c ∈ cs, c.all flat4 = true) → PyData.canLayAll0 (cs.map fun c => PyData.tuple (c.map vD)) = true ∧ PyData.depthAll (cs.map fun c => PyData.tuple (c.map vD)) ≤ 1
  | [], _ => ⟨by simp [PyData.canLayAll0], by simp [PyData.depthAll]⟩
  | c :: cs, h => by
    obtain ⟨h1, h2⟩ := lay_flats (h c (by simp))
    obtain ⟨h3, h4⟩ := lay_tups (cs := cs) fun c' hc' => h c' (by simp [hc'])
    refine ⟨by rw [List.map_cons, PyData.canLayAll0, PyData.canLay0, h1, h3]; rfl, ?_⟩
    rw [List.map_cons, PyData.depthAll, PyData.depth, h2]
    omega
theorem shaped_tups (h : ∀ c ∈ cs, c.all flat4 = true) : SeqAt.shaped (.list (cs.map fun c => PyData.tuple (c.map vD))) = true := by
  obtain ⟨h1, h2⟩ := lay_tups h
  show ((PyData.list _).canLay0 && decide ((PyData.list _).depth ≤ 64)) = true
  rw [PyData.canLay0, PyData.depth, h1, Bool.true_and, decide_eq_true_eq]
  omega
theorem rv_neTups {rs' : List Addr} (hp : H p = some (.lst (rs.map V.ref))) (h : TupsAt H rs cs) (hq : H q = some (.lst (rs'.map V.ref))) (h' : TupsAt H rs' cs) (hf : ∀ c ∈ cs, c.all flat4 = true) : RV (rNeD K) (.ref p) (.ref q) H (.bl false) := fun H1 e Q k => by
  refine ⟨_, _, .lst (sq_of (e _ _ hp)) (dpAll_tups (h.ext e) hf), .lst (sq_of (e _ _ hq)) (dpAll_tups (h'.ext e) hf), shaped_tups hf, shaped_tups hf, ?_⟩
  rw [PySem.SeqAt.eqv_refl _ (SeqAt.canLay_of_shaped (shaped_tups hf))]
  exact k H1 (Ex.refl H1)
/-! ### lists of what sensors say -/
theorem oV_flat (vals : List (Option Int)) : (vals.map oV).all flat4 = true := by
  rw [List.all_map, List.all_eq_true]
  intro x _
  cases x <;> rfl
theorem dpAll_rows : ∀ {rs : List Addr} {vs : List (List (Option Int))}, rs.length = vs.length → (∀ (i : Nat) (r : Addr) (c : List (Option Int)), rs[i]? = some r → vs[i]? = some c → H r = some (.lst (c.map oV))) → DpAll K H (rs.map V.ref) (vs.map fun c => PyData.list ((c.map oV).map vD))
  | [], [], _, _ => .nil
  | [], _ :: _, h, _ => nomatch h
  | _ :: _, [], h, _ => nomatch h
  | r :: rs, c :: cs, h, hf => .cons (.lst (sq_of (hf 0 r c rfl rfl)) (dpAll_flat (oV_flat c))) (dpAll_rows (by simpa using h) fun i r' c' h1 h2 => hf (i + 1) r' c' h1 h2)
theorem lay_rows : ∀ (cs : List (List (Option Int))), PyData.canLayAll0 (cs.map fun c => PyData.list ((c.map oV).map vD)) = true ∧ PyData.depthAll (cs.map fun c => PyData.list ((c.map oV).map vD)) ≤ 1
  | [] => ⟨by simp [PyData.canLayAll0], by simp [PyData.depthAll]⟩
  | c :: cs => by
    obtain ⟨h1, h2⟩ := lay_flats (oV_flat c)
    obtain ⟨h3, h4⟩ := lay_rows cs
    refine ⟨by rw [List.map_cons, PyData.canLayAll0, PyData.canLay0, h1, h3]; rfl, ?_⟩
    rw [List.map_cons, PyData.depthAll, PyData.depth, h2]
    omega
theorem shaped_rows (cs : List (List (Option Int))) : SeqAt.shaped (.list (cs.map fun c => PyData.list ((c.map oV).map vD))) = true := by
  obtain ⟨h1, h2⟩ := lay_rows cs
  show ((PyData.list _).canLay0 && decide ((PyData.list _).depth ≤ 64)) = true
  rw [PyData.canLay0, PyData.depth, h1, Bool.true_and, decide_eq_true_eq]
  omega
theorem RowsAt.ext {rows : List Addr} {valss : List (List (Option Int))} (h : RowsAt H p rows valss) (e : Ex H H') : RowsAt H' p rows valss := ⟨e _ _ h.at_, h.len, fun i r c h1 h2 => e _ _ (h.row i r c h1 h2)⟩
theorem RowsAt.keep {fp : List Addr} {rows : List Addr} {valss : List (List (Option Int))} (h : RowsAt H p rows valss) (e : Buts fp H H') (hp : p ∉ fp) (hr : ∀ r ∈ rows, r ∉ fp) : RowsAt H' p rows valss := ⟨e _ _ hp h.at_, h.len, fun i r c h1 h2 => e _ _ (hr r (List.mem_of_getElem? h1)) (h.row i r c h1 h2)⟩
theorem RowsAt.get {rows : List Addr} {valss : List (List (Option Int))} (h : RowsAt H p rows valss) {i : Nat} (hi : i < valss.length) : ∃ row vals, rows[i]? = some row ∧ valss[i]? = some vals ∧ H row = some (.lst (vals.map oV)) ∧ row ∈ rows ∧ vals ∈ valss ∧ atI (rows.map V.ref) (i : Int) = some (.ref row) := by
  have hr : i < rows.length := by rw [h.len]; exact hi
  have h1 : rows[i]? = some rows[i] := List.getElem?_eq_getElem hr
  have h2 : valss[i]? = some valss[i] := List.getElem?_eq_getElem hi
  exact ⟨_, _, h1, h2, h.row i _ _ h1 h2, List.mem_of_getElem? h1, List.mem_of_getElem? h2, atI_nat (by rw [List.getElem?_map, h1]; rfl)⟩
theorem rv_rows {rows rows' : List Addr} {valss : List (List (Option Int))} (h : RowsAt H p rows valss) (h' : RowsAt H q rows' valss) : RV (rNeD K) (.ref p) (.ref q) H (.bl false) := fun H1 e Q k => by
  refine ⟨_, _, .lst (sq_of (e _ _ h.at_)) (dpAll_rows h.len (h.ext e).row), .lst (sq_of (e _ _ h'.at_)) (dpAll_rows h'.len (h'.ext e).row), shaped_rows valss, shaped_rows valss, ?_⟩
  rw [PySem.SeqAt.eqv_refl _ (SeqAt.canLay_of_shaped (shaped_rows valss))]
  exact k H1 (Ex.refl H1)
theorem rv_eqRows {rows rows' : List Addr} {valss : List (List (Option Int))} (h : RowsAt H p rows valss) (h' : RowsAt H q rows' valss) : RV (rEqD K) (.ref p) (.ref q) H (.bl true) := fun H1 e Q k => by
  refine ⟨_, _, .lst (sq_of (e _ _ h.at_)) (dpAll_rows h.len (h.ext e).row), .lst (sq_of (e _ _ h'.at_)) (dpAll_rows h'.len (h'.ext e).row), shaped_rows valss, shaped_rows valss, ?_⟩
  rw [PySem.SeqAt.eqv_refl _ (SeqAt.canLay_of_shaped (shaped_rows valss))]
  exact k H1 (Ex.refl H1)
theorem rv_eqSame {xs : List V} (h : SqL K H p xs) (hf : xs.all flat4 = true) (h2 : SqL K H q xs) : RV (rEqD K) (.ref p) (.ref q) H (.bl true) := fun H1 e Q k => by
  refine ⟨.list (xs.map vD), .list (xs.map vD), .lst (ex_l e h) (dpAll_flat hf), .lst (ex_l e h2) (dpAll_flat hf), shaped_list hf, shaped_list hf, ?_⟩
  rw [PySem.SeqAt.eqv_refl _ (SeqAt.canLay_of_shaped (shaped_list hf))]
  exact k H1 (Ex.refl H1)
end
end MV
namespace MV
open PySem PySem.Spec PyProof.Rows L2 Evl
section
variable {K : PySem.W.Frag} {mg : Str → Option Value} {A : Ads} {H H' : Hp} {σ : L2.St} {ta tb : TE} {x : V} {k : Int}
theorem Buts.seqU {fp : List Addr} {a : Addr} {xs : List V} (e : Buts fp H H') (ha : ∀ u, H a = some u → a ∉ fp) (h : SqL K H a xs) : SqL K H' a xs := by
  rcases h with (h | ⟨o, h⟩) | h
  · exact .inl (.inl (e _ _ (ha _ h) h))
  · exact .inl (.inr ⟨o, e _ _ (ha _ h) h⟩)
  · exact .inr h
theorem Buts.tupU {fp : List Addr} {a : Addr} {xs : List V} (e : Buts fp H H') (ha : ∀ u, H a = some u → a ∉ fp) (h : SqT K H a xs) : SqT K H' a xs := by
  rcases h with (h | ⟨o, h⟩) | h
  · exact .inl (.inl (e _ _ (ha _ h) h))
  · exact .inl (.inr ⟨o, e _ _ (ha _ h) h⟩)
  · exact .inr h
/-! ### what holds of a voter's counts -/
abbrev Fine (bk : Int) (s : Bool × Int) : Prop := 0 ≤ s.2 ∧ (s.1 = true → s.2 < bk)
theorem nextS_fine {v : Vst} {any : Bool} {ss : List (Bool × Int)} {s : Bool × Int} {c : Bool} (hb : 1 ≤ v.bk) (h : Fine v.bk s) : Fine v.bk (nextS v any ss s c) := by
  unfold nextS
  split
  · rename_i ho
    have h2 := h.2 ho
    unfold nextW
    cases hx : (c && any) with
    | true =>
      simp only [if_true, Int.mul_one]
      split
      · exact ⟨Int.le_refl _, fun z => nomatch z⟩
      · exact ⟨by have := h.1; show 0 ≤ s.2 + 1; omega, fun _ => by show s.2 + 1 < v.bk; omega⟩
    | false =>
      simp only [Bool.false_eq_true, if_false, Int.mul_zero]
      split
      · exact ⟨Int.le_refl _, fun z => nomatch z⟩
      · exact ⟨Int.le_refl _, fun _ => by show (0 : Int) < v.bk; omega⟩
  · unfold nextG
    split
    · refine ⟨?_, fun z => nomatch z⟩
      show 0 ≤ (if s.2 - 1 > 0 then s.2 - 1 else 0)
      split <;> omega
    · split
      · exact ⟨Int.le_refl _, fun _ => by show (0 : Int) < v.bk; omega⟩
      · exact ⟨by have := h.1; show 0 ≤ s.2 + 1; omega, fun z => nomatch z⟩
theorem fine_getD {bk : Int} {ss : List (Bool × Int)} (hb : 1 ≤ bk) (h : ∀ s ∈ ss, Fine bk s) (i : Nat) : Fine bk (ss.getD i S0) := by
  rw [List.getD_eq_getElem?_getD]
  cases e : ss[i]? with
  | none => exact ⟨Int.le_refl _, fun z => nomatch z⟩
  | some s => exact h s (List.mem_of_getElem? e)
theorem turns_fine {v : Vst} {any : Bool} {value : Int} {vals : List (Option Int)} (g : Good v) : ∀ i, ∀ s ∈ turns v any value vals i, Fine v.bk s
  | 0 => g.ss
  | i + 1 => by
    rw [turns_succ]
    intro s hs
    unfold turnS at hs
    rcases List.mem_or_eq_of_mem_set hs with z | z
    · exact turns_fine g i s z
    · rw [z]
      exact nextS_fine g.bk (fine_getD g.bk (turns_fine g i) _)
theorem good_step {v : Vst} {vals : List (Option Int)} (g : Good v) : Good (stepV v vals) :=
  ⟨by show 3 ≤ (turns _ _ _ _ _).length ∧ (turns _ _ _ _ _).length ≤ 9; rw [turns_len]; exact g.len, g.rate, g.bk, turns_fine g _⟩
theorem good_fresh {m t r ms b st : Int} (h : okSet m t r ms b = true) : Good (freshV m t r ms b st) := by
  obtain ⟨h1, h2, h3, h4, h5⟩ := okSet_m h
  refine ⟨?_, h3.1, h5.1, fun s hs => ?_⟩
  · show 3 ≤ (List.replicate m.toNat S0).length ∧ (List.replicate m.toNat S0).length ≤ 9
    rw [List.length_replicate]
    omega
  · rw [List.eq_of_mem_replicate hs]
    exact ⟨Int.le_refl _, fun z => nomatch z⟩
theorem agr_len (t : List Int) (v th : Int) : (agr t v th).length = (t.filter fun y => decide (ab (y - v) ≤ th)).length := given_gen t 0 (fun y => decide (ab (y - v) ≤ th)) _
theorem count_in (ss : List (Bool × Int)) : ((ss.map fun s => V.bl s.1).countP fun z => eqV z (.bl false)) = inN ss := by
  unfold inN
  rw [List.countP_map, List.countP_eq_length_filter]
  congr 2
  funext s
  show (s.1 == false) = !s.1
  cases s.1 <;> rfl
theorem out_flat (ss : List (Bool × Int)) : (ss.map fun s => V.bl s.1).all flatV = true := by
  rw [List.all_map, List.all_eq_true]
  intro s _
  rfl
/-- the law's word is the voter's -/
theorem word_law {n : Nat} {th value : Int} {t : List Int} (h3 : 3 ≤ n) (hn : t.length ≤ n) : wordOf n th t value =
    (if ((t.filter fun y => decide (ab (y - value) ≤ th)).length : Int) = (n : Int) then "all" else if t = [] then "lost" else if (t.length : Int) = 1 then "single" else if ((t.filter fun y => decide (ab (y - value) ≤ th)).length : Int) ≤ (t.length : Int) - ((t.filter fun y => decide (ab (y - value) ≤ th)).length : Int) then "split" else "most") := by
  unfold wordOf
  rw [agr_len]
  have hc := List.length_filter_le (fun y => decide (ab (y - value) ≤ th)) t
  by_cases c0 : t = []
  · rw [if_pos c0, if_pos c0]
    subst c0
    rw [if_neg]
    show ¬ ((0 : Nat) : Int) = (n : Int)
    omega
  rw [if_neg c0, if_neg c0]
  by_cases c1 : t.length = 1
  · rw [if_pos c1, if_neg (by omega), if_pos (by omega)]
  rw [if_neg c1]
  by_cases c2 : 2 * (t.filter fun y => decide (ab (y - value) ≤ th)).length ≤ t.length
  · rw [if_pos c2, if_neg (by omega), if_neg (by omega), if_pos (by omega)]
  rw [if_neg c2]
  by_cases c3 : (t.filter fun y => decide (ab (y - value) ≤ th)).length = n
  · rw [if_pos c3, if_pos (by omega)]
  · rw [if_neg c3, if_neg (by omega), if_neg (by omega), if_neg (by omega)]
end
end MV
namespace MV
open PySem PySem.Spec PyProof.Rows L2 Evl
/-! ### at least one isn't out -/
theorem inN_cons (s : Bool × Int) (r : List (Bool × Int)) : inN (s :: r) = (if s.1 = true then 0 else 1) + inN r := by
  unfold inN
  rw [List.filter_cons]
  cases s.1 with
  | true => simp
  | false => simp; omega
theorem inN_at {ss : List (Bool × Int)} {i : Nat} {x : Bool × Int} (h : i < ss.length) : inN (ss.set i x) + (if (ss.getD i S0).1 = true then 0 else 1) = inN ss + (if x.1 = true then 0 else 1) := by
  induction ss generalizing i with
  | nil => exact absurd h (by simp)
  | cons s r ih =>
    cases i with
    | zero =>
      show inN (x :: r) + (if s.1 = true then 0 else 1) = inN (s :: r) + _
      rw [inN_cons, inN_cons]
      omega
    | succ i =>
      have h2 : i < r.length := by simpa using h
      have := ih h2
      show inN (s :: r.set i x) + (if (r.getD i S0).1 = true then 0 else 1) = inN (s :: r) + _
      rw [inN_cons, inN_cons]
      omega
theorem next_in {v : Vst} {any : Bool} {ss : List (Bool × Int)} {i : Nat} {c : Bool} (hi : i < ss.length) (h : 1 ≤ inN ss) : 1 ≤ inN (ss.set i (nextS v any ss (ss.getD i S0) c)) := by
  have e := inN_at (x := nextS v any ss (ss.getD i S0) c) hi
  cases hs : (ss.getD i S0).1 with
  | true =>
    rw [hs] at e
    simp only [if_true] at e
    omega
  | false =>
    rw [hs] at e
    simp only [Bool.false_eq_true, if_false] at e
    unfold nextS at e ⊢
    rw [if_neg (by rw [hs]; decide)] at e ⊢
    unfold nextG at e ⊢
    by_cases hc : c = true
    · rw [if_pos hc] at e ⊢
      simp only [Bool.false_eq_true, if_false] at e
      omega
    · rw [if_neg hc] at e ⊢
      by_cases hm : v.mis ≤ (ss.getD i S0).2 + 1 ∧ 1 < inN ss
      · rw [if_pos hm] at e ⊢
        simp only [if_true] at e
        omega
      · rw [if_neg hm] at e ⊢
        simp only [Bool.false_eq_true, if_false] at e
        omega
theorem turns_in {v : Vst} {any : Bool} {value : Int} {vals : List (Option Int)} (h : 1 ≤ inN v.ss) : ∀ i, i ≤ v.ss.length → 1 ≤ inN (turns v any value vals i)
  | 0, _ => h
  | i + 1, hi => by
    rw [turns_succ]
    unfold turnS
    exact next_in (by rw [turns_len]; omega) (turns_in h i (by omega))
theorem ex_in {ss : List (Bool × Int)} (h : 1 ≤ inN ss) : ∃ i, i < ss.length ∧ (ss.getD i S0).1 = false := by
  unfold inN at h
  obtain ⟨s, hs⟩ := List.exists_mem_of_length_pos (by omega : 0 < (ss.filter fun s => !s.1).length)
  obtain ⟨h1, h2⟩ := List.mem_filter.mp hs
  obtain ⟨i, hi, e⟩ := List.mem_iff_getElem.mp h1
  refine ⟨i, hi, ?_⟩
  rw [List.getD_eq_getElem?_getD, List.getElem?_eq_getElem hi]
  show (ss[i]).1 = false
  rw [e]
  simpa using h2
theorem inN_rep (n : Nat) : inN (List.replicate n S0) = n := by
  induction n with
  | zero => rfl
  | succ n ih => rw [List.replicate_succ, inN_cons, ih]; show 1 + n = n + 1; omega
theorem state_out (s : Bool × Int) : decide (stateW s = ("out" : Str)) = s.1 := by
  obtain ⟨b, n⟩ := s
  unfold stateW
  cases b with
  | true => rfl
  | false =>
    show decide ((if n = 0 then "good" else "suspect" : Str) = "out") = false
    split <;> decide +kernel
theorem q_ifM {M : L2.St → Hp → Prop} {c : TT} {t u tz : TS} {σ : L2.St} {H : Hp} {D : Ends} {b : Bool} (h : EvT c σ H b) (h1 : b = true → ∀ H1, Ex H H1 → ∀ D' : Ends, (∀ σ' H', M σ' H' → D'.nx σ' H') → t D' σ H1) (h2 : b = false → ∀ H1, Ex H H1 → ∀ D' : Ends, (∀ σ' H', M σ' H' → D'.nx σ' H') → u D' σ H1)
    (k : ∀ σ' H', M σ' H' → tz D σ' H') : tSeq (tIfS c t u) tz D σ H := s_if (D := { D with nx := tz D }) h (fun hb H1 e1 => h1 hb H1 e1 _ k) fun hb H1 e1 => h2 hb H1 e1 _ k
section
variable {K : PySem.W.Frag} {mg : Str → Option Value} {A : Ads} {σ : L2.St} {H : Hp} {D : Ends} {tz : TS} {E : XK}
/-- a voter is made, the start an expression -/
theorem q_voterE {i i2 : Nat} {te : TE} {st : Addr} {m t r ms b : Int} {P : V → Prop} (h2 : σ[i2]? = some (some (.ref st))) (h3 : ∃ v, Ev te σ H v ∧ P v) (hP : ∀ v, P v → ∃ sta : Int, v = .int sta) (hT : SqT K H st [.int m, .int t, .int r, .int ms, .int b]) (hok : okSet m t r ms b = true)
    (k : ∀ (sta : Int) (H' : Hp) (B : Own), P (.int sta) → Ex H H' → (∀ x ∈ B.all, H x = none) → VAt A H' B.p B.l B.as (freshV m t r ms b sta) → tz D (σ.set i (some (.ref B.p))) H') :
    tSeq (tAsg (tMake A.c_Voter (sp_Voter_init K A) [] E (tCons (tVar i2) (tCons te tNil))) (gName i)) tz D σ H := by
  obtain ⟨v, hv, hp⟩ := h3
  obtain ⟨sta, rfl⟩ := hP v hp
  refine q_asgR ?_
  refine ⟨.ref st, h2, hv H (Ex.refl H) _ fun H0 e0 => ?_⟩
  intro x dx hx0 hdx hne
  have ex0 : Ex H0 (upd (upd H0 dx (.own x)) x (.ins A.c_Voter dx [])) := fun c o hc => by
    rw [upd_ne (ne_of_none hc hx0), upd_ne (ne_of_none hc hdx)]
    exact hc
  have bk : ∀ z, (upd (upd H0 dx (.own x)) x (.ins A.c_Voter dx [])) z = none → H z = none := fun z hz => fresh_back e0 (by
    cases e : H0 z with
    | none => rfl
    | some o => rw [ex0 _ _ e] at hz; cases hz)
  refine ⟨x, dx, st, m, t, r, ms, b, sta, rfl, upd_same, ex_t (e0.trans ex0) hT, fun _ H2 l as b2 has hl hv' => ⟨rfl, ?_⟩, fun hn => absurd (hok.symm.trans hn) (by decide)⟩
  refine k sta H2 ⟨x, l, as⟩ hp (fun c o hc => b2 c o (ne_of_none (e0 _ _ hc) hx0) (ex0 _ _ (e0 _ _ hc))) (fun y hy => ?_) hv'
  rcases List.mem_cons.mp hy with z | z
  · rw [z]; exact fresh_back e0 hx0
  rcases List.mem_cons.mp z with z | z
  · rw [z]; exact bk _ hl
  · exact bk _ (has _ z)
end
end MV
namespace MV
open PySem PySem.Spec PyProof.Rows L2 Evl
theorem getD_set_ne {ss : List (Bool × Int)} {i j : Nat} {x : Bool × Int} (h : i ≠ j) : (ss.set i x).getD j S0 = ss.getD j S0 := by
  rw [List.getD_eq_getElem?_getD, List.getElem?_set_ne h, List.getD_eq_getElem?_getD]
theorem turns_later {v : Vst} {any : Bool} {value : Int} {vals : List (Option Int)} : ∀ i j, i ≤ j → (turns v any value vals i).getD j S0 = v.ss.getD j S0
  | 0, _, _ => rfl
  | i + 1, j, h => by
    rw [turns_succ]
    unfold turnS
    rw [getD_set_ne (by omega)]
    exact turns_later i j (by omega)
theorem turns_done {v : Vst} {any : Bool} {value : Int} {vals : List (Option Int)} : ∀ i j, j < i → j < v.ss.length → (turns v any value vals i).getD j S0 = nextS v any (turns v any value vals j) (v.ss.getD j S0) (clo v.th value (vals.getD j none))
  | 0, _, h, _ => absurd h (by omega)
  | i + 1, j, h, hj => by
    rw [turns_succ]
    unfold turnS
    by_cases e : j = i
    · subst e
      rw [getD_set_self (by rw [turns_len]; exact hj), turns_later j j (Nat.le_refl _)]
    · rw [getD_set_ne (by omega)]
      exact turns_done i j (by omega) hj
theorem step_at {v : Vst} {vals : List (Option Int)} {j : Nat} (hj : j < v.ss.length) : (stepV v vals).ss.getD j S0 = nextS v (anyHere v vals) (turns v (anyHere v vals) (valueOf v vals) vals j) (v.ss.getD j S0) (clo v.th (valueOf v vals) (vals.getD j none)) := turns_done _ _ hj hj
theorem step_len {v : Vst} {vals : List (Option Int)} : (stepV v vals).ss.length = v.ss.length := turns_len ..
end MV
namespace MV
open PySem PySem.Spec PyProof.Rows L2 Evl LamX
/-! ### who isn't out, by places; heaps behind the making of lambdas -/
def inPl (ss : List (Bool × Int)) : List Nat := (List.range ss.length).filter fun i => !(ss.getD i S0).1
theorem inPl_mem {ss : List (Bool × Int)} {i : Nat} : i ∈ inPl ss ↔ i < ss.length ∧ (ss.getD i S0).1 = false := by
  unfold inPl
  rw [List.mem_filter, List.mem_range, Bool.not_eq_true']
theorem inPl_nodup (ss : List (Bool × Int)) : (inPl ss).Nodup := List.Pairwise.filter _ List.nodup_range
theorem inPl_len (ss : List (Bool × Int)) : (inPl ss).length ≤ ss.length := by
  unfold inPl
  have := List.length_filter_le (fun i => !(ss.getD i S0).1) (List.range ss.length)
  rw [List.length_range] at this
  exact this
theorem inPl_ne {ss : List (Bool × Int)} (h : 1 ≤ inN ss) : inPl ss ≠ [] := fun z => by
  obtain ⟨i, h1, h2⟩ := ex_in h
  have : i ∈ inPl ss := inPl_mem.mpr ⟨h1, h2⟩
  rw [z] at this
  cases this
theorem there_inPl {ss : List (Bool × Int)} {vals : List (Option Int)} (h : ∀ i ∈ inPl ss, (vals.getD i none).isSome = true) : there ss vals = (inPl ss).map fun i => (vals.getD i none).getD 0 := by
  unfold there
  congr 1
  unfold inPl
  refine List.filter_congr fun i hi => ?_
  unfold isHere
  cases ho : (ss.getD i S0).1 with
  | true => rfl
  | false =>
    have := h i (inPl_mem.mpr ⟨List.mem_range.mp hi, ho⟩)
    rw [this]
    rfl
theorem inV_places {pl : List Nat} {j : Nat} : inV (.int (j : Int)) (pl.map fun (i : Nat) => V.int (i : Int)) = decide (j ∈ pl) := by
  unfold inV
  rw [List.any_map]
  induction pl with
  | nil => rfl
  | cons a r ih =>
    rw [List.any_cons, ih]
    have e : (((fun y => eqV y (V.int (j : Int))) ∘ fun (i : Nat) => V.int (i : Int)) a) = decide (j = a) := by
      show eqV (V.int (a : Int)) (V.int (j : Int)) = _
      by_cases c : j = a
      · subst c
        rw [decide_eq_true rfl]
        show ((j : Int) == (j : Int)) = true
        simp
      · rw [decide_eq_false c]
        show ((a : Int) == (j : Int)) = false
        simp only [beq_eq_false_iff_ne]
        omega
    rw [e]
    by_cases c : j = a <;> simp [c]
theorem places_flat (pl : List Nat) : (pl.map fun (i : Nat) => V.int (i : Int)).all flatV = true := by
  rw [List.all_map, List.all_eq_true]
  intro x _
  rfl
section
variable {K : PySem.W.Frag} {A : Ads} {H H' : Hp} {p l a P : Addr} {as : List Addr} {v : Vst} {q : Str} {xs : List V} {B : Own}
theorem VAt.extN (h : VAt A H p l as v) (e : ExtN H H') : VAt A H' p l as v := by
  obtain ⟨⟨dx, h1⟩, h2, h3, h4, h5, h6, h7⟩ := h
  exact ⟨⟨dx, exn_ins e h1⟩, exn_lst e h2, h3, h4, h5, h6, fun i s hs => let ⟨dy, q⟩ := h7 i s hs; ⟨dy, exn_ins e q⟩⟩
theorem codeO_neI {c C d : Addr} {q : Str} {fs : List (Str × V)} : CodeO c q ≠ .ins C d fs := fun z => by
  unfold CodeO at z
  cases z
/-- what the voter's step keeps: tables -/
theorem tabS_voter (t : TabS H P q) (h : VAt A H p l as v) (e : Buts (p :: as) H H') : TabS H' P q := tabS_mono t fun b o hb ho => e b o (fun z => by
  have : ∃ C d fs, H b = some (.ins C d fs) := by
    rcases List.mem_cons.mp z with w | w
    · obtain ⟨dx, q1⟩ := h.own
      exact ⟨_, _, _, by rw [w]; exact q1⟩
    · obtain ⟨j, hj⟩ := List.mem_iff_getElem?.mp w
      obtain ⟨dy, q1⟩ := h.sens j b hj
      exact ⟨_, _, _, q1⟩
  obtain ⟨C, d, fs, h1⟩ := this
  rw [hb] at h1
  have h1 := Option.some.inj h1
  rcases ho with ⟨ps, z2⟩ | ⟨c, q2, z2⟩
  · rw [z2] at h1; cases h1
  · rw [z2] at h1; exact codeO_neI h1) hb
/-- a list that is known, or stands apart from the voter -/
def Scr (K : PySem.W.Frag) (B : Own) (H : Hp) (a : Addr) (xs : List V) : Prop := (Rd H a (.lst xs) ∧ a ∉ B.all) ∨ ∃ (o : Obj) (its : Array Value) (n : Nat), K.lookup a = some o ∧ o.cls = .type "list" ∧ o.dict = none ∧ o.data = .seq its n ∧ its.size ≤ sizeLine ∧ Vals xs its.toList
theorem Scr.seq (h : Scr K B H a xs) : SqL K H a xs := h.imp (fun z => z.1) id
theorem Scr.of (h : SqL K H a xs) (hf : ∀ x ∈ B.all, H x = none) (e : Ex H H') : Scr K B H' a xs := by
  rcases h with h | h
  · refine .inl ⟨ex_rd e h, fun z => ?_⟩
    have := hf a z
    rcases h with h | ⟨o, h⟩ <;> rw [h] at this <;> cases this
  · exact .inr h
theorem Scr.extN (h : Scr K B H a xs) (e : ExtN H H') : Scr K B H' a xs := h.imp (fun z => ⟨exn_rd e (fun ps w => by cases w) z.1, z.2⟩) id
theorem Scr.ext (h : Scr K B H a xs) (e : Ex H H') : Scr K B H' a xs := h.extN (ExtN.of e)
theorem Scr.buts (h : Scr K B H a xs) (e : Buts B.all H H') : Scr K B H' a xs := h.imp (fun z => ⟨by
  obtain ⟨h1, h2⟩ := z
  rcases h1 with h1 | ⟨o, h1⟩
  · exact .inl (e _ _ h2 h1)
  · exact .inr ⟨o, e _ _ h2 h1⟩, z.2⟩) id
end
end MV
namespace MV
/-! ### the two places of the middle -/
section
variable {r ns : List Int} {n i j : Nat} {x y : Int}
theorem pw_le (h : r.Pairwise (· ≤ ·)) (hi : i ≤ j) (hj : j < r.length) : r[i]'(by omega) ≤ r[j] := by
  rcases Nat.lt_or_eq_of_le hi with h1 | h1
  · exact List.pairwise_iff_getElem.mp h i j (by omega) hj h1
  · subst h1; exact Int.le_refl _
end
/-- the two places of the middle -/
def loM (ns : List Int) : Int := (srt ns).getD (((srt ns).length - 1) / 2) 0
def hiM (ns : List Int) : Int := (srt ns).getD ((srt ns).length / 2) 0
theorem gd {r : List Int} {i : Nat} (h : i < r.length) : r.getD i 0 = r[i] := by rw [List.getD_eq_getElem?_getD, List.getElem?_eq_getElem h]; rfl
theorem lo_mem {ns : List Int} (h : ns ≠ []) : loM ns ∈ ns := by
  have hp : 0 < (srt ns).length := by rw [srt_len]; exact List.length_pos_iff.mpr h
  have g1 : ((srt ns).length - 1) / 2 < (srt ns).length := by omega
  rw [show loM ns = (srt ns)[((srt ns).length - 1) / 2] from gd g1]
  exact srt_mem.mp (List.getElem_mem _)
theorem hi_mem {ns : List Int} (h : ns ≠ []) : hiM ns ∈ ns := by
  have hp : 0 < (srt ns).length := by rw [srt_len]; exact List.length_pos_iff.mpr h
  have g1 : (srt ns).length / 2 < (srt ns).length := by omega
  rw [show hiM ns = (srt ns)[(srt ns).length / 2] from gd g1]
  exact srt_mem.mp (List.getElem_mem _)
theorem lo_le_hi {ns : List Int} (h : ns ≠ []) : loM ns ≤ hiM ns := by
  have hp : 0 < (srt ns).length := by rw [srt_len]; exact List.length_pos_iff.mpr h
  have g1 : ((srt ns).length - 1) / 2 < (srt ns).length := by omega
  have g2 : (srt ns).length / 2 < (srt ns).length := by omega
  rw [show loM ns = (srt ns)[((srt ns).length - 1) / 2] from gd g1, show hiM ns = (srt ns)[(srt ns).length / 2] from gd g2]
  exact pw_le (srt_pw ns) (by omega) g2
theorem mid_is {ns : List Int} (h : ns ≠ []) (near : Int) : mid ns near = if ab (hiM ns - near) < ab (loM ns - near) then hiM ns else loM ns := by
  have hp : 0 < (srt ns).length := by rw [srt_len]; exact List.length_pos_iff.mpr h
  unfold mid hiM loM
  by_cases c : ((srt ns).length : Int) % 2 = 1
  · rw [if_pos c]
    have e1 : (((srt ns).length : Int) / 2).toNat = (srt ns).length / 2 := by omega
    have e2 : ((srt ns).length - 1) / 2 = (srt ns).length / 2 := by omega
    rw [e1, e2]
    split <;> rfl
  · rw [if_neg c]
    have e1 : (((srt ns).length : Int) / 2).toNat = (srt ns).length / 2 := by omega
    have e2 : (((srt ns).length : Int) / 2 - 1).toNat = ((srt ns).length - 1) / 2 := by omega
    rw [e1, e2]
end MV
namespace MV
/-! ### the middle of numbers of which more than half lie within a stretch -/
section
variable {r t : List Int} {lo hi : Int} {i : Nat}
abbrev inS (lo hi x : Int) : Bool := decide (lo ≤ x) && decide (x ≤ hi)
theorem at_above (h : r.Pairwise (· ≤ ·)) (hi' : i < r.length) (c : r.length < 2 * (r.filter (inS lo hi)).length) (h1 : r.length ≤ 2 * (i + 1)) : lo ≤ r[i] := by
  refine Int.not_lt.mp fun z => ?_
  have e : (r.filter (inS lo hi)).length = ((r.take (i + 1)).filter (inS lo hi)).length + ((r.drop (i + 1)).filter (inS lo hi)).length := by
    rw [← List.length_append, ← List.filter_append, List.take_append_drop]
  have e1 : (r.take (i + 1)).filter (inS lo hi) = [] := by
    rw [List.filter_eq_nil_iff]
    intro y hy
    obtain ⟨j, hj⟩ := List.mem_iff_getElem?.mp hy
    rw [List.getElem?_take] at hj
    split at hj
    · rename_i hji
      obtain ⟨hjl, ej⟩ := List.getElem?_eq_some_iff.mp hj
      have := pw_le h (show j ≤ i by omega) hi'
      rw [ej] at this
      unfold inS
      rw [decide_eq_false (show ¬ lo ≤ y by omega)]
      simp
    · cases hj
  have e2 := List.length_filter_le (inS lo hi) (r.drop (i + 1))
  rw [List.length_drop] at e2
  rw [e1, List.length_nil] at e
  omega
theorem at_below (h : r.Pairwise (· ≤ ·)) (hi' : i < r.length) (c : r.length < 2 * (r.filter (inS lo hi)).length) (h1 : r.length ≤ 2 * (r.length - i)) : r[i] ≤ hi := by
  refine Int.not_lt.mp fun z => ?_
  have e : (r.filter (inS lo hi)).length = ((r.take i).filter (inS lo hi)).length + ((r.drop i).filter (inS lo hi)).length := by
    rw [← List.length_append, ← List.filter_append, List.take_append_drop]
  have e1 : (r.drop i).filter (inS lo hi) = [] := by
    rw [List.filter_eq_nil_iff]
    intro y hy
    obtain ⟨j, hj⟩ := List.mem_iff_getElem?.mp hy
    rw [List.getElem?_drop] at hj
    obtain ⟨hjl, ej⟩ := List.getElem?_eq_some_iff.mp hj
    have := pw_le h (show i ≤ i + j by omega) hjl
    rw [ej] at this
    unfold inS
    rw [decide_eq_false (show ¬ y ≤ hi by omega)]
    simp
  have e2 := List.length_filter_le (inS lo hi) (r.take i)
  rw [List.length_take] at e2
  rw [e1, List.length_nil] at e
  omega
theorem mid_inside (c : t.length < 2 * (t.filter (inS lo hi)).length) (near : Int) : lo ≤ mid t near ∧ mid t near ≤ hi := by
  have hn : t ≠ [] := fun z => by
    rw [z] at c
    simp at c
  have hp : 0 < (srt t).length := by rw [srt_len]; exact List.length_pos_iff.mpr hn
  have c' : (srt t).length < 2 * ((srt t).filter (inS lo hi)).length := by
    rw [srt_len, ((srt_perm t).filter (inS lo hi)).length_eq]
    exact c
  have g1 : ((srt t).length - 1) / 2 < (srt t).length := by omega
  have g2 : (srt t).length / 2 < (srt t).length := by omega
  have l1 : lo ≤ loM t ∧ loM t ≤ hi := by
    rw [show loM t = (srt t)[((srt t).length - 1) / 2] from gd g1]
    exact ⟨at_above (srt_pw t) g1 c' (by omega), at_below (srt_pw t) g1 c' (by omega)⟩
  have l2 : lo ≤ hiM t ∧ hiM t ≤ hi := by
    rw [show hiM t = (srt t)[(srt t).length / 2] from gd g2]
    exact ⟨at_above (srt_pw t) g2 c' (by omega), at_below (srt_pw t) g2 c' (by omega)⟩
  rw [mid_is hn]
  split
  · exact l2
  · exact l1
end
/-! ### moved by at most so many -/
theorem mvd_rate {one goal most : Int} (h : 0 ≤ most) : ab (mvd one goal most - one) ≤ most := by
  unfold mvd ab
  (repeat' split) <;> omega
theorem mvd_lo {one goal most lo : Int} (h : 0 ≤ most) (hg : lo ≤ goal) : (if lo < one then lo else one) ≤ mvd one goal most := by
  unfold mvd
  (repeat' split) <;> omega
theorem mvd_hi {one goal most hi : Int} (h : 0 ≤ most) (hg : goal ≤ hi) : mvd one goal most ≤ (if hi > one then hi else one) := by
  unfold mvd
  (repeat' split) <;> omega
theorem mvd_there {one goal most : Int} (h : ab (mvd one goal most - one) < most) : mvd one goal most = goal := by
  unfold mvd ab at *
  (repeat' split at h) <;> (repeat' split) <;> omega
theorem mvd_near {one goal most : Int} (h : ab (goal - one) ≤ most) : mvd one goal most = goal := by
  unfold mvd ab at *
  (repeat' split at h) <;> (repeat' split) <;> omega
end MV
namespace MV
open PySem PySem.Spec PyProof.Rows L2 Evl
/-! ### all numbers moved by one number -/
abbrev shO (w : Int) : Option Int → Option Int := Option.map fun x => x + w
abbrev shV (w : Int) (v : Vst) : Vst := { v with last := v.last + w }
section
variable {t : List Int} {w near value th : Int} {vals : List (Option Int)} {ss : List (Bool × Int)} {v : Vst}
theorem srt_shift : srt (t.map fun x => x + w) = (srt t).map fun x => x + w := by
  refine (srt_uniq ((srt_perm t).map _) ?_).symm
  exact List.Pairwise.map _ (fun a b (h : a ≤ b) => by show a + w ≤ b + w; omega) (srt_pw t)
theorem getD_shift {r : List Int} {i : Nat} (h : i < r.length) : (r.map fun x => x + w).getD i 0 = r.getD i 0 + w := by
  rw [List.getD_eq_getElem?_getD, List.getElem?_map, List.getElem?_eq_getElem h, List.getD_eq_getElem?_getD, List.getElem?_eq_getElem h]
  rfl
theorem mid_shift (h : t ≠ []) : mid (t.map fun x => x + w) (near + w) = mid t near + w := by
  have hp : 0 < (srt t).length := by rw [srt_len]; exact List.length_pos_iff.mpr h
  have h2 : (t.map fun x => x + w) ≠ [] := fun z => h (List.map_eq_nil_iff.mp z)
  have e1 : loM (t.map fun x => x + w) = loM t + w := by
    unfold loM
    rw [srt_shift, List.length_map]
    exact getD_shift (by omega)
  have e2 : hiM (t.map fun x => x + w) = hiM t + w := by
    unfold hiM
    rw [srt_shift, List.length_map]
    exact getD_shift (by omega)
  rw [mid_is h2, mid_is h, e1, e2, show hiM t + w - (near + w) = hiM t - near by omega, show loM t + w - (near + w) = loM t - near by omega]
  split <;> rfl
theorem get_shO {i : Nat} : (vals.map (shO w)).getD i none = shO w (vals.getD i none) := by
  rw [List.getD_eq_getElem?_getD, List.getElem?_map, List.getD_eq_getElem?_getD]
  cases vals[i]? with
  | none => rfl
  | some x => rfl
theorem here_shift {i : Nat} : isHere ss (vals.map (shO w)) i = isHere ss vals i := by
  unfold isHere
  rw [get_shO]
  cases vals.getD i none <;> rfl
theorem there_shift : there ss (vals.map (shO w)) = (there ss vals).map fun x => x + w := by
  unfold there
  rw [List.map_map, List.filter_congr fun i _ => here_shift]
  refine List.map_congr_left fun i hi => ?_
  have h := (List.mem_filter.mp hi).2
  unfold isHere at h
  rw [Bool.and_eq_true] at h
  obtain ⟨x, hx⟩ := Option.isSome_iff_exists.mp h.2
  show ((vals.map (shO w)).getD i none).getD 0 = (vals.getD i none).getD 0 + w
  rw [get_shO, hx]
  rfl
theorem value_shift : valueOf (shV w v) (vals.map (shO w)) = valueOf v vals + w := by
  unfold valueOf
  rw [there_shift]
  by_cases c : there v.ss vals = []
  · rw [if_pos (by rw [c]; rfl), if_pos c]
  · rw [if_neg (fun z => c (List.map_eq_nil_iff.mp z)), if_neg c]
    exact mid_shift c
theorem clo_shift {x : Option Int} : clo th (value + w) (shO w x) = clo th value x := by
  cases x with
  | none => rfl
  | some i =>
    show decide (ab (i + w - (value + w)) ≤ th) = decide (ab (i - value) ≤ th)
    rw [show i + w - (value + w) = i - value by omega]
theorem any_shift : anyHere (shV w v) (vals.map (shO w)) = anyHere v vals := by
  unfold anyHere
  rw [there_shift]
  congr 1
  exact decide_eq_decide.mpr List.map_eq_nil_iff
theorem turns_shift {any : Bool} : ∀ n, turns (shV w v) any (value + w) (vals.map (shO w)) n = turns v any value vals n
  | 0 => rfl
  | n + 1 => by
    rw [turns_succ, turns_succ, turns_shift n]
    unfold turnS
    rw [get_shO]
    show List.set _ n (nextS (shV w v) any _ _ (clo v.th (value + w) (shO w (vals.getD n none)))) = _
    rw [clo_shift]
    rfl
theorem mvd_shift {one goal most : Int} : mvd (one + w) (goal + w) most = mvd one goal most + w := by
  unfold mvd
  (repeat' split) <;> omega
theorem agr_shift : (agr (t.map fun x => x + w) (value + w) th).length = (agr t value th).length := by
  rw [agr_len, agr_len, List.filter_map, List.length_map]
  congr 1
  refine List.filter_congr fun x _ => ?_
  show decide (ab (x + w - (value + w)) ≤ th) = decide (ab (x - value) ≤ th)
  rw [show x + w - (value + w) = x - value by omega]
theorem word_shift {n : Nat} : wordOf n th (t.map fun x => x + w) (value + w) = wordOf n th t value := by
  unfold wordOf
  rw [agr_shift, List.length_map]
  by_cases c : t = []
  · rw [if_pos c, if_pos (by rw [c]; rfl)]
  · rw [if_neg c, if_neg fun z => c (List.map_eq_nil_iff.mp z)]
theorem stepV_shift : stepV (shV w v) (vals.map (shO w)) = shV w (stepV v vals) := by
  unfold stepV stepS
  rw [value_shift, any_shift]
  show ({ v with last := mvd (v.last + w) (valueOf v vals + w) v.rate, ss := turns (shV w v) (anyHere v vals) (valueOf v vals + w) (vals.map (shO w)) v.ss.length } : Vst) = _
  rw [turns_shift, mvd_shift]
theorem stepW_shift : stepW (shV w v) (vals.map (shO w)) = stepW v vals := by
  unfold stepW
  rw [value_shift]
  show wordOf v.ss.length v.th (there v.ss (vals.map (shO w))) _ = _
  rw [there_shift, word_shift]
end
/-! ### the sensors in another order -/
section
variable {t t' : List Int} {near value th : Int} {vals : List (Option Int)} {v vT : Vst} {ord : List Nat}
theorem srt_eq (h : t.Perm t') : srt t = srt t' := srt_uniq ((srt_perm t).trans h) (srt_pw t)
theorem mid_perm (h : t.Perm t') : mid t near = mid t' near := by
  unfold mid
  rw [srt_eq h]
theorem word_perm {n : Nat} (h : t.Perm t') : wordOf n th t value = wordOf n th t' value := by
  unfold wordOf
  rw [agr_len, agr_len, (h.filter _).length_eq, h.length_eq]
  by_cases c : t = []
  · rw [if_pos c, if_pos (show t' = [] by rw [c] at h; exact List.nil_perm.mp h)]
  · rw [if_neg c, if_neg (show ¬ t' = [] from fun z => c (by rw [z] at h; exact List.perm_nil.mp h))]
theorem mid_mem (h : t ≠ []) : mid t near ∈ t := by
  rw [mid_is h]
  split
  · exact hi_mem h
  · exact lo_mem h
/-- what a sensor comes to, if another one isn't out -/
def nextF (v : Vst) (any : Bool) (s : Bool × Int) (c : Bool) : Bool × Int := if s.1 = true then nextW v.bk any s c else nextG v.mis 2 s c
/-- a sensor that stays in -/
def Stay (v : Vst) (vals : List (Option Int)) (M : Nat) : Prop := M < v.ss.length ∧ (v.ss.getD M S0).1 = false ∧ (clo v.th (valueOf v vals) (vals.getD M none) = true ∨ (v.ss.getD M S0).2 + 1 < v.mis)
theorem nextG_in {mis : Int} {n : Nat} {s : Bool × Int} {c : Bool} (h : c = true ∨ s.2 + 1 < mis) : (nextG mis n s c).1 = false := by
  unfold nextG
  split
  · rfl
  · rename_i hc
    rw [if_neg]
    intro z
    rcases h with h | h
    · exact hc h
    · omega
theorem in_two : ∀ {ss : List (Bool × Int)} {i j : Nat}, i < j → j < ss.length → (ss.getD i S0).1 = false → (ss.getD j S0).1 = false → 1 < inN ss
  | [], _, _, _, h, _, _ => absurd h (by simp)
  | s :: r, 0, j + 1, _, hj, h0, h1 => by
    have h0 : s.1 = false := h0
    have h1 : (r.getD j S0).1 = false := h1
    have hj : j < r.length := by simpa using hj
    rw [inN_cons, h0]
    simp only [Bool.false_eq_true, if_false]
    have : 0 < inN r := by
      unfold inN
      refine List.length_pos_of_mem (a := r[j]) (List.mem_filter.mpr ⟨List.getElem_mem hj, ?_⟩)
      rw [List.getD_eq_getElem?_getD, List.getElem?_eq_getElem hj] at h1
      have h1 : (r[j]).1 = false := h1
      rw [h1]
      rfl
    omega
  | s :: r, i + 1, j + 1, hij, hj, h0, h1 => by
    have := in_two (ss := r) (i := i) (j := j) (by omega) (by simpa using hj) h0 h1
    rw [inN_cons]
    omega
theorem two_in : ∀ {ss : List (Bool × Int)}, 1 < inN ss → ∃ i j, i < j ∧ j < ss.length ∧ (ss.getD i S0).1 = false ∧ (ss.getD j S0).1 = false
  | [], h => absurd h (by decide)
  | s :: r, h => by
    rw [inN_cons] at h
    cases hs : s.1 with
    | true =>
      rw [hs] at h
      simp only [if_true] at h
      obtain ⟨i, j, h1, h2, h3, h4⟩ := two_in (ss := r) (by omega)
      exact ⟨i + 1, j + 1, by omega, by simpa using h2, h3, h4⟩
    | false =>
      rw [hs] at h
      simp only [Bool.false_eq_true, if_false] at h
      obtain ⟨j, h1, h2⟩ := ex_in (ss := r) (by omega)
      exact ⟨0, j + 1, by omega, by simpa using h1, hs, h2⟩
theorem stays {M : Nat} (h : Stay v vals M) (i : Nat) : ((turns v (anyHere v vals) (valueOf v vals) vals i).getD M S0).1 = false := by
  obtain ⟨h1, h2, h3⟩ := h
  by_cases c : i ≤ M
  · rw [turns_later i M c]
    exact h2
  · rw [turns_done i M (by omega) h1]
    unfold nextS
    rw [if_neg (by rw [h2]; decide)]
    exact nextG_in h3
theorem final_F {M i : Nat} (h : Stay v vals M) (hi : i < v.ss.length) : (stepV v vals).ss.getD i S0 = nextF v (anyHere v vals) (v.ss.getD i S0) (clo v.th (valueOf v vals) (vals.getD i none)) := by
  rw [step_at hi]
  unfold nextS nextF
  cases hs : (v.ss.getD i S0).1 with
  | true => rw [if_pos rfl, if_pos rfl]
  | false =>
    rw [if_neg (by decide), if_neg (by decide)]
    unfold nextG
    cases hc : clo v.th (valueOf v vals) (vals.getD i none) with
    | true => rfl
    | false =>
      simp only [Bool.false_eq_true, if_false]
      by_cases hm : v.mis ≤ (v.ss.getD i S0).2 + 1
      · have hne : i ≠ M := fun z => by
          obtain ⟨_, _, h3⟩ := h
          rw [← z] at h3
          rcases h3 with h3 | h3
          · rw [hc] at h3; cases h3
          · omega
        have hl := turns_len v (anyHere v vals) (valueOf v vals) vals i
        have a1 := stays h i
        have a2 : ((turns v (anyHere v vals) (valueOf v vals) vals i).getD i S0).1 = false := by
          rw [turns_later i i (Nat.le_refl _)]
          exact hs
        have h2 : 1 < inN (turns v (anyHere v vals) (valueOf v vals) vals i) := by
          rcases Nat.lt_or_gt_of_ne hne with z | z
          · exact in_two z (by rw [hl]; exact h.1) a2 a1
          · exact in_two z (by rw [hl]; exact hi) a1 a2
        rw [if_pos ⟨hm, h2⟩, if_pos ⟨hm, by decide⟩]
      · rw [if_neg fun z => hm z.1, if_neg fun z => hm z.1]
theorem stay_any (h0 : 0 ≤ v.th) (h : there v.ss vals ≠ []) : ∃ M, Stay v vals M := by
  have hv : valueOf v vals = mid (there v.ss vals) v.last := if_neg h
  have hm := mid_mem (near := v.last) h
  rw [← hv] at hm
  unfold there at hm
  obtain ⟨M, h1, h2⟩ := List.mem_map.mp hm
  obtain ⟨h3, h4⟩ := List.mem_filter.mp h1
  unfold isHere at h4
  rw [Bool.and_eq_true] at h4
  obtain ⟨x, hx⟩ := Option.isSome_iff_exists.mp h4.2
  rw [hx] at h2
  have h2 : x = valueOf v vals := h2
  refine ⟨M, List.mem_range.mp h3, by simpa using h4.1, .inl ?_⟩
  rw [hx, ← h2]
  show decide (ab (x - x) ≤ v.th) = true
  rw [show x - x = 0 by omega]
  exact decide_eq_true h0
theorem stay_none (hb : 1 ≤ v.bk) (h : there v.ss vals = []) (h2 : 1 < inN (stepV v vals).ss) : ∃ M, Stay v vals M := by
  obtain ⟨j, k, hjk, hk, ij, ik⟩ := two_in h2
  rw [show (stepV v vals).ss.length = v.ss.length from turns_len ..] at hk
  have hany : anyHere v vals = false := by
    unfold anyHere
    rw [decide_eq_true h]
    rfl
  have was : ∀ i, i < v.ss.length → ((stepV v vals).ss.getD i S0).1 = false → (v.ss.getD i S0).1 = false := fun i hi hin => by
    rw [step_at hi, hany] at hin
    unfold nextS at hin
    cases hs : (v.ss.getD i S0).1 with
    | false => rfl
    | true =>
      rw [if_pos hs] at hin
      unfold nextW at hin
      simp only [Bool.and_false, Bool.false_eq_true, if_false, Int.mul_zero] at hin
      rw [if_neg (by omega)] at hin
      cases hin
  have wj := was j (by omega) ij
  have wk := was k hk ik
  refine ⟨j, by omega, wj, ?_⟩
  rw [step_at (by omega)] at ij
  unfold nextS at ij
  rw [if_neg (by rw [wj]; decide)] at ij
  unfold nextG at ij
  cases hc : clo v.th (valueOf v vals) (vals.getD j none) with
  | true => exact .inl rfl
  | false =>
    right
    refine Int.not_le.mp fun hm => ?_
    rw [hc, if_neg (by decide)] at ij
    have hl := turns_len v (anyHere v vals) (valueOf v vals) vals j
    have : 1 < inN (turns v (anyHere v vals) (valueOf v vals) vals j) := in_two hjk (by rw [hl]; exact hk) (by rw [turns_later j j (Nat.le_refl _)]; exact wj) (by rw [turns_later j k (by omega)]; exact wk)
    rw [if_pos ⟨hm, this⟩] at ij
    cases ij
/-- the second voter stands as the first one, in the order ord -/
structure Turned (ord : List Nat) (v vT : Vst) : Prop where
  th : vT.th = v.th
  rate : vT.rate = v.rate
  mis : vT.mis = v.mis
  bk : vT.bk = v.bk
  last : vT.last = v.last
  len : vT.ss.length = v.ss.length
  at_ : ∀ j k, ord[j]? = some k → vT.ss.getD j S0 = v.ss.getD k S0
abbrev inOrd (ord : List Nat) (vals : List (Option Int)) : List (Option Int) := ord.map fun k => vals.getD k none
theorem ord_at {j k : Nat} (h : ord[j]? = some k) : (inOrd ord vals).getD j none = vals.getD k none := by
  rw [List.getD_eq_getElem?_getD, List.getElem?_map, h]
  rfl
theorem range_ord {n : Nat} (h : ord.length = n) : (List.range n).map (fun j => ord.getD j 0) = ord := by
  refine List.ext_getElem (by rw [List.length_map, List.length_range, h]) fun i h1 h2 => ?_
  rw [List.getElem_map, List.getElem_range, List.getD_eq_getElem?_getD, List.getElem?_eq_getElem h2]
  rfl
theorem there_ord (hT : Turned ord v vT) (ho : ord.Perm (List.range v.ss.length)) : (there vT.ss (inOrd ord vals)).Perm (there v.ss vals) := by
  have hl : ord.length = v.ss.length := by rw [ho.length_eq, List.length_range]
  have e : there vT.ss (inOrd ord vals) = (ord.filter (isHere v.ss vals)).map fun i => (vals.getD i none).getD 0 := by
    have er := range_ord hl
    unfold there
    rw [hT.len]
    conv => rhs; rw [← er]
    rw [List.filter_map, List.map_map]
    have at_ : ∀ j ∈ List.range v.ss.length, ord[j]? = some (ord.getD j 0) := fun j hj => by
      have hj2 : j < ord.length := by rw [hl]; exact List.mem_range.mp hj
      rw [List.getD_eq_getElem?_getD, List.getElem?_eq_getElem hj2]
      rfl
    have e1 : (List.range v.ss.length).filter (isHere vT.ss (inOrd ord vals)) = (List.range v.ss.length).filter (isHere v.ss vals ∘ fun j => ord.getD j 0) := List.filter_congr fun j hj => by
      show isHere vT.ss (inOrd ord vals) j = isHere v.ss vals (ord.getD j 0)
      unfold isHere
      rw [hT.at_ j _ (at_ j hj), ord_at (at_ j hj)]
    rw [e1]
    refine List.map_congr_left fun j hj => ?_
    show ((inOrd ord vals).getD j none).getD 0 = (vals.getD (ord.getD j 0) none).getD 0
    rw [ord_at (at_ j (List.mem_filter.mp hj).1)]
  rw [e]
  exact (ho.filter _).map _
theorem value_ord (hT : Turned ord v vT) (ho : ord.Perm (List.range v.ss.length)) : valueOf vT (inOrd ord vals) = valueOf v vals := by
  have hp := there_ord (vals := vals) hT ho
  unfold valueOf
  by_cases c : there v.ss vals = []
  · rw [if_pos c, if_pos (by rw [c] at hp; exact List.perm_nil.mp hp)]
    exact hT.last
  · rw [if_neg c, if_neg fun z => c (by rw [z] at hp; exact List.nil_perm.mp hp), hT.last]
    exact mid_perm hp
theorem any_ord (hT : Turned ord v vT) (ho : ord.Perm (List.range v.ss.length)) : anyHere vT (inOrd ord vals) = anyHere v vals := by
  have hp := there_ord (vals := vals) hT ho
  unfold anyHere
  congr 1
  refine decide_eq_decide.mpr ⟨fun z => ?_, fun z => ?_⟩
  · rw [z] at hp; exact List.nil_perm.mp hp
  · rw [z] at hp; exact List.perm_nil.mp hp
/-- a step in another order -/
theorem turned_step (hT : Turned ord v vT) (ho : ord.Perm (List.range v.ss.length)) (h0 : 0 ≤ v.th) (hb : 1 ≤ v.bk) (h2 : 1 < inN (stepV v vals).ss) : Turned ord (stepV v vals) (stepV vT (inOrd ord vals)) ∧ stepW vT (inOrd ord vals) = stepW v vals := by
  have hl : ord.length = v.ss.length := by rw [ho.length_eq, List.length_range]
  have ev := value_ord (vals := vals) hT ho
  have ea := any_ord (vals := vals) hT ho
  obtain ⟨M, hM⟩ : ∃ M, Stay v vals M := by
    by_cases c : there v.ss vals = []
    · exact stay_none hb c h2
    · exact stay_any h0 c
  obtain ⟨J, hJ⟩ := List.mem_iff_getElem?.mp (ho.mem_iff.mpr (List.mem_range.mpr hM.1))
  have hMT : Stay vT (inOrd ord vals) J := by
    refine ⟨by rw [hT.len, ← hl]; exact (List.getElem?_eq_some_iff.mp hJ).1, by rw [hT.at_ J M hJ]; exact hM.2.1, ?_⟩
    rw [hT.at_ J M hJ, ord_at hJ, ev, hT.th, hT.mis]
    exact hM.2.2
  refine ⟨⟨hT.th, hT.rate, hT.mis, hT.bk, ?_, ?_, fun j k hj => ?_⟩, ?_⟩
  · show mvd vT.last (valueOf vT (inOrd ord vals)) vT.rate = mvd v.last (valueOf v vals) v.rate
    rw [ev, hT.last, hT.rate]
  · show (turns _ _ _ _ _).length = (turns _ _ _ _ _).length
    rw [turns_len, turns_len, hT.len]
  · have hk : k < v.ss.length := List.mem_range.mp (ho.mem_iff.mp (List.mem_of_getElem? hj))
    have hj2 : j < vT.ss.length := by rw [hT.len, ← hl]; exact (List.getElem?_eq_some_iff.mp hj).1
    rw [final_F hMT hj2, final_F hM hk, hT.at_ j k hj, ord_at hj, ev, ea]
    unfold nextF
    rw [hT.th, hT.mis, hT.bk]
  · unfold stepW
    rw [ev, hT.len, hT.th]
    exact word_perm (there_ord hT ho)
end
end MV
namespace MV
open PySem PySem.Spec PyProof.Rows L2 Evl
/-! ### liars found: the plain part -/
/-- how the sensors stand -/
structure LieV (m t ms : Int) (lp : List Nat) (runs : List Int) (v : Vst) : Prop where
  len : ((v.ss.length : Nat) : Int) = m
  th : v.th = t
  mis : v.mis = ms
  rl : runs.length = v.ss.length
  right : ∀ j, j < v.ss.length → j ∉ lp → v.ss.getD j S0 = S0 ∧ runs.getD j 0 = 0
  liar : ∀ j, j ∈ lp → (v.ss.getD j S0).1 = true ∨ (runs.getD j 0 ≤ (v.ss.getD j S0).2 ∧ (v.ss.getD j S0).2 < ms)
/-- what they say: those not in lp within, of the others told which are far off -/
structure SaidV (lo hi t : Int) (n : Nat) (lp : List Nat) (fl : Nat → Bool) (vals : List (Option Int)) : Prop where
  right : ∀ j, j < n → j ∉ lp → InO lo hi (vals.getD j none)
  far : ∀ j, j ∈ lp → fl j = true → FarO lo hi t (vals.getD j none)
abbrev rights (n : Nat) (lp : List Nat) : List Nat := (List.range n).filter fun j => !decide (j ∈ lp)
section
variable {m t ms lo hi : Int} {lp : List Nat} {runs : List Int} {v : Vst} {vals : List (Option Int)} {fl : Nat → Bool}
theorem rights_mem {n j : Nat} : j ∈ rights n lp ↔ j < n ∧ j ∉ lp := by
  rw [List.mem_filter, List.mem_range]
  simp
theorem far_clo {value : Int} {o : Option Int} (h : FarO lo hi t o) (h1 : lo ≤ value) (h2 : value ≤ hi) (ht : 0 ≤ t) : clo t value o = false := by
  cases o with
  | none => rfl
  | some y =>
    show decide (ab (y - value) ≤ t) = false
    refine decide_eq_false ?_
    have h : hi + t < y ∨ y < lo - t := h
    unfold ab
    split <;> omega
theorem in_clo {value : Int} {o : Option Int} (h : InO lo hi o) (h1 : lo ≤ value) (h2 : value ≤ hi) (hw : hi - lo ≤ t) : clo t value o = true := by
  obtain ⟨x, rfl, a, b⟩ := h
  show decide (ab (x - value) ≤ t) = true
  refine decide_eq_true ?_
  unfold ab
  split <;> omega
theorem found_in (J : LieV m t ms lp runs v) (S : SaidV lo hi t v.ss.length lp fl vals) (hc : v.ss.length < 2 * (rights v.ss.length lp).length) : (there v.ss vals).length < 2 * ((there v.ss vals).filter (inS lo hi)).length ∧ (rights v.ss.length lp).length ≤ ((there v.ss vals).filter (inS lo hi)).length := by
  have h1 : (rights v.ss.length lp).length ≤ ((there v.ss vals).filter (inS lo hi)).length := by
    unfold there rights
    rw [List.filter_map, List.length_map, List.filter_filter, ← List.countP_eq_length_filter, ← List.countP_eq_length_filter]
    refine List.countP_mono_left fun j hj hp => ?_
    have b : j ∉ lp := by simpa using hp
    have a := List.mem_range.mp hj
    obtain ⟨x, hx, c, d⟩ := S.right j a b
    show (inS lo hi ((vals.getD j none).getD 0) && ((!(v.ss.getD j S0).1) && (vals.getD j none).isSome)) = true
    rw [hx, (J.right j a b).1]
    show ((decide (lo ≤ x) && decide (x ≤ hi)) && (true && true)) = true
    rw [decide_eq_true c, decide_eq_true d]
    rfl
  have h2 := there_len v.ss vals
  exact ⟨by omega, h1⟩
/-- the value lies among the right ones -/
theorem found_value (J : LieV m t ms lp runs v) (S : SaidV lo hi t v.ss.length lp fl vals) (hc : v.ss.length < 2 * (rights v.ss.length lp).length) : lo ≤ valueOf v vals ∧ valueOf v vals ≤ hi := by
  obtain ⟨h1, _⟩ := found_in J S hc
  have : valueOf v vals = mid (there v.ss vals) v.last := if_neg fun z => by rw [z] at h1; simp at h1
  rw [this]
  exact mid_inside h1 _
/-- the word is neither lost nor split -/
theorem found_word (J : LieV m t ms lp runs v) (S : SaidV lo hi t v.ss.length lp fl vals) (hc : v.ss.length < 2 * (rights v.ss.length lp).length) (hw : hi - lo ≤ t) : inV (.str (stepW v vals)) [.str "lost", .str "split"] = false := by
  obtain ⟨h1, h2⟩ := found_in J S hc
  obtain ⟨v1, v2⟩ := found_value J S hc
  have hn : there v.ss vals ≠ [] := fun z => by rw [z] at h1; simp at h1
  have hcl : ((there v.ss vals).filter (inS lo hi)).length ≤ (agr (there v.ss vals) (valueOf v vals) v.th).length := by
    rw [agr_len, ← List.countP_eq_length_filter, ← List.countP_eq_length_filter]
    refine List.countP_mono_left fun y _ hy => ?_
    have hy : (decide (lo ≤ y) && decide (y ≤ hi)) = true := hy
    rw [Bool.and_eq_true, decide_eq_true_eq, decide_eq_true_eq] at hy
    refine decide_eq_true ?_
    rw [J.th]
    unfold ab
    split <;> omega
  have key : ∀ w : Str, (w = "single" ∨ w = "all" ∨ w = "most") → inV (.str w) [.str "lost", .str "split"] = false := fun w hw => by
    rcases hw with rfl | rfl | rfl <;> decide +kernel
  refine key _ ?_
  unfold stepW wordOf
  rw [if_neg hn]
  by_cases c1 : (there v.ss vals).length = 1
  · rw [if_pos c1]; exact .inl rfl
  · rw [if_neg c1, if_neg (by omega)]
    split
    · exact .inr (.inl rfl)
    · exact .inr (.inr rfl)
/-- behind a step the right ones are good, the liars stand as their runs say -/
theorem found_step (J : LieV m t ms lp runs v) (g : Good v) (S : SaidV lo hi t v.ss.length lp fl vals) (hc : v.ss.length < 2 * (rights v.ss.length lp).length) (hw : hi - lo ≤ t) (h0 : 0 ≤ t) (hms : 1 ≤ ms) {runs' : List Int} (hrl : runs'.length = runs.length)
    (hr : ∀ j, j < v.ss.length → runs'.getD j 0 = if j ∈ lp then (if fl j = true then runs.getD j 0 + 1 else 0) else runs.getD j 0) (hlp : ∀ j ∈ lp, j < v.ss.length) : LieV m t ms lp runs' (stepV v vals) := by
  obtain ⟨v1, v2⟩ := found_value J S hc
  have cr : ∀ j, j < v.ss.length → j ∉ lp → clo v.th (valueOf v vals) (vals.getD j none) = true := fun j hj hn => by
    rw [J.th]
    exact in_clo (S.right j hj hn) v1 v2 hw
  have st : ∀ j, j < v.ss.length → j ∉ lp → Stay v vals j := fun j hj hn => ⟨hj, by rw [(J.right j hj hn).1], .inl (cr j hj hn)⟩
  have hl : (stepV v vals).ss.length = v.ss.length := turns_len ..
  refine ⟨by rw [hl]; exact J.len, J.th, J.mis, by rw [hrl, J.rl, hl], fun j hj hn => ?_, fun j hj => ?_⟩
  · rw [hl] at hj
    refine ⟨?_, by rw [hr j hj, if_neg hn]; exact (J.right j hj hn).2⟩
    rw [step_at hj, (J.right j hj hn).1, cr j hj hn]
    rfl
  · have hjl := hlp j hj
    have hrj := hr j hjl
    rw [if_pos hj] at hrj
    -- two right ones are in at each turn
    have two : 1 < inN (turns v (anyHere v vals) (valueOf v vals) vals j) := by
      have h3 := g.len
      have hp : 2 ≤ (rights v.ss.length lp).length := by omega
      have hpw : (rights v.ss.length lp).Pairwise (· < ·) := List.Pairwise.filter _ List.pairwise_lt_range
      have h01 := List.pairwise_iff_getElem.mp hpw 0 1 (by omega) (by omega) (by omega)
      obtain ⟨a1, a2⟩ := rights_mem.mp (List.getElem_mem (l := rights v.ss.length lp) (by omega : 0 < _))
      obtain ⟨b1, b2⟩ := rights_mem.mp (List.getElem_mem (l := rights v.ss.length lp) (by omega : 1 < _))
      exact in_two h01 (by rw [turns_len]; exact b1) (stays (st _ a1 a2) j) (stays (st _ b1 b2) j)
    have hfine := fine_getD g.bk g.ss j
    rw [step_at hjl]
    have far0 : fl j = true → clo v.th (valueOf v vals) (vals.getD j none) = false := fun hf => by
      rw [J.th]
      exact far_clo (S.far j hj hf) v1 v2 h0
    unfold nextS
    rcases J.liar j hj with ho | ⟨hr1, hr2⟩
    · rw [if_pos ho]
      unfold nextW
      cases hf : fl j with
      | true =>
        rw [far0 hf]
        simp only [Bool.false_and, Bool.false_eq_true, if_false, Int.mul_zero]
        have := g.bk
        rw [if_neg (by omega)]
        exact .inl rfl
      | false =>
        rw [hrj, hf]
        generalize ((v.ss.getD j S0).2 + 1) * (if (clo v.th (valueOf v vals) (vals.getD j none) && anyHere v vals) = true then (1 : Int) else 0) = q
        by_cases e : q = v.bk
        · rw [if_pos e]
          exact .inr ⟨Int.le_refl _, by show (0 : Int) < ms; omega⟩
        · rw [if_neg e]
          exact .inl rfl
    · cases hs : (v.ss.getD j S0).1 with
      | true =>
        rw [if_pos rfl]
        unfold nextW
        cases hf : fl j with
        | true =>
          rw [far0 hf]
          simp only [Bool.false_and, Bool.false_eq_true, if_false, Int.mul_zero]
          have := g.bk
          rw [if_neg (by omega)]
          exact .inl rfl
        | false =>
          rw [hrj, hf]
          generalize ((v.ss.getD j S0).2 + 1) * (if (clo v.th (valueOf v vals) (vals.getD j none) && anyHere v vals) = true then (1 : Int) else 0) = q
          by_cases e : q = v.bk
          · rw [if_pos e]
            exact .inr ⟨Int.le_refl _, by show (0 : Int) < ms; omega⟩
          · rw [if_neg e]
            exact .inl rfl
      | false =>
        rw [if_neg (by decide)]
        unfold nextG
        have hmis := J.mis
        have h2 := hfine.1
        cases hc2 : clo v.th (valueOf v vals) (vals.getD j none) with
        | true =>
          have hf : fl j = false := by
            cases hf : fl j with
            | false => rfl
            | true => rw [far0 hf] at hc2; cases hc2
          rw [if_pos rfl, hrj, hf]
          refine .inr ⟨?_, ?_⟩
          · show (0 : Int) ≤ (if (v.ss.getD j S0).2 - 1 > 0 then (v.ss.getD j S0).2 - 1 else 0)
            split <;> omega
          · show (if (v.ss.getD j S0).2 - 1 > 0 then (v.ss.getD j S0).2 - 1 else 0) < ms
            split <;> omega
        | false =>
          rw [if_neg (by decide)]
          by_cases hm : v.mis ≤ (v.ss.getD j S0).2 + 1
          · rw [if_pos ⟨hm, two⟩]
            exact .inl rfl
          · rw [if_neg fun z => hm z.1, hrj]
            refine .inr ⟨?_, ?_⟩
            · show (if fl j = true then runs.getD j 0 + 1 else 0) ≤ (v.ss.getD j S0).2 + 1
              split <;> omega
            · show (v.ss.getD j S0).2 + 1 < ms
              omega
/-- more than half are right -/
theorem rights_count {ord : List Nat} {n L : Nat} (h : ord.Perm (List.range n)) (hL : 2 * L < n) : n < 2 * (rights n (ord.take L)).length := by
  have hnd : ord.Nodup := h.nodup_iff.mpr List.nodup_range
  have hl : ord.length = n := by rw [h.length_eq, List.length_range]
  have e : (rights n (ord.take L)).length = (ord.filter fun j => !decide (j ∈ ord.take L)).length := (h.filter _).length_eq.symm
  have h2 : (ord.drop L).length ≤ (ord.filter fun j => !decide (j ∈ ord.take L)).length := by
    have e2 : (ord.drop L).filter (fun j => !decide (j ∈ ord.take L)) = ord.drop L := by
      rw [List.filter_eq_self]
      intro j hj
      have hd := List.nodup_append.mp (by rw [List.take_append_drop]; exact hnd : (ord.take L ++ ord.drop L).Nodup)
      have : j ∉ ord.take L := fun z => hd.2.2 j z j hj rfl
      simpa using this
    rw [← e2]
    exact ((List.drop_sublist L ord).filter _).length_le
  rw [List.length_drop, hl] at h2
  omega
end
end MV
namespace MV
open PySem PySem.Spec PyProof.Rows L2 Evl
section
variable {K : PySem.W.Frag} {mg : Str → Option Value} {A : Ads} {H H' : Hp} {σ : L2.St} {ta tb : TE} {x : V} {k : Int}
theorem flat_rep (n : Nat) (x : V) : (List.replicate n [x]).flatten = List.replicate n x := by
  induction n with
  | zero => rfl
  | succ n ih => rw [List.replicate_succ, List.flatten_cons, ih, List.replicate_succ]; rfl
theorem el_rep (ha : EvL ta σ H [x]) (hb : Ev tb σ H (.int k)) (h0 : 0 ≤ k) (h1 : k ≤ 1000) : EvL (tOp rRep ta tb) σ H (List.replicate k.toNat x) := fun H1 e Q q =>
  ha H1 e _ fun p H2 hp e2 h2 => hb H2 (e.trans e2) _ fun H3 e3 => ⟨p, k, [x], rfl, rfl, e3 _ _ h2, by omega, by omega, by rw [sizeLine_eq]; show 1 * k.toNat ≤ _; omega, fun l hl => by
    rw [flat_rep]
    exact q l _ (fresh_back (e2.trans e3) hl) ((e2.trans e3).trans (Ex.new hl)) upd_same⟩
end
end MV
namespace MV
open PySem PySem.Spec PyProof.Rows L2 Evl LamX
section
variable {K : PySem.W.Frag} {mg : Str → Option Value} {A : Ads}
theorem place_get {pl : List Nat} {j : Nat} {x : V} (h : (pl.map fun (i : Nat) => V.int (i : Int))[j]? = some x) : ∃ i : Nat, pl[j]? = some i ∧ x = .int (i : Int) := by
  rw [List.getElem?_map] at h
  cases e : pl[j]? with
  | none => rw [e] at h; cases h
  | some i => rw [e] at h; exact ⟨i, rfl, (Option.some.inj h).symm⟩
theorem q_asgR2 {te : TE} {g : TG} {tz : TS} {D : Ends} {σ : L2.St} {H : Hp} (k : te σ H fun v H1 => g v σ H1 fun σ' H' => tz D σ' H') : tSeq (tAsg te g) tz D σ H := k
section
variable {σ : L2.St} {H : Hp} {ta tb : TA} {te : TE} {D : Ends} {tz : TS} {E : XK}
/-- sorted of a new list -/
theorem q_sortN {tb : TE} {xs : List V} {P : Addr} {q : Str} {i j : Nat} (hl : EvL te σ H xs) (h64 : xs.length < 64) (hT : TabS H P q)
    (k : ∀ l H1, H l = none → Ex H H1 → H1 l = some (.lst xs) → ∀ H2, ExtN H1 H2 → TabS H2 P q → (∀ x ∈ xs, ∃ n, Ev tb (σ.set i (some x)) H2 (.int n)) ∧ ∀ (ys : List V) (p : Addr) (H3 : Hp), ys.Perm xs → H2 p = none → Ex H2 H3 → H3 p = some (.lst ys) → tz D (σ.set j (some (.ref p))) H3) :
    tSeq (tAsg (tSortL K P q i (tCons te tNil) tb) (gName j)) tz D σ H := by
  refine hl H (Ex.refl H) _ fun l H1 nl e1 h1 => ⟨l, xs, rfl, sq_of h1, h64, hT.ext e1, fun H2 e2 T2 => ?_⟩
  obtain ⟨k1, k2⟩ := k l H1 nl e1 h1 H2 e2 T2
  refine ⟨sq_of (exn_lst e2 h1), fun x hx H3 e3 => ?_, k2⟩
  obtain ⟨n, hn⟩ := k1 x hx
  exact hn H3 e3 _ fun H4 e4 => ⟨⟨n, rfl⟩, e4⟩
/-- list(range(n)) -/
theorem el_range {n : Int} {ti : TE} (h : Ev ti σ H (.int n)) (h0 : 0 ≤ n ∧ n ≤ 1000) : EvL (tLstRg (tRg1 ti)) σ H ((List.range n.toNat).map fun (i : Nat) => V.int (i : Int)) := fun H1 e Q q =>
  h H1 e _ fun H2 e2 => ⟨n, rfl, RgOk.of_le (Int.le_refl _) (by omega) (by omega) h0.1, fun l hl => by
    have er : rgV 0 n = (List.range n.toNat).map fun (i : Nat) => V.int (i : Int) := by
      unfold rgV
      rw [Int.sub_zero]
      exact List.map_congr_left fun i _ => by rw [Int.zero_add]
    rw [er]
    exact q l _ (fresh_back e2 hl) (e2.trans (Ex.new hl)) upd_same⟩
end
theorem ok_parts {vals : List (Option Int)} {n : Int} (h : okStep vals n = true) : (vals.length : Int) = n ∧ vals.all okOne = true := by
  unfold okStep at h
  rw [Bool.and_eq_true, decide_eq_true_eq] at h
  exact h
theorem ok_of {vals : List (Option Int)} {n : Int} (h1 : (vals.length : Int) = n) (h2 : ∀ x i, x ∈ vals → x = some i → -1000000000 ≤ i ∧ i ≤ 1000000000) : okStep vals n = true := by
  unfold okStep
  rw [Bool.and_eq_true, decide_eq_true_eq]
  refine ⟨h1, ?_⟩
  rw [List.all_eq_true]
  intro x hx
  cases x with
  | none => rfl
  | some i =>
    have := h2 _ i hx rfl
    show decide (ab i ≤ 1000000000) = true
    unfold ab
    rw [decide_eq_true_eq]
    split <;> omega
end
end MV
namespace MV
open PySem PySem.Spec PyProof.Rows L2 Evl LamX
section
variable {K : PySem.W.Frag} {mg : Str → Option Value} {A : Ads}
theorem rc_min {H : Hp} {p : Addr} {ns : List Int} {m : Int} (h : SqL K H p (ns.map V.int)) (hm : m ∈ ns ∧ ∀ y ∈ ns, m ≤ y) : RC (rMin K) [.ref p] H (.int m) := rc_of fun H1 e Q q => ⟨p, ns, rfl, ex_l e h, List.length_pos_of_mem hm.1, fun m' h1 h2 => by
  have a := hm.2 m' h1
  have b := h2 m hm.1
  have : m' = m := by omega
  rw [this]
  exact q⟩
theorem rc_max {H : Hp} {p : Addr} {ns : List Int} {m : Int} (h : SqL K H p (ns.map V.int)) (hm : m ∈ ns ∧ ∀ y ∈ ns, y ≤ m) : RC (rMax K) [.ref p] H (.int m) := rc_of fun H1 e Q q => ⟨p, ns, rfl, ex_l e h, List.length_pos_of_mem hm.1, fun m' h1 h2 => by
  have a := hm.2 m' h1
  have b := h2 m hm.1
  have : m' = m := by omega
  rw [this]
  exact q⟩
theorem fl_at {fl : List (Option Int)} {k : Int} (h0 : 0 ≤ k) (h1 : k < (fl.length : Int)) : ∃ x, x ∈ fl ∧ atI (fl.map oV) k = some (oV x) := by
  obtain ⟨i, rfl⟩ := Int.eq_ofNat_of_zero_le h0
  have hi : i < fl.length := by omega
  refine ⟨fl.getD i none, ?_, said_at hi⟩
  rw [List.getD_eq_getElem?_getD, List.getElem?_eq_getElem hi]
  exact List.getElem_mem hi
theorem pure_l_said (T : Txt K mg A) (vs : List V) (H : Hp) (Q : VK) (E : XK) (h : sp_l_said K A vs H Q E) : t_l_said K A E { nx := fun _ H' => Q .non H', rt := Q } (start ["_law_more", "_law_way", "_law_rights", "_law_threshold", "_law_far"] vs) H := by
  obtain ⟨t, ns, more, way, lo, hi, th, rfl, hT, hlo, hhi, hw, hl0, hh0, ht0, ht1, q⟩ := h
  show t_l_said K A E _ [some (.int more), some (.int way), some (.ref t), some (.int th), none] H
  have m0 := Int.emod_nonneg more (show (50 : Int) ≠ 0 by decide)
  have m1 := Int.emod_lt_of_pos more (show (0 : Int) < 50 by decide)
  have hlh : lo ≤ hi := hlo.2 hi hhi.1
  have r50 : ∀ {H1 : Hp}, RV oMod (.int more) (.int 50) H1 (.int (more % 50)) := fun {H1} => rv_I (show (0 : Int) < 50 by decide)
  refine q_asgL (xs := ([some (hi + th + 1 + more % 50), some (lo - th - 1 - more % 50), some (10 ^ (9 : Int).toNat), some (-(10 ^ (9 : Int).toNat)), none] : List (Option Int)).map oV) (el_lst (ea_cons (ev_op (ev_op (ev_op (ev_cb (ea_cons (ev_var rfl) ea_nil) (rc_max hT hhi)) (ev_var rfl) rv_I0) ev_c rv_I0) (ev_op (ev_var rfl) ev_c r50) rv_I0) (ea_cons (ev_op (ev_op (ev_op (ev_cb (ea_cons (ev_var rfl) ea_nil) (rc_min hT hlo)) (ev_var rfl) rv_I0) ev_c rv_I0) (ev_op (ev_var rfl) ev_c r50) rv_I0) (ea_cons (ev_op ev_c ev_c (rv_I (cpow_c (by decide) (by decide) (by decide)))) (ea_cons (ev_un (ev_op ev_c ev_c (rv_I (cpow_c (by decide) (by decide) (by decide)))) ru_neg) (ea_cons ev_c ea_nil))))) (by show 5 ≤ 100000; decide)) fun fp H1 nfp e1 hfp => ?_
  have hF : ∀ x ∈ ([some (hi + th + 1 + more % 50), some (lo - th - 1 - more % 50), some (10 ^ (9 : Int).toNat), some (-(10 ^ (9 : Int).toNat)), none] : List (Option Int)), FarO lo hi th x ∧ okOne x = true := fun x hx => by
    simp only [List.mem_cons, List.not_mem_nil, or_false] at hx
    rw [show (10 : Int) ^ (9 : Int).toNat = 1000000000 by decide] at hx
    rcases hx with rfl | rfl | rfl | rfl | rfl
    · refine ⟨.inl (by omega), decide_eq_true ?_⟩
      unfold ab; split <;> omega
    · refine ⟨.inr (by omega), decide_eq_true ?_⟩
      unfold ab; split <;> omega
    · exact ⟨.inl (by omega), by decide⟩
    · exact ⟨.inr (by omega), by decide⟩
    · exact ⟨trivial, rfl⟩
  generalize hfl : ([some (hi + th + 1 + more % 50), some (lo - th - 1 - more % 50), some (10 ^ (9 : Int).toNat), some (-(10 ^ (9 : Int).toNat)), none] : List (Option Int)) = fl at hfp hF
  have hlen : (fl.length : Int) = 5 := by rw [← hfl]; rfl
  have hFl : SqL K H1 fp (fl.map oV) := sq_of hfp
  have tell : ∀ (k : Int) (te : TE) (H2 : Hp), 0 ≤ k → k < 5 → Ex H1 H2 → Ev te [some (.int more), some (.int way), some (.ref t), some (.int th), some (.ref fp)] H2 (.int k) → tRet (tTup (tCons (tOp (rIxL K) (tVar 4) te) (tCons (tC (.bl true)) tNil))) { nx := fun _ H' => Q .non H', rt := Q } [some (.int more), some (.int way), some (.ref t), some (.int th), some (.ref fp)] H2 := fun k te H2 k0 k1 e2 hk => by
    obtain ⟨x, hx, hat⟩ := fl_at (fl := fl) k0 (by omega)
    exact s_retU (eu_tup (ea_cons (ev_op (ev_var rfl) hk (rv_ixL (ex_l e2 hFl) hat)) (ea_cons ev_c ea_nil)) (by show 2 ≤ 100000; decide)) fun p H3 np e3 hp => q x true p H3 (fun _ => (hF x hx).1) (fun z => nomatch z) (hF x hx).2 (fresh_back (e1.trans e2) np) ((e1.trans e2).trans e3) hp
  refine q_when (b := decide (way < 5)) (by walk_at "ev") (fun hb H2 e2 => ?_) (fun hb H2 e2 => ?_)
  · exact tell way _ H2 hw (by simpa using hb) e2 (ev_var rfl)
  have a0 := Int.emod_nonneg (more / 64) (show (5 : Int) ≠ 0 by decide)
  have a1 := Int.emod_lt_of_pos (more / 64) (show (0 : Int) < 5 by decide)
  have b0 := Int.emod_nonneg (more / 512) (show (5 : Int) ≠ 0 by decide)
  have b1 := Int.emod_lt_of_pos (more / 512) (show (0 : Int) < 5 by decide)
  refine q_when (b := decide (way = 5)) (by walk_at "ev") (fun hb H3 e3 => ?_) (fun hb H3 e3 => ?_)
  · exact tell (more / 64 % 5) _ H3 a0 a1 (e2.trans e3) (by walk_at "ev")
  refine q_when (b := decide (way = 6) && decide (0 < more / 64 % 4)) (by walk_at "ev") (fun hb H4 e4 => ?_) (fun hb H4 e4 => ?_)
  · exact tell (more / 512 % 5) _ H4 b0 b1 ((e2.trans e3).trans e4) (by walk_at "ev")
  have e14 := (((e1.trans e2).trans e3).trans e4)
  have hT4 := ex_l e14 hT
  have c0 := Int.emod_nonneg (more / 64) (show hi - lo + 1 ≠ 0 by omega)
  have c1 := Int.emod_lt_of_pos (more / 64) (show 0 < hi - lo + 1 by omega)
  refine s_retU (xs := [oV (some (lo + more / 64 % (hi - lo + 1))), .bl false]) (eu_tup (ea_cons (ev_op (ev_cb (ea_cons (ev_var rfl) ea_nil) (rc_min hT4 hlo)) (ev_op (ev_op (ev_var rfl) ev_c (rv_I (cdiv_s (by decide) (by decide)))) (ev_op (ev_op (ev_cb (ea_cons (ev_var rfl) ea_nil) (rc_max hT4 hhi)) (ev_cb (ea_cons (ev_var rfl) ea_nil) (rc_min hT4 hlo)) rv_I0) ev_c rv_I0) (rv_I (show 0 < hi - lo + 1 by omega))) rv_I0) (ea_cons ev_c ea_nil)) (by show 2 ≤ 100000; decide)) fun p H5 np e5 hp => q _ false p H5 (fun z => nomatch z) (fun _ => ⟨_, rfl, by omega, by omega⟩) ?_ (fresh_back e14 np) (e14.trans e5) hp
  refine decide_eq_true ?_
  unfold ab
  split <;> omega
end
end MV
namespace MV
open PySem PySem.Spec PyProof.Rows L2 Evl LamX
theorem sc_law : FnScope ["_law_script", "_law_more", "_law_settings_here", "_law_many", "_law_threshold", "_law_rate", "_law_misses", "_law_backs", "_law_liars", "_law_place", "_law_ways", "_law_base", "_law_voter", "_law_runs", "_law_k", "_law_spread", "_law_values_here", "_law_j", "_law_rights", "_law_is_far", "_law_found", "_law_word"] ["_law_script"] (defScope s_law) := ⟨rfl, rfl, rfl, by decide +kernel, rfl, by decide +kernel, by decide +kernel⟩
def t_law (K : PySem.W.Frag) (A : Ads) (E : XK) : TS :=
      (tSeq (tAsg (tCall (sp_l_drawn K A) [] E0 (tCons (tCall (sp_l_cell K A) [] E0 (tCons (tVar 0) (tCons (tC (.int 0)) tNil))) (tCons (tC (.int 3)) tNil))) (gName 1))
      (tSeq (tAsg (tCall (sp_l_settings K A) [] E0 (tCons (tOp oDivW (tVar 1) (tC (.int 8))) tNil)) (gName 2))
      (tSeq (tAsg (tVar 2) (gTup K 5 (gCons (gName 3) (gCons (gName 4) (gCons (gName 5) (gCons (gName 6) (gCons (gName 7) gNil)))))))
      (tSeq (tAsg (tSortL K A.P_law (lamQ "law") 9 (tCons (tLstRg (tRg1 (tVar 3))) tNil) (tCall (sp_l_drawn K A) [] E0 (tCons (tCall (sp_l_cell K A) [] E0 (tCons (tVar 0) (tCons (tC (.int 1)) tNil))) (tCons (tOp oAdd (tVar 9) (tC (.int 7))) tNil)))) (gName 8))
      (tSeq (tAsg (tSl (rSlL K) (tVar 8) tNoPart (tPart (tOp oMod (tVar 1) (tOp oDivW (tOp oAdd (tVar 3) (tC (.int 1))) (tC (.int 2)))))) (gName 8))
      (tSeq (tAsg (tLc (iRng1 (tCons (tVar 3) tNil)) (gName 9) tYes (tOp oMod (tCall (sp_l_drawn K A) [] E0 (tCons (tCall (sp_l_cell K A) [] E0 (tCons (tVar 0) (tCons (tC (.int 2)) tNil))) (tCons (tOp oAdd (tVar 9) (tC (.int 20))) tNil))) (tC (.int 8))) [9]) (gName 10))
      (tSeq (tAsg (tOp oSub (tOp oMod (tOp oDivW (tVar 1) (tOp oPow (tC (.int 2)) (tC (.int 50)))) (tC (.int 2001))) (tC (.int 1000))) (gName 11))
      (tSeq (tAsg (tMake A.c_Voter (sp_Voter_init K A) [] E0 (tCons (tVar 2) (tCons (tVar 11) tNil))) (gName 12))
      (tSeq (tAsg (tOp rRep (tLst (tCons (tC (.int 0)) tNil)) (tVar 3)) (gName 13))
      (tSeq (tFor (iRng1 (tCons (tCB rMax2 (tCons (tC (.int 1)) (tCons (tCB rMin2 (tCons (tC (.int 30)) (tCons (tCB (rLenS K) (tCons (tVar 0) tNil)) tNil))) tNil))) tNil)) (gName 14) (tSeq (tAsg (tCall (sp_l_drawn K A) [] E0 (tCons (tCall (sp_l_cell K A) [] E0 (tCons (tVar 0) (tCons (tVar 14) tNil))) (tCons (tOp oAdd (tVar 14) (tC (.int 30))) tNil))) (gName 1))
      (tSeq (tAsg (tOp oAdd (tVar 11) (tOp (rIxL K) (tLst (tCons (tC (.int 0)) (tCons (tOp oSub (tOp oMod (tOp oDivW (tVar 1) (tC (.int 8))) (tC (.int 5))) (tC (.int 2))) (tCons (tOp oSub (tOp oMod (tOp oDivW (tVar 1) (tC (.int 8))) (tC (.int 200))) (tC (.int 100))) tNil)))) (tOp oMod (tVar 1) (tC (.int 3))))) (gName 11))
      (tSeq (tAsg (tCB rMin2 (tCons (tVar 4) (tCons (tOp (rIxL K) (tLst (tCons (tC (.int 0)) (tCons (tVar 4) (tCons (tOp oMod (tOp oDivW (tVar 1) (tC (.int 4096))) (tC (.int 20))) tNil)))) (tOp oMod (tOp oDivW (tVar 1) (tOp oPow (tC (.int 2)) (tC (.int 30)))) (tC (.int 3)))) tNil))) (gName 15))
      (tSeq (tAsg (tLc (iRng1 (tCons (tVar 3) tNil)) (gName 17) tYes (tOp oAdd (tVar 11) (tOp oMod (tCall (sp_l_drawn K A) [] E0 (tCons (tCall (sp_l_cell K A) [] E0 (tCons (tVar 0) (tCons (tVar 14) tNil))) (tCons (tOp oAdd (tOp oAdd (tOp oMul (tC (.int 11)) (tVar 14)) (tVar 17)) (tC (.int 50))) tNil))) (tOp oAdd (tVar 15) (tC (.int 1))))) [17]) (gName 16))
      (tSeq (tAsg (tLc (iRng1 (tCons (tVar 3) tNil)) (gName 17) (tTest (tOp (rIn K true) (tVar 17) (tVar 8))) (tOp (rIxL K) (tVar 16) (tVar 17)) [17]) (gName 18))
      (tSeq (tFor (iList K (tVar 8)) (gName 17) (tSeq (tAsg (tCall (sp_l_said K A) [] E0 (tCons (tCall (sp_l_drawn K A) [] E0 (tCons (tCall (sp_l_cell K A) [] E0 (tCons (tVar 0) (tCons (tVar 14) tNil))) (tCons (tOp oAdd (tOp oAdd (tOp oMul (tC (.int 13)) (tVar 14)) (tVar 17)) (tC (.int 70))) tNil))) (tCons (tOp (rIxL K) (tVar 10) (tVar 17)) (tCons (tVar 18) (tCons (tVar 4) tNil))))) (gTup K 2 (gCons (gSub (tVar 16) (tVar 17) rSetL) (gCons (gName 19) gNil))))
      (tAsg (tOp oMul (tOp oAdd (tOp (rIxL K) (tVar 13) (tVar 17)) (tC (.int 1))) (tCB rInt1 (tCons (tVar 19) tNil))) (gSub (tVar 13) (tVar 17) rSetL))))
      (tSeq (tAsg (tMeth A.c_Voter "step" (sp_Voter_step K A) [] E0 (tVar 12) (tCons (tVar 16) tNil)) (gTup K 2 (gCons (gName 20) (gCons (gName 21) gNil))))
      (tSeq (tIfS (tTest (tOp (rIn K false) (tVar 21) (tLst (tCons (tC (.str "lost")) (tCons (tC (.str "split")) tNil))))) (tRet (tC (.bl false))) tNext)
      (tSeq (tIfS (tAnd (tTest (tOp rEq (tVar 5) (tC (.int 1000000)))) (tAnd (tTest (tOp oLt (tVar 4) (tC (.int 900000)))) (tNot (tTest (tChain oLe oLe (tCB (rMin K) (tCons (tVar 18) tNil)) (tVar 20) (tCB (rMax K) (tCons (tVar 18) tNil))))))) (tRet (tC (.bl false))) tNext)
      (tFor (iRng1 (tCons (tVar 3) tNil)) (gName 17) (tIfS (tOr (tAnd (tTest (tOp (rIn K true) (tVar 17) (tVar 8))) (tTest (tOp rNe (tMeth A.c_Voter "state" (sp_Voter_state K A) [] E0 (tVar 12) (tCons (tVar 17) tNil)) (tC (.str "good"))))) (tAnd (tTest (tOp oGe (tOp (rIxL K) (tVar 13) (tVar 17)) (tVar 6))) (tTest (tOp rNe (tMeth A.c_Voter "state" (sp_Voter_state K A) [] E0 (tVar 12) (tCons (tVar 17) tNil)) (tC (.str "out")))))) (tRet (tC (.bl false))) tNext))))))))))))
      (tRet (tC (.bl true)))))))))))))
end MV
namespace MV
open PySem PySem.Spec PyProof.Rows L2 Evl LamX
section
variable {K : PySem.W.Frag} {mg : Str → Option Value} {A : Ads}
theorem getD_set_neO {vals : List (Option Int)} {i j : Nat} {x : Option Int} (h : i ≠ j) : (vals.set i x).getD j none = vals.getD j none := by
  rw [List.getD_eq_getElem?_getD, List.getElem?_set_ne h, ← List.getD_eq_getElem?_getD]
theorem getD_set_eqO {vals : List (Option Int)} {i : Nat} {x : Option Int} (h : i < vals.length) : (vals.set i x).getD i none = x := by
  rw [List.getD_eq_getElem?_getD, List.getElem?_set_self h]
  rfl
theorem cut_take {xs : List V} {k : Nat} (h : k ≤ xs.length) : cutV xs none (some (k : Int)) = xs.take k := by
  have e : HT.sIx xs.length xs.length (some (k : Int)) = k := by
    rw [show HT.sIx xs.length xs.length (some (k : Int)) = min k xs.length from HT.sIx_nat _ _ k]
    omega
  show (xs.drop 0).take (HT.sIx xs.length xs.length (some (k : Int)) - 0) = xs.take k
  rw [e, List.drop_zero, Nat.sub_zero]
theorem ex_min : ∀ {ns : List Int}, ns ≠ [] → ∃ m, m ∈ ns ∧ ∀ y ∈ ns, m ≤ y
  | [], h => absurd rfl h
  | [a], _ => ⟨a, by simp, fun y hy => by rw [List.mem_singleton.mp hy]; exact Int.le_refl _⟩
  | a :: b :: r, _ => by
    obtain ⟨m, h1, h2⟩ := ex_min (ns := b :: r) (by simp)
    by_cases c : a ≤ m
    · exact ⟨a, by simp, fun y hy => by
        rcases List.mem_cons.mp hy with z | z
        · omega
        · have := h2 y z; omega⟩
    · exact ⟨m, List.mem_cons_of_mem _ h1, fun y hy => by
        rcases List.mem_cons.mp hy with z | z
        · omega
        · exact h2 y z⟩
theorem ex_max : ∀ {ns : List Int}, ns ≠ [] → ∃ m, m ∈ ns ∧ ∀ y ∈ ns, y ≤ m
  | [], h => absurd rfl h
  | [a], _ => ⟨a, by simp, fun y hy => by rw [List.mem_singleton.mp hy]; exact Int.le_refl _⟩
  | a :: b :: r, _ => by
    obtain ⟨m, h1, h2⟩ := ex_max (ns := b :: r) (by simp)
    by_cases c : m ≤ a
    · exact ⟨a, by simp, fun y hy => by
        rcases List.mem_cons.mp hy with z | z
        · omega
        · have := h2 y z; omega⟩
    · exact ⟨m, List.mem_cons_of_mem _ h1, fun y hy => by
        rcases List.mem_cons.mp hy with z | z
        · omega
        · exact h2 y z⟩
theorem state_good (s : Bool × Int) (h : s = S0) : decide (stateW s = ("good" : Str)) = true := by
  subst h
  decide +kernel
theorem getD_setI {xs : List Int} {i j x : Nat} {y : Int} (h : i < xs.length) : (xs.set i y).getD j 0 = if j = i then y else xs.getD j 0 := by
  rw [List.getD_eq_getElem?_getD, List.getElem?_set, List.getD_eq_getElem?_getD]
  by_cases c : i = j
  · rw [if_pos c, if_pos (by omega), if_pos c.symm]; rfl
  · rw [if_neg c, if_neg fun z => c z.symm]
/-- what the loop over the liars has brought about -/
structure Told (lo hi t : Int) (n : Nat) (lp : List Nat) (vals0 runs : List Int) (i : Nat) (fl : Nat → Bool) (vals : List (Option Int)) (runs' : List Int) : Prop where
  len : vals.length = n
  ok : vals.all okOne = true
  right : ∀ j, j < n → j ∉ lp → vals.getD j none = some (vals0.getD j 0)
  far : ∀ k j, k < i → lp[k]? = some j → fl j = true → FarO lo hi t (vals.getD j none)
  rl : runs'.length = n
  run : ∀ j, j < n → runs'.getD j 0 = if j ∈ lp.take i then (if fl j = true then runs.getD j 0 + 1 else 0) else runs.getD j 0
theorem Told.turn {lo hi t : Int} {n : Nat} {lp : List Nat} {vals0 runs : List Int} {i j : Nat} {fl : Nat → Bool} {vals : List (Option Int)} {runs' : List Int} {x : Option Int} {far : Bool} (h : Told lo hi t n lp vals0 runs i fl vals runs') (nd : lp.Nodup) (hj : lp[i]? = some j) (hjn : j < n) (hx : okOne x = true) (hf : far = true → FarO lo hi t x) :
    Told lo hi t n lp vals0 runs (i + 1) (fun k => if k = j then far else fl k) (vals.set j x) (runs'.set j ((runs'.getD j 0 + 1) * (if far = true then 1 else 0))) := by
  have hne : ∀ {k j' : Nat}, k < i → lp[k]? = some j' → j ≠ j' := fun {k j'} hk hk' z => by
    subst z
    obtain ⟨l1, e1⟩ := List.getElem?_eq_some_iff.mp hj
    obtain ⟨l2, e2⟩ := List.getElem?_eq_some_iff.mp hk'
    have := (List.getElem_inj nd).mp (e2.trans e1.symm)
    omega
  have hjt : j ∉ lp.take i := fun z => by
    obtain ⟨k, hk⟩ := List.mem_iff_getElem?.mp z
    rw [List.getElem?_take] at hk
    split at hk
    · rename_i hki
      exact hne hki hk rfl
    · cases hk
  refine ⟨by rw [List.length_set]; exact h.len, ?_, fun k hk hkn => ?_, fun k j' hk hkj hfl => ?_, by rw [List.length_set]; exact h.rl, fun k hk => ?_⟩
  · rw [List.all_eq_true]
    intro y hy
    rcases List.mem_or_eq_of_mem_set hy with z | z
    · exact List.all_eq_true.mp h.ok y z
    · rw [z]; exact hx
  · rw [getD_set_neO (fun z => hkn (by rw [← z]; exact List.mem_of_getElem? hj))]
    exact h.right k hk hkn
  · by_cases c : k = i
    · subst c
      rw [hj] at hkj
      cases hkj
      rw [getD_set_eqO (by rw [h.len]; exact hjn)]
      have hfl : (if j = j then far else fl j) = true := hfl
      rw [if_pos rfl] at hfl
      exact hf hfl
    · have hn := hne (show k < i by omega) hkj
      rw [getD_set_neO hn]
      have hfl : (if j' = j then far else fl j') = true := hfl
      rw [if_neg fun z => hn z.symm] at hfl
      exact h.far k j' (by omega) hkj hfl
  · rw [getD_setI (x := 0) (by rw [h.rl]; exact hjn)]
    have e : k ∈ lp.take (i + 1) ↔ (k ∈ lp.take i ∨ k = j) := by
      rw [List.take_add_one, hj]
      simp
    by_cases c : k = j
    · subst c
      rw [if_pos rfl, if_pos (e.mpr (.inr rfl)), if_pos rfl, h.run k hk, if_neg hjt]
      cases far <;> simp
    · rw [if_neg c, if_neg c, h.run k hk]
      by_cases c2 : k ∈ lp.take i
      · rw [if_pos c2, if_pos (e.mpr (.inl c2))]
      · rw [if_neg c2, if_neg fun z => (e.mp z).elim c2 c]
theorem pure_law (T : Txt K mg A) (vs : List V) (H : Hp) (Q : VK) (E : XK) (h : sp_law K A vs H Q E) : t_law K A E { nx := fun _ H' => Q .non H', rt := Q } (start ["_law_script", "_law_more", "_law_settings_here", "_law_many", "_law_threshold", "_law_rate", "_law_misses", "_law_backs", "_law_liars", "_law_place", "_law_ways", "_law_base", "_law_voter", "_law_runs", "_law_k", "_law_spread", "_law_values_here", "_law_j", "_law_rights", "_law_is_far", "_law_found", "_law_word"] vs) H := by
  obtain ⟨a, ns, rfl, hS, hl, hP, q⟩ := h
  show t_law K A E _ [some (.ref a), none, none, none, none, none, none, none, none, none, none, none, none, none, none, none, none, none, none, none, none, none] H
  have hT0 : TabS H A.P_law (lamQ "law") := TabS.nil hP
  refine q_asg (v := .int (drawn (cell ns 0) 3)) (by walk_at "ev") fun H1 e1 => ?_
  generalize drawn (cell ns 0) 3 = more
  refine q_asgC (vs := [.int (more / 8)]) (by walk_at "ev") fun H2 e2 => ⟨_, rfl, fun m t r ms b st H3 hok _ _ nst e3 hst => ?_⟩
  have e03 := (e1.trans e2).trans e3
  have hT3 : SqT K H3 st [.int m, .int t, .int r, .int ms, .int b] := st_of hst
  obtain ⟨hm39, ht0, hr1, hms, hb1⟩ := okSet_m hok
  refine q_tup5 (ev_var rfl) hT3 fun H4 e4 => ?_
  have e04 := e03.trans e4
  -- who lies
  refine q_sortN (xs := (List.range m.toNat).map fun (i : Nat) => V.int (i : Int)) (el_range (ev_var rfl) (by omega)) (by rw [List.length_map, List.length_range]; omega) (hT0.ext e04) fun l H5 nl e5 hl5 H6 e6 T6 => ⟨fun x hx => ?_, fun ys oo H7 hys noo e7 hoo => ?_⟩
  · obtain ⟨i, _, rfl⟩ := List.mem_map.mp hx
    have hS6 : SqL K H6 a (ns.map V.int) := exn_l e6 (ex_l (e04.trans e5) hS)
    exact ⟨_, by walk_at "ev"⟩
  obtain ⟨ord, hord, rfl⟩ := perm_ints hys
  have hst7 : H7 st = some (.tup [.int m, .int t, .int r, .int ms, .int b]) := e7 _ _ (exn_tup e6 ((e4.trans e5) _ _ hst))
  have hS7 : SqL K H7 a (ns.map V.int) := ex_l e7 (exn_l e6 (ex_l (e04.trans e5) hS))
  have L0 := Int.emod_nonneg more (show (m + 1) / 2 ≠ 0 by omega)
  have L1 := Int.emod_lt_of_pos more (show 0 < (m + 1) / 2 by omega)
  obtain ⟨L, hL⟩ := Int.eq_ofNat_of_zero_le L0
  have hol : ord.length = m.toNat := by rw [hord.length_eq, List.length_range]
  have hcut : cutV (ord.map fun (i : Nat) => V.int (i : Int)) none (some (more % ((m + 1) / 2))) = (ord.take L).map fun (i : Nat) => V.int (i : Int) := by
    rw [hL, cut_take (by rw [List.length_map]; omega), List.map_take]
  refine q_asgL (el_is (el_sl (ev_var rfl) eo_none (eo_some (ev_op (ev_var rfl) (ev_op (ev_op (ev_var rfl) ev_c rv_I0) ev_c (rv_I (cdiv_s (by decide) (by decide)))) (rv_I (show 0 < (m + 1) / 2 by omega)))) (sq_of hoo)) hcut) fun ll H8 nll e8 hll => ?_
  have hrc := rights_count (n := m.toNat) hord (show 2 * L < m.toNat by omega)
  have hlpn : ∀ j ∈ ord.take L, j < m.toNat := fun j hj => List.mem_range.mp (hord.mem_iff.mp (List.mem_of_mem_take hj))
  have hlpd : (ord.take L).Nodup := (List.take_sublist L ord).nodup (hord.nodup_iff.mpr List.nodup_range)
  have hlpl : (ord.take L).length ≤ 9 := by rw [List.length_take]; omega
  generalize ord.take L = lp at hll hrc hlpn hlpd hlpl hcut
  have hS8 := ex_l e8 hS7
  -- how they lie
  refine q_asgL (xs := ((List.range m.toNat).map fun (j : Nat) => drawn (cell ns 2) ((j : Int) + 20) % 8).map V.int) (el_is (el_lcR1 (n := m) (fun _ => true) (fun j => V.int (drawn (cell ns 2) ((j : Int) + 20) % 8)) (ea_cons (ev_var rfl) ea_nil) (by omega) (fun _ => rfl) (fun j H9 e9 hj => fun H10 _ Q' q' => q' H10 (Ex.refl H10)) (fun j H9 e9 hj _ => ?_)) ?_) fun wl H9 nwl e9 hwl => ?_
  · have hS9 := ex_l e9 hS8
    walk_at "ev"
  · unfold Evl.given
    rw [List.filter_eq_self.mpr (fun _ _ => rfl), List.map_map]
    rfl
  have hways : ∀ y ∈ (List.range m.toNat).map fun (j : Nat) => drawn (cell ns 2) ((j : Int) + 20) % 8, 0 ≤ y := fun y hy => by
    obtain ⟨j, _, rfl⟩ := List.mem_map.mp hy
    exact Int.emod_nonneg _ (by decide)
  have hwlen : ((List.range m.toNat).map fun (j : Nat) => drawn (cell ns 2) ((j : Int) + 20) % 8).length = m.toNat := by rw [List.length_map, List.length_range]
  generalize ((List.range m.toNat).map fun (j : Nat) => drawn (cell ns 2) ((j : Int) + 20) % 8) = ways at hwl hways hwlen
  have w0 := Int.emod_nonneg (more / 2 ^ (50 : Int).toNat) (show (2001 : Int) ≠ 0 by decide)
  have w1 := Int.emod_lt_of_pos (more / 2 ^ (50 : Int).toNat) (show (0 : Int) < 2001 by decide)
  refine q_asgX (P := Btw (-1000) 1000) ⟨.int (more / 2 ^ (50 : Int).toNat % 2001 - 1000), (by walk_at "ev"), _, rfl, by omega, by omega⟩ fun v H10 ⟨base0, eb, b0, b1⟩ e10 => ?_
  subst eb
  have e710 := (e8.trans e9).trans e10
  -- the voter
  refine q_voterE (P := fun v => v = .int base0) rfl ⟨.int base0, ev_var rfl, rfl⟩ (fun v z => ⟨_, z⟩) (ex_t e710 (st_of hst7)) hok fun sta H11 B hs e11 hfB hv11 => ?_
  cases hs
  refine q_asgL (xs := List.replicate m.toNat (.int 0)) (el_rep (el_lst (ea_cons ev_c ea_nil) (by show 1 ≤ 100000; decide)) (ev_var rfl) (by omega) (by omega)) fun rl H12 nrl e12 hrl => ?_
  have hll12 := (((e9.trans e10).trans e11).trans e12) _ _ hll
  have hwl12 := ((e10.trans e11).trans e12) _ _ hwl
  have hrl12 : H12 rl = some (.lst ((List.replicate m.toNat (0 : Int)).map V.int)) := by rw [List.map_replicate]; exact hrl
  have rlB : rl ∉ B.all := fun z => hv11.old rl z nrl
  have n10 : ∀ x ∈ (⟨B.p, B.l, rl :: B.as⟩ : Own).all, H10 x = none := fun x hx => by
    rcases List.mem_cons.mp hx with w | w
    · exact hfB x (by rw [w]; simp)
    rcases List.mem_cons.mp w with w | w
    · exact hfB x (by rw [w]; simp)
    rcases List.mem_cons.mp w with w | w
    · rw [w]; exact fresh_back e11 nrl
    · exact hfB x (by simp [w])
  have hsc12 : Scr K ⟨B.p, B.l, rl :: B.as⟩ H12 a (ns.map V.int) := Scr.of (ex_l e710 hS7) n10 (e11.trans e12)
  have subF : ∀ x ∈ B.all, x ∈ (⟨B.p, B.l, rl :: B.as⟩ : Own).all := fun x hx => by
    rcases List.mem_cons.mp hx with w | w
    · simp [w]
    rcases List.mem_cons.mp w with w | w
    · simp [w]
    · simp [w]
  have rlF : rl ∈ (⟨B.p, B.l, rl :: B.as⟩ : Own).all := by simp
  generalize hF : (⟨B.p, B.l, rl :: B.as⟩ : Own) = F at n10 hsc12 subF rlF
  have llF : ll ∉ F.all := fun z => by have := n10 _ z; rw [(e9.trans e10) _ _ hll] at this; cases this
  have wlF : wl ∉ F.all := fun z => by have := n10 _ z; rw [e10 _ _ hwl] at this; cases this
  have hS12 := hsc12.seq
  have hm0 : (ns.map V.int).length = ns.length := List.length_map ..
  have hfl : (freshV m t r ms b base0).ss.length = m.toNat := List.length_replicate
  have hJ0 : LieV m t ms lp (List.replicate m.toNat (0 : Int)) (freshV m t r ms b base0) := by
    have g0 : ∀ j, (List.replicate m.toNat (0 : Int)).getD j 0 = 0 := fun j => by
      rw [List.getD_eq_getElem?_getD, List.getElem?_replicate]
      split <;> rfl
    have g1 : ∀ j, (freshV m t r ms b base0).ss.getD j S0 = S0 := fun j => by
      show (List.replicate m.toNat S0).getD j S0 = S0
      exact fresh_get _ _
    exact ⟨by rw [hfl]; omega, rfl, rfl, by rw [hfl, List.length_replicate], fun j _ _ => ⟨g1 j, g0 j⟩, fun j _ => .inr ⟨by rw [g0, g1]; exact Int.le_refl _, by rw [g1]; show (0 : Int) < ms; omega⟩⟩
  refine q_forR1 (n := if (if ((ns.map V.int).length : Int) < 30 then ((ns.map V.int).length : Int) else 30) > 1 then (if ((ns.map V.int).length : Int) < 30 then ((ns.map V.int).length : Int) else 30) else 1) (by walk_at "ev") (by (repeat' split) <;> omega)
    (fun i σ H' => ∃ (mo base : Int) (y9 y14 y15 y16 y17 y18 y19 y20 y21 : Option V) (v : Vst) (runs : List Int), σ = [some (.ref a), some (.int mo), some (.ref st), some (.int m), some (.int t), some (.int r), some (.int ms), some (.int b), some (.ref ll), y9, some (.ref wl), some (.int base), some (.ref B.p), some (.ref rl), y14, y15, y16, y17, y18, y19, y20, y21] ∧
      Scr K F H' a (ns.map V.int) ∧ H' ll = some (.lst (lp.map fun (i : Nat) => V.int (i : Int))) ∧ H' wl = some (.lst (ways.map V.int)) ∧ H' rl = some (.lst (runs.map V.int)) ∧ VAt A H' B.p B.l B.as v ∧ LieV m t ms lp runs v ∧ Good v ∧ v.rate = r ∧ (i ≤ 31 → -(1000 + 100 * (i : Int)) ≤ base ∧ base ≤ 1000 + 100 * (i : Int)) ∧ (r = 1000000 ∧ t < 900000 → base ≤ v.last ∧ v.last ≤ base + t))
    (fun H13 e13 => ⟨more, base0, none, none, none, none, none, none, none, none, none, freshV m t r ms b base0, _, rfl, hsc12.ext e13, e13 _ _ hll12, e13 _ _ hwl12, e13 _ _ hrl12, hv11.ext (e12.trans e13), hJ0, good_fresh hok, rfl, fun _ => by omega, fun _ => by show base0 ≤ base0 ∧ base0 ≤ base0 + t; omega⟩)
    (fun i σ H13 hi ⟨mo, base, y9, y14, y15, y16, y17, y18, y19, y20, y21, v, runs, es, hsc, hll13, hwl13, hrl13, hv, J, gd, hrate, hbase, hnear⟩ => ?_) (fun σ H13 ⟨mo, base, y9, y14, y15, y16, y17, y18, y19, y20, y21, v, runs, es, _⟩ => ?_)
  · subst es
    have hi30 : i ≤ 30 := by
      have : (i : Int) < 31 := Int.lt_of_lt_of_le hi (by (repeat' split) <;> omega)
      omega
    have hbase := hbase (by omega)
    have hS13 := hsc.seq
    have hn : v.ss.length = m.toNat := by have := J.len; omega
    refine q_asg (v := .int (drawn (cell ns (i : Int)) ((i : Int) + 30))) (by walk_at "ev") fun H14 e14 => ?_
    generalize drawn (cell ns (i : Int)) ((i : Int) + 30) = mor
    have all3 : ∀ {P : Int → Prop} {x y z : Int}, P x → P y → P z → ∀ w ∈ toInts [.int x, .int y, .int z], P w := fun {P x y z} h1 h2 h3 w hw => by
      have hw : w ∈ [x, y, z] := hw
      simp only [List.mem_cons, List.not_mem_nil, or_false] at hw
      rcases hw with rfl | rfl | rfl <;> assumption
    have c0 := Int.emod_nonneg (mor / 8) (show (5 : Int) ≠ 0 by decide)
    have c1 := Int.emod_lt_of_pos (mor / 8) (show (0 : Int) < 5 by decide)
    have c2 := Int.emod_nonneg (mor / 8) (show (200 : Int) ≠ 0 by decide)
    have c3 := Int.emod_lt_of_pos (mor / 8) (show (0 : Int) < 200 by decide)
    have hw0 : -100 ≤ (toInts [.int 0, .int (mor / 8 % 5 - 2), .int (mor / 8 % 200 - 100)]).getD (mor % 3).toNat 0 ∧ (toInts [.int 0, .int (mor / 8 % 5 - 2), .int (mor / 8 % 200 - 100)]).getD (mor % 3).toNat 0 ≤ 100 := getD_all (P := fun x => -100 ≤ x ∧ x ≤ 100) (all3 (by omega) (by omega) (by omega)) (by omega) (by show _ < (3 : Int); omega)
    refine q_asgX (P := Btw (base - 100) (base + 100)) ⟨_, (by walk_at "ev"), _, rfl, by omega, by omega⟩ fun w H15 ⟨base', ebase, bl, bh⟩ e15 => ?_
    subst ebase
    have d0 := Int.emod_nonneg (mor / 4096) (show (20 : Int) ≠ 0 by decide)
    have d1 := Int.emod_lt_of_pos (mor / 4096) (show (0 : Int) < 20 by decide)
    have hw1 : 0 ≤ (toInts [.int 0, .int t, .int (mor / 4096 % 20)]).getD (mor / 2 ^ (30 : Int).toNat % 3).toNat 0 := getD_all (P := fun x => 0 ≤ x) (all3 (by omega) (by omega) (by omega)) (by omega) (by show _ < (3 : Int); omega)
    refine q_asgX (P := Btw 0 t) ⟨.int (if (toInts [.int 0, .int t, .int (mor / 4096 % 20)]).getD (mor / 2 ^ (30 : Int).toNat % 3).toNat 0 < t then (toInts [.int 0, .int t, .int (mor / 4096 % 20)]).getD (mor / 2 ^ (30 : Int).toNat % 3).toNat 0 else t), (by walk_at "ev"), _, rfl, by split <;> omega, by split <;> omega⟩ fun w H16 ⟨spr, espr, sp0, sp1⟩ e16 => ?_
    subst espr
    have e1316 := (e14.trans e15).trans e16
    have hS16 := ex_l e1316 hS13
    -- what all would say
    refine q_asgL (xs := ((List.range m.toNat).map fun (j : Nat) => base' + drawn (cell ns (i : Int)) (11 * (i : Int) + (j : Int) + 50) % (spr + 1)).map V.int) (el_is (el_lcR1 (n := m) (fun _ => true) (fun j => V.int (base' + drawn (cell ns (i : Int)) (11 * (i : Int) + (j : Int) + 50) % (spr + 1))) (ea_cons (ev_var rfl) ea_nil) (by omega) (fun _ => rfl) (fun j H17 e17 hj => fun H18 _ Q' q' => q' H18 (Ex.refl H18)) (fun j H17 e17 hj _ => ?_)) ?_) fun vl H17 nvl e17 hvl => ?_
    · have hS17 := ex_l e17 hS16
      walk_at "ev"
    · unfold Evl.given
      rw [List.filter_eq_self.mpr (fun _ _ => rfl), List.map_map]
      rfl
    have hv0 : ∀ y ∈ (List.range m.toNat).map fun (j : Nat) => base' + drawn (cell ns (i : Int)) (11 * (i : Int) + (j : Int) + 50) % (spr + 1), base' ≤ y ∧ y ≤ base' + spr := fun y hy => by
      obtain ⟨j, _, rfl⟩ := List.mem_map.mp hy
      have g0 := Int.emod_nonneg (drawn (cell ns (i : Int)) (11 * (i : Int) + (j : Int) + 50)) (show spr + 1 ≠ 0 by omega)
      have g1 := Int.emod_lt_of_pos (drawn (cell ns (i : Int)) (11 * (i : Int) + (j : Int) + 50)) (show 0 < spr + 1 by omega)
      omega
    have hv0l : ((List.range m.toNat).map fun (j : Nat) => base' + drawn (cell ns (i : Int)) (11 * (i : Int) + (j : Int) + 50) % (spr + 1)).length = m.toNat := by rw [List.length_map, List.length_range]
    generalize ((List.range m.toNat).map fun (j : Nat) => base' + drawn (cell ns (i : Int)) (11 * (i : Int) + (j : Int) + 50) % (spr + 1)) = vals0 at hvl hv0 hv0l
    have hv0g : ∀ j, j < m.toNat → base' ≤ vals0.getD j 0 ∧ vals0.getD j 0 ≤ base' + spr := fun j hj => by
      rw [List.getD_eq_getElem?_getD, List.getElem?_eq_getElem (by omega)]
      exact hv0 _ (List.getElem_mem _)
    have e1317 := e1316.trans e17
    have hll17 := e1317 _ _ hll13
    -- the right ones
    refine q_asgL (xs := ((rights m.toNat lp).map fun j => vals0.getD j 0).map V.int) (el_is (el_lcR1 (n := m) (fun j => !decide (j ∈ lp)) (fun j => V.int (vals0.getD j 0)) (ea_cons (ev_var rfl) ea_nil) (by omega) (fun _ => rfl) (fun j H18 e18 hj => et_test (ev_is (ev_op (ev_var rfl) (ev_var rfl) (rv_niL (sq_of (e18 _ _ hll17)) rfl (places_flat _))) (by rw [inV_places]))) (fun j H18 e18 hj _ => ?_)) ?_) fun tl H18 ntl e18 htl => ?_
    · exact ev_op (ev_var rfl) (ev_var rfl) (rv_ixInts (ns := vals0) (i := (j : Int)) (ex_l e18 (sq_of hvl)) (by omega) (by omega))
    · unfold Evl.given
      rw [List.map_map]
      rfl
    have hrn : (rights m.toNat lp).map (fun j => vals0.getD j 0) ≠ [] := fun z => by
      have := List.map_eq_nil_iff.mp z
      rw [this] at hrc
      simp at hrc
    obtain ⟨lo, hlo⟩ := ex_min hrn
    obtain ⟨hi', hhi⟩ := ex_max hrn
    have hlo2 : base' ≤ lo ∧ lo ≤ base' + spr := by
      obtain ⟨j, hj, e⟩ := List.mem_map.mp hlo.1
      rw [← e]
      exact hv0g j (rights_mem.mp hj).1
    have hhi2 : base' ≤ hi' ∧ hi' ≤ base' + spr := by
      obtain ⟨j, hj, e⟩ := List.mem_map.mp hhi.1
      rw [← e]
      exact hv0g j (rights_mem.mp hj).1
    have hwid : hi' - lo ≤ t := by omega
    have hrr : ∀ j, j < m.toNat → j ∉ lp → lo ≤ vals0.getD j 0 ∧ vals0.getD j 0 ≤ hi' := fun j hj hjn => by
      have hm : vals0.getD j 0 ∈ (rights m.toNat lp).map (fun j => vals0.getD j 0) := List.mem_map.mpr ⟨j, rights_mem.mpr ⟨hj, hjn⟩, rfl⟩
      exact ⟨hlo.2 _ hm, hhi.2 _ hm⟩
    have e1318 := e1317.trans e18
    have nvl13 : H13 vl = none := fresh_back e1316 nvl
    have vlrl : rl ≠ vl := fun z => by rw [← z, hrl13] at nvl13; cases nvl13
    have vlB : vl ∉ B.all := fun z => hv.old vl z nvl13
    have tlvl : tl ≠ vl := fun z => by rw [z, hvl] at ntl; cases ntl
    have tlrl : tl ≠ rl := fun z => by rw [z, e1317 _ _ hrl13] at ntl; cases ntl
    have hvl18 : H18 vl = some (.lst ((vals0.map some).map oV)) := by
      rw [List.map_map]
      exact e18 _ _ hvl
    have hTold0 : Told lo hi' t m.toNat lp vals0 runs 0 (fun _ => false) (vals0.map some) runs := by
      refine ⟨by rw [List.length_map, hv0l], ?_, fun j hj _ => ?_, fun k j hk => absurd hk (by omega), by rw [J.rl, hn], fun j _ => ?_⟩
      · rw [List.all_map, List.all_eq_true]
        intro y hy
        have := hv0 y hy
        show decide (ab y ≤ 1000000000) = true
        refine decide_eq_true ?_
        unfold ab
        split <;> omega
      · rw [List.getD_eq_getElem?_getD, List.getElem?_map, List.getD_eq_getElem?_getD, List.getElem?_eq_getElem (by omega)]
        rfl
      · rw [List.take_zero, if_neg (by simp)]
    -- what the others say
    refine q_forLn (a := ll) (xs := lp.map fun (i : Nat) => V.int (i : Int)) (ev_var rfl) (sq_of (e18 _ _ hll17))
      (fun k σ H' => ∃ (y17 y19 : Option V) (fl : Nat → Bool) (vals : List (Option Int)) (runs' : List Int), σ = [some (.ref a), some (.int mor), some (.ref st), some (.int m), some (.int t), some (.int r), some (.int ms), some (.int b), some (.ref ll), y9, some (.ref wl), some (.int base'), some (.ref B.p), some (.ref rl), some (.int (i : Int)), some (.int spr), some (.ref vl), y17, some (.ref tl), y19, y20, y21] ∧
        Buts F.all H13 H' ∧ VAt A H' B.p B.l B.as v ∧ H' vl = some (.lst (vals.map oV)) ∧ H' rl = some (.lst (runs'.map V.int)) ∧ H' tl = some (.lst (((rights m.toNat lp).map fun j => vals0.getD j 0).map V.int)) ∧ Told lo hi' t m.toNat lp vals0 runs k fl vals runs')
      (fun H19 e19 => ⟨_, _, fun _ => false, _, runs, rfl, Buts.of (e1318.trans e19), hv.ext (e1318.trans e19), e19 _ _ hvl18, (e1318.trans e19) _ _ hrl13, e19 _ _ htl, hTold0⟩)
      (fun k σ H' _ ⟨_, _, _, _, _, _, bb, _⟩ => sq_of (bb _ _ llF hll13))
      (fun k x σ H19 hx ⟨y17, y19, fl, vals, runs', es, b19, hv19, hvl19, hrl19, htl19, JT⟩ => ?_) (fun σ H19 ⟨y17, y19, fl, vals, runs', es, b19, hv19, hvl19, hrl19, htl19, JT⟩ => ?_)
    · subst es
      obtain ⟨j, hj, rfl⟩ := place_get hx
      have hjn := hlpn j (List.mem_of_getElem? hj)
      have hS19 := (hsc.buts b19).seq
      have hwl19 : SqL K H19 wl (ways.map V.int) := sq_of (b19 _ _ wlF hwl13)
      refine q_asgR2 ?_
      refine (show EvA _ [some (.ref a), some (.int mor), some (.ref st), some (.int m), some (.int t), some (.int r), some (.int ms), some (.int b), some (.ref ll), y9, some (.ref wl), some (.int base'), some (.ref B.p), some (.ref rl), some (.int (i : Int)), some (.int spr), some (.ref vl), some (.int (j : Int)), some (.ref tl), y19, y20, y21] H19 [.int (drawn (cell ns (i : Int)) (13 * (i : Int) + (j : Int) + 70)), .int (ways.getD ((j : Int)).toNat 0), .ref tl, .int t] from ea_cons (by walk_at "ev") (ea_cons (ev_op (ev_var rfl) (ev_var rfl) (rv_ixInts hwl19 (by omega) (by omega))) (ea_cons (ev_var rfl) (ea_cons (ev_var rfl) ea_nil)))) H19 (Ex.refl H19) _ fun H20 e20 => ?_
      rw [List.append_nil]
      refine ⟨tl, _, _, _, lo, hi', t, rfl, sq_of (e20 _ _ htl19), hlo, hhi, ?_, by omega, by omega, ht0.1, ht0.2, fun x far p H21 hf1 hf2 hx1 np e21 hp => ?_⟩
      · rw [Int.toNat_natCast, List.getD_eq_getElem?_getD, List.getElem?_eq_getElem (by omega)]
        exact hways _ (List.getElem_mem _)
      have e1921 := e20.trans e21
      have hvl21 := e1921 _ _ hvl19
      have hlv : j < (vals.map oV).length := by rw [List.length_map, JT.len]; exact hjn
      refine ⟨p, _, rfl, st_of hp, rfl, oV x, _, rfl, .ref vl, rfl, .int (j : Int), rfl, vl, vals.map oV, (j : Int), j, rfl, rfl, hvl21, ixN_nat hlv, .bl far, _, rfl, rfl, ?_⟩
      have hrl22 : (upd H21 vl (.lst ((vals.map oV).set j (oV x)))) rl = some (.lst (runs'.map V.int)) := by rw [upd_ne vlrl]; exact e1921 _ _ hrl19
      have hR : SqL K (upd H21 vl (.lst ((vals.map oV).set j (oV x)))) rl (runs'.map V.int) := sq_of hrl22
      have hlr : j < (runs'.map V.int).length := by rw [List.length_map, JT.rl]; exact hjn
      refine s_setL (j := j) (v := .int ((runs'.getD j 0 + 1) * (if far = true then 1 else 0))) hrl22 (ev_op (ev_op (ev_op (ev_var rfl) (ev_var rfl) (rv_ixInts (i := (j : Int)) hR (by omega) (by rw [JT.rl]; omega))) ev_c rv_I0) (ev_cb (ea_cons (ev_var rfl) ea_nil) rc_intB) (rv_I (cmul_r (by split <;> decide) (by split <;> decide)))) (ev_var rfl) (ev_var rfl) hlr fun H22 e22 => ?_
      refine ⟨_, _, _, vals.set j x, runs'.set j ((runs'.getD j 0 + 1) * (if far = true then 1 else 0)), rfl, ?_, ?_, ?_, ?_, ?_, JT.turn hlpd hj hjn hx1 hf1⟩
      · exact ((((b19.trans (Buts.of e1921)).mut nvl13).trans (Buts.of e22)).trans (Buts.but rlF (But.upd (Ex.refl _))))
      · have hv21 := hv19.ext e1921
        have hv22 : VAt A (upd H21 vl (.lst ((vals.map oV).set j (oV x)))) B.p B.l B.as v := VAt.keep (b := B) hv21 (fp := [vl]) (Buts.but (by simp) (But.upd (Ex.refl _))) fun y hy z => vlB (by rw [← List.mem_singleton.mp z]; exact hy)
        exact VAt.keep (b := B) (hv22.ext e22) (fp := [rl]) (Buts.but (by simp) (But.upd (Ex.refl _))) fun y hy z => rlB (by rw [← List.mem_singleton.mp z]; exact hy)
      · rw [upd_ne vlrl.symm, List.map_set]
        exact e22 _ _ upd_same
      · rw [upd_same, List.map_set]
      · rw [upd_ne tlrl]
        refine e22 _ _ ?_
        rw [upd_ne tlvl]
        exact e1921 _ _ htl19
    · subst es
      rw [List.length_map] at JT
      have hSaid : SaidV lo hi' t v.ss.length lp fl vals := by
        rw [hn]
        refine ⟨fun j hj hjn => ⟨_, JT.right j hj hjn, hrr j hj hjn⟩, fun j hj hf => ?_⟩
        obtain ⟨k, hk⟩ := List.mem_iff_getElem?.mp hj
        exact JT.far k j (List.getElem?_eq_some_iff.mp hk).1 hk hf
      have hrc' : v.ss.length < 2 * (rights v.ss.length lp).length := by rw [hn]; exact hrc
      have hval := found_value J hSaid hrc'
      have hword := found_word J hSaid hrc' hwid
      have hJ' : LieV m t ms lp runs' (stepV v vals) := found_step J gd hSaid hrc' hwid ht0.1 hms.1 (by rw [JT.rl, J.rl, hn]) (fun j hj => by
        have := JT.run j (by omega)
        rw [List.take_length] at this
        exact this) fun j hj => by rw [hn]; exact hlpn j hj
      have hgd' := good_step (vals := vals) gd
      have hlb : B.as.length = v.ss.length := hv19.len
      have hok1 : okStep vals ((B.as.length : Nat) : Int) = true := by
        unfold okStep
        rw [JT.ok, decide_eq_true (show ((vals.length : Nat) : Int) = ((B.as.length : Nat) : Int) by rw [JT.len, hlb, hn])]
        rfl
      obtain ⟨dx19, hown19⟩ := hv19.own
      -- the step
      refine q_asgR2 ?_
      refine ⟨.ref B.p, rfl, B.p, dx19, _, rfl, hown19, by rfl, ?_⟩
      refine ⟨.ref vl, rfl, ?_⟩
      refine ⟨B.p, B.l, B.as, v, vl, vals, rfl, hv19, sq_of hvl19, by rw [JT.len]; omega, fun z => vlB (own_sub z), fun _ H20 fo b20 nfo hfo hv20 => ?_, fun z => absurd (hok1.symm.trans z) (by decide)⟩
      have b20' : Buts B.all H19 H20 := b20.mono fun x hx => own_sub hx
      refine ⟨fo, _, rfl, st_of hfo, rfl, _, _, rfl, _, _, rfl, rfl, ?_⟩
      have hrl20 := b20' _ _ rlB hrl19
      have tlB : tl ∉ B.all := fun z => (hv.ext e1317).old tl z ntl
      have htl20 : SqL K H20 tl (((rights m.toNat lp).map fun j => vals0.getD j 0).map V.int) := sq_of (b20' _ _ tlB htl19)
      generalize hfd : (stepV v vals).last = found at *
      have hfast : r = 1000000 ∧ t < 900000 → found = valueOf v vals := fun hc => by
        have h1 := hnear hc
        rw [← hfd]
        show mvd v.last (valueOf v vals) v.rate = valueOf v vals
        refine mvd_near ?_
        rw [hrate]
        unfold ab
        split <;> omega
      show tSeq _ _ _ [some (.ref a), some (.int mor), some (.ref st), some (.int m), some (.int t), some (.int r), some (.int ms), some (.int b), some (.ref ll), y9, some (.ref wl), some (.int base'), some (.ref B.p), some (.ref rl), some (.int (i : Int)), some (.int spr), some (.ref vl), y17, some (.ref tl), y19, some (.int found), some (.str (stepW v vals))] H20
      refine q_when (b := false) (et_test (ev_is (ev_opL (ev_var rfl) (el_lst (ea_cons ev_c (ea_cons ev_c ea_nil)) (by show 2 ≤ 100000; decide)) fun p H21 hp21 e21 => rv_isL (sq_of hp21) rfl rfl) (by rw [hword]))) (fun hb => absurd hb (by decide)) fun _ H21 e21 => ?_
      have htl21 := ex_l e21 htl20
      refine q_when (b := false) (et_is (et_andB (a := decide (r = 1000000)) (by walk_at "ev") (et_andB (a := decide (t < 900000)) (by walk_at "ev") (et_not (et_test (ev_chain (ev_cb (ea_cons (ev_var rfl) ea_nil) (rc_min htl21 hlo)) (ev_var rfl) (ev_cb (ea_cons (ev_var rfl) ea_nil) (rc_max htl21 hhi)) rv_I0 rv_I0))))) ?_) (fun hb => absurd hb (by decide)) fun _ H22 e22 => ?_
      · by_cases c1 : r = 1000000
        · by_cases c2 : t < 900000
          · rw [hfast ⟨c1, c2⟩, decide_eq_true hval.1, decide_eq_true hval.2]
            simp
          · rw [decide_eq_false c2]
            simp
        · rw [decide_eq_false c1]
          simp
      have e2022 := e21.trans e22
      have hv22 := VAt.ext hv20 e2022
      have hln' : (stepV v vals).ss.length = m.toNat := by rw [show (stepV v vals).ss.length = v.ss.length from turns_len .., hn]
      have b22 : Buts F.all H13 H22 := (b19.trans (b20'.mono subF)).trans (Buts.of e2022)
      have hll22 := b22 _ _ llF hll13
      -- how all stand
      refine s_forR1 (n := m) (ea_cons (ev_var rfl) ea_nil) (by omega) (fun j σ H' => ∃ y17, σ = [some (.ref a), some (.int mor), some (.ref st), some (.int m), some (.int t), some (.int r), some (.int ms), some (.int b), some (.ref ll), y9, some (.ref wl), some (.int base'), some (.ref B.p), some (.ref rl), some (.int (i : Int)), some (.int spr), some (.ref vl), y17, some (.ref tl), y19, some (.int found), some (.str (stepW v vals))] ∧ Ex H22 H')
        (fun H23 e23 => ⟨_, rfl, e23⟩) (fun j σ H23 hj ⟨y17, es, e23⟩ => ?_) fun σ H23 ⟨y17, es, e23⟩ => ?_
      · subst es
        have hjn : j < m.toNat := by omega
        have hv23 := VAt.ext hv22 e23
        obtain ⟨dx, hown⟩ := VAt.own hv23
        have hja : 0 ≤ (j : Int) ∧ (j : Int) < (B.as.length : Int) := by omega
        have g1 : SpV (sp_Voter_state K A) [.ref B.p, .int (j : Int)] H23 (.str (stateW ((stepV v vals).ss.getD j S0))) := fun H12 e12 Q' q' E' => ⟨_, _, _, _, _, rfl, VAt.ext hv23 e12, fun _ => q', fun hn => absurd hja hn⟩
        have evS : Ev (tMeth A.c_Voter "state" (sp_Voter_state K A) [] E0 (tVar 12) (tCons (tVar 17) tNil)) [some (.ref a), some (.int mor), some (.ref st), some (.int m), some (.int t), some (.int r), some (.int ms), some (.int b), some (.ref ll), y9, some (.ref wl), some (.int base'), some (.ref B.p), some (.ref rl), some (.int (i : Int)), some (.int spr), some (.ref vl), some (.int (j : Int)), some (.ref tl), y19, some (.int found), some (.str (stepW v vals))] H23 (.str (stateW ((stepV v vals).ss.getD j S0))) := ev_meth (ev_var rfl) hown (by rfl) (ea_cons (ev_var rfl) ea_nil) g1
        have hR : SqL K H23 rl (runs'.map V.int) := sq_of ((e2022.trans e23) _ _ hrl20)
        refine s_when (b := false) (et_is (et_orB (et_andB (et_test (ev_is (ev_op (ev_var rfl) (ev_var rfl) (rv_niL (sq_of (e23 _ _ hll22)) rfl (places_flat _))) (by rw [inV_places]))) (et_test (ev_op evS ev_c rv_neS))) (et_andB (et_test (ev_op (ev_op (ev_var rfl) (ev_var rfl) (rv_ixInts (i := (j : Int)) hR (by omega) (by rw [JT.rl]; omega))) (ev_var rfl) rv_I0)) (et_test (ev_op evS ev_c rv_neS)))) ?_) (fun hb => absurd hb (by decide)) fun _ H24 e24 => ⟨_, rfl, e23.trans e24⟩
        rw [Int.toNat_natCast]
        by_cases c : j ∈ lp
        · rw [decide_eq_true c]
          rcases hJ'.liar j c with h1 | ⟨h1, h2⟩
          · rw [state_out, h1]
            simp
          · rw [decide_eq_false (show ¬ ms ≤ runs'.getD j 0 by omega)]
            simp
        · obtain ⟨h1, h2⟩ := hJ'.right j (by omega) c
          rw [state_good _ h1, h2, decide_eq_false (show ¬ ms ≤ (0 : Int) by omega)]
          simp
      · subst es
        have e2023 := e2022.trans e23
        refine ⟨_, base', _, _, _, _, _, _, _, _, _, stepV v vals, runs', rfl, hsc.buts (b22.trans (Buts.of e23)), e23 _ _ hll22, (b22.trans (Buts.of e23)) _ _ wlF hwl13, e2023 _ _ hrl20, VAt.ext hv20 e2023, hJ', hgd', hrate, fun _ => by omega, fun hc => ?_⟩
        have := hfast hc
        rw [hfd]
        omega
  · subst es
    exact s_ret ev_c fun H14 e14 => q H14
end
end MV
namespace MV
open PySem PySem.Spec PyProof.Rows L2 Evl LamX
theorem ok_middle {P : Program} {w : World} {K : PySem.W.Frag} {mg : Str → Option Value} {base : Heap} {A : Ads} (T : Txt K mg A) :
    FnOk P w K mg base CX0 1 A.f_middle A.d_middle ["numbers", "near"] (sp_middle K A) := by
  refine T.F_middle.ok sc_middle (fun vs H Q E h => len_middle h) (fun cdv _ outer s H vs Q E hr h => ⟨t_middle K A E, ?_, pure_middle T vs H Q E h⟩)
  exact (pss_cons (ps_asg (pe_callB cr_sorted (by rfl) T.n_sorted PyProof.Rows.boot_sorted (pa_cons (pv 0) pa_nil)) (pg_name (i := 2) sc_middle.nd rfl (by first | exact Or.inl rfl | exact Or.inr rfl)))
      (pss_cons (ps_asg (pe_op op_fdivW (pe_callB call_len_seq (by rfl) T.n_len PySem.boot_len (pa_cons (pv 2) pa_nil)) pe_int) (pg_name (i := 3) sc_middle.nd rfl (by first | exact Or.inl rfl | exact Or.inr rfl)))
      (pss_cons (ps_if (pt_cmpR op_eq (pe_op op_mod (pe_callB call_len_seq (by rfl) T.n_len PySem.boot_len (pa_cons (pv 2) pa_nil)) pe_int) pe_int (nomark _)) (pss_one (ps_ret (pe_ix ix_list (pv 2) (pv 3) (fun _ _ => rfl)))) pss_nil)
      (pss_cons (ps_if (pt_cmpR op_lt (pe_callB call_abs (by rfl) T.n_abs PyProof.Rows.boot_abs (pa_cons (pe_op op_sub (pe_ix ix_list (pv 2) (pv 3) (fun _ _ => rfl)) (pv 1)) pa_nil)) (pe_callB call_abs (by rfl) T.n_abs PyProof.Rows.boot_abs (pa_cons (pe_op op_sub (pe_ix ix_list (pv 2) (pe_op op_sub (pv 3) pe_int) (fun _ _ => rfl)) (pv 1)) pa_nil)) (nomark _)) (pss_one (ps_ret (pe_ix ix_list (pv 2) (pv 3) (fun _ _ => rfl)))) pss_nil)
      (pss_one (ps_ret (pe_ix ix_list (pv 2) (pe_op op_sub (pv 3) pe_int) (fun _ _ => rfl))))))))
theorem ok_moved {P : Program} {w : World} {K : PySem.W.Frag} {mg : Str → Option Value} {base : Heap} {A : Ads} (T : Txt K mg A) :
    FnOk P w K mg base CX0 1 A.f_moved A.d_moved ["one", "goal", "most"] (sp_moved K A) := by
  refine T.F_moved.ok sc_moved (fun vs H Q E h => len_moved h) (fun cdv _ outer s H vs Q E hr h => ⟨t_moved K A E, ?_, pure_moved T vs H Q E h⟩)
  exact (pss_cons (ps_if (pt_cmpR op_gt (pv 1) (pv 0) (nomark _)) (pss_one (ps_ret (pe_callB (call_min2 rfl) (by rfl) T.n_min PyProof.Rows.boot_min (pa_cons (pv 1) (pa_cons (pe_op op_add (pv 0) (pv 2)) pa_nil))))) pss_nil)
      (pss_one (ps_ret (pe_callB (call_max2 rfl) (by rfl) T.n_max PyProof.Rows.boot_max (pa_cons (pv 1) (pa_cons (pe_op op_sub (pv 0) (pv 2)) pa_nil))))))
theorem ok_agree {P : Program} {w : World} {K : PySem.W.Frag} {mg : Str → Option Value} {base : Heap} {A : Ads} (T : Txt K mg A) :
    FnOk P w K mg base CX0 1 A.f_agree A.d_agree ["numbers", "value", "threshold"] (sp_agree K A) := by
  refine T.F_agree.ok sc_agree (fun vs H Q E h => len_agree h) (fun cdv _ outer s H vs Q E hr h => ⟨t_agree K A E, ?_, pure_agree T vs H Q E h⟩)
  exact (pss_one (ps_ret (pe_lc (own := [("place", 3), ("number", 4)]) rfl sc_agree.nd (pi_enum (by rfl) T.n_enumerate (pa_cons (pv 0) pa_nil)) (blkOk_by (own := [("place", 3), ("number", 4)]) (N := ["numbers", "value", "threshold", "place", "number"]) (sc := defScope s_agree) (by decide +kernel)) (fun _ _ _ _ _ => (pg_tup (by rfl) (pgs_cons (pg_name (i := 3) sc_agree.nd rfl (by first | exact Or.inl rfl | exact Or.inr rfl)) (pgs_cons (pg_name (i := 4) sc_agree.nd rfl (by first | exact Or.inl rfl | exact Or.inr rfl)) pgs_nil)))) (fun _ _ _ _ _ => (pts_one (pt_cmpR op_le (pe_callB call_abs (by rfl) T.n_abs PyProof.Rows.boot_abs (pa_cons (pe_op op_sub (pv 4) (pv 1)) pa_nil)) (pv 2) (nomark _)))) (fun _ _ _ _ _ => (pv 3)))))
theorem ok_need_settings {P : Program} {w : World} {K : PySem.W.Frag} {mg : Str → Option Value} {base : Heap} {A : Ads} (T : Txt K mg A) :
    FnOk P w K mg base (L2.CX P w) 1 A.f_need_settings A.d_need_settings ["settings"] (sp_need_settings K A) := by
  refine T.F_need_settings.okX sc_need_settings (fun vs H Q E h => len_need_settings h) (fun cdv _ outer s H vs Q E hr h => ⟨t_need_settings K A E, ?_, pure_need_settings T vs H Q E h⟩)
  exact (pss_cons (ps_asg (pv 0) (pg_tup (by rfl) (pgs_cons (pg_name (i := 1) sc_need_settings.nd rfl (by first | exact Or.inl rfl | exact Or.inr rfl)) (pgs_cons (pg_name (i := 2) sc_need_settings.nd rfl (by first | exact Or.inl rfl | exact Or.inr rfl)) (pgs_cons (pg_name (i := 3) sc_need_settings.nd rfl (by first | exact Or.inl rfl | exact Or.inr rfl)) (pgs_cons (pg_name (i := 4) sc_need_settings.nd rfl (by first | exact Or.inl rfl | exact Or.inr rfl)) (pgs_cons (pg_name (i := 5) sc_need_settings.nd rfl (by first | exact Or.inl rfl | exact Or.inr rfl)) pgs_nil)))))))
      (pss_cons (ps_if (PW.pt (pw_or (pt_not (pt_chain op_le op_le (pe_glob rfl T.c_LEAST.choose_spec ⟨_, rfl⟩) (pv 1) (pe_glob rfl T.c_MOST.choose_spec ⟨_, rfl⟩))) (pw_or (pt_not (pt_chain op_le op_le pe_int (pv 2) (pe_glob rfl T.c_MOST_THRESHOLD.choose_spec ⟨_, rfl⟩))) (pw_or1 (pt_not (pt_chain op_le op_le pe_int (pv 3) (pe_glob rfl T.c_MOST_THRESHOLD.choose_spec ⟨_, rfl⟩))))))) (pss_one (ps_raise rfl (takes_of rfl rfl rfl rfl) (pmk_own PySem.F.excBase_ValueError T.x_BadSettings T.g_BadSettings T.k_BadSettings (raises_own T.xb_BadSettings T.xt_BadSettings) (by exact rfl)))) pss_nil)
      (pss_one (ps_if (PW.pt (pw_or (pt_not (pt_chain op_le op_le pe_int (pv 4) (pe_glob rfl T.c_MOST_COUNT.choose_spec ⟨_, rfl⟩))) (pw_or1 (pt_not (pt_chain op_le op_le pe_int (pv 5) (pe_glob rfl T.c_MOST_COUNT.choose_spec ⟨_, rfl⟩)))))) (pss_one (ps_raise rfl (takes_of rfl rfl rfl rfl) (pmk_own PySem.F.excBase_ValueError T.x_BadSettings T.g_BadSettings T.k_BadSettings (raises_own T.xb_BadSettings T.xt_BadSettings) (by exact rfl)))) pss_nil))))
theorem ok_need_step {P : Program} {w : World} {K : PySem.W.Frag} {mg : Str → Option Value} {base : Heap} {A : Ads} (T : Txt K mg A) :
    FnOk P w K mg base (L2.CX P w) 1 A.f_need_step A.d_need_step ["values", "many"] (sp_need_step K A) := by
  refine T.F_need_step.okX sc_need_step (fun vs H Q E h => len_need_step h) (fun cdv _ outer s H vs Q E hr h => ⟨t_need_step K A E, ?_, pure_need_step T vs H Q E h⟩)
  exact (pss_cons (ps_if (pt_cmpR op_ne (pe_callB call_len_seq (by rfl) T.n_len PySem.boot_len (pa_cons (pv 0) pa_nil)) (pv 1) (nomark _)) (pss_one (ps_raise rfl (takes_of rfl rfl rfl rfl) (pmk_own PySem.F.excBase_ValueError T.x_BadStep T.g_BadStep T.k_BadStep (raises_own T.xb_BadStep T.xt_BadStep) (by exact rfl)))) pss_nil)
      (pss_one (ps_if (pt_not (pt_val (pe_callB (cr_all rfl) (by rfl) T.n_all PyProof.Rows.boot_all (pa_cons (pe_lc (own := [("value", 2)]) rfl sc_need_step.nd (pi_list (pv 0)) (blkOk_by (own := [("value", 2)]) (N := ["values", "many", "value"]) (sc := defScope s_need_step) (by decide +kernel)) (fun _ _ _ _ _ => (pg_name (i := 2) sc_need_step.nd rfl (by first | exact Or.inl rfl | exact Or.inr rfl))) (fun _ _ _ _ _ => (pts_one (pt_cmpR op_notN (pv 2) pe_non (nomark _)))) (fun _ _ _ _ _ => (pe_cmpR op_le (pe_callB call_abs (by rfl) T.n_abs PyProof.Rows.boot_abs (pa_cons (pv 2) pa_nil)) (pe_glob rfl T.c_MOST_VALUE.choose_spec ⟨_, rfl⟩) (nomark _)))) pa_nil)))) (pss_one (ps_raise rfl (takes_of rfl rfl rfl rfl) (pmk_own PySem.F.excBase_ValueError T.x_BadStep T.g_BadStep T.k_BadStep (raises_own T.xb_BadStep T.xt_BadStep) (by exact rfl)))) pss_nil)))
theorem ok_Sensor_init {P : Program} {w : World} {K : PySem.W.Frag} {mg : Str → Option Value} {base : Heap} {A : Ads} (T : Txt K mg A) :
    FnOk P w K mg base CX0 1 A.f_Sensor_init A.d_Sensor_init ["self"] (sp_Sensor_init K A) := by
  refine T.F_Sensor_init.ok sc_Sensor_init (fun vs H Q E h => len_Sensor_init h) (fun cdv _ outer s H vs Q E hr h => ⟨t_Sensor_init K A E, ?_, pure_Sensor_init T vs H Q E h⟩)
  exact (pss_cons (ps_fld (pv 0) pe_bl rfl)
      (pss_one (ps_fld (pv 0) pe_int rfl)))
theorem ok_Voter_sensor {P : Program} {w : World} {K : PySem.W.Frag} {mg : Str → Option Value} {base : Heap} {A : Ads} (T : Txt K mg A) :
    FnOk P w K mg base (L2.CX P w) 1 A.f_Voter_sensor A.d_Voter_sensor ["self", "place"] (sp_Voter_sensor K A) := by
  refine T.F_Voter_sensor.okX sc_Voter_sensor (fun vs H Q E h => len_Voter_sensor h) (fun cdv _ outer s H vs Q E hr h => ⟨t_Voter_sensor K A E, ?_, pure_Voter_sensor T vs H Q E h⟩)
  exact (pss_cons (ps_if (pt_not (pt_chain op_le op_lt pe_int (pv 1) (pe_callB call_len_seq (by rfl) T.n_len PySem.boot_len (pa_cons (pe_fld (pv 0) rfl) pa_nil)))) (pss_one (ps_raise rfl (takes_of rfl rfl rfl rfl) (pmk_own PySem.F.excBase_ValueError T.x_NoSensor T.g_NoSensor T.k_NoSensor (raises_own T.xb_NoSensor T.xt_NoSensor) (by exact rfl)))) pss_nil)
      (pss_one (ps_ret (pe_ix ix_list (pe_fld (pv 0) rfl) (pv 1) (fun _ _ => rfl)))))
theorem ok_Voter_is_close {P : Program} {w : World} {K : PySem.W.Frag} {mg : Str → Option Value} {base : Heap} {A : Ads} (T : Txt K mg A) :
    FnOk P w K mg base CX0 1 A.f_Voter_is_close A.d_Voter_is_close ["self", "thing", "value"] (sp_Voter_is_close K A) := by
  refine T.F_Voter_is_close.ok sc_Voter_is_close (fun vs H Q E h => len_Voter_is_close h) (fun cdv _ outer s H vs Q E hr h => ⟨t_Voter_is_close K A E, ?_, pure_Voter_is_close T vs H Q E h⟩)
  exact (pss_one (ps_ret (pe_and (pe_cmpR op_notN (pv 1) pe_non (nomark _)) (pe_one (pe_cmpR op_le (pe_callB call_abs (by rfl) T.n_abs PyProof.Rows.boot_abs (pa_cons (pe_op op_sub (pv 1) (pv 2)) pa_nil)) (pe_fld (pv 0) rfl) (nomark _))))))
theorem ok_Voter_watch {P : Program} {w : World} {K : PySem.W.Frag} {mg : Str → Option Value} {base : Heap} {A : Ads} (T : Txt K mg A) :
    FnOk P w K mg base CX0 1 A.f_Voter_watch A.d_Voter_watch ["self", "one", "is_close"] (sp_Voter_watch K A) := by
  refine T.F_Voter_watch.ok sc_Voter_watch (fun vs H Q E h => len_Voter_watch h) (fun cdv _ outer s H vs Q E hr h => ⟨t_Voter_watch K A E, ?_, pure_Voter_watch T vs H Q E h⟩)
  exact (pss_cons (ps_if (pt_val (pv 2)) (pss_cons (ps_fld (pv 1) (pe_callB (call_max2 rfl) (by rfl) T.n_max PyProof.Rows.boot_max (pa_cons pe_int (pa_cons (pe_op op_sub (pe_fld (pv 1) rfl) pe_int) pa_nil))) rfl)
      (pss_one ps_retN)) pss_nil)
      (pss_cons (ps_fld (pv 1) (pe_op op_add (pe_fld (pv 1) rfl) pe_int) rfl)
      (pss_cons (ps_setLc (i := 3) (own := [("other", 4)]) rfl sc_Voter_watch.nd rfl rfl (sw_true rfl rfl rfl (by decide +kernel)) (pi_list (pe_fld (pv 0) rfl)) (blkOk_by (own := [("other", 4)]) (N := ["self", "one", "is_close", "others", "other"]) (sc := defScope s_Voter_watch) (by decide +kernel)) (fun _ _ _ _ _ => (pg_name (i := 4) sc_Voter_watch.nd rfl (by first | exact Or.inl rfl | exact Or.inr rfl))) (fun _ _ _ _ _ => (pts_one (pt_not (pt_val (pe_fld (pv 4) rfl))))) (fun _ _ _ _ _ => (pv 4)))
      (pss_one (ps_if (PW.pt (pw_and (pt_cmpR op_ge (pe_fld (pv 1) rfl) (pe_fld (pv 0) rfl) (nomark _)) (pw_and1 (pt_cmpR op_gt (pe_callB call_len_seq (by rfl) T.n_len PySem.boot_len (pa_cons (pv 3) pa_nil)) pe_int (nomark _))))) (pss_cons (ps_fld (pv 1) pe_bl rfl)
      (pss_one (ps_fld (pv 1) pe_int rfl))) pss_nil)))))
theorem ok_Voter_wait {P : Program} {w : World} {K : PySem.W.Frag} {mg : Str → Option Value} {base : Heap} {A : Ads} (T : Txt K mg A) :
    FnOk P w K mg base CX0 1 A.f_Voter_wait A.d_Voter_wait ["self", "one", "is_close"] (sp_Voter_wait K A) := by
  refine T.F_Voter_wait.ok sc_Voter_wait (fun vs H Q E h => len_Voter_wait h) (fun cdv _ outer s H vs Q E hr h => ⟨t_Voter_wait K A E, ?_, pure_Voter_wait T vs H Q E h⟩)
  exact (pss_cons (ps_fld (pv 1) (pe_op op_mul (pe_op op_add (pe_fld (pv 1) rfl) pe_int) (pe_callTy call_int1 (by rfl) T.n_int PyProof.Rows.boot_int (pa_cons (pv 2) pa_nil))) rfl)
      (pss_one (ps_if (pt_cmpR op_eq (pe_fld (pv 1) rfl) (pe_fld (pv 0) rfl) (nomark _)) (pss_cons (ps_fld (pv 1) pe_bl rfl)
      (pss_one (ps_fld (pv 1) pe_int rfl))) pss_nil)))
theorem ok_l_cell {P : Program} {w : World} {K : PySem.W.Frag} {mg : Str → Option Value} {base : Heap} {A : Ads} (T : Txt K mg A) :
    FnOk P w K mg base CX0 1 A.f_l_cell A.d_l_cell ["_law_script", "_law_k"] (sp_l_cell K A) := by
  refine T.F_l_cell.ok sc_l_cell (fun vs H Q E h => len_l_cell h) (fun cdv _ outer s H vs Q E hr h => ⟨t_l_cell K A E, ?_, pure_l_cell T vs H Q E h⟩)
  exact (pss_cons (ps_if (pt_cmpR (op_eqD hr.units) (pv 0) (pe_lst pa_nil) (nomark _)) (pss_one (ps_ret (pe_op op_mul (pv 1) pe_int))) pss_nil)
      (pss_one (ps_ret (pe_op op_add (pe_ix ix_list (pv 0) (pe_op op_mod (pv 1) (pe_callB call_len_seq (by rfl) T.n_len PySem.boot_len (pa_cons (pv 0) pa_nil))) (fun _ _ => rfl)) (pe_op op_mul (pe_op op_fdivW (pv 1) (pe_callB call_len_seq (by rfl) T.n_len PySem.boot_len (pa_cons (pv 0) pa_nil))) pe_int)))))
theorem ok_l_drawn {P : Program} {w : World} {K : PySem.W.Frag} {mg : Str → Option Value} {base : Heap} {A : Ads} (T : Txt K mg A) :
    FnOk P w K mg base CX0 1 A.f_l_drawn A.d_l_drawn ["_law_cell_here", "_law_k"] (sp_l_drawn K A) := by
  refine T.F_l_drawn.ok sc_l_drawn (fun vs H Q E h => len_l_drawn h) (fun cdv _ outer s H vs Q E hr h => ⟨t_l_drawn K A E, ?_, pure_l_drawn T vs H Q E h⟩)
  exact (pss_cons (ps_asg (pe_op op_mod (pe_op op_add (pe_op op_mul (pv 0) pe_int) (pe_op op_mul (pe_op op_add (pv 1) pe_int) pe_int)) pe_int) (pg_name (i := 2) sc_l_drawn.nd rfl (by first | exact Or.inl rfl | exact Or.inr rfl)))
      (pss_one (ps_ret (pe_op op_mod (pe_op op_mulW (pv 2) (pv 2)) pe_int))))
theorem ok_l_settings {P : Program} {w : World} {K : PySem.W.Frag} {mg : Str → Option Value} {base : Heap} {A : Ads} (T : Txt K mg A) :
    FnOk P w K mg base CX0 1 A.f_l_settings A.d_l_settings ["_law_more"] (sp_l_settings K A) := by
  refine T.F_l_settings.ok sc_l_settings (fun vs H Q E h => len_l_settings h) (fun cdv _ outer s H vs Q E hr h => ⟨t_l_settings K A E, ?_, pure_l_settings T vs H Q E h⟩)
  exact (pss_cons (ps_asg (pe_ix ix_list (pe_lst (pa_cons pe_int (pa_cons pe_int (pa_cons pe_int (pa_cons pe_int (pa_cons pe_int (pa_cons (pe_op op_mod (pe_op op_fdivW (pv 0) pe_int) pe_int) pa_nil))))))) (pe_op op_mod (pv 0) pe_int) (fun _ _ => rfl)) (pg_name (i := 1) sc_l_settings.nd rfl (by first | exact Or.inl rfl | exact Or.inr rfl)))
      (pss_cons (ps_asg (pe_ix ix_list (pe_lst (pa_cons pe_int (pa_cons pe_int (pa_cons pe_int (pa_cons (pe_op op_add pe_int (pe_op op_mod (pe_op op_fdivW (pv 0) (pe_op op_pow pe_int pe_int)) pe_int)) pa_nil))))) (pe_op op_mod (pe_op op_fdivW (pv 0) (pe_op op_pow pe_int pe_int)) pe_int) (fun _ _ => rfl)) (pg_name (i := 2) sc_l_settings.nd rfl (by first | exact Or.inl rfl | exact Or.inr rfl)))
      (pss_cons (ps_asg (pe_ix ix_list (pe_lst (pa_cons pe_int (pa_cons pe_int (pa_cons pe_int (pa_cons (pe_op op_add pe_int (pe_op op_mod (pe_op op_fdivW (pv 0) (pe_op op_pow pe_int pe_int)) pe_int)) pa_nil))))) (pe_op op_mod (pe_op op_fdivW (pv 0) (pe_op op_pow pe_int pe_int)) pe_int) (fun _ _ => rfl)) (pg_name (i := 3) sc_l_settings.nd rfl (by first | exact Or.inl rfl | exact Or.inr rfl)))
      (pss_cons (ps_asg (pe_ix ix_list (pe_lst (pa_cons pe_int (pa_cons pe_int (pa_cons pe_int (pa_cons (pe_op op_add pe_int (pe_op op_mod (pe_op op_fdivW (pv 0) (pe_op op_pow pe_int pe_int)) pe_int)) pa_nil))))) (pe_op op_mod (pe_op op_fdivW (pv 0) (pe_op op_pow pe_int pe_int)) pe_int) (fun _ _ => rfl)) (pg_name (i := 4) sc_l_settings.nd rfl (by first | exact Or.inl rfl | exact Or.inr rfl)))
      (pss_one (ps_ret (pe_tup (pa_cons (pe_op op_add pe_int (pe_op op_mod (pe_op op_fdivW (pv 0) (pe_op op_pow pe_int pe_int)) pe_int)) (pa_cons (pv 1) (pa_cons (pv 2) (pa_cons (pv 3) (pa_cons (pv 4) pa_nil))))))))))))
theorem ok_l_said {P : Program} {w : World} {K : PySem.W.Frag} {mg : Str → Option Value} {base : Heap} {A : Ads} (T : Txt K mg A) :
    FnOk P w K mg base CX0 1 A.f_l_said A.d_l_said ["_law_more", "_law_way", "_law_rights", "_law_threshold"] (sp_l_said K A) := by
  refine T.F_l_said.ok sc_l_said (fun vs H Q E h => len_l_said h) (fun cdv _ outer s H vs Q E hr h => ⟨t_l_said K A E, ?_, pure_l_said T vs H Q E h⟩)
  exact (pss_cons (ps_asg (pe_lst (pa_cons (pe_op op_add (pe_op op_add (pe_op op_add (pe_callB (cr_max rfl) (by rfl) T.n_max PyProof.Rows.boot_max (pa_cons (pv 2) pa_nil)) (pv 3)) pe_int) (pe_op op_mod (pv 0) pe_int)) (pa_cons (pe_op op_sub (pe_op op_sub (pe_op op_sub (pe_callB (cr_min rfl) (by rfl) T.n_min PyProof.Rows.boot_min (pa_cons (pv 2) pa_nil)) (pv 3)) pe_int) (pe_op op_mod (pv 0) pe_int)) (pa_cons (pe_op op_pow pe_int pe_int) (pa_cons (pe_un un_neg (pe_op op_pow pe_int pe_int)) (pa_cons pe_non pa_nil)))))) (pg_name (i := 4) sc_l_said.nd rfl (by first | exact Or.inl rfl | exact Or.inr rfl)))
      (pss_cons (ps_if (pt_cmpR op_lt (pv 1) pe_int (nomark _)) (pss_one (ps_ret (pe_tup (pa_cons (pe_ix ix_list (pv 4) (pv 1) (fun _ _ => rfl)) (pa_cons pe_bl pa_nil))))) pss_nil)
      (pss_cons (ps_if (pt_cmpR op_eq (pv 1) pe_int (nomark _)) (pss_one (ps_ret (pe_tup (pa_cons (pe_ix ix_list (pv 4) (pe_op op_mod (pe_op op_fdivW (pv 0) pe_int) pe_int) (fun _ _ => rfl)) (pa_cons pe_bl pa_nil))))) pss_nil)
      (pss_cons (ps_if (PW.pt (pw_and (pt_cmpR op_eq (pv 1) pe_int (nomark _)) (pw_and1 (pt_cmpR op_gt (pe_op op_mod (pe_op op_fdivW (pv 0) pe_int) pe_int) pe_int (nomark _))))) (pss_one (ps_ret (pe_tup (pa_cons (pe_ix ix_list (pv 4) (pe_op op_mod (pe_op op_fdivW (pv 0) pe_int) pe_int) (fun _ _ => rfl)) (pa_cons pe_bl pa_nil))))) pss_nil)
      (pss_one (ps_ret (pe_tup (pa_cons (pe_op op_add (pe_callB (cr_min rfl) (by rfl) T.n_min PyProof.Rows.boot_min (pa_cons (pv 2) pa_nil)) (pe_op op_mod (pe_op op_fdivW (pv 0) pe_int) (pe_op op_add (pe_op op_sub (pe_callB (cr_max rfl) (by rfl) T.n_max PyProof.Rows.boot_max (pa_cons (pv 2) pa_nil)) (pe_callB (cr_min rfl) (by rfl) T.n_min PyProof.Rows.boot_min (pa_cons (pv 2) pa_nil))) pe_int))) (pa_cons pe_bl pa_nil)))))))))
theorem ok_Voter_state {P : Program} {w : World} {K : PySem.W.Frag} {mg : Str → Option Value} {base : Heap} {A : Ads} (T : Txt K mg A) (G_Voter_sensor : FnOk P w K mg base (L2.CX P w) 1 A.f_Voter_sensor A.d_Voter_sensor ["self", "place"] (sp_Voter_sensor K A)) :
    FnOk P w K mg base (L2.CX P w) 2 A.f_Voter_state A.d_Voter_state ["self", "place"] (sp_Voter_state K A) := by
  refine T.F_Voter_state.okX sc_Voter_state (fun vs H Q E h => len_Voter_state h) (fun cdv _ outer s H vs Q E hr h => ⟨t_Voter_state K A E, ?_, pure_Voter_state T vs H Q E h⟩)
  exact (pss_cons (ps_asg (pe_meth (pv 0) T.cl_Voter T.m_Voter_sensor G_Voter_sensor (hr.mono (by decide)) T.b_Voter_sensor .nil (passes_call (takes_of rfl rfl rfl rfl) (fun _ _ _ _ h => h)) (pa_cons (pv 1) pa_nil)) (pg_name (i := 2) sc_Voter_state.nd rfl (by first | exact Or.inl rfl | exact Or.inr rfl)))
      (pss_cons (ps_if (pt_val (pe_fld (pv 2) rfl)) (pss_one (ps_ret pe_str)) pss_nil)
      (pss_one (ps_ret (pe_ifExp (pt_cmpR op_eq (pe_fld (pv 2) rfl) pe_int (nomark _)) pe_str pe_str)))))
theorem ok_Voter_word {P : Program} {w : World} {K : PySem.W.Frag} {mg : Str → Option Value} {base : Heap} {A : Ads} (T : Txt K mg A) (G_agree : FnOk P w K mg base CX0 1 A.f_agree A.d_agree ["numbers", "value", "threshold"] (sp_agree K A)) :
    FnOk P w K mg base CX0 2 A.f_Voter_word A.d_Voter_word ["self", "numbers", "value"] (sp_Voter_word K A) := by
  refine T.F_Voter_word.ok sc_Voter_word (fun vs H Q E h => len_Voter_word h) (fun cdv _ outer s H vs Q E hr h => ⟨t_Voter_word K A E, ?_, pure_Voter_word T vs H Q E h⟩)
  exact (pss_cons (ps_if (pt_cmpR (op_eqD hr.units) (pv 1) (pe_lst pa_nil) (nomark _)) (pss_one (ps_ret pe_str)) pss_nil)
      (pss_cons (ps_if (pt_cmpR op_eq (pe_callB call_len_seq (by rfl) T.n_len PySem.boot_len (pa_cons (pv 1) pa_nil)) pe_int (nomark _)) (pss_one (ps_ret pe_str)) pss_nil)
      (pss_cons (ps_asg (pe_callB call_len_seq (by rfl) T.n_len PySem.boot_len (pa_cons (pe_call G_agree (hr.mono (by decide)) rfl T.g_agree T.F_agree.kp T.b_agree .nil pass0 (pa_cons (pv 1) (pa_cons (pv 2) (pa_cons (pe_fld (pv 0) rfl) pa_nil)))) pa_nil)) (pg_name (i := 3) sc_Voter_word.nd rfl (by first | exact Or.inl rfl | exact Or.inr rfl)))
      (pss_cons (ps_if (pt_cmpR op_le (pe_op op_mul pe_int (pv 3)) (pe_callB call_len_seq (by rfl) T.n_len PySem.boot_len (pa_cons (pv 1) pa_nil)) (nomark _)) (pss_one (ps_ret pe_str)) pss_nil)
      (pss_one (ps_ret (pe_ifExp (pt_cmpR op_eq (pv 3) (pe_callB call_len_seq (by rfl) T.n_len PySem.boot_len (pa_cons (pe_fld (pv 0) rfl) pa_nil)) (nomark _)) pe_str pe_str)))))))
theorem ok_Voter_init {P : Program} {w : World} {K : PySem.W.Frag} {mg : Str → Option Value} {base : Heap} {A : Ads} (T : Txt K mg A) (G_Sensor_init : FnOk P w K mg base CX0 1 A.f_Sensor_init A.d_Sensor_init ["self"] (sp_Sensor_init K A)) (G_need_settings : FnOk P w K mg base (L2.CX P w) 1 A.f_need_settings A.d_need_settings ["settings"] (sp_need_settings K A)) :
    FnOk P w K mg base (L2.CX P w) 3 A.f_Voter_init A.d_Voter_init ["self", "settings", "start"] (sp_Voter_init K A) := by
  refine T.F_Voter_init.okX sc_Voter_init (fun vs H Q E h => len_Voter_init h) (fun cdv _ outer s H vs Q E hr h => ⟨t_Voter_init K A E, ?_, pure_Voter_init T vs H Q E h⟩)
  exact (pss_cons (ps_expr (pe_call G_need_settings (hr.mono (by decide)) rfl T.g_need_settings T.F_need_settings.kp T.b_need_settings .nil (passes_call (takes_of rfl rfl rfl rfl) (fun _ _ _ _ h => h)) (pa_cons (pv 1) pa_nil)))
      (pss_cons (ps_asg (pv 1) (pg_tup (by rfl) (pgs_cons (pg_name (i := 3) sc_Voter_init.nd rfl (by first | exact Or.inl rfl | exact Or.inr rfl)) (pgs_cons (pg_name (i := 4) sc_Voter_init.nd rfl (by first | exact Or.inl rfl | exact Or.inr rfl)) (pgs_cons (pg_name (i := 5) sc_Voter_init.nd rfl (by first | exact Or.inl rfl | exact Or.inr rfl)) (pgs_cons (pg_name (i := 6) sc_Voter_init.nd rfl (by first | exact Or.inl rfl | exact Or.inr rfl)) (pgs_cons (pg_name (i := 7) sc_Voter_init.nd rfl (by first | exact Or.inl rfl | exact Or.inr rfl)) pgs_nil)))))))
      (pss_cons (ps_fld (pv 0) (pv 4) rfl)
      (pss_cons (ps_fld (pv 0) (pv 5) rfl)
      (pss_cons (ps_fld (pv 0) (pv 6) rfl)
      (pss_cons (ps_fld (pv 0) (pv 7) rfl)
      (pss_cons (ps_fld (pv 0) (pe_lc (own := [("k", 8)]) rfl sc_Voter_init.nd (pi_range1 (by rfl) T.n_range (pa_cons (pv 3) pa_nil)) (blkOk_by (own := [("k", 8)]) (N := ["self", "settings", "start", "many", "threshold", "rate", "misses", "backs", "k"]) (sc := defScope s_Voter_init) (by decide +kernel)) (fun _ _ _ _ _ => (pg_name (i := 8) sc_Voter_init.nd rfl (by first | exact Or.inl rfl | exact Or.inr rfl))) (fun _ _ _ _ _ => pts_nil) (fun _ _ _ _ _ => (pe_make0 T.mk_Sensor G_Sensor_init (hr.mono (by decide)) rfl T.g_Sensor T.b_Sensor_init .nil pass0))) rfl)
      (pss_one (ps_fld (pv 0) (pv 2) rfl)))))))))
theorem ok_Voter_step {P : Program} {w : World} {K : PySem.W.Frag} {mg : Str → Option Value} {base : Heap} {A : Ads} (T : Txt K mg A) (G_moved : FnOk P w K mg base CX0 1 A.f_moved A.d_moved ["one", "goal", "most"] (sp_moved K A)) (G_Voter_wait : FnOk P w K mg base CX0 1 A.f_Voter_wait A.d_Voter_wait ["self", "one", "is_close"] (sp_Voter_wait K A)) (G_Voter_watch : FnOk P w K mg base CX0 1 A.f_Voter_watch A.d_Voter_watch ["self", "one", "is_close"] (sp_Voter_watch K A)) (G_Voter_is_close : FnOk P w K mg base CX0 1 A.f_Voter_is_close A.d_Voter_is_close ["self", "thing", "value"] (sp_Voter_is_close K A)) (G_Voter_word : FnOk P w K mg base CX0 2 A.f_Voter_word A.d_Voter_word ["self", "numbers", "value"] (sp_Voter_word K A)) (G_middle : FnOk P w K mg base CX0 1 A.f_middle A.d_middle ["numbers", "near"] (sp_middle K A)) (G_need_step : FnOk P w K mg base (L2.CX P w) 1 A.f_need_step A.d_need_step ["values", "many"] (sp_need_step K A)) :
    FnOk P w K mg base (L2.CX P w) 3 A.f_Voter_step A.d_Voter_step ["self", "values"] (sp_Voter_step K A) := by
  refine T.F_Voter_step.okX sc_Voter_step (fun vs H Q E h => len_Voter_step h) (fun cdv _ outer s H vs Q E hr h => ⟨t_Voter_step K A E, ?_, pure_Voter_step T vs H Q E h⟩)
  exact (pss_cons (ps_expr (pe_call G_need_step (hr.mono (by decide)) rfl T.g_need_step T.F_need_step.kp T.b_need_step .nil (passes_call (takes_of rfl rfl rfl rfl) (fun _ _ _ _ h => h)) (pa_cons (pv 1) (pa_cons (pe_callB call_len_seq (by rfl) T.n_len PySem.boot_len (pa_cons (pe_fld (pv 0) rfl) pa_nil)) pa_nil))))
      (pss_cons (ps_setLc (i := 2) (own := [("place", 3), ("one", 4)]) rfl sc_Voter_step.nd rfl rfl (sw_true rfl rfl rfl (by decide +kernel)) (pi_enum (by rfl) T.n_enumerate (pa_cons (pe_fld (pv 0) rfl) pa_nil)) (blkOk_by (own := [("place", 3), ("one", 4)]) (N := ["self", "values", "numbers", "place", "one", "value", "word", "is_close"]) (sc := defScope s_Voter_step) (by decide +kernel)) (fun _ _ _ _ _ => (pg_tup (by rfl) (pgs_cons (pg_name (i := 3) sc_Voter_step.nd rfl (by first | exact Or.inl rfl | exact Or.inr rfl)) (pgs_cons (pg_name (i := 4) sc_Voter_step.nd rfl (by first | exact Or.inl rfl | exact Or.inr rfl)) pgs_nil)))) (fun _ _ _ _ _ => (pts_one (PW.pt (pw_and (pt_not (pt_val (pe_fld (pv 4) rfl))) (pw_and1 (pt_cmpR op_notN (pe_ix ix_list (pv 1) (pv 3) (fun _ _ => rfl)) pe_non (nomark _))))))) (fun _ _ _ _ _ => (pe_ix ix_list (pv 1) (pv 3) (fun _ _ => rfl))))
      (pss_cons (ps_asg (pe_fld (pv 0) rfl) (pg_name (i := 5) sc_Voter_step.nd rfl (by first | exact Or.inl rfl | exact Or.inr rfl)))
      (pss_cons (ps_if (pt_cmpR (op_neD hr.units) (pv 2) (pe_lst pa_nil) (nomark _)) (pss_one (ps_asg (pe_call G_middle (hr.mono (by decide)) rfl T.g_middle T.F_middle.kp T.b_middle .nil pass0 (pa_cons (pv 2) (pa_cons (pe_fld (pv 0) rfl) pa_nil))) (pg_name (i := 5) sc_Voter_step.nd rfl (by first | exact Or.inl rfl | exact Or.inr rfl)))) pss_nil)
      (pss_cons (ps_asg (pe_meth (pv 0) T.cl_Voter T.m_Voter_word G_Voter_word (hr.mono (by decide)) T.b_Voter_word .nil pass0 (pa_cons (pv 2) (pa_cons (pv 5) pa_nil))) (pg_name (i := 6) sc_Voter_step.nd rfl (by first | exact Or.inl rfl | exact Or.inr rfl)))
      (pss_cons (ps_for (passes_of rfl) rfl (pi_enum (by rfl) T.n_enumerate (pa_cons (pe_fld (pv 0) rfl) pa_nil)) (pg_tup (by rfl) (pgs_cons (pg_name (i := 3) sc_Voter_step.nd rfl (by first | exact Or.inl rfl | exact Or.inr rfl)) (pgs_cons (pg_name (i := 4) sc_Voter_step.nd rfl (by first | exact Or.inl rfl | exact Or.inr rfl)) pgs_nil))) (pss_cons (ps_asg (pe_meth (pv 0) T.cl_Voter T.m_Voter_is_close G_Voter_is_close (hr.mono (by decide)) T.b_Voter_is_close .nil pass0 (pa_cons (pe_ix ix_list (pv 1) (pv 3) (fun _ _ => rfl)) (pa_cons (pv 5) pa_nil))) (pg_name (i := 7) sc_Voter_step.nd rfl (by first | exact Or.inl rfl | exact Or.inr rfl)))
      (pss_one (ps_if (pt_val (pe_fld (pv 4) rfl)) (pss_one (ps_expr (pe_meth (pv 0) T.cl_Voter T.m_Voter_wait G_Voter_wait (hr.mono (by decide)) T.b_Voter_wait .nil pass0 (pa_cons (pv 4) (pa_cons (pe_and (pv 7) (pe_one (pe_cmpR (op_neD hr.units) (pv 2) (pe_lst pa_nil) (nomark _)))) pa_nil))))) (pss_one (ps_expr (pe_meth (pv 0) T.cl_Voter T.m_Voter_watch G_Voter_watch (hr.mono (by decide)) T.b_Voter_watch .nil pass0 (pa_cons (pv 4) (pa_cons (pv 7) pa_nil)))))))))
      (pss_cons (ps_fld (pv 0) (pe_call G_moved (hr.mono (by decide)) rfl T.g_moved T.F_moved.kp T.b_moved .nil pass0 (pa_cons (pe_fld (pv 0) rfl) (pa_cons (pv 5) (pa_cons (pe_fld (pv 0) rfl) pa_nil)))) rfl)
      (pss_one (ps_ret (pe_tup (pa_cons (pe_fld (pv 0) rfl) (pa_cons (pv 6) pa_nil))))))))))))
theorem ok_law {P : Program} {w : World} {K : PySem.W.Frag} {mg : Str → Option Value} {base : Heap} {A : Ads} (T : Txt K mg A) (TB : TabB base mg A.cd_law A.P_law) (G_Voter_state : FnOk P w K mg base (L2.CX P w) 2 A.f_Voter_state A.d_Voter_state ["self", "place"] (sp_Voter_state K A)) (G_Voter_step : FnOk P w K mg base (L2.CX P w) 3 A.f_Voter_step A.d_Voter_step ["self", "values"] (sp_Voter_step K A)) (G_l_said : FnOk P w K mg base CX0 1 A.f_l_said A.d_l_said ["_law_more", "_law_way", "_law_rights", "_law_threshold"] (sp_l_said K A)) (G_l_drawn : FnOk P w K mg base CX0 1 A.f_l_drawn A.d_l_drawn ["_law_cell_here", "_law_k"] (sp_l_drawn K A)) (G_l_cell : FnOk P w K mg base CX0 1 A.f_l_cell A.d_l_cell ["_law_script", "_law_k"] (sp_l_cell K A)) (G_Voter_init : FnOk P w K mg base (L2.CX P w) 3 A.f_Voter_init A.d_Voter_init ["self", "settings", "start"] (sp_Voter_init K A)) (G_l_settings : FnOk P w K mg base CX0 1 A.f_l_settings A.d_l_settings ["_law_more"] (sp_l_settings K A)) :
    FnOk P w K mg base CX0 5 A.f_law A.d_law ["_law_script"] (sp_law K A) := by
  refine okC T.FC_law sc_law (fun vs H Q E h => len_law h) (fun _ outer s H vs Q E hr h => ⟨t_law K A E, ?_, pure_law T vs H Q E h⟩)
  exact (pss_cons (ps_asg (pe_call G_l_drawn (hr.mono (by decide)) rfl T.g_l_drawn T.F_l_drawn.kp T.b_l_drawn .nil pass0 (pa_cons (pe_call G_l_cell (hr.mono (by decide)) rfl T.g_l_cell T.F_l_cell.kp T.b_l_cell .nil pass0 (pa_cons (pv 0) (pa_cons pe_int pa_nil))) (pa_cons pe_int pa_nil))) (pg_name (i := 1) sc_law.nd rfl (by first | exact Or.inl rfl | exact Or.inr rfl)))
      (pss_cons (ps_asg (pe_call G_l_settings (hr.mono (by decide)) rfl T.g_l_settings T.F_l_settings.kp T.b_l_settings .nil pass0 (pa_cons (pe_op op_fdivW (pv 1) pe_int) pa_nil)) (pg_name (i := 2) sc_law.nd rfl (by first | exact Or.inl rfl | exact Or.inr rfl)))
      (pss_cons (ps_asg (pv 2) (pg_tup (by rfl) (pgs_cons (pg_name (i := 3) sc_law.nd rfl (by first | exact Or.inl rfl | exact Or.inr rfl)) (pgs_cons (pg_name (i := 4) sc_law.nd rfl (by first | exact Or.inl rfl | exact Or.inr rfl)) (pgs_cons (pg_name (i := 5) sc_law.nd rfl (by first | exact Or.inl rfl | exact Or.inr rfl)) (pgs_cons (pg_name (i := 6) sc_law.nd rfl (by first | exact Or.inl rfl | exact Or.inr rfl)) (pgs_cons (pg_name (i := 7) sc_law.nd rfl (by first | exact Or.inl rfl | exact Or.inr rfl)) pgs_nil)))))))
      (pss_cons (ps_asg (pe_sortL (i := 9) (a := "_law_place") (k := 1) (by rfl) T.n_sorted rfl sc_law.nd rfl TB rfl (lamS1_by (sc := defScope s_law) (by decide +kernel)) (hr.mono (by decide)) (pa_cons (pe_listRg rfl (by rfl) T.n_list (prg_1 (by rfl) T.n_range (pv 3))) pa_nil) (fun _ _ _ _ _ _ hr => (pe_call G_l_drawn (hr.mono (by decide)) rfl T.g_l_drawn T.F_l_drawn.kp T.b_l_drawn .nil pass0 (pa_cons (pe_call G_l_cell (hr.mono (by decide)) rfl T.g_l_cell T.F_l_cell.kp T.b_l_cell .nil pass0 (pa_cons (pv 0) (pa_cons pe_int pa_nil))) (pa_cons (pe_op op_add (pv 9) pe_int) pa_nil))))) (pg_name (i := 8) sc_law.nd rfl (by first | exact Or.inl rfl | exact Or.inr rfl)))
      (pss_cons (ps_asg (pe_slice sl_list (pv 8) po_none (po_some (pe_op op_mod (pv 1) (pe_op op_fdivW (pe_op op_add (pv 3) pe_int) pe_int)))) (pg_name (i := 8) sc_law.nd rfl (by first | exact Or.inl rfl | exact Or.inr rfl)))
      (pss_cons (ps_setLc (i := 10) (own := [("_law_place", 9)]) rfl sc_law.nd rfl rfl (sw_true rfl rfl rfl (by decide +kernel)) (pi_range1 (by rfl) T.n_range (pa_cons (pv 3) pa_nil)) (blkOk_by (own := [("_law_place", 9)]) (N := ["_law_script", "_law_more", "_law_settings_here", "_law_many", "_law_threshold", "_law_rate", "_law_misses", "_law_backs", "_law_liars", "_law_place", "_law_ways", "_law_base", "_law_voter", "_law_runs", "_law_k", "_law_spread", "_law_values_here", "_law_j", "_law_rights", "_law_is_far", "_law_found", "_law_word"]) (sc := defScope s_law) (by decide +kernel)) (fun _ _ _ _ _ => (pg_name (i := 9) sc_law.nd rfl (by first | exact Or.inl rfl | exact Or.inr rfl))) (fun _ _ _ _ _ => pts_nil) (fun _ _ _ _ _ => (pe_op op_mod (pe_call G_l_drawn (hr.mono (by decide)) rfl T.g_l_drawn T.F_l_drawn.kp T.b_l_drawn .nil pass0 (pa_cons (pe_call G_l_cell (hr.mono (by decide)) rfl T.g_l_cell T.F_l_cell.kp T.b_l_cell .nil pass0 (pa_cons (pv 0) (pa_cons pe_int pa_nil))) (pa_cons (pe_op op_add (pv 9) pe_int) pa_nil))) pe_int)))
      (pss_cons (ps_asg (pe_op op_sub (pe_op op_mod (pe_op op_fdivW (pv 1) (pe_op op_pow pe_int pe_int)) pe_int) pe_int) (pg_name (i := 11) sc_law.nd rfl (by first | exact Or.inl rfl | exact Or.inr rfl)))
      (pss_cons (ps_asg (pe_make T.mk_Voter G_Voter_init (hr.mono (by decide)) rfl T.g_Voter T.b_Voter_init .nil passL (pa_cons (pv 2) (pa_cons (pv 11) pa_nil))) (pg_name (i := 12) sc_law.nd rfl (by first | exact Or.inl rfl | exact Or.inr rfl)))
      (pss_cons (ps_asg (pe_op op_rep (pe_lst (pa_cons pe_int pa_nil)) (pv 3)) (pg_name (i := 13) sc_law.nd rfl (by first | exact Or.inl rfl | exact Or.inr rfl)))
      (pss_cons (ps_for PassesOwn.never rfl (pi_range1 (by rfl) T.n_range (pa_cons (pe_callB (call_max2 rfl) (by rfl) T.n_max PyProof.Rows.boot_max (pa_cons pe_int (pa_cons (pe_callB (call_min2 rfl) (by rfl) T.n_min PyProof.Rows.boot_min (pa_cons pe_int (pa_cons (pe_callB call_len_seq (by rfl) T.n_len PySem.boot_len (pa_cons (pv 0) pa_nil)) pa_nil))) pa_nil))) pa_nil)) (pg_name (i := 14) sc_law.nd rfl (by first | exact Or.inl rfl | exact Or.inr rfl)) (pss_cons (ps_asg (pe_call G_l_drawn (hr.mono (by decide)) rfl T.g_l_drawn T.F_l_drawn.kp T.b_l_drawn .nil pass0 (pa_cons (pe_call G_l_cell (hr.mono (by decide)) rfl T.g_l_cell T.F_l_cell.kp T.b_l_cell .nil pass0 (pa_cons (pv 0) (pa_cons (pv 14) pa_nil))) (pa_cons (pe_op op_add (pv 14) pe_int) pa_nil))) (pg_name (i := 1) sc_law.nd rfl (by first | exact Or.inl rfl | exact Or.inr rfl)))
      (pss_cons (ps_asg (pe_op op_add (pv 11) (pe_ix ix_list (pe_lst (pa_cons pe_int (pa_cons (pe_op op_sub (pe_op op_mod (pe_op op_fdivW (pv 1) pe_int) pe_int) pe_int) (pa_cons (pe_op op_sub (pe_op op_mod (pe_op op_fdivW (pv 1) pe_int) pe_int) pe_int) pa_nil)))) (pe_op op_mod (pv 1) pe_int) (fun _ _ => rfl))) (pg_name (i := 11) sc_law.nd rfl (by first | exact Or.inl rfl | exact Or.inr rfl)))
      (pss_cons (ps_asg (pe_callB (call_min2 rfl) (by rfl) T.n_min PyProof.Rows.boot_min (pa_cons (pv 4) (pa_cons (pe_ix ix_list (pe_lst (pa_cons pe_int (pa_cons (pv 4) (pa_cons (pe_op op_mod (pe_op op_fdivW (pv 1) pe_int) pe_int) pa_nil)))) (pe_op op_mod (pe_op op_fdivW (pv 1) (pe_op op_pow pe_int pe_int)) pe_int) (fun _ _ => rfl)) pa_nil))) (pg_name (i := 15) sc_law.nd rfl (by first | exact Or.inl rfl | exact Or.inr rfl)))
      (pss_cons (ps_asg (pe_lc (own := [("_law_j", 17)]) rfl sc_law.nd (pi_range1 (by rfl) T.n_range (pa_cons (pv 3) pa_nil)) (blkOk_by (own := [("_law_j", 17)]) (N := ["_law_script", "_law_more", "_law_settings_here", "_law_many", "_law_threshold", "_law_rate", "_law_misses", "_law_backs", "_law_liars", "_law_place", "_law_ways", "_law_base", "_law_voter", "_law_runs", "_law_k", "_law_spread", "_law_values_here", "_law_j", "_law_rights", "_law_is_far", "_law_found", "_law_word"]) (sc := defScope s_law) (by decide +kernel)) (fun _ _ _ _ _ => (pg_name (i := 17) sc_law.nd rfl (by first | exact Or.inl rfl | exact Or.inr rfl))) (fun _ _ _ _ _ => pts_nil) (fun _ _ _ _ _ => (pe_op op_add (pv 11) (pe_op op_mod (pe_call G_l_drawn (hr.mono (by decide)) rfl T.g_l_drawn T.F_l_drawn.kp T.b_l_drawn .nil pass0 (pa_cons (pe_call G_l_cell (hr.mono (by decide)) rfl T.g_l_cell T.F_l_cell.kp T.b_l_cell .nil pass0 (pa_cons (pv 0) (pa_cons (pv 14) pa_nil))) (pa_cons (pe_op op_add (pe_op op_add (pe_op op_mul pe_int (pv 14)) (pv 17)) pe_int) pa_nil))) (pe_op op_add (pv 15) pe_int))))) (pg_name (i := 16) sc_law.nd rfl (by first | exact Or.inl rfl | exact Or.inr rfl)))
      (pss_cons (ps_setLc (i := 18) (own := [("_law_j", 17)]) rfl sc_law.nd rfl rfl (sw_true rfl rfl rfl (by decide +kernel)) (pi_range1 (by rfl) T.n_range (pa_cons (pv 3) pa_nil)) (blkOk_by (own := [("_law_j", 17)]) (N := ["_law_script", "_law_more", "_law_settings_here", "_law_many", "_law_threshold", "_law_rate", "_law_misses", "_law_backs", "_law_liars", "_law_place", "_law_ways", "_law_base", "_law_voter", "_law_runs", "_law_k", "_law_spread", "_law_values_here", "_law_j", "_law_rights", "_law_is_far", "_law_found", "_law_word"]) (sc := defScope s_law) (by decide +kernel)) (fun _ _ _ _ _ => (pg_name (i := 17) sc_law.nd rfl (by first | exact Or.inl rfl | exact Or.inr rfl))) (fun _ _ _ _ _ => (pts_one (pt_cmpR op_notIn_seq (pv 17) (pv 8) (by rfl)))) (fun _ _ _ _ _ => (pe_ix ix_list (pv 16) (pv 17) (fun _ _ => rfl))))
      (pss_cons (ps_for PassesOwn.never rfl (pi_list (pv 8)) (pg_name (i := 17) sc_law.nd rfl (by first | exact Or.inl rfl | exact Or.inr rfl)) (pss_cons (ps_asg (pe_call G_l_said (hr.mono (by decide)) rfl T.g_l_said T.F_l_said.kp T.b_l_said .nil pass0 (pa_cons (pe_call G_l_drawn (hr.mono (by decide)) rfl T.g_l_drawn T.F_l_drawn.kp T.b_l_drawn .nil pass0 (pa_cons (pe_call G_l_cell (hr.mono (by decide)) rfl T.g_l_cell T.F_l_cell.kp T.b_l_cell .nil pass0 (pa_cons (pv 0) (pa_cons (pv 14) pa_nil))) (pa_cons (pe_op op_add (pe_op op_add (pe_op op_mul pe_int (pv 14)) (pv 17)) pe_int) pa_nil))) (pa_cons (pe_ix ix_list (pv 10) (pv 17) (fun _ _ => rfl)) (pa_cons (pv 18) (pa_cons (pv 4) pa_nil))))) (pg_tup (by rfl) (pgs_cons (pg_sub (pv 16) (pv 17) set_list) (pgs_cons (pg_name (i := 19) sc_law.nd rfl (by first | exact Or.inl rfl | exact Or.inr rfl)) pgs_nil))))
      (pss_one (ps_asg (pe_op op_mul (pe_op op_add (pe_ix ix_list (pv 13) (pv 17) (fun _ _ => rfl)) pe_int) (pe_callTy call_int1 (by rfl) T.n_int PyProof.Rows.boot_int (pa_cons (pv 19) pa_nil))) (pg_sub (pv 13) (pv 17) set_list)))))
      (pss_cons (ps_asg (pe_meth (pv 12) T.cl_Voter T.m_Voter_step G_Voter_step (hr.mono (by decide)) T.b_Voter_step .nil passL (pa_cons (pv 16) pa_nil)) (pg_tup (by rfl) (pgs_cons (pg_name (i := 20) sc_law.nd rfl (by first | exact Or.inl rfl | exact Or.inr rfl)) (pgs_cons (pg_name (i := 21) sc_law.nd rfl (by first | exact Or.inl rfl | exact Or.inr rfl)) pgs_nil))))
      (pss_cons (ps_if (pt_cmpR op_in_seq (pv 21) (pe_lst (pa_cons pe_str (pa_cons pe_str pa_nil))) (by rfl)) (pss_one (ps_ret pe_bl)) pss_nil)
      (pss_cons (ps_if (PW.pt (pw_and (pt_cmpR op_eq (pv 5) pe_int (nomark _)) (pw_and (pt_cmpR op_lt (pv 4) pe_int (nomark _)) (pw_and1 (pt_not (pt_chain op_le op_le (pe_callB (cr_min rfl) (by rfl) T.n_min PyProof.Rows.boot_min (pa_cons (pv 18) pa_nil)) (pv 20) (pe_callB (cr_max rfl) (by rfl) T.n_max PyProof.Rows.boot_max (pa_cons (pv 18) pa_nil)))))))) (pss_one (ps_ret pe_bl)) pss_nil)
      (pss_one (ps_for PassesOwn.never rfl (pi_range1 (by rfl) T.n_range (pa_cons (pv 3) pa_nil)) (pg_name (i := 17) sc_law.nd rfl (by first | exact Or.inl rfl | exact Or.inr rfl)) (pss_one (ps_if (PW.pt (pw_or (PW.pt (pw_and (pt_cmpR op_notIn_seq (pv 17) (pv 8) (by rfl)) (pw_and1 (pt_cmpR op_ne (pe_meth (pv 12) T.cl_Voter T.m_Voter_state G_Voter_state (hr.mono (by decide)) T.b_Voter_state .nil passL (pa_cons (pv 17) pa_nil)) pe_str (nomark _))))) (pw_or1 (PW.pt (pw_and (pt_cmpR op_ge (pe_ix ix_list (pv 13) (pv 17) (fun _ _ => rfl)) (pv 6) (nomark _)) (pw_and1 (pt_cmpR op_ne (pe_meth (pv 12) T.cl_Voter T.m_Voter_state G_Voter_state (hr.mono (by decide)) T.b_Voter_state .nil passL (pa_cons (pv 17) pa_nil)) pe_str (nomark _)))))))) (pss_one (ps_ret pe_bl)) pss_nil))))))))))))))
      (pss_one (ps_ret pe_bl))))))))))))
theorem ok_all {P : Program} {w : World} {K : PySem.W.Frag} {mg : Str → Option Value} {base : Heap} {A : Ads} (T : Txt K mg A) (TB : TabB base mg A.cd_law A.P_law) : FnOk P w K mg base CX0 5 A.f_law A.d_law ["_law_script"] (spLT K A.P_law) := by
  have G_middle := ok_middle (P := P) (w := w) (base := base) T 
  have G_moved := ok_moved (P := P) (w := w) (base := base) T 
  have G_agree := ok_agree (P := P) (w := w) (base := base) T 
  have G_need_settings := ok_need_settings (P := P) (w := w) (base := base) T 
  have G_need_step := ok_need_step (P := P) (w := w) (base := base) T 
  have G_Sensor_init := ok_Sensor_init (P := P) (w := w) (base := base) T 
  have G_Voter_sensor := ok_Voter_sensor (P := P) (w := w) (base := base) T 
  have G_Voter_is_close := ok_Voter_is_close (P := P) (w := w) (base := base) T 
  have G_Voter_watch := ok_Voter_watch (P := P) (w := w) (base := base) T 
  have G_Voter_wait := ok_Voter_wait (P := P) (w := w) (base := base) T 
  have G_l_cell := ok_l_cell (P := P) (w := w) (base := base) T 
  have G_l_drawn := ok_l_drawn (P := P) (w := w) (base := base) T 
  have G_l_settings := ok_l_settings (P := P) (w := w) (base := base) T 
  have G_l_said := ok_l_said (P := P) (w := w) (base := base) T 
  have G_Voter_state := ok_Voter_state (P := P) (w := w) (base := base) T G_Voter_sensor
  have G_Voter_word := ok_Voter_word (P := P) (w := w) (base := base) T G_agree
  have G_Voter_init := ok_Voter_init (P := P) (w := w) (base := base) T G_Sensor_init G_need_settings
  have G_Voter_step := ok_Voter_step (P := P) (w := w) (base := base) T G_moved G_Voter_wait G_Voter_watch G_Voter_is_close G_Voter_word G_middle G_need_step
  have G_law := ok_law (P := P) (w := w) (base := base) T TB G_Voter_state G_Voter_step G_l_said G_l_drawn G_l_cell G_Voter_init G_l_settings
  exact G_law
open LamX in
theorem fin_mk {l : PySem.W.OpenLaw} {w : World} {K : PySem.W.Frag} {h : Heap} {mg : Str → Option Value} {fa tP : Addr}
    {u_LEAST : Tok}
    {u_MOST : Tok}
    {u_MOST_THRESHOLD : Tok}
    {u_MOST_COUNT : Tok}
    {u_MOST_VALUE : Tok}
    {C_VoteError : Addr}
    {C_BadSettings : Addr}
    {C_BadStep : Addr}
    {C_NoSensor : Addr}
    {C_Sensor : Addr}
    {C_Voter : Addr}
    {f_middle : Addr} {od_middle an_middle : Option Addr} {sl_middle : Array (Option Value)} {oc_middle kV_middle dc_middle pm_middle ct_middle : Value} {cd_middle : Value}
    {f_moved : Addr} {od_moved an_moved : Option Addr} {sl_moved : Array (Option Value)} {oc_moved kV_moved dc_moved pm_moved ct_moved : Value} {cd_moved : Value}
    {f_agree : Addr} {od_agree an_agree : Option Addr} {sl_agree : Array (Option Value)} {oc_agree kV_agree dc_agree pm_agree ct_agree : Value} {cd_agree : Value}
    {f_need_settings : Addr} {od_need_settings an_need_settings : Option Addr} {sl_need_settings : Array (Option Value)} {oc_need_settings kV_need_settings dc_need_settings pm_need_settings ct_need_settings : Value} {cd_need_settings : Value}
    {f_need_step : Addr} {od_need_step an_need_step : Option Addr} {sl_need_step : Array (Option Value)} {oc_need_step kV_need_step dc_need_step pm_need_step ct_need_step : Value} {cd_need_step : Value}
    {f_Sensor_init : Addr} {od_Sensor_init an_Sensor_init : Option Addr} {sl_Sensor_init : Array (Option Value)} {oc_Sensor_init kV_Sensor_init dc_Sensor_init pm_Sensor_init ct_Sensor_init : Value} {cd_Sensor_init : Value}
    {f_Voter_init : Addr} {od_Voter_init an_Voter_init : Option Addr} {sl_Voter_init : Array (Option Value)} {oc_Voter_init kV_Voter_init dc_Voter_init pm_Voter_init ct_Voter_init : Value} {cd_Voter_init : Value}
    {f_Voter_sensor : Addr} {od_Voter_sensor an_Voter_sensor : Option Addr} {sl_Voter_sensor : Array (Option Value)} {oc_Voter_sensor kV_Voter_sensor dc_Voter_sensor pm_Voter_sensor ct_Voter_sensor : Value} {cd_Voter_sensor : Value}
    {f_Voter_state : Addr} {od_Voter_state an_Voter_state : Option Addr} {sl_Voter_state : Array (Option Value)} {oc_Voter_state kV_Voter_state dc_Voter_state pm_Voter_state ct_Voter_state : Value} {cd_Voter_state : Value}
    {f_Voter_word : Addr} {od_Voter_word an_Voter_word : Option Addr} {sl_Voter_word : Array (Option Value)} {oc_Voter_word kV_Voter_word dc_Voter_word pm_Voter_word ct_Voter_word : Value} {cd_Voter_word : Value}
    {f_Voter_is_close : Addr} {od_Voter_is_close an_Voter_is_close : Option Addr} {sl_Voter_is_close : Array (Option Value)} {oc_Voter_is_close kV_Voter_is_close dc_Voter_is_close pm_Voter_is_close ct_Voter_is_close : Value} {cd_Voter_is_close : Value}
    {f_Voter_watch : Addr} {od_Voter_watch an_Voter_watch : Option Addr} {sl_Voter_watch : Array (Option Value)} {oc_Voter_watch kV_Voter_watch dc_Voter_watch pm_Voter_watch ct_Voter_watch : Value} {cd_Voter_watch : Value}
    {f_Voter_wait : Addr} {od_Voter_wait an_Voter_wait : Option Addr} {sl_Voter_wait : Array (Option Value)} {oc_Voter_wait kV_Voter_wait dc_Voter_wait pm_Voter_wait ct_Voter_wait : Value} {cd_Voter_wait : Value}
    {f_Voter_step : Addr} {od_Voter_step an_Voter_step : Option Addr} {sl_Voter_step : Array (Option Value)} {oc_Voter_step kV_Voter_step dc_Voter_step pm_Voter_step ct_Voter_step : Value} {cd_Voter_step : Value}
    {f_l_cell : Addr} {od_l_cell an_l_cell : Option Addr} {sl_l_cell : Array (Option Value)} {oc_l_cell kV_l_cell dc_l_cell pm_l_cell ct_l_cell : Value} {cd_l_cell : Value}
    {f_l_drawn : Addr} {od_l_drawn an_l_drawn : Option Addr} {sl_l_drawn : Array (Option Value)} {oc_l_drawn kV_l_drawn dc_l_drawn pm_l_drawn ct_l_drawn : Value} {cd_l_drawn : Value}
    {f_l_settings : Addr} {od_l_settings an_l_settings : Option Addr} {sl_l_settings : Array (Option Value)} {oc_l_settings kV_l_settings dc_l_settings pm_l_settings ct_l_settings : Value} {cd_l_settings : Value}
    {f_l_said : Addr} {od_l_said an_l_said : Option Addr} {sl_l_said : Array (Option Value)} {oc_l_said kV_l_said dc_l_said pm_l_said ct_l_said : Value} {cd_l_said : Value}
    {f_law : Addr} {od_law an_law : Option Addr} {sl_law : Array (Option Value)} {oc_law kV_law dc_law pm_law ct_law : Value} {cd_law : Addr}
    (X : K.In h) (G : h.Ns mainGlobals mg) (hfa : mg "law" = some (.ref fa)) (htab : h.get? tP = some { cls := .none, data := .fields #[] })
    (n_ValueError : PySem.W.nsIn K mainGlobals "ValueError" = some none)
    (n_abs : PySem.W.nsIn K mainGlobals "abs" = some none)
    (n_all : PySem.W.nsIn K mainGlobals "all" = some none)
    (n_enumerate : PySem.W.nsIn K mainGlobals "enumerate" = some none)
    (n_int : PySem.W.nsIn K mainGlobals "int" = some none)
    (n_len : PySem.W.nsIn K mainGlobals "len" = some none)
    (n_list : PySem.W.nsIn K mainGlobals "list" = some none)
    (n_max : PySem.W.nsIn K mainGlobals "max" = some none)
    (n_min : PySem.W.nsIn K mainGlobals "min" = some none)
    (n_range : PySem.W.nsIn K mainGlobals "range" = some none)
    (n_sorted : PySem.W.nsIn K mainGlobals "sorted" = some none)
    (c_LEAST : PySem.W.nsIn K mainGlobals "LEAST" = some (some (.int 3 u_LEAST)))
    (c_MOST : PySem.W.nsIn K mainGlobals "MOST" = some (some (.int 9 u_MOST)))
    (c_MOST_THRESHOLD : PySem.W.nsIn K mainGlobals "MOST_THRESHOLD" = some (some (.int 1000000 u_MOST_THRESHOLD)))
    (c_MOST_COUNT : PySem.W.nsIn K mainGlobals "MOST_COUNT" = some (some (.int 1000 u_MOST_COUNT)))
    (c_MOST_VALUE : PySem.W.nsIn K mainGlobals "MOST_VALUE" = some (some (.int 1000000000 u_MOST_VALUE)))
    (g_VoteError : PySem.W.nsIn K mainGlobals "VoteError" = some (some (.ref C_VoteError)))
    (g_BadSettings : PySem.W.nsIn K mainGlobals "BadSettings" = some (some (.ref C_BadSettings)))
    (g_BadStep : PySem.W.nsIn K mainGlobals "BadStep" = some (some (.ref C_BadStep)))
    (g_NoSensor : PySem.W.nsIn K mainGlobals "NoSensor" = some (some (.ref C_NoSensor)))
    (g_Sensor : PySem.W.nsIn K mainGlobals "Sensor" = some (some (.ref C_Sensor)))
    (g_Voter : PySem.W.nsIn K mainGlobals "Voter" = some (some (.ref C_Voter)))
    (x_VoteError : PySem.W.excIn K C_VoteError [.type "ValueError", .type "Exception", .type "BaseException", .type "object"] "ValueError.__new__" = true)
    (k_VoteError : PySem.W.keepIn K (.ref C_VoteError) = true)
    (xb_VoteError : PySem.W.subIn K (.ref C_VoteError) (.type "BaseException") = some true)
    (xt_VoteError : PySem.W.typeIn K (.ref C_VoteError) = some (.type "type"))
    (xi_VoteError : PySem.W.isClsIn K C_VoteError = true)
    (xs_VoteError_VoteError : PySem.W.subIn K (.ref C_VoteError) (.ref C_VoteError) = some true)
    (xs_VoteError_BadSettings : PySem.W.subIn K (.ref C_VoteError) (.ref C_BadSettings) = some false)
    (xs_VoteError_BadStep : PySem.W.subIn K (.ref C_VoteError) (.ref C_BadStep) = some false)
    (xs_VoteError_NoSensor : PySem.W.subIn K (.ref C_VoteError) (.ref C_NoSensor) = some false)
    (x_BadSettings : PySem.W.excIn K C_BadSettings [.type "ValueError", .type "Exception", .type "BaseException", .type "object"] "ValueError.__new__" = true)
    (k_BadSettings : PySem.W.keepIn K (.ref C_BadSettings) = true)
    (xb_BadSettings : PySem.W.subIn K (.ref C_BadSettings) (.type "BaseException") = some true)
    (xt_BadSettings : PySem.W.typeIn K (.ref C_BadSettings) = some (.type "type"))
    (xi_BadSettings : PySem.W.isClsIn K C_BadSettings = true)
    (xs_BadSettings_VoteError : PySem.W.subIn K (.ref C_BadSettings) (.ref C_VoteError) = some true)
    (xs_BadSettings_BadSettings : PySem.W.subIn K (.ref C_BadSettings) (.ref C_BadSettings) = some true)
    (xs_BadSettings_BadStep : PySem.W.subIn K (.ref C_BadSettings) (.ref C_BadStep) = some false)
    (xs_BadSettings_NoSensor : PySem.W.subIn K (.ref C_BadSettings) (.ref C_NoSensor) = some false)
    (x_BadStep : PySem.W.excIn K C_BadStep [.type "ValueError", .type "Exception", .type "BaseException", .type "object"] "ValueError.__new__" = true)
    (k_BadStep : PySem.W.keepIn K (.ref C_BadStep) = true)
    (xb_BadStep : PySem.W.subIn K (.ref C_BadStep) (.type "BaseException") = some true)
    (xt_BadStep : PySem.W.typeIn K (.ref C_BadStep) = some (.type "type"))
    (xi_BadStep : PySem.W.isClsIn K C_BadStep = true)
    (xs_BadStep_VoteError : PySem.W.subIn K (.ref C_BadStep) (.ref C_VoteError) = some true)
    (xs_BadStep_BadSettings : PySem.W.subIn K (.ref C_BadStep) (.ref C_BadSettings) = some false)
    (xs_BadStep_BadStep : PySem.W.subIn K (.ref C_BadStep) (.ref C_BadStep) = some true)
    (xs_BadStep_NoSensor : PySem.W.subIn K (.ref C_BadStep) (.ref C_NoSensor) = some false)
    (x_NoSensor : PySem.W.excIn K C_NoSensor [.type "ValueError", .type "Exception", .type "BaseException", .type "object"] "ValueError.__new__" = true)
    (k_NoSensor : PySem.W.keepIn K (.ref C_NoSensor) = true)
    (xb_NoSensor : PySem.W.subIn K (.ref C_NoSensor) (.type "BaseException") = some true)
    (xt_NoSensor : PySem.W.typeIn K (.ref C_NoSensor) = some (.type "type"))
    (xi_NoSensor : PySem.W.isClsIn K C_NoSensor = true)
    (xs_NoSensor_VoteError : PySem.W.subIn K (.ref C_NoSensor) (.ref C_VoteError) = some true)
    (xs_NoSensor_BadSettings : PySem.W.subIn K (.ref C_NoSensor) (.ref C_BadSettings) = some false)
    (xs_NoSensor_BadStep : PySem.W.subIn K (.ref C_NoSensor) (.ref C_BadStep) = some false)
    (xs_NoSensor_NoSensor : PySem.W.subIn K (.ref C_NoSensor) (.ref C_NoSensor) = some true)
    (pg_Sensor : PySem.W.plainGet K C_Sensor Str.empty = true)
    (hd_Sensor : PySem.W.hasDictIn K C_Sensor = true)
    (po_Sensor : PySem.W.plainOver K C_Sensor = true)
    (sa_Sensor : PySem.W.findIn K (.ref C_Sensor) "__setattr__" = some (some (.builtin "object.__setattr__")))
    (mk_Sensor : PySem.W.makesIn K C_Sensor = true)
    (kc_Sensor : PySem.W.keepIn K (.ref C_Sensor) = true)
    (na_Sensor_is_out : PySem.W.findIn K (.ref C_Sensor) "is_out" = some none)
    (na_Sensor_many : PySem.W.findIn K (.ref C_Sensor) "many" = some none)
    (pg_Voter : PySem.W.plainGet K C_Voter Str.empty = true)
    (hd_Voter : PySem.W.hasDictIn K C_Voter = true)
    (po_Voter : PySem.W.plainOver K C_Voter = true)
    (sa_Voter : PySem.W.findIn K (.ref C_Voter) "__setattr__" = some (some (.builtin "object.__setattr__")))
    (mk_Voter : PySem.W.makesIn K C_Voter = true)
    (kc_Voter : PySem.W.keepIn K (.ref C_Voter) = true)
    (na_Voter_threshold : PySem.W.findIn K (.ref C_Voter) "threshold" = some none)
    (na_Voter_rate : PySem.W.findIn K (.ref C_Voter) "rate" = some none)
    (na_Voter_misses : PySem.W.findIn K (.ref C_Voter) "misses" = some none)
    (na_Voter_backs : PySem.W.findIn K (.ref C_Voter) "backs" = some none)
    (na_Voter_sensors : PySem.W.findIn K (.ref C_Voter) "sensors" = some none)
    (na_Voter_last : PySem.W.findIn K (.ref C_Voter) "last" = some none)
    (a_middle : PySem.W.nsIn K mainGlobals "middle" = some (some (.ref f_middle)))
    (l_middle : K.lookup f_middle = some ⟨oc_middle, od_middle, .func (PySem.W.fnOf "middle" "middle" (defArgs s_middle) (defBody s_middle) (defScope s_middle) .none kV_middle dc_middle pm_middle an_middle cd_middle ct_middle), sl_middle⟩)
    (o_middle : PySem.W.codeIn K cd_middle "middle" = true)
    (k_middle : PySem.W.keepIn K (.ref f_middle) = true)
    (a_moved : PySem.W.nsIn K mainGlobals "moved" = some (some (.ref f_moved)))
    (l_moved : K.lookup f_moved = some ⟨oc_moved, od_moved, .func (PySem.W.fnOf "moved" "moved" (defArgs s_moved) (defBody s_moved) (defScope s_moved) .none kV_moved dc_moved pm_moved an_moved cd_moved ct_moved), sl_moved⟩)
    (o_moved : PySem.W.codeIn K cd_moved "moved" = true)
    (k_moved : PySem.W.keepIn K (.ref f_moved) = true)
    (a_agree : PySem.W.nsIn K mainGlobals "agree" = some (some (.ref f_agree)))
    (l_agree : K.lookup f_agree = some ⟨oc_agree, od_agree, .func (PySem.W.fnOf "agree" "agree" (defArgs s_agree) (defBody s_agree) (defScope s_agree) .none kV_agree dc_agree pm_agree an_agree cd_agree ct_agree), sl_agree⟩)
    (o_agree : PySem.W.codeIn K cd_agree "agree" = true)
    (k_agree : PySem.W.keepIn K (.ref f_agree) = true)
    (a_need_settings : PySem.W.nsIn K mainGlobals "need_settings" = some (some (.ref f_need_settings)))
    (l_need_settings : K.lookup f_need_settings = some ⟨oc_need_settings, od_need_settings, .func (PySem.W.fnOf "need_settings" "need_settings" (defArgs s_need_settings) (defBody s_need_settings) (defScope s_need_settings) .none kV_need_settings dc_need_settings pm_need_settings an_need_settings cd_need_settings ct_need_settings), sl_need_settings⟩)
    (o_need_settings : PySem.W.codeIn K cd_need_settings "need_settings" = true)
    (k_need_settings : PySem.W.keepIn K (.ref f_need_settings) = true)
    (a_need_step : PySem.W.nsIn K mainGlobals "need_step" = some (some (.ref f_need_step)))
    (l_need_step : K.lookup f_need_step = some ⟨oc_need_step, od_need_step, .func (PySem.W.fnOf "need_step" "need_step" (defArgs s_need_step) (defBody s_need_step) (defScope s_need_step) .none kV_need_step dc_need_step pm_need_step an_need_step cd_need_step ct_need_step), sl_need_step⟩)
    (o_need_step : PySem.W.codeIn K cd_need_step "need_step" = true)
    (k_need_step : PySem.W.keepIn K (.ref f_need_step) = true)
    (a_Sensor_init : PySem.W.findIn K (.ref C_Sensor) "__init__" = some (some (.ref f_Sensor_init)))
    (i_Sensor_init : PySem.W.isFn K (.ref f_Sensor_init) = true)
    (l_Sensor_init : K.lookup f_Sensor_init = some ⟨oc_Sensor_init, od_Sensor_init, .func (PySem.W.fnOf "__init__" "Sensor.__init__" (defArgs s_Sensor_init) (defBody s_Sensor_init) (defScope s_Sensor_init) .none kV_Sensor_init dc_Sensor_init pm_Sensor_init an_Sensor_init cd_Sensor_init ct_Sensor_init), sl_Sensor_init⟩)
    (o_Sensor_init : PySem.W.codeIn K cd_Sensor_init "Sensor.__init__" = true)
    (k_Sensor_init : PySem.W.keepIn K (.ref f_Sensor_init) = true)
    (a_Voter_init : PySem.W.findIn K (.ref C_Voter) "__init__" = some (some (.ref f_Voter_init)))
    (i_Voter_init : PySem.W.isFn K (.ref f_Voter_init) = true)
    (l_Voter_init : K.lookup f_Voter_init = some ⟨oc_Voter_init, od_Voter_init, .func (PySem.W.fnOf "__init__" "Voter.__init__" (defArgs s_Voter_init) (defBody s_Voter_init) (defScope s_Voter_init) .none kV_Voter_init dc_Voter_init pm_Voter_init an_Voter_init cd_Voter_init ct_Voter_init), sl_Voter_init⟩)
    (o_Voter_init : PySem.W.codeIn K cd_Voter_init "Voter.__init__" = true)
    (k_Voter_init : PySem.W.keepIn K (.ref f_Voter_init) = true)
    (a_Voter_sensor : PySem.W.findIn K (.ref C_Voter) "sensor" = some (some (.ref f_Voter_sensor)))
    (i_Voter_sensor : PySem.W.isFn K (.ref f_Voter_sensor) = true)
    (l_Voter_sensor : K.lookup f_Voter_sensor = some ⟨oc_Voter_sensor, od_Voter_sensor, .func (PySem.W.fnOf "sensor" "Voter.sensor" (defArgs s_Voter_sensor) (defBody s_Voter_sensor) (defScope s_Voter_sensor) .none kV_Voter_sensor dc_Voter_sensor pm_Voter_sensor an_Voter_sensor cd_Voter_sensor ct_Voter_sensor), sl_Voter_sensor⟩)
    (o_Voter_sensor : PySem.W.codeIn K cd_Voter_sensor "Voter.sensor" = true)
    (k_Voter_sensor : PySem.W.keepIn K (.ref f_Voter_sensor) = true)
    (a_Voter_state : PySem.W.findIn K (.ref C_Voter) "state" = some (some (.ref f_Voter_state)))
    (i_Voter_state : PySem.W.isFn K (.ref f_Voter_state) = true)
    (l_Voter_state : K.lookup f_Voter_state = some ⟨oc_Voter_state, od_Voter_state, .func (PySem.W.fnOf "state" "Voter.state" (defArgs s_Voter_state) (defBody s_Voter_state) (defScope s_Voter_state) .none kV_Voter_state dc_Voter_state pm_Voter_state an_Voter_state cd_Voter_state ct_Voter_state), sl_Voter_state⟩)
    (o_Voter_state : PySem.W.codeIn K cd_Voter_state "Voter.state" = true)
    (k_Voter_state : PySem.W.keepIn K (.ref f_Voter_state) = true)
    (a_Voter_word : PySem.W.findIn K (.ref C_Voter) "word" = some (some (.ref f_Voter_word)))
    (i_Voter_word : PySem.W.isFn K (.ref f_Voter_word) = true)
    (l_Voter_word : K.lookup f_Voter_word = some ⟨oc_Voter_word, od_Voter_word, .func (PySem.W.fnOf "word" "Voter.word" (defArgs s_Voter_word) (defBody s_Voter_word) (defScope s_Voter_word) .none kV_Voter_word dc_Voter_word pm_Voter_word an_Voter_word cd_Voter_word ct_Voter_word), sl_Voter_word⟩)
    (o_Voter_word : PySem.W.codeIn K cd_Voter_word "Voter.word" = true)
    (k_Voter_word : PySem.W.keepIn K (.ref f_Voter_word) = true)
    (a_Voter_is_close : PySem.W.findIn K (.ref C_Voter) "is_close" = some (some (.ref f_Voter_is_close)))
    (i_Voter_is_close : PySem.W.isFn K (.ref f_Voter_is_close) = true)
    (l_Voter_is_close : K.lookup f_Voter_is_close = some ⟨oc_Voter_is_close, od_Voter_is_close, .func (PySem.W.fnOf "is_close" "Voter.is_close" (defArgs s_Voter_is_close) (defBody s_Voter_is_close) (defScope s_Voter_is_close) .none kV_Voter_is_close dc_Voter_is_close pm_Voter_is_close an_Voter_is_close cd_Voter_is_close ct_Voter_is_close), sl_Voter_is_close⟩)
    (o_Voter_is_close : PySem.W.codeIn K cd_Voter_is_close "Voter.is_close" = true)
    (k_Voter_is_close : PySem.W.keepIn K (.ref f_Voter_is_close) = true)
    (a_Voter_watch : PySem.W.findIn K (.ref C_Voter) "watch" = some (some (.ref f_Voter_watch)))
    (i_Voter_watch : PySem.W.isFn K (.ref f_Voter_watch) = true)
    (l_Voter_watch : K.lookup f_Voter_watch = some ⟨oc_Voter_watch, od_Voter_watch, .func (PySem.W.fnOf "watch" "Voter.watch" (defArgs s_Voter_watch) (defBody s_Voter_watch) (defScope s_Voter_watch) .none kV_Voter_watch dc_Voter_watch pm_Voter_watch an_Voter_watch cd_Voter_watch ct_Voter_watch), sl_Voter_watch⟩)
    (o_Voter_watch : PySem.W.codeIn K cd_Voter_watch "Voter.watch" = true)
    (k_Voter_watch : PySem.W.keepIn K (.ref f_Voter_watch) = true)
    (a_Voter_wait : PySem.W.findIn K (.ref C_Voter) "wait" = some (some (.ref f_Voter_wait)))
    (i_Voter_wait : PySem.W.isFn K (.ref f_Voter_wait) = true)
    (l_Voter_wait : K.lookup f_Voter_wait = some ⟨oc_Voter_wait, od_Voter_wait, .func (PySem.W.fnOf "wait" "Voter.wait" (defArgs s_Voter_wait) (defBody s_Voter_wait) (defScope s_Voter_wait) .none kV_Voter_wait dc_Voter_wait pm_Voter_wait an_Voter_wait cd_Voter_wait ct_Voter_wait), sl_Voter_wait⟩)
    (o_Voter_wait : PySem.W.codeIn K cd_Voter_wait "Voter.wait" = true)
    (k_Voter_wait : PySem.W.keepIn K (.ref f_Voter_wait) = true)
    (a_Voter_step : PySem.W.findIn K (.ref C_Voter) "step" = some (some (.ref f_Voter_step)))
    (i_Voter_step : PySem.W.isFn K (.ref f_Voter_step) = true)
    (l_Voter_step : K.lookup f_Voter_step = some ⟨oc_Voter_step, od_Voter_step, .func (PySem.W.fnOf "step" "Voter.step" (defArgs s_Voter_step) (defBody s_Voter_step) (defScope s_Voter_step) .none kV_Voter_step dc_Voter_step pm_Voter_step an_Voter_step cd_Voter_step ct_Voter_step), sl_Voter_step⟩)
    (o_Voter_step : PySem.W.codeIn K cd_Voter_step "Voter.step" = true)
    (k_Voter_step : PySem.W.keepIn K (.ref f_Voter_step) = true)
    (a_l_cell : PySem.W.nsIn K mainGlobals "_law_cell" = some (some (.ref f_l_cell)))
    (l_l_cell : K.lookup f_l_cell = some ⟨oc_l_cell, od_l_cell, .func (PySem.W.fnOf "_law_cell" "_law_cell" (defArgs s_l_cell) (defBody s_l_cell) (defScope s_l_cell) .none kV_l_cell dc_l_cell pm_l_cell an_l_cell cd_l_cell ct_l_cell), sl_l_cell⟩)
    (o_l_cell : PySem.W.codeIn K cd_l_cell "_law_cell" = true)
    (k_l_cell : PySem.W.keepIn K (.ref f_l_cell) = true)
    (a_l_drawn : PySem.W.nsIn K mainGlobals "_law_drawn" = some (some (.ref f_l_drawn)))
    (l_l_drawn : K.lookup f_l_drawn = some ⟨oc_l_drawn, od_l_drawn, .func (PySem.W.fnOf "_law_drawn" "_law_drawn" (defArgs s_l_drawn) (defBody s_l_drawn) (defScope s_l_drawn) .none kV_l_drawn dc_l_drawn pm_l_drawn an_l_drawn cd_l_drawn ct_l_drawn), sl_l_drawn⟩)
    (o_l_drawn : PySem.W.codeIn K cd_l_drawn "_law_drawn" = true)
    (k_l_drawn : PySem.W.keepIn K (.ref f_l_drawn) = true)
    (a_l_settings : PySem.W.nsIn K mainGlobals "_law_settings" = some (some (.ref f_l_settings)))
    (l_l_settings : K.lookup f_l_settings = some ⟨oc_l_settings, od_l_settings, .func (PySem.W.fnOf "_law_settings" "_law_settings" (defArgs s_l_settings) (defBody s_l_settings) (defScope s_l_settings) .none kV_l_settings dc_l_settings pm_l_settings an_l_settings cd_l_settings ct_l_settings), sl_l_settings⟩)
    (o_l_settings : PySem.W.codeIn K cd_l_settings "_law_settings" = true)
    (k_l_settings : PySem.W.keepIn K (.ref f_l_settings) = true)
    (a_l_said : PySem.W.nsIn K mainGlobals "_law_said" = some (some (.ref f_l_said)))
    (l_l_said : K.lookup f_l_said = some ⟨oc_l_said, od_l_said, .func (PySem.W.fnOf "_law_said" "_law_said" (defArgs s_l_said) (defBody s_l_said) (defScope s_l_said) .none kV_l_said dc_l_said pm_l_said an_l_said cd_l_said ct_l_said), sl_l_said⟩)
    (o_l_said : PySem.W.codeIn K cd_l_said "_law_said" = true)
    (k_l_said : PySem.W.keepIn K (.ref f_l_said) = true)
    (a_law : PySem.W.nsIn K mainGlobals "law" = some (some (.ref f_law)))
    (l_law : K.lookup f_law = some ⟨oc_law, od_law, .func (PySem.W.fnOf "law" "law" (defArgs s_law) (defBody s_law) (defScope s_law) .none kV_law dc_law pm_law an_law (.ref cd_law) ct_law), sl_law⟩)
    (o_law : PySem.W.codeIn K (.ref cd_law) "law" = true)
    (ch_law : PySem.W.codeHdIn K cd_law tP = true)
    (nt_law : K.lookup tP = none)
    (k_law : PySem.W.keepIn K (.ref f_law) = true) :
    LawAtS l w K CX0 5 63 "_law_script" mg fa h := by
  have e := hfa.symm.trans (PySem.W.mg_of X G a_law)
  cases e
  have F_middle := fun_mk (st := s_middle) l_middle o_middle k_middle
  have b_middle := F_middle.binds (ps := ["numbers", "near"]) fun _ _ _ _ _ _ us hl => match us, hl with | [_, _], _ => rfl
  have F_moved := fun_mk (st := s_moved) l_moved o_moved k_moved
  have b_moved := F_moved.binds (ps := ["one", "goal", "most"]) fun _ _ _ _ _ _ us hl => match us, hl with | [_, _, _], _ => rfl
  have F_agree := fun_mk (st := s_agree) l_agree o_agree k_agree
  have b_agree := F_agree.binds (ps := ["numbers", "value", "threshold"]) fun _ _ _ _ _ _ us hl => match us, hl with | [_, _, _], _ => rfl
  have F_need_settings := fun_mk (st := s_need_settings) l_need_settings o_need_settings k_need_settings
  have b_need_settings := F_need_settings.binds (ps := ["settings"]) fun _ _ _ _ _ _ us hl => match us, hl with | [_], _ => rfl
  have F_need_step := fun_mk (st := s_need_step) l_need_step o_need_step k_need_step
  have b_need_step := F_need_step.binds (ps := ["values", "many"]) fun _ _ _ _ _ _ us hl => match us, hl with | [_, _], _ => rfl
  have F_Sensor_init := fun_mk (st := s_Sensor_init) l_Sensor_init o_Sensor_init k_Sensor_init
  have b_Sensor_init := F_Sensor_init.binds (ps := ["self"]) fun _ _ _ _ _ _ us hl => match us, hl with | [_], _ => rfl
  have F_Voter_init := fun_mk (st := s_Voter_init) l_Voter_init o_Voter_init k_Voter_init
  have b_Voter_init := F_Voter_init.binds (ps := ["self", "settings", "start"]) fun _ _ _ _ _ _ us hl => match us, hl with | [_, _, _], _ => rfl
  have F_Voter_sensor := fun_mk (st := s_Voter_sensor) l_Voter_sensor o_Voter_sensor k_Voter_sensor
  have b_Voter_sensor := F_Voter_sensor.binds (ps := ["self", "place"]) fun _ _ _ _ _ _ us hl => match us, hl with | [_, _], _ => rfl
  have F_Voter_state := fun_mk (st := s_Voter_state) l_Voter_state o_Voter_state k_Voter_state
  have b_Voter_state := F_Voter_state.binds (ps := ["self", "place"]) fun _ _ _ _ _ _ us hl => match us, hl with | [_, _], _ => rfl
  have F_Voter_word := fun_mk (st := s_Voter_word) l_Voter_word o_Voter_word k_Voter_word
  have b_Voter_word := F_Voter_word.binds (ps := ["self", "numbers", "value"]) fun _ _ _ _ _ _ us hl => match us, hl with | [_, _, _], _ => rfl
  have F_Voter_is_close := fun_mk (st := s_Voter_is_close) l_Voter_is_close o_Voter_is_close k_Voter_is_close
  have b_Voter_is_close := F_Voter_is_close.binds (ps := ["self", "thing", "value"]) fun _ _ _ _ _ _ us hl => match us, hl with | [_, _, _], _ => rfl
  have F_Voter_watch := fun_mk (st := s_Voter_watch) l_Voter_watch o_Voter_watch k_Voter_watch
  have b_Voter_watch := F_Voter_watch.binds (ps := ["self", "one", "is_close"]) fun _ _ _ _ _ _ us hl => match us, hl with | [_, _, _], _ => rfl
  have F_Voter_wait := fun_mk (st := s_Voter_wait) l_Voter_wait o_Voter_wait k_Voter_wait
  have b_Voter_wait := F_Voter_wait.binds (ps := ["self", "one", "is_close"]) fun _ _ _ _ _ _ us hl => match us, hl with | [_, _, _], _ => rfl
  have F_Voter_step := fun_mk (st := s_Voter_step) l_Voter_step o_Voter_step k_Voter_step
  have b_Voter_step := F_Voter_step.binds (ps := ["self", "values"]) fun _ _ _ _ _ _ us hl => match us, hl with | [_, _], _ => rfl
  have F_l_cell := fun_mk (st := s_l_cell) l_l_cell o_l_cell k_l_cell
  have b_l_cell := F_l_cell.binds (ps := ["_law_script", "_law_k"]) fun _ _ _ _ _ _ us hl => match us, hl with | [_, _], _ => rfl
  have F_l_drawn := fun_mk (st := s_l_drawn) l_l_drawn o_l_drawn k_l_drawn
  have b_l_drawn := F_l_drawn.binds (ps := ["_law_cell_here", "_law_k"]) fun _ _ _ _ _ _ us hl => match us, hl with | [_, _], _ => rfl
  have F_l_settings := fun_mk (st := s_l_settings) l_l_settings o_l_settings k_l_settings
  have b_l_settings := F_l_settings.binds (ps := ["_law_more"]) fun _ _ _ _ _ _ us hl => match us, hl with | [_], _ => rfl
  have F_l_said := fun_mk (st := s_l_said) l_l_said o_l_said k_l_said
  have b_l_said := F_l_said.binds (ps := ["_law_more", "_law_way", "_law_rights", "_law_threshold"]) fun _ _ _ _ _ _ us hl => match us, hl with | [_, _, _, _], _ => rfl
  have F_law := fun_mk (st := s_law) l_law o_law k_law
  have b_law := F_law.binds (ps := ["_law_script"]) fun _ _ _ _ _ _ us hl => match us, hl with | [_], _ => rfl
  have T : Txt K mg { cd_law := cd_law, P_law := tP, c_VoteError := C_VoteError, c_BadSettings := C_BadSettings, c_BadStep := C_BadStep, c_NoSensor := C_NoSensor, c_Sensor := C_Sensor, c_Voter := C_Voter, f_middle := f_middle, d_middle := _, f_moved := f_moved, d_moved := _, f_agree := f_agree, d_agree := _, f_need_settings := f_need_settings, d_need_settings := _, f_need_step := f_need_step, d_need_step := _, f_Sensor_init := f_Sensor_init, d_Sensor_init := _, f_Voter_init := f_Voter_init, d_Voter_init := _, f_Voter_sensor := f_Voter_sensor, d_Voter_sensor := _, f_Voter_state := f_Voter_state, d_Voter_state := _, f_Voter_word := f_Voter_word, d_Voter_word := _, f_Voter_is_close := f_Voter_is_close, d_Voter_is_close := _, f_Voter_watch := f_Voter_watch, d_Voter_watch := _, f_Voter_wait := f_Voter_wait, d_Voter_wait := _, f_Voter_step := f_Voter_step, d_Voter_step := _, f_l_cell := f_l_cell, d_l_cell := _, f_l_drawn := f_l_drawn, d_l_drawn := _, f_l_settings := f_l_settings, d_l_settings := _, f_l_said := f_l_said, d_l_said := _, f_law := fa, d_law := _ } :=
    { n_ValueError := PySem.W.mg_none_of X G n_ValueError,
      n_abs := PySem.W.mg_none_of X G n_abs,
      n_all := PySem.W.mg_none_of X G n_all,
      n_enumerate := PySem.W.mg_none_of X G n_enumerate,
      n_int := PySem.W.mg_none_of X G n_int,
      n_len := PySem.W.mg_none_of X G n_len,
      n_list := PySem.W.mg_none_of X G n_list,
      n_max := PySem.W.mg_none_of X G n_max,
      n_min := PySem.W.mg_none_of X G n_min,
      n_range := PySem.W.mg_none_of X G n_range,
      n_sorted := PySem.W.mg_none_of X G n_sorted,
      c_LEAST := ⟨_, PySem.W.mg_of X G c_LEAST⟩,
      c_MOST := ⟨_, PySem.W.mg_of X G c_MOST⟩,
      c_MOST_THRESHOLD := ⟨_, PySem.W.mg_of X G c_MOST_THRESHOLD⟩,
      c_MOST_COUNT := ⟨_, PySem.W.mg_of X G c_MOST_COUNT⟩,
      c_MOST_VALUE := ⟨_, PySem.W.mg_of X G c_MOST_VALUE⟩,
      g_VoteError := PySem.W.mg_of X G g_VoteError,
      x_VoteError := x_VoteError, k_VoteError := k_VoteError, xb_VoteError := xb_VoteError, xt_VoteError := xt_VoteError, xi_VoteError := xi_VoteError,
      xs_VoteError_VoteError := xs_VoteError_VoteError,
      xs_VoteError_BadSettings := xs_VoteError_BadSettings,
      xs_VoteError_BadStep := xs_VoteError_BadStep,
      xs_VoteError_NoSensor := xs_VoteError_NoSensor,
      g_BadSettings := PySem.W.mg_of X G g_BadSettings,
      x_BadSettings := x_BadSettings, k_BadSettings := k_BadSettings, xb_BadSettings := xb_BadSettings, xt_BadSettings := xt_BadSettings, xi_BadSettings := xi_BadSettings,
      xs_BadSettings_VoteError := xs_BadSettings_VoteError,
      xs_BadSettings_BadSettings := xs_BadSettings_BadSettings,
      xs_BadSettings_BadStep := xs_BadSettings_BadStep,
      xs_BadSettings_NoSensor := xs_BadSettings_NoSensor,
      g_BadStep := PySem.W.mg_of X G g_BadStep,
      x_BadStep := x_BadStep, k_BadStep := k_BadStep, xb_BadStep := xb_BadStep, xt_BadStep := xt_BadStep, xi_BadStep := xi_BadStep,
      xs_BadStep_VoteError := xs_BadStep_VoteError,
      xs_BadStep_BadSettings := xs_BadStep_BadSettings,
      xs_BadStep_BadStep := xs_BadStep_BadStep,
      xs_BadStep_NoSensor := xs_BadStep_NoSensor,
      g_NoSensor := PySem.W.mg_of X G g_NoSensor,
      x_NoSensor := x_NoSensor, k_NoSensor := k_NoSensor, xb_NoSensor := xb_NoSensor, xt_NoSensor := xt_NoSensor, xi_NoSensor := xi_NoSensor,
      xs_NoSensor_VoteError := xs_NoSensor_VoteError,
      xs_NoSensor_BadSettings := xs_NoSensor_BadSettings,
      xs_NoSensor_BadStep := xs_NoSensor_BadStep,
      xs_NoSensor_NoSensor := xs_NoSensor_NoSensor,
      g_Sensor := PySem.W.mg_of X G g_Sensor,
      cl_Sensor := ⟨pg_Sensor, hd_Sensor, po_Sensor, sa_Sensor⟩,
      mk_Sensor := ⟨mk_Sensor, a_Sensor_init, i_Sensor_init, kc_Sensor⟩,
      na_Sensor_is_out := na_Sensor_is_out,
      na_Sensor_many := na_Sensor_many,
      g_Voter := PySem.W.mg_of X G g_Voter,
      cl_Voter := ⟨pg_Voter, hd_Voter, po_Voter, sa_Voter⟩,
      mk_Voter := ⟨mk_Voter, a_Voter_init, i_Voter_init, kc_Voter⟩,
      na_Voter_threshold := na_Voter_threshold,
      na_Voter_rate := na_Voter_rate,
      na_Voter_misses := na_Voter_misses,
      na_Voter_backs := na_Voter_backs,
      na_Voter_sensors := na_Voter_sensors,
      na_Voter_last := na_Voter_last,
      F_middle := F_middle, b_middle := b_middle,
      g_middle := PySem.W.mg_of X G a_middle,
      F_moved := F_moved, b_moved := b_moved,
      g_moved := PySem.W.mg_of X G a_moved,
      F_agree := F_agree, b_agree := b_agree,
      g_agree := PySem.W.mg_of X G a_agree,
      F_need_settings := F_need_settings, b_need_settings := b_need_settings,
      g_need_settings := PySem.W.mg_of X G a_need_settings,
      F_need_step := F_need_step, b_need_step := b_need_step,
      g_need_step := PySem.W.mg_of X G a_need_step,
      F_Sensor_init := F_Sensor_init, b_Sensor_init := b_Sensor_init,
      F_Voter_init := F_Voter_init, b_Voter_init := b_Voter_init,
      F_Voter_sensor := F_Voter_sensor, b_Voter_sensor := b_Voter_sensor,
      m_Voter_sensor := ⟨a_Voter_sensor, i_Voter_sensor, k_Voter_sensor⟩,
      F_Voter_state := F_Voter_state, b_Voter_state := b_Voter_state,
      m_Voter_state := ⟨a_Voter_state, i_Voter_state, k_Voter_state⟩,
      F_Voter_word := F_Voter_word, b_Voter_word := b_Voter_word,
      m_Voter_word := ⟨a_Voter_word, i_Voter_word, k_Voter_word⟩,
      F_Voter_is_close := F_Voter_is_close, b_Voter_is_close := b_Voter_is_close,
      m_Voter_is_close := ⟨a_Voter_is_close, i_Voter_is_close, k_Voter_is_close⟩,
      F_Voter_watch := F_Voter_watch, b_Voter_watch := b_Voter_watch,
      m_Voter_watch := ⟨a_Voter_watch, i_Voter_watch, k_Voter_watch⟩,
      F_Voter_wait := F_Voter_wait, b_Voter_wait := b_Voter_wait,
      m_Voter_wait := ⟨a_Voter_wait, i_Voter_wait, k_Voter_wait⟩,
      F_Voter_step := F_Voter_step, b_Voter_step := b_Voter_step,
      m_Voter_step := ⟨a_Voter_step, i_Voter_step, k_Voter_step⟩,
      F_l_cell := F_l_cell, b_l_cell := b_l_cell,
      g_l_cell := PySem.W.mg_of X G a_l_cell,
      F_l_drawn := F_l_drawn, b_l_drawn := b_l_drawn,
      g_l_drawn := PySem.W.mg_of X G a_l_drawn,
      F_l_settings := F_l_settings, b_l_settings := b_l_settings,
      g_l_settings := PySem.W.mg_of X G a_l_settings,
      F_l_said := F_l_said, b_l_said := b_l_said,
      g_l_said := PySem.W.mg_of X G a_l_said,
      FC_law := ⟨⟨_, _, _, _, _, _, _, _, rfl, l_law, o_law⟩⟩,
      F_law := F_law, b_law := b_law,
      g_law := PySem.W.mg_of X G a_law }
  exact ⟨PySem.W.fnOf "law" "law" (defArgs s_law) (defBody s_law) (defScope s_law) .none kV_law dc_law pm_law an_law (.ref cd_law) ct_law, [(cd_law, tP)], spLT K tP, fun p hp => by rw [List.mem_singleton.mp hp]; exact htab, fun p hp => by rw [List.mem_singleton.mp hp]; exact nt_law, fun p hp => by rw [List.mem_singleton.mp hp]; exact PySem.W.codeHd_of_K X ch_law, fun s v => .of_eq rfl, fun H a ns hl _ hH hS => ⟨a, ns, rfl, hS, hl, hH _ (List.mem_singleton.mpr rfl), fun _ => rfl⟩, fun base _ _ TB => ok_all T (TB _ (List.mem_singleton.mpr rfl))⟩
end MV
open PySem PySem.W PyProof.Rows
set_option maxHeartbeats 0 in
theorem PySem.Challenge.cw_midvalue_k15_whole_liars_found_holds : PySem.Challenge.rw_midvalue_k15_whole_liars_found.Holds := by
  w_on; o_law; k_head; (case hw => w_witness2)
  k_fill
  refine LamX.walk_ofTs (l := PySem.Challenge.rw_midvalue_k15_whole_liars_found) (n := 63) (k := 5) (x := "_law_script") (CX := fun _ => L2.CX0) rfl (by decide) rfl ⟨rfl, by decide, by decide⟩ (fun w h Y => PySem.W.km_in_of Y) ?F (fun _ _ _ _ _ h => h)
  case F =>
    intro w mg fa h Y KX G hmg
    refine' MV.fin_mk KX G hmg (PySem.W.km_tabs_of Y _ (List.mem_singleton.mpr rfl)) ?n_ValueError ?n_abs ?n_all ?n_enumerate ?n_int ?n_len ?n_list ?n_max ?n_min ?n_range ?n_sorted ?c_LEAST ?c_MOST ?c_MOST_THRESHOLD ?c_MOST_COUNT ?c_MOST_VALUE ?g_VoteError ?g_BadSettings ?g_BadStep ?g_NoSensor ?g_Sensor ?g_Voter ?x_VoteError ?k_VoteError ?xb_VoteError ?xt_VoteError ?xi_VoteError ?xs_VoteError_VoteError ?xs_VoteError_BadSettings ?xs_VoteError_BadStep ?xs_VoteError_NoSensor ?x_BadSettings ?k_BadSettings ?xb_BadSettings ?xt_BadSettings ?xi_BadSettings ?xs_BadSettings_VoteError ?xs_BadSettings_BadSettings ?xs_BadSettings_BadStep ?xs_BadSettings_NoSensor ?x_BadStep ?k_BadStep ?xb_BadStep ?xt_BadStep ?xi_BadStep ?xs_BadStep_VoteError ?xs_BadStep_BadSettings ?xs_BadStep_BadStep ?xs_BadStep_NoSensor ?x_NoSensor ?k_NoSensor ?xb_NoSensor ?xt_NoSensor ?xi_NoSensor ?xs_NoSensor_VoteError ?xs_NoSensor_BadSettings ?xs_NoSensor_BadStep ?xs_NoSensor_NoSensor ?pg_Sensor ?hd_Sensor ?po_Sensor ?sa_Sensor ?mk_Sensor ?kc_Sensor ?na_Sensor_is_out ?na_Sensor_many ?pg_Voter ?hd_Voter ?po_Voter ?sa_Voter ?mk_Voter ?kc_Voter ?na_Voter_threshold ?na_Voter_rate ?na_Voter_misses ?na_Voter_backs ?na_Voter_sensors ?na_Voter_last ?a_middle ?l_middle ?o_middle ?k_middle ?a_moved ?l_moved ?o_moved ?k_moved ?a_agree ?l_agree ?o_agree ?k_agree ?a_need_settings ?l_need_settings ?o_need_settings ?k_need_settings ?a_need_step ?l_need_step ?o_need_step ?k_need_step ?a_Sensor_init ?i_Sensor_init ?l_Sensor_init ?o_Sensor_init ?k_Sensor_init ?a_Voter_init ?i_Voter_init ?l_Voter_init ?o_Voter_init ?k_Voter_init ?a_Voter_sensor ?i_Voter_sensor ?l_Voter_sensor ?o_Voter_sensor ?k_Voter_sensor ?a_Voter_state ?i_Voter_state ?l_Voter_state ?o_Voter_state ?k_Voter_state ?a_Voter_word ?i_Voter_word ?l_Voter_word ?o_Voter_word ?k_Voter_word ?a_Voter_is_close ?i_Voter_is_close ?l_Voter_is_close ?o_Voter_is_close ?k_Voter_is_close ?a_Voter_watch ?i_Voter_watch ?l_Voter_watch ?o_Voter_watch ?k_Voter_watch ?a_Voter_wait ?i_Voter_wait ?l_Voter_wait ?o_Voter_wait ?k_Voter_wait ?a_Voter_step ?i_Voter_step ?l_Voter_step ?o_Voter_step ?k_Voter_step ?a_l_cell ?l_l_cell ?o_l_cell ?k_l_cell ?a_l_drawn ?l_l_drawn ?o_l_drawn ?k_l_drawn ?a_l_settings ?l_l_settings ?o_l_settings ?k_l_settings ?a_l_said ?l_l_said ?o_l_said ?k_l_said ?a_law ?l_law ?o_law ?ch_law ?nt_law ?k_law
    (case n_ValueError => k_is)
    (case n_abs => k_is)
    (case n_all => k_is)
    (case n_enumerate => k_is)
    (case n_int => k_is)
    (case n_len => k_is)
    (case n_list => k_is)
    (case n_max => k_is)
    (case n_min => k_is)
    (case n_range => k_is)
    (case n_sorted => k_is)
    (case c_LEAST => k_is)
    (case c_MOST => k_is)
    (case c_MOST_THRESHOLD => k_is)
    (case c_MOST_COUNT => k_is)
    (case c_MOST_VALUE => k_is)
    (case g_VoteError => k_is)
    (case g_BadSettings => k_is)
    (case g_BadStep => k_is)
    (case g_NoSensor => k_is)
    (case g_Sensor => k_is)
    (case g_Voter => k_is)
    (case x_VoteError => k_exc)
    (case k_VoteError => k_is)
    (case xb_VoteError => k_is)
    (case xt_VoteError => k_is)
    (case xi_VoteError => k_is)
    (case xs_VoteError_VoteError => k_is)
    (case xs_VoteError_BadSettings => k_is)
    (case xs_VoteError_BadStep => k_is)
    (case xs_VoteError_NoSensor => k_is)
    (case x_BadSettings => k_exc)
    (case k_BadSettings => k_is)
    (case xb_BadSettings => k_is)
    (case xt_BadSettings => k_is)
    (case xi_BadSettings => k_is)
    (case xs_BadSettings_VoteError => k_is)
    (case xs_BadSettings_BadSettings => k_is)
    (case xs_BadSettings_BadStep => k_is)
    (case xs_BadSettings_NoSensor => k_is)
    (case x_BadStep => k_exc)
    (case k_BadStep => k_is)
    (case xb_BadStep => k_is)
    (case xt_BadStep => k_is)
    (case xi_BadStep => k_is)
    (case xs_BadStep_VoteError => k_is)
    (case xs_BadStep_BadSettings => k_is)
    (case xs_BadStep_BadStep => k_is)
    (case xs_BadStep_NoSensor => k_is)
    (case x_NoSensor => k_exc)
    (case k_NoSensor => k_is)
    (case xb_NoSensor => k_is)
    (case xt_NoSensor => k_is)
    (case xi_NoSensor => k_is)
    (case xs_NoSensor_VoteError => k_is)
    (case xs_NoSensor_BadSettings => k_is)
    (case xs_NoSensor_BadStep => k_is)
    (case xs_NoSensor_NoSensor => k_is)
    (case pg_Sensor => k_is)
    (case hd_Sensor => k_is)
    (case po_Sensor => k_is)
    (case sa_Sensor => k_is)
    (case mk_Sensor => k_is)
    (case kc_Sensor => k_is)
    (case na_Sensor_is_out => k_is)
    (case na_Sensor_many => k_is)
    (case pg_Voter => k_is)
    (case hd_Voter => k_is)
    (case po_Voter => k_is)
    (case sa_Voter => k_is)
    (case mk_Voter => k_is)
    (case kc_Voter => k_is)
    (case na_Voter_threshold => k_is)
    (case na_Voter_rate => k_is)
    (case na_Voter_misses => k_is)
    (case na_Voter_backs => k_is)
    (case na_Voter_sensors => k_is)
    (case na_Voter_last => k_is)
    (case a_middle => k_is)
    (case l_middle => k_is)
    (case o_middle => k_is)
    (case k_middle => k_is)
    (case a_moved => k_is)
    (case l_moved => k_is)
    (case o_moved => k_is)
    (case k_moved => k_is)
    (case a_agree => k_is)
    (case l_agree => k_is)
    (case o_agree => k_is)
    (case k_agree => k_is)
    (case a_need_settings => k_is)
    (case l_need_settings => k_is)
    (case o_need_settings => k_is)
    (case k_need_settings => k_is)
    (case a_need_step => k_is)
    (case l_need_step => k_is)
    (case o_need_step => k_is)
    (case k_need_step => k_is)
    (case a_Sensor_init => k_is)
    (case i_Sensor_init => k_is)
    (case l_Sensor_init => k_is)
    (case o_Sensor_init => k_is)
    (case k_Sensor_init => k_is)
    (case a_Voter_init => k_is)
    (case i_Voter_init => k_is)
    (case l_Voter_init => k_is)
    (case o_Voter_init => k_is)
    (case k_Voter_init => k_is)
    (case a_Voter_sensor => k_is)
    (case i_Voter_sensor => k_is)
    (case l_Voter_sensor => k_is)
    (case o_Voter_sensor => k_is)
    (case k_Voter_sensor => k_is)
    (case a_Voter_state => k_is)
    (case i_Voter_state => k_is)
    (case l_Voter_state => k_is)
    (case o_Voter_state => k_is)
    (case k_Voter_state => k_is)
    (case a_Voter_word => k_is)
    (case i_Voter_word => k_is)
    (case l_Voter_word => k_is)
    (case o_Voter_word => k_is)
    (case k_Voter_word => k_is)
    (case a_Voter_is_close => k_is)
    (case i_Voter_is_close => k_is)
    (case l_Voter_is_close => k_is)
    (case o_Voter_is_close => k_is)
    (case k_Voter_is_close => k_is)
    (case a_Voter_watch => k_is)
    (case i_Voter_watch => k_is)
    (case l_Voter_watch => k_is)
    (case o_Voter_watch => k_is)
    (case k_Voter_watch => k_is)
    (case a_Voter_wait => k_is)
    (case i_Voter_wait => k_is)
    (case l_Voter_wait => k_is)
    (case o_Voter_wait => k_is)
    (case k_Voter_wait => k_is)
    (case a_Voter_step => k_is)
    (case i_Voter_step => k_is)
    (case l_Voter_step => k_is)
    (case o_Voter_step => k_is)
    (case k_Voter_step => k_is)
    (case a_l_cell => k_is)
    (case l_l_cell => k_is)
    (case o_l_cell => k_is)
    (case k_l_cell => k_is)
    (case a_l_drawn => k_is)
    (case l_l_drawn => k_is)
    (case o_l_drawn => k_is)
    (case k_l_drawn => k_is)
    (case a_l_settings => k_is)
    (case l_l_settings => k_is)
    (case o_l_settings => k_is)
    (case k_l_settings => k_is)
    (case a_l_said => k_is)
    (case l_l_said => k_is)
    (case o_l_said => k_is)
    (case k_l_said => k_is)
    (case a_law => k_is)
    (case l_law => k_is)
    (case o_law => k_is)
    (case ch_law => kernel_rfl)
    (case nt_law => kernel_rfl)
    (case k_law => k_is)
