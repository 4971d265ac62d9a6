import PyProof.Rows.All
import Wide.All
import OpenK.AllK
import Wide.FinOn
import HandS.ForMost
import HandS.ForExc
import HandS.Evl
import HandS.Wide
import HandS.Walk
import HandS.IsInst
import HandS.Small
import HandS.ExcIs
import HandS.ExcValue
import HandS.Hot
import HandS.HotCalls
import KE.GoesComp
import HandS.EndTab
import HandS.SortKw
import HandS.Conv
import KE.SortCalls
import HandS.TupAny
import PySem.Challenge.RW_midvalue_k11_refused
set_option Elab.async false
set_option linter.all false
set_option maxRecDepth 100000
set_option maxHeartbeats 4000000
namespace MV
open PySem PySem.Spec PyProof.Rows L2 Evl

/-! ### operators by name -/
abbrev oAdd : R2 := rI0 fun i j => .int (i + j)
abbrev oSub : R2 := rI0 fun i j => .int (i - j)
abbrev oMul : R2 := rI CMul fun i j => .int (i * j)
abbrev oMulW : R2 := rI CMulW fun i j => .int (i * j)
abbrev oMod : R2 := rI (fun _ j => 0 < j) fun i j => .int (i % j)
abbrev oDivW : R2 := rI CDivW fun i j => .int (i / j)
abbrev oPow : R2 := rI CPow fun i j => .int (i ^ j.toNat)
abbrev oShl : R2 := rI CPow fun i j => .int (i * 2 ^ j.toNat)
abbrev oLt : R2 := rI0 fun i j => .bl (decide (i < j))
abbrev oLe : R2 := rI0 fun i j => .bl (decide (i ≤ j))
abbrev oGt : R2 := rI0 fun i j => .bl (decide (j < i))
abbrev oGe : R2 := rI0 fun i j => .bl (decide (j ≤ i))
abbrev oNeg : V → Hp → VK → Prop := rU fun i => .int (-i)
def oIsN : R2 := fun x y H Q => y = .non ∧ Q (.bl (decide (x = .non))) H
def oNotN : R2 := fun x y H Q => y = .non ∧ Q (.bl (!decide (x = .non))) H
def oAddS : R2 := fun x y H Q => ∃ i j, x = .str i ∧ y = .str j ∧ i.length + j.length ≤ sizeLine ∧ Q (.str (i ++ j)) H
def rAbs : List V → Hp → VK → Prop := fun xs H Q => ∃ i, xs = [.int i] ∧ Q (.int (if i < 0 then -i else i)) H
def rMin2 : List V → Hp → VK → Prop := fun xs H Q => ∃ i j, xs = [.int i, .int j] ∧ Q (.int (if j < i then j else i)) H
def rInt1 : List V → Hp → VK → Prop := fun xs H Q => (∃ i, xs = [.int i] ∧ Q (.int i) H) ∨ ∃ k, xs = [.bl k] ∧ Q (.int (if k then 1 else 0)) H
def tRaise (E : XK) (cls : Value) : TS := fun _ _ H => E cls none H

section
variable {K : PySem.W.Frag} {σ : L2.St} {H H' H0 : Hp} {ta tb tc te tx : TE} {t u : TT} {x y z v : V} {r r' : R2} {a b i j : Int} {p : Addr} {xs ys : List V} {ns ms : List Int}

/-! ### values of operators -/
theorem rv_eqI : RV rEq (.int a) (.int b) H (.bl (decide (a = b))) := fun H1 _ Q q => ⟨rfl, by
  have e : decide (V.int a = V.int b) = decide (a = b) := decide_eq_decide.mpr ⟨fun h => V.int.inj h, fun h => by rw [h]⟩
  rw [e]; exact q H1 (Ex.refl H1)⟩
theorem rv_neI : RV rNe (.int a) (.int b) H (.bl (!decide (a = b))) := fun H1 _ Q q => ⟨rfl, by
  have e : decide (V.int a = V.int b) = decide (a = b) := decide_eq_decide.mpr ⟨fun h => V.int.inj h, fun h => by rw [h]⟩
  rw [e]; exact q H1 (Ex.refl H1)⟩
theorem rv_eqS {s t : Str} : RV rEq (.str s) (.str t) H (.bl (decide (s = t))) := fun H1 _ Q q => ⟨rfl, by
  have e : decide (V.str s = V.str t) = decide (s = t) := decide_eq_decide.mpr ⟨fun h => V.str.inj h, fun h => by rw [h]⟩
  rw [e]; exact q H1 (Ex.refl H1)⟩
theorem rv_neS {s t : Str} : RV rNe (.str s) (.str t) H (.bl (!decide (s = t))) := fun H1 _ Q q => ⟨rfl, by
  have e : decide (V.str s = V.str t) = decide (s = t) := decide_eq_decide.mpr ⟨fun h => V.str.inj h, fun h => by rw [h]⟩
  rw [e]; exact q H1 (Ex.refl H1)⟩
theorem rv_neB {s t : Bool} : RV rNe (.bl s) (.bl t) H (.bl (!decide (s = t))) := fun H1 _ Q q => ⟨rfl, by
  have e : decide (V.bl s = V.bl t) = decide (s = t) := decide_eq_decide.mpr ⟨fun h => V.bl.inj h, fun h => by rw [h]⟩
  rw [e]; exact q H1 (Ex.refl H1)⟩
theorem rv_isN : RV oIsN x .non H (.bl (decide (x = .non))) := fun H1 _ _ q => ⟨rfl, q H1 (Ex.refl H1)⟩
theorem rv_notN : RV oNotN x .non H (.bl (!decide (x = .non))) := fun H1 _ _ q => ⟨rfl, q H1 (Ex.refl H1)⟩
theorem rv_addS {s t : Str} (h : s.length + t.length ≤ sizeLine) : RV oAddS (.str s) (.str t) H (.str (s ++ t)) := fun H1 _ _ q => ⟨s, t, rfl, rfl, h, q H1 (Ex.refl H1)⟩
theorem at_ints (h0 : 0 ≤ i) (h1 : i < ns.length) : atI (ns.map V.int) i = some (.int (ns.getD i.toNat 0)) := by
  obtain ⟨k, rfl⟩ := Int.eq_ofNat_of_zero_le h0
  have hk : k < ns.length := by omega
  refine atI_nat ?_
  rw [List.getElem?_map, List.getElem?_eq_getElem hk, Int.toNat_natCast, List.getD_eq_getElem?_getD, List.getElem?_eq_getElem hk]
  rfl
theorem at_vals (h0 : 0 ≤ i) (h1 : i < xs.length) : atI xs i = some (xs.getD i.toNat .non) := by
  obtain ⟨k, rfl⟩ := Int.eq_ofNat_of_zero_le h0
  have hk : k < xs.length := by omega
  refine atI_nat ?_
  rw [List.getElem?_eq_getElem hk, Int.toNat_natCast, List.getD_eq_getElem?_getD, List.getElem?_eq_getElem hk]
  rfl
theorem rv_ixInts (h : SqL K H p (ns.map V.int)) (h0 : 0 ≤ i) (h1 : i < ns.length) : RV (rIxL K) (.ref p) (.int i) H (.int (ns.getD i.toNat 0)) := rv_ixL h (at_ints h0 h1)
/-- a written list of whole numbers at a place -/
theorem ev_menu (hl : EvL ta σ H (ns.map V.int)) (hi : Ev tb σ H (.int i)) (h0 : 0 ≤ i) (h1 : i < ns.length) : Ev (tOp (rIxL K) ta tb) σ H (.int (ns.getD i.toNat 0)) :=
  ev_opL1 hl (fun _ e => hi.mono e) fun _ _ h _ => rv_ixL (sq_of h) (at_ints h0 h1)
theorem ev_menuV (hl : EvL ta σ H xs) (hi : Ev tb σ H (.int i)) (h0 : 0 ≤ i) (h1 : i < xs.length) : Ev (tOp (rIxL K) ta tb) σ H (xs.getD i.toNat .non) :=
  ev_opL1 hl (fun _ e => hi.mono e) fun _ _ h _ => rv_ixL (sq_of h) (at_vals h0 h1)
theorem el_is (h : EvL te σ H xs) (e : xs = ys) : EvL te σ H ys := e ▸ h

theorem ev_chain {c1 c2 : Bool} (ha : Ev ta σ H x) (hb : Ev tb σ H y) (hc : Ev tc σ H z) (h1 : RV r x y H (.bl c1)) (h2 : RV r' y z H (.bl c2)) : Ev (tChain r r' ta tb tc) σ H (.bl (c1 && c2)) := fun H1 e1 Q q =>
  ha H1 e1 _ fun H2 e2 => hb H2 (e1.trans e2) _ fun H3 e3 => h1 H3 ((e1.trans e2).trans e3) _ fun H4 e4 => ⟨c1, rfl, by
    have e5 := ((e1.trans e2).trans e3).trans e4
    cases c1 with
    | true =>
      rw [if_pos rfl]
      exact hc H4 e5 _ fun H5 e6 => h2 H5 (e5.trans e6) _ fun H6 e7 => q H6 ((((e2.trans e3).trans e4).trans e6).trans e7)
    | false =>
      rw [if_neg Bool.false_ne_true]
      exact q H4 ((e2.trans e3).trans e4)⟩

/-! ### values of calls -/
theorem rc_of {rr : List V → Hp → VK → Prop} {vs : List V} (h : ∀ H1, Ex H H1 → ∀ Q : VK, Q z H1 → rr vs H1 Q) : RC rr vs H z := fun H1 e Q q => h H1 e Q (q H1 (Ex.refl H1))
theorem rc_len (h : SqL K H p xs) : RC (rLenS K) [.ref p] H (.int (xs.length : Int)) := rc_of fun _ e _ q => ⟨p, xs, rfl, .inl (ex_l e h), q⟩
theorem rc_lenT (h : SqT K H p xs) : RC (rLenS K) [.ref p] H (.int (xs.length : Int)) := rc_of fun _ e _ q => ⟨p, xs, rfl, .inr (ex_t e h), q⟩
theorem rc_abs : RC rAbs [.int i] H (.int (if i < 0 then -i else i)) := rc_of fun _ _ _ q => ⟨i, rfl, q⟩
theorem rc_min2 : RC rMin2 [.int i, .int j] H (.int (if j < i then j else i)) := rc_of fun _ _ _ q => ⟨i, j, rfl, q⟩
theorem rc_max2 : RC rMax2 [.int i, .int j] H (.int (if j > i then j else i)) := rc_of fun _ _ _ q => ⟨i, j, rfl, q⟩
theorem rc_int : RC rInt1 [.int i] H (.int i) := rc_of fun _ _ _ q => .inl ⟨i, rfl, q⟩
theorem rc_intB {k : Bool} : RC rInt1 [.bl k] H (.int (if k then 1 else 0)) := rc_of fun _ _ _ q => .inr ⟨k, rfl, q⟩
theorem rc_all {bs : List Bool} (h : SqL K H p (bs.map V.bl)) : RC (rAll K) [.ref p] H (.bl (bs.all id)) := rc_of fun _ e _ q => ⟨p, bs, rfl, ex_l e h, q⟩
theorem rc_sum (h : SqL K H p (ns.map V.int)) : RC (rSum K) [.ref p] H (.int ns.sum) := rc_of fun _ e _ q => ⟨p, ns, rfl, ex_l e h, q⟩

/-! ### sorted -/
def srt (ns : List Int) : List Int := ns.mergeSort (fun a b => decide (a ≤ b))
theorem srt_perm (ns : List Int) : (srt ns).Perm ns := List.mergeSort_perm ns _
theorem srt_pw (ns : List Int) : (srt ns).Pairwise (· ≤ ·) := by
  have h := List.pairwise_mergeSort (le := fun a b : Int => decide (a ≤ b)) (fun a b c h1 h2 => by simp only [decide_eq_true_eq] at *; omega) (fun a b => by simp only [Bool.or_eq_true, decide_eq_true_eq]; omega) ns
  exact h.imp fun h => by simpa using h
theorem srt_len (ns : List Int) : (srt ns).length = ns.length := (srt_perm ns).length_eq
theorem srt_mem {ns : List Int} {n : Int} : n ∈ srt ns ↔ n ∈ ns := (srt_perm ns).mem_iff
theorem srt_uniq (h1 : ms.Perm ns) (h2 : ms.Pairwise (· ≤ ·)) : ms = srt ns :=
  List.Perm.eq_of_pairwise (le := (· ≤ ·)) (fun a b _ _ h1 h2 => Int.le_antisymm h1 h2) h2 (srt_pw ns) (h1.trans (srt_perm ns).symm)
theorem rcl_sorted (h : SqL K H p (ns.map V.int)) (hl : ns.length < 64) : RCL (rSorted K) [.ref p] H ((srt ns).map V.int) := fun H1 e Q q =>
  ⟨p, ns, rfl, ex_l e h, hl, fun ns' l hp hs hn => by
    have e1 := srt_uniq hp hs
    subst e1
    exact q l _ hn (Ex.new hn) upd_same⟩

/-! ### lists compared -/
/-- a flat value as data -/
def vD : V → PyData
  | .non => .none
  | .bl b => .bool b
  | .int i => .int i
  | .str s => .str s
  | _ => .none
def flat4 : V → Bool
  | .non | .bl _ | .int _ => true
  | .str s => SeqAt.shaped (.str s)
  | _ => false
theorem dp_flat (h : flat4 x = true) : Dp K H x (vD x) := by
  cases x with
  | non => exact .non
  | bl b => exact .bl b
  | int i => exact .int i
  | str s => exact .str s
  | _ => cases h
theorem dpAll_flat : ∀ {xs : List V}, xs.all flat4 = true → DpAll K H xs (xs.map vD)
  | [], _ => .nil
  | x :: xs, h => by
    rw [List.all_cons, Bool.and_eq_true] at h
    exact .cons (dp_flat h.1) (dpAll_flat h.2)
theorem lay_flat (h : flat4 x = true) : (vD x).canLay0 = true ∧ (vD x).depth = 0 := by
  cases x with
  | non => exact ⟨by simp [vD, PyData.canLay0], by simp [vD, PyData.depth]⟩
  | bl b => exact ⟨by simp [vD, PyData.canLay0], by simp [vD, PyData.depth]⟩
  | int i => exact ⟨by simp [vD, PyData.canLay0], by simp [vD, PyData.depth]⟩
  | str s => exact ⟨SeqAt.canLay_of_shaped h, by simp [vD, PyData.depth]⟩
  | _ => cases h
theorem lay_flats : ∀ {xs : List V}, xs.all flat4 = true → PyData.canLayAll0 (xs.map vD) = true ∧ PyData.depthAll (xs.map vD) = 0
  | [], _ => ⟨by simp [PyData.canLayAll0], by simp [PyData.depthAll]⟩
  | x :: xs, h => by
    rw [List.all_cons, Bool.and_eq_true] at h
    have h1 := lay_flat h.1
    have h2 := lay_flats h.2
    exact ⟨by rw [List.map_cons, PyData.canLayAll0, h1.1, h2.1]; rfl, by rw [List.map_cons, PyData.depthAll, h1.2, h2.2]; rfl⟩
theorem shaped_list (h : xs.all flat4 = true) : SeqAt.shaped (.list (xs.map vD)) = true := by
  obtain ⟨h1, h2⟩ := lay_flats h
  show ((PyData.list (xs.map vD)).canLay0 && decide ((PyData.list (xs.map vD)).depth ≤ 64)) = true
  rw [PyData.canLay0, PyData.depth, h1, h2]
  rfl
theorem shaped_tup (h : xs.all flat4 = true) : SeqAt.shaped (.tuple (xs.map vD)) = true := by
  obtain ⟨h1, h2⟩ := lay_flats h
  show ((PyData.tuple (xs.map vD)).canLay0 && decide ((PyData.tuple (xs.map vD)).depth ≤ 64)) = true
  rw [PyData.canLay0, PyData.depth, h1, h2]
  rfl
theorem ints_flat (ns : List Int) : (ns.map V.int).all flat4 = true := by
  rw [List.all_eq_true]
  intro x hx
  obtain ⟨n, _, rfl⟩ := List.mem_map.mp hx
  rfl
/-- a list and the empty list -/
theorem rv_eqNil {q : Addr} (h : SqL K H p xs) (hf : xs.all flat4 = true) (h2 : SqL K H q []) : RV (rEqD K) (.ref p) (.ref q) H (.bl (decide (xs = []))) := fun H1 e Q k => by
  refine ⟨.list (xs.map vD), .list [], .lst (ex_l e h) (dpAll_flat hf), .lst (ex_l e h2) .nil, shaped_list hf, by decide, ?_⟩
  have e2 : PyData.eqv (.list (xs.map vD)) (.list []) = decide (xs = []) := by
    cases xs with
    | nil => simp [PyData.eqv, PyData.eqvAll]
    | cons x r => simp [PyData.eqv, PyData.eqvAll]
  rw [e2]
  exact k H1 (Ex.refl H1)
theorem rv_neNil {q : Addr} (h : SqL K H p xs) (hf : xs.all flat4 = true) (h2 : SqL K H q []) : RV (rNeD K) (.ref p) (.ref q) H (.bl (!decide (xs = []))) := fun H1 e Q k => by
  refine ⟨.list (xs.map vD), .list [], .lst (ex_l e h) (dpAll_flat hf), .lst (ex_l e h2) .nil, shaped_list hf, by decide, ?_⟩
  have e2 : PyData.eqv (.list (xs.map vD)) (.list []) = decide (xs = []) := by
    cases xs with
    | nil => simp [PyData.eqv, PyData.eqvAll]
    | cons x r => simp [PyData.eqv, PyData.eqvAll]
  rw [e2]
  exact k H1 (Ex.refl H1)
/-- two lists of the same flat items -/
theorem rv_neSame {q : Addr} (h : SqL K H p xs) (hf : xs.all flat4 = true) (h2 : SqL K H q xs) : RV (rNeD K) (.ref p) (.ref q) H (.bl false) := fun H1 e Q k => by
  refine ⟨.list (xs.map vD), .list (xs.map vD), .lst (ex_l e h) (dpAll_flat hf), .lst (ex_l e h2) (dpAll_flat hf), shaped_list hf, shaped_list hf, ?_⟩
  have e2 : PyData.eqv (.list (xs.map vD)) (.list (xs.map vD)) = true := PySem.SeqAt.eqv_refl _ (SeqAt.canLay_of_shaped (shaped_list hf))
  rw [e2]
  exact k H1 (Ex.refl H1)
theorem ev_eqNil (ha : Ev ta σ H (.ref p)) (h : SqL K H p xs) (hf : xs.all flat4 = true) : Ev (tOp (rEqD K) ta (tLst tNil)) σ H (.bl (decide (xs = []))) :=
  ev_opL ha (el_lst ea_nil (by decide)) fun _ _ h1 e1 => rv_eqNil (ex_l e1 h) hf (sq_of h1)
theorem ev_neNil (ha : Ev ta σ H (.ref p)) (h : SqL K H p xs) (hf : xs.all flat4 = true) : Ev (tOp (rNeD K) ta (tLst tNil)) σ H (.bl (!decide (xs = []))) :=
  ev_opL ha (el_lst ea_nil (by decide)) fun _ _ h1 e1 => rv_neNil (ex_l e1 h) hf (sq_of h1)

/-! ### comprehensions over enumerate -/
theorem el_lcE {A : TA} {p : Addr} {xs : List V} {g : TG} {vs : List Nat} (f : Nat → Bool) (v : Nat → V) (ha : EvA A σ H [.ref p]) (hx : SqL K H p xs) (hz : xs.length ≤ 40000) {i1 i2 : Nat} (hg : g = gTup K 2 (gCons (gName i1) (gCons (gName i2) gNil)))
    (hw : ∀ y z, wipe (((wipe σ vs).set i1 (some y)).set i2 (some z)) vs = wipe σ vs)
    (ht : ∀ (i : Nat) (x : V) H1, Ex H H1 → xs[i]? = some x → EvT t (((wipe σ vs).set i1 (some (.int i))).set i2 (some x)) H1 (f i))
    (he : ∀ (i : Nat) (x : V) H1, Ex H H1 → xs[i]? = some x → f i = true → Ev te (((wipe σ vs).set i1 (some (.int i))).set i2 (some x)) H1 (v i)) :
    EvL (tLc (iEnum K A) g t te vs) σ H (Evl.given xs.length f v) := fun H0 e Q q => ha H0 e _ fun H1 e1 => ⟨p, xs, rfl, ex_l (e.trans e1) hx, fun Dl hD => by
  subst hg
  refine lc_it (walk_enum (K := K) (a := p) (xs := xs)) (Cw H1 f v Dl) ⟨hD, Ex.new hD, upd_same⟩ (fun i H' _ pc => ex_l ((e.trans e1).trans pc.2.1) hx) (fun i y H2 H2' hi pc hy => ?_) (fun H' pc => q Dl H' (fresh_back e1 pc.1) (e1.trans pc.2.1) pc.2.2)
  obtain ⟨T, x1, x2, rfl, nT, rfl, f1, f2⟩ := hy
  have ex1 : V.int (i : Nat) = x1 := Option.some.inj f1
  subst ex1
  have p2 : Cw H1 f v Dl i (upd H2 T (.tup [.int (i : Nat), x2])) := by
    obtain ⟨c1, c2, c3⟩ := pc
    refine ⟨c1, c2.trans (Ex.new nT), ?_⟩
    rw [upd_ne (ne_of_none c3 nT)]
    exact c3
  exact ⟨T, _, rfl, .inl (.inl upd_same), rfl, _, _, rfl, _, _, rfl, rfl, hw _ _, cw_turn p2 (by omega) (ht i x2 H1 (e.trans e1) f2) (fun hf => he i x2 H1 (e.trans e1) f2 hf)⟩⟩
end
end MV
namespace MV
open PySem PySem.Spec PyProof.Rows L2 Evl
theorem cmul_r {i j : Int} (h1 : -18446744073709551616 < j) (h2 : j < 18446744073709551616) : CMul i j := .inr ⟨h1, h2⟩
theorem cmul_l {i j : Int} (h1 : -18446744073709551616 < i) (h2 : i < 18446744073709551616) : CMul i j := .inl ⟨h1, h2⟩
theorem cdiv_c {i j : Int} (h1 : 0 < j) (h2 : j.natAbs.log2 < 9000) : CDivW i j := ⟨h1, h2⟩
theorem cdiv_s {i j : Int} (h1 : 0 < j) (h2 : j < 18446744073709551616) : CDivW i j := wide_div (b := 64) h1 (by omega) (by decide) (by decide)
theorem cpow_c {i j : Int} (h1 : 0 ≤ j) (h2 : j ≤ 1000000) (h3 : i.natAbs < 2 ^ 64) : CPow i j := ⟨h1, h2, h3⟩
end MV
namespace MV
open PySem PySem.Spec PyProof.Rows L2 Evl
def toInt : V → Int
  | .int i => i
  | _ => 0
def toInts (vs : List V) : List Int := vs.map toInt
section
variable {K : PySem.W.Frag} {σ : L2.St} {H : Hp} {ta : TA} {tb : TE} {vs : List V} {i : Int}
/-- a written list of whole numbers at a place that lies in it -/
theorem ev_menuL (h : EvA ta σ H vs) (hi : Ev tb σ H (.int i)) (e : vs = (toInts vs).map V.int) (h0 : 0 ≤ i) (h1 : i < (vs.length : Int)) (hs : vs.length ≤ 100) : Ev (tOp (rIxL K) (tLst ta) tb) σ H (.int ((toInts vs).getD i.toNat 0)) := by
  have h2 : EvL (tLst ta) σ H ((toInts vs).map V.int) := e ▸ el_lst h (by omega)
  exact ev_menu h2 hi h0 (by unfold toInts; rw [List.length_map]; exact h1)
theorem ev_menuG (h : EvA ta σ H vs) (hi : Ev tb σ H (.int i)) (h0 : 0 ≤ i) (h1 : i < (vs.length : Int)) (hs : vs.length ≤ 100) : Ev (tOp (rIxL K) (tLst ta) tb) σ H (vs.getD i.toNat .non) :=
  ev_menuV (el_lst h (by omega)) hi h0 h1
end
/-- a turn's list grows -/
theorem exGrow {H H' H1 : Hp} {p : Addr} {o : HO} (e : Ex H H') (e1 : Ex H' H1) (hp : H p = none) : Ex H (upd H1 p o) := (e.trans e1).mut hp
theorem wipe0 (σ : L2.St) : wipe σ [] = σ := rfl
end MV
namespace MV
open PySem PySem.Spec PyProof.Rows L2 Evl
section
variable {K : PySem.W.Frag} {σ : L2.St} {H H' : Hp} {ta tb te : TE} {t : TT} {x y z v : V} {D : Ends} {tz tu : TS} {P : List V → Prop} {xs ys vs : List V}
/-- a new list, of which P is known -/
def EvLP (te : TE) (σ : L2.St) (H : Hp) (P : List V → Prop) : Prop := ∀ H1, Ex H H1 → ∀ Q : VK, (∀ xs p H2, P xs → H1 p = none → Ex H1 H2 → H2 p = some (.lst xs) → Q (.ref p) H2) → te σ H1 Q
theorem q_asgLP {i : Nat} (h : EvLP te σ H P) (k : ∀ xs p H1, P xs → H p = none → Ex H H1 → H1 p = some (.lst xs) → tz D (σ.set i (some (.ref p))) H1) : tSeq (tAsg te (gName i)) tz D σ H := h H (Ex.refl H) _ fun xs p H1 hP hp e h1 => k xs p H1 hP hp e h1
theorem elp_call {sp : Sp} {dvs : List V} {E : XK} {ta : TA} (h : EvA ta σ H vs) (hs : ∀ H1, Ex H H1 → ∀ Q : VK, (∀ xs p H2, P xs → H1 p = none → Ex H1 H2 → H2 p = some (.lst xs) → Q (.ref p) H2) → ∀ E : XK, sp (vs ++ dvs) H1 Q E) : EvLP (tCall sp dvs E ta) σ H P := fun H1 e Q q =>
  h H1 e _ fun H2 e2 => hs H2 (e.trans e2) Q (fun xs p H3 hP hp e3 h3 => q xs p H3 hP (fresh_back e2 hp) (e2.trans e3) h3) E
/-- a call of one new list that gives a new list | a value -/
theorem el_cbN {rr : List V → Hp → VK → Prop} (ha : EvL ta σ H xs) (hr : ∀ p H1, Ex H H1 → H1 p = some (.lst xs) → RCL rr [.ref p] H1 ys) : EvL (tCB rr (tCons ta tNil)) σ H ys := fun H1 e Q q =>
  ha H1 e _ fun p H2 hp e2 h2 => hr p H2 (e.trans e2) h2 H2 (Ex.refl H2) Q fun p3 H3 hp3 e3 h3 => q p3 H3 (fresh_back e2 hp3) (e2.trans e3) h3
theorem ev_cbN {rr : List V → Hp → VK → Prop} (ha : EvL ta σ H xs) (hr : ∀ p H1, Ex H H1 → H1 p = some (.lst xs) → RC rr [.ref p] H1 z) : Ev (tCB rr (tCons ta tNil)) σ H z := fun H1 e Q q =>
  ha H1 e _ fun p H2 hp e2 h2 => hr p H2 (e.trans e2) h2 H2 (Ex.refl H2) Q fun H3 e3 => q H3 (e2.trans e3)
theorem ev_andB {a b : Bool} (h1 : Ev ta σ H (.bl a)) (h2 : Ev tb σ H (.bl b)) : Ev (tAndV ta tb) σ H (.bl (a && b)) := ev_andV h1 fun _ => h2
theorem ev_orB {a b : Bool} (h1 : Ev ta σ H (.bl a)) (h2 : Ev tb σ H (.bl b)) : Ev (tOrV ta tb) σ H (.bl (a || b)) := ev_orV h1 fun _ => h2
theorem et_andB {a b : Bool} {t u : TT} (h1 : EvT t σ H a) (h2 : EvT u σ H b) : EvT (tAnd t u) σ H (a && b) := et_and h1 fun _ => h2
theorem et_orB {a b : Bool} {t u : TT} (h1 : EvT t σ H a) (h2 : EvT u σ H b) : EvT (tOr t u) σ H (a || b) := et_or h1 fun _ => h2

theorem given_take (xs : List V) (p : V → Bool) (g : V → V) : ∀ i, i ≤ xs.length → Evl.given i (fun i => p (xs.getD i .non)) (fun i => g (xs.getD i .non)) = ((xs.take i).filter p).map g
  | 0, _ => rfl
  | i + 1, h => by
    have hi : i < xs.length := h
    have e : xs.getD i .non = xs[i] := by rw [List.getD_eq_getElem?_getD, List.getElem?_eq_getElem hi]; rfl
    have e2 : xs.take (i + 1) = xs.take i ++ [xs[i]] := by rw [List.take_add_one, List.getElem?_eq_getElem hi]; rfl
    have ih := given_take xs p g i (by omega)
    rw [e2, List.filter_append, List.map_append, ← ih]
    cases hp : p xs[i] with
    | true =>
      rw [Evl.given_yes (by show p (xs.getD i .non) = true; rw [e]; exact hp)]
      show _ ++ [g (xs.getD i .non)] = _
      rw [e, List.filter_cons, hp]
      rfl
    | false =>
      rw [Evl.given_no (by show p (xs.getD i .non) = false; rw [e]; exact hp), List.filter_cons, hp]
      simp
theorem given_list (xs : List V) (p : V → Bool) (g : V → V) : Evl.given xs.length (fun i => p (xs.getD i .non)) (fun i => g (xs.getD i .non)) = (xs.filter p).map g := by
  rw [given_take xs p g xs.length (Nat.le_refl _), List.take_length]
/-- [g(x) for x in xs if p(x)] -/
theorem el_lcM {a : Addr} {tl : TE} {j : Nat} {vs : List Nat} (p : V → Bool) (g : V → V) (h : Ev tl σ H (.ref a)) (hx : SqL K H a xs) (hz : xs.length ≤ 40000) (hw : ∀ x, wipe ((wipe σ vs).set j (some x)) vs = wipe σ vs)
    (ht : ∀ x H1, Ex H H1 → x ∈ xs → EvT t ((wipe σ vs).set j (some x)) H1 (p x)) (he : ∀ x H1, Ex H H1 → x ∈ xs → p x = true → Ev te ((wipe σ vs).set j (some x)) H1 (g x)) :
    EvL (tLc (iList K tl) (gName j) t te vs) σ H ((xs.filter p).map g) := by
  rw [← given_list]
  have get : ∀ {i : Nat} {x : V}, xs[i]? = some x → xs.getD i .non = x ∧ x ∈ xs := fun {i x} e => ⟨by rw [List.getD_eq_getElem?_getD, e]; rfl, List.mem_of_getElem? e⟩
  refine el_lcL (fun i => p (xs.getD i .non)) (fun i => g (xs.getD i .non)) h hx hz hw (fun i x H1 e1 hi => ?_) (fun i x H1 e1 hi hf => ?_)
  · obtain ⟨e, m⟩ := get hi
    show EvT t _ H1 (p (xs.getD i .non))
    rw [e]
    exact ht x H1 e1 m
  · obtain ⟨e, m⟩ := get hi
    show Ev te _ H1 (g (xs.getD i .non))
    rw [e]
    exact he x H1 e1 m (by rw [← e]; exact hf)
theorem ints_filter (ns : List Int) (p : V → Bool) (q : Int → Bool) (h : ∀ n, p (.int n) = q n) : ((ns.map V.int).filter p).map id = (ns.filter q).map V.int := by
  rw [List.map_id, List.filter_map]
  congr 1
  exact List.filter_congr fun n _ => h n
/-- [n for n in ns if q(n)], whole numbers -/
theorem el_lcI {a : Addr} {ns : List Int} {tl : TE} {j : Nat} {vs : List Nat} (q : Int → Bool) (h : Ev tl σ H (.ref a)) (hx : SqL K H a (ns.map V.int)) (hz : ns.length ≤ 40000) (hw : ∀ x, wipe ((wipe σ vs).set j (some x)) vs = wipe σ vs)
    (ht : ∀ n H1, Ex H H1 → n ∈ ns → EvT t ((wipe σ vs).set j (some (.int n))) H1 (q n)) (he : ∀ n H1, Ex H H1 → n ∈ ns → Ev te ((wipe σ vs).set j (some (.int n))) H1 (.int n)) :
    EvL (tLc (iList K tl) (gName j) t te vs) σ H ((ns.filter q).map V.int) := by
  rw [← ints_filter ns (fun x => q (toInt x)) q fun _ => rfl]
  refine el_lcM (fun x => q (toInt x)) id h hx (by rw [List.length_map]; exact hz) hw (fun x H1 e1 hm => ?_) (fun x H1 e1 hm _ => ?_)
  · obtain ⟨n, hn, rfl⟩ := List.mem_map.mp hm
    exact ht n H1 e1 hn
  · obtain ⟨n, hn, rfl⟩ := List.mem_map.mp hm
    exact he n H1 e1 hn
/-! ### isinstance -/
theorem rc_isi {c : V} {tt u : Value} {b : Bool} (hc : ClsV c u) (ht : ∀ H1, Ex H H1 → TyX K H1 x tt) (hk : PySem.W.kitOne K tt u = some b) : RC (rIsi K) [x, c] H (.bl b) := rc_of fun H1 e _ q => ⟨x, c, tt, u, b, rfl, hc, ht H1 e, hk, q⟩
theorem isi_int_bool {i : Int} : RC (rIsi K) [.int i, .ty "bool"] H (.bl false) := rc_isi (.ty _) (fun _ _ => .base (.int i)) (kit_ty (by decide +kernel))
theorem isi_int_int {i : Int} : RC (rIsi K) [.int i, .ty "int"] H (.bl true) := rc_isi (.ty _) (fun _ _ => .base (.int i)) (kit_ty (by decide +kernel))
theorem isi_list_list {p : Addr} (h : H p = some (.lst xs)) : RC (rIsi K) [.ref p, .ty "list"] H (.bl true) := rc_isi (.ty _) (fun _ e => .base (.lst (e p _ h))) (kit_ty (by decide +kernel))
theorem isi_tup_tup {p : Addr} (h : H p = some (.tup xs)) : RC (rIsi K) [.ref p, .ty "tuple"] H (.bl true) := rc_isi (.ty _) (fun _ e => .base (.tup (e p _ h))) (kit_ty (by decide +kernel))
theorem isi_list_tup {p : Addr} (h : H p = some (.lst xs)) : RC (rIsi K) [.ref p, .ty "tuple"] H (.bl false) := rc_isi (.ty _) (fun _ e => .base (.lst (e p _ h))) (kit_ty (by decide +kernel))
end
end MV
namespace MV
open PySem PySem.Spec PyProof.Rows L2 Evl
section
variable {σ : L2.St} {H : Hp} {sp : Sp} {E : XK} {ta : TA} {vs xs : List V} {z : V} {P : List V → Prop}
theorem ev_call0 (h : EvA ta σ H vs) (hs : SpV sp vs H z) : Ev (tCall sp [] E ta) σ H z := ev_call h (by rw [List.append_nil]; exact hs)
theorem el_call0 (h : EvA ta σ H vs) (hs : SpL sp vs H xs) : EvL (tCall sp [] E ta) σ H xs := el_call h (by rw [List.append_nil]; exact hs)
theorem elp_call0 (h : EvA ta σ H vs) (hs : ∀ H1, Ex H H1 → ∀ Q : VK, (∀ xs p H2, P xs → H1 p = none → Ex H1 H2 → H2 p = some (.lst xs) → Q (.ref p) H2) → ∀ E : XK, sp vs H1 Q E) : EvLP (tCall sp [] E ta) σ H P := elp_call h (by rw [List.append_nil]; exact hs)
end
end MV
namespace MV
open PySem PySem.Spec PyProof.Rows L2 Evl
section
variable {K : PySem.W.Frag} {σ : L2.St} {H : Hp} {ta te : TE} {D : Ends} {tz : TS} {xs : List V} {P : V → Prop}
/-- with a value of which only P is told on -/
theorem s_appX {l : Addr} (hl : H l = some (.lst xs)) (ha : Ev ta σ H (.ref l)) (h : ∃ v, Ev te σ H v ∧ P v) (hz : xs.length < 100000) (k : ∀ v H1, P v → Ex H H1 → D.nx σ (upd H1 l (.lst (xs ++ [v])))) :
    tDrop (tBM K "list" rAppend ta (tCons te tNil)) D σ H := by
  obtain ⟨v, hv, hp⟩ := h
  exact s_app hl ha hv hz fun H1 e => k v H1 hp e
theorem q_asgX {i : Nat} (h : ∃ v, Ev te σ H v ∧ P v) (k : ∀ v H1, P v → Ex H H1 → tz D (σ.set i (some v)) H1) : tSeq (tAsg te (gName i)) tz D σ H := by
  obtain ⟨v, hv, hp⟩ := h
  exact q_asg hv fun H1 e => k v H1 hp e
end
abbrev IsI (v : V) : Prop := ∃ i : Int, v = .int i
end MV
namespace MV
open PySem PySem.Spec PyProof.Rows L2 Evl
section
variable {K : PySem.W.Frag} {σ : L2.St} {H H' : Hp} {ta to tv te : TE} {a C dx : Addr} {fs fs' : List (Str × V)} {f m : Str} {x y z v : V} {D : Ends} {tz tu tw : TS} {sp : Sp} {E : XK} {ar : TA} {vs xs : List V} {t u : TT} {b : Bool}
/-! ### attributes, methods -/
theorem ev_fld (h : Ev ta σ H (.ref a)) (ho : H a = some (.ins C dx fs)) (c : Cls K C) (n : NoAttr K C f) (l : fs.lookup f = some v) : Ev (tFld K ta f) σ H v := fun H1 e Q q =>
  h H1 e _ fun H2 e2 => ⟨a, C, dx, fs, v, rfl, e2 a _ (e a _ ho), c, n, l, q H2 e2⟩
theorem ev_meth (h : Ev to σ H (.ref a)) (ho : H a = some (.ins C dx fs)) (l : fs.lookup m = none) (ha : EvA ar σ H vs) (hs : SpV sp (.ref a :: vs) H z) : Ev (tMeth C m sp [] E to ar) σ H z := fun H1 e Q q =>
  h H1 e _ fun H2 e2 => ⟨a, dx, fs, rfl, e2 a _ (e a _ ho), l, ha H2 (e.trans e2) _ fun H3 e3 => by
    rw [List.append_nil]
    exact hs H3 ((e.trans e2).trans e3) Q (fun H4 e4 => q H4 ((e2.trans e3).trans e4)) E⟩
theorem s_fld (hv : Ev tv σ H y) (ha : Ev ta σ H (.ref a)) (ho : H a = some (.ins C dx fs)) (hc : Cls K C) (hn : NoAttr K C f) (hl : fs.length < 1000) (hp : putF f y fs = fs') (k : ∀ H1, Ex H H1 → D.nx σ (upd H1 a (.ins C dx fs'))) : sFld K ta tv f D σ H :=
  hv H (Ex.refl H) _ fun H1 e1 => ha H1 e1 _ fun H2 e2 => ⟨a, C, dx, fs, rfl, (e1.trans e2) a _ ho, hc, hn, hl, by rw [hp]; exact k H2 (e1.trans e2)⟩
theorem q_fld (hv : Ev tv σ H y) (ha : Ev ta σ H (.ref a)) (ho : H a = some (.ins C dx fs)) (hc : Cls K C) (hn : NoAttr K C f) (hl : fs.length < 1000) (hp : putF f y fs = fs') (k : ∀ H1, Ex H H1 → tz D σ (upd H1 a (.ins C dx fs'))) : tSeq (sFld K ta tv f) tz D σ H :=
  s_fld (D := { D with nx := tz D }) hv ha ho hc hn hl hp k
/-- a call whose promise is read by hand -/
theorem s_dropC (ha : EvA ar σ H vs) (k : ∀ H1, Ex H H1 → sp vs H1 (fun _ H2 => D.nx σ H2) E) : tDrop (tCall sp [] E ar) D σ H := ha H (Ex.refl H) _ fun H1 e1 => by
  rw [List.append_nil]
  exact k H1 e1
theorem q_dropC (ha : EvA ar σ H vs) (k : ∀ H1, Ex H H1 → sp vs H1 (fun _ H2 => tz D σ H2) E) : tSeq (tDrop (tCall sp [] E ar)) tz D σ H := s_dropC (D := { D with nx := tz D }) ha k
theorem q_asgC {i : Nat} (ha : EvA ar σ H vs) (k : ∀ H1, Ex H H1 → sp vs H1 (fun v H2 => tz D (σ.set i (some v)) H2) E) : tSeq (tAsg (tCall sp [] E ar) (gName i)) tz D σ H := ha H (Ex.refl H) _ fun H1 e1 => by
  rw [List.append_nil]
  exact k H1 e1
theorem s_retC (ha : EvA ar σ H vs) (k : ∀ H1, Ex H H1 → sp vs H1 D.rt E) : tRet (tCall sp [] E ar) D σ H := ha H (Ex.refl H) _ fun H1 e1 => by
  rw [List.append_nil]
  exact k H1 e1
theorem s_dropM (h : Ev to σ H (.ref a)) (ho : H a = some (.ins C dx fs)) (l : fs.lookup m = none) (ha : EvA ar σ H vs) (k : ∀ H1, Ex H H1 → sp (.ref a :: vs) H1 (fun _ H2 => D.nx σ H2) E) : tDrop (tMeth C m sp [] E to ar) D σ H :=
  h H (Ex.refl H) _ fun H1 e1 => ⟨a, dx, fs, rfl, e1 a _ ho, l, ha H1 e1 _ fun H2 e2 => by
    rw [List.append_nil]
    exact k H2 (e1.trans e2)⟩
theorem q_dropM (h : Ev to σ H (.ref a)) (ho : H a = some (.ins C dx fs)) (l : fs.lookup m = none) (ha : EvA ar σ H vs) (k : ∀ H1, Ex H H1 → sp (.ref a :: vs) H1 (fun _ H2 => tz D σ H2) E) : tSeq (tDrop (tMeth C m sp [] E to ar)) tz D σ H :=
  s_dropM (D := { D with nx := tz D }) h ho l ha k
theorem q_asgM {i : Nat} (h : Ev to σ H (.ref a)) (ho : H a = some (.ins C dx fs)) (l : fs.lookup m = none) (ha : EvA ar σ H vs) (k : ∀ H1, Ex H H1 → sp (.ref a :: vs) H1 (fun v H2 => tz D (σ.set i (some v)) H2) E) : tSeq (tAsg (tMeth C m sp [] E to ar) (gName i)) tz D σ H :=
  h H (Ex.refl H) _ fun H1 e1 => ⟨a, dx, fs, rfl, e1 a _ ho, l, ha H1 e1 _ fun H2 e2 => by
    rw [List.append_nil]
    exact k H2 (e1.trans e2)⟩
/-- a method that raises, whatever is wanted -/
theorem s_retFM {g : Str} (h : Ev to σ H (.ref a)) (ho : H a = some (.ins C dx fs)) (l : fs.lookup m = none) (ha : EvA ar σ H vs) (k : ∀ H1, Ex H H1 → ∀ Q : VK, sp (.ref a :: vs) H1 Q E) : tRet (tFld K (tMeth C m sp [] E to ar) g) D σ H :=
  h H (Ex.refl H) _ fun H1 e1 => ⟨a, dx, fs, rfl, e1 a _ ho, l, ha H1 e1 _ fun H2 e2 => by
    rw [List.append_nil]
    exact k H2 (e1.trans e2) _⟩
/-- a tuple told apart into five names -/
theorem q_tup5 {p : Addr} {v1 v2 v3 v4 v5 : V} {i1 i2 i3 i4 i5 : Nat} (h : Ev te σ H (.ref p)) (ht : SqT K H p [v1, v2, v3, v4, v5])
    (k : ∀ H1, Ex H H1 → tz D (((((σ.set i1 (some v1)).set i2 (some v2)).set i3 (some v3)).set i4 (some v4)).set i5 (some v5)) H1) :
    tSeq (tAsg te (gTup K 5 (gCons (gName i1) (gCons (gName i2) (gCons (gName i3) (gCons (gName i4) (gCons (gName i5) gNil))))))) tz D σ H :=
  h H (Ex.refl H) _ fun H1 e1 => ⟨p, _, rfl, ex_t e1 ht, rfl, v1, _, rfl, v2, _, rfl, v3, _, rfl, v4, _, rfl, v5, _, rfl, rfl, k H1 e1⟩
theorem q_tup2 {p : Addr} {v1 v2 : V} {i1 i2 : Nat} (h : Ev te σ H (.ref p)) (ht : SqT K H p [v1, v2])
    (k : ∀ H1, Ex H H1 → tz D ((σ.set i1 (some v1)).set i2 (some v2)) H1) :
    tSeq (tAsg te (gTup K 2 (gCons (gName i1) (gCons (gName i2) gNil)))) tz D σ H :=
  h H (Ex.refl H) _ fun H1 e1 => ⟨p, _, rfl, ex_t e1 ht, rfl, v1, _, rfl, v2, _, rfl, rfl, k H1 e1⟩
theorem s_raise {cls : Value} (q : ∀ H1, Ex H H1 → E cls none H1) : tRaise E cls D σ H := q H (Ex.refl H)
/-- two ways of one value -/
theorem ev_ifB {tt : TT} (h : EvT tt σ H b) (h1 : Ev ta σ H x) (h2 : Ev te σ H y) : Ev (tIf tt ta te) σ H (if b = true then x else y) := by
  cases b with
  | true => exact ev_if h (fun _ => h1) (fun z => nomatch z)
  | false => exact ev_if h (fun z => nomatch z) (fun _ => h2)
/-- what the and's second part may lean on -/
theorem ev_andIf {a1 b1 : Bool} (h1 : Ev ta σ H (.bl a1)) (h2 : a1 = true → Ev te σ H (.bl b1)) : Ev (tAndV ta te) σ H (.bl (a1 && b1)) := ev_andV h1 h2
end
/-- kept but at one place -/
def But (s : Addr) (H H' : Hp) : Prop := ∀ b o, b ≠ s → H b = some o → H' b = some o
/-- kept but at the places of fp -/
def Buts (fp : List Addr) (H H' : Hp) : Prop := ∀ b o, b ∉ fp → H b = some o → H' b = some o
theorem Buts.refl (fp : List Addr) (H : Hp) : Buts fp H H := fun _ _ _ h => h
theorem Buts.trans {fp : List Addr} {H H1 H2 : Hp} (a : Buts fp H H1) (b : Buts fp H1 H2) : Buts fp H H2 := fun x o h e => b x o h (a x o h e)
theorem Buts.of {fp : List Addr} {H H' : Hp} (e : Ex H H') : Buts fp H H' := fun b o _ h => e b o h
theorem Buts.but {fp : List Addr} {s : Addr} {H H' : Hp} (hs : s ∈ fp) (e : But s H H') : Buts fp H H' := fun b o hb h => e b o (fun z => hb (z ▸ hs)) h
theorem Buts.mono {fp fq : List Addr} {H H' : Hp} (h : ∀ b ∈ fp, b ∈ fq) (e : Buts fp H H') : Buts fq H H' := fun b o hb => e b o fun z => hb (h b z)
theorem But.of {s : Addr} {H H' : Hp} (e : Ex H H') : But s H H' := fun b o _ h => e b o h
theorem But.upd {s : Addr} {H H' : Hp} {o : HO} (e : Ex H H') : But s H (upd H' s o) := fun b u hb h => by rw [upd_ne hb]; exact e b u h
theorem But.trans {s : Addr} {H H1 H2 : Hp} (a : But s H H1) (b : But s H1 H2) : But s H H2 := fun x o h e => b x o h (a x o h e)
theorem Buts.seq {K : PySem.W.Frag} {fp : List Addr} {H H' : Hp} {a : Addr} {xs : List V} (e : Buts fp H H') (ha : a ∉ fp) (h : SqL K H a xs) : SqL K H' a xs := by
  rcases h with (h | ⟨o, h⟩) | h
  · exact .inl (.inl (e _ _ ha h))
  · exact .inl (.inr ⟨o, e _ _ ha h⟩)
  · exact .inr h
theorem Buts.tup {K : PySem.W.Frag} {fp : List Addr} {H H' : Hp} {a : Addr} {xs : List V} (e : Buts fp H H') (ha : a ∉ fp) (h : SqT K H a xs) : SqT K H' a xs := by
  rcases h with (h | ⟨o, h⟩) | h
  · exact .inl (.inl (e _ _ ha h))
  · exact .inl (.inr ⟨o, e _ _ ha h⟩)
  · exact .inr h
end MV
namespace MV
open PySem PySem.Spec PyProof.Rows L2 Evl
section
variable {K : PySem.W.Frag} {σ : L2.St} {H H' : Hp} {te : TE} {D : Ends} {tz tu : TS} {ar : TA} {xs : List V}
/-- for i, x in enumerate(xs) -/
theorem s_forE {p : Addr} {i1 i2 : Nat} (h : EvA ar σ H [.ref p]) (hx : SqL K H p xs) (Pv : Nat → L2.St → Hp → Prop) (h0 : ∀ H1, Ex H H1 → Pv 0 σ H1) (hl : ∀ i σ' H', i ≤ xs.length → Pv i σ' H' → SqL K H' p xs)
    (hs : ∀ i x σ' H', xs[i]? = some x → Pv i σ' H' → ∀ H2, Ex H' H2 → tu { D with nx := Pv (i + 1), ct := Pv (i + 1), bk := D.nx } ((σ'.set i1 (some (.int (i : Nat)))).set i2 (some x)) H2) (hd : ∀ σ' H', Pv xs.length σ' H' → D.nx σ' H') :
    tFor (iEnum K ar) (gTup K 2 (gCons (gName i1) (gCons (gName i2) gNil))) tu D σ H := h H (Ex.refl H) _ fun H1 e => ⟨p, xs, rfl, ex_l e hx, by
  refine for_it (walk_enum (K := K) (a := p) (xs := xs)) Pv (h0 H1 e) hl (fun i y σ' H2 H2' hi pc hy => ?_) hd
  obtain ⟨T, x1, x2, rfl, nT, rfl, f1, f2⟩ := hy
  have ex1 : V.int (i : Nat) = x1 := Option.some.inj f1
  subst ex1
  exact ⟨T, _, rfl, .inl (.inl upd_same), rfl, _, _, rfl, _, _, rfl, rfl, hs i x2 σ' H2 f2 pc _ (Ex.new nT)⟩⟩
theorem q_forE {p : Addr} {i1 i2 : Nat} (h : EvA ar σ H [.ref p]) (hx : SqL K H p xs) (Pv : Nat → L2.St → Hp → Prop) (h0 : ∀ H1, Ex H H1 → Pv 0 σ H1) (hl : ∀ i σ' H', i ≤ xs.length → Pv i σ' H' → SqL K H' p xs)
    (hs : ∀ i x σ' H', xs[i]? = some x → Pv i σ' H' → ∀ H2, Ex H' H2 → tu { D with nx := Pv (i + 1), ct := Pv (i + 1), bk := tz D } ((σ'.set i1 (some (.int (i : Nat)))).set i2 (some x)) H2) (hd : ∀ σ' H', Pv xs.length σ' H' → tz D σ' H') :
    tSeq (tFor (iEnum K ar) (gTup K 2 (gCons (gName i1) (gCons (gName i2) gNil))) tu) tz D σ H := s_forE (D := { D with nx := tz D }) h hx Pv h0 hl hs hd
/-- a comprehension over a range whose turns may change the heap -/
theorem lc_R1 {n : Int} {j : Nat} {vs : List Nat} (h : EvA ar σ H [.int n]) (hn : 0 ≤ n ∧ n ≤ 10000) (hw : ∀ x, wipe ((wipe σ vs).set j (some x)) vs = wipe σ vs) (Pv : Nat → List V → Addr → Hp → Prop)
    (h0 : ∀ H1 Dl, Ex H H1 → H1 Dl = none → Pv 0 [] Dl (upd H1 Dl (.lst []))) (hs : ∀ (i : Nat) acc Dl H', (i : Int) < n → acc.length = i → H' Dl = some (.lst acc) → Pv i acc Dl H' → ∀ Q : VK, (∀ y H4, H4 Dl = some (.lst acc) → Pv (i + 1) (acc ++ [y]) Dl (upd H4 Dl (.lst (acc ++ [y]))) → Q y H4) → te ((wipe σ vs).set j (some (.int (i : Int)))) H' Q)
    {Q : VK} (k : ∀ acc Dl H', acc.length = n.toNat → H' Dl = some (.lst acc) → Pv n.toNat acc Dl H' → Q (.ref Dl) H') : tLc (iRng1 ar) (gName j) tYes te vs σ H Q :=
  h H (Ex.refl H) _ fun H1 e1 => ⟨n, rfl, by omega, by omega, fun Dl hD =>
    lc_range (lo := 0) (n := n.toNat) (fun i H' => ∃ acc : List V, acc.length = i ∧ H' Dl = some (.lst acc) ∧ Pv i acc Dl H') ⟨[], rfl, upd_same, h0 H1 Dl e1 hD⟩ (fun i H' hi ⟨acc, a1, a2, a3⟩ => by
      have e0 : (0 : Int) + (i : Int) = (i : Int) := Int.zero_add _
      show wipe ((wipe σ vs).set j (some (.int ((0 : Int) + (i : Int))))) vs = wipe σ vs ∧ te ((wipe σ vs).set j (some (.int ((0 : Int) + (i : Int))))) H' fun y H4 => ∃ acc, H4 Dl = some (.lst acc) ∧ acc.length < sizeLine ∧ ∃ acc' : List V, acc'.length = i + 1 ∧ (upd H4 Dl (.lst (acc ++ [y]))) Dl = some (.lst acc') ∧ Pv (i + 1) acc' Dl (upd H4 Dl (.lst (acc ++ [y])))
      rw [e0]
      refine ⟨hw _, ?_⟩
      exact hs i acc Dl H' (by omega) a1 a2 a3 _ fun y H4 h4 p4 => ⟨acc, h4, by rw [sizeLine_eq]; omega, acc ++ [y], by rw [List.length_append, a1]; rfl, upd_same, p4⟩) fun H' ⟨acc, a1, a2, a3⟩ => k acc Dl H' a1 a2 a3⟩
end
end MV
namespace MV
open PySem PySem.Spec PyProof.Rows L2 Evl
section
variable {K : PySem.W.Frag} {σ : L2.St} {H : Hp} {ta te : TE} {D : Ends} {tz : TS} {xs : List V} {P : List V → Prop}
theorem s_appLP {l : Addr} (hl : H l = some (.lst xs)) (ha : Ev ta σ H (.ref l)) (h : EvLP te σ H P) (hz : xs.length < 100000) (k : ∀ ys p H1, P ys → H p = none → Ex H H1 → H1 p = some (.lst ys) → D.nx σ (upd H1 l (.lst (xs ++ [.ref p])))) :
    tDrop (tBM K "list" rAppend ta (tCons te tNil)) D σ H := ha H (Ex.refl H) _ fun H1 e1 =>
  ⟨.inl ⟨rfl, xs, sq_of (e1 l _ hl)⟩, h H1 e1 _ fun ys p H2 hP hp e2 h2 => ⟨l, xs, .ref p, rfl, rfl, e2 l _ (e1 l _ hl), sz_lt hz, k ys p H2 hP (fresh_back e1 hp) (e1.trans e2) h2⟩⟩
end
end MV
namespace MV
open PySem PySem.Spec PyProof.Rows L2 Evl
section
variable {K : PySem.W.Frag} {σ : L2.St} {H H' : Hp} {te ta tl : TE} {D : Ends} {tz tu tw : TS} {xs ys : List V} {p q : Addr}
theorem elp_of {P : List V → Prop} (h : EvL te σ H xs) (hp : P xs) : EvLP te σ H P := fun H1 e Q k => h H1 e Q fun p H2 hn e2 h2 => k xs p H2 hp hn e2 h2
/-- a comprehension over a list whose turns may change the heap -/
theorem lc_L1 {a : Addr} {j : Nat} {vs : List Nat} (h : Ev tl σ H (.ref a)) (hx : SqL K H a xs) (hz : xs.length ≤ 10000) (hw : ∀ x, wipe ((wipe σ vs).set j (some x)) vs = wipe σ vs) (Pv : Nat → List V → Addr → Hp → Prop)
    (h0 : ∀ H1 Dl, Ex H H1 → H1 Dl = none → Pv 0 [] Dl (upd H1 Dl (.lst []))) (hl : ∀ i acc Dl H', H' Dl = some (.lst acc) → Pv i acc Dl H' → SqL K H' a xs)
    (hs : ∀ (i : Nat) x acc Dl H', xs[i]? = some x → acc.length = i → H' Dl = some (.lst acc) → Pv i acc Dl H' → ∀ Q : VK, (∀ y H4, H4 Dl = some (.lst acc) → Pv (i + 1) (acc ++ [y]) Dl (upd H4 Dl (.lst (acc ++ [y]))) → Q y H4) → te ((wipe σ vs).set j (some x)) H' Q)
    {Q : VK} (k : ∀ acc Dl H', acc.length = xs.length → H' Dl = some (.lst acc) → Pv xs.length acc Dl H' → Q (.ref Dl) H') : tLc (iList K tl) (gName j) tYes te vs σ H Q :=
  h H (Ex.refl H) _ fun H1 e1 => ⟨a, rfl, ⟨xs, ex_l e1 hx⟩, fun Dl hD =>
    lc_list (xs := xs) (fun i H' => ∃ acc : List V, acc.length = i ∧ H' Dl = some (.lst acc) ∧ Pv i acc Dl H') ⟨[], rfl, upd_same, h0 H1 Dl e1 hD⟩ (fun i H' _ ⟨acc, _, a2, a3⟩ => hl i acc Dl H' a2 a3) (fun i x H' hi ⟨acc, a1, a2, a3⟩ => by
      have hi' := (List.getElem?_eq_some_iff.mp hi).1
      show wipe ((wipe σ vs).set j (some x)) vs = wipe σ vs ∧ te ((wipe σ vs).set j (some x)) H' fun y H4 => ∃ acc, H4 Dl = some (.lst acc) ∧ acc.length < sizeLine ∧ ∃ acc' : List V, acc'.length = i + 1 ∧ (upd H4 Dl (.lst (acc ++ [y]))) Dl = some (.lst acc') ∧ Pv (i + 1) acc' Dl (upd H4 Dl (.lst (acc ++ [y])))
      refine ⟨hw _, ?_⟩
      exact hs i x acc Dl H' hi a1 a2 a3 _ fun y H4 h4 p4 => ⟨acc, h4, by rw [sizeLine_eq]; omega, acc ++ [y], by rw [List.length_append, a1]; rfl, upd_same, p4⟩) fun H' ⟨acc, a1, a2, a3⟩ => k acc Dl H' a1 a2 a3⟩
theorem q_asgR {i : Nat} (k : te σ H fun v H1 => tz D (σ.set i (some v)) H1) : tSeq (tAsg te (gName i)) tz D σ H := k
/-- objects made one after the other, each from an item of a list -/
theorem lc_objs {β : Type} [Inhabited β] (own : β → List Addr) (rep : β → V) (P : Nat → β → Hp → Prop) {a : Addr} {j : Nat} {vs : List Nat} (h : Ev tl σ H (.ref a)) (hx : SqL K H a xs) (hz : xs.length ≤ 10000) (hw : ∀ x, wipe ((wipe σ vs).set j (some x)) vs = wipe σ vs)
    (hk : ∀ i b H1 H2 Dl, H Dl = none → P i b H1 → But Dl H1 H2 → Dl ∉ own b → P i b H2) (ho : ∀ i b H1, P i b H1 → ∀ x ∈ own b, H1 x ≠ none)
    (hs : ∀ (i : Nat) x H1, xs[i]? = some x → Ex H H1 → ∀ Q : VK, (∀ b H2, Ex H1 H2 → (∀ x ∈ own b, H1 x = none) → P i b H2 → Q (rep b) H2) → te ((wipe σ vs).set j (some x)) H1 Q)
    {Q : VK} (k : ∀ (B : Nat → β) Dl H1, H Dl = none → Ex H H1 → H1 Dl = some (.lst ((List.range xs.length).map fun i => rep (B i))) → (∀ i, i < xs.length → P i (B i) H1 ∧ (∀ x ∈ own (B i), H x = none ∧ x ≠ Dl)) → (∀ i i', i < xs.length → i' < xs.length → i ≠ i' → ∀ x ∈ own (B i), x ∉ own (B i')) → Q (.ref Dl) H1) :
    tLc (iList K tl) (gName j) tYes te vs σ H Q := by
  refine lc_L1 h hx hz hw (fun n acc Dl H1 => H Dl = none ∧ Ex H H1 ∧ ∃ B : Nat → β, acc = (List.range n).map (fun i => rep (B i)) ∧ (∀ i, i < n → P i (B i) H1 ∧ (∀ x ∈ own (B i), H x = none ∧ x ≠ Dl)) ∧ ∀ i i', i < n → i' < n → i ≠ i' → ∀ x ∈ own (B i), x ∉ own (B i'))
    (fun H1 Dl e1 hD => ⟨fresh_back e1 hD, e1.trans (Ex.new hD), fun _ => default, rfl, fun i hi => absurd hi (by omega), fun i _ hi => absurd hi (by omega)⟩)
    (fun i acc Dl H1 _ ⟨_, e, _⟩ => ex_l e hx) ?hs ?hk
  case hs =>
    intro n x acc Dl H1 hxn hacc hDl ⟨hn, e, B, ea, hP, hd⟩ Q' k'
    refine hs n x H1 hxn e Q' fun b H2 e2 hf hPb => ?_
    have hDb : Dl ∉ own b := fun z => by have := hf Dl z; rw [hDl] at this; cases this
    have eU : But Dl H2 (upd H2 Dl (.lst (acc ++ [rep b]))) := But.upd (Ex.refl H2)
    have fr : ∀ i, i < n → ∀ x ∈ own (B i), x ∉ own b := fun i hi x hx hb => ho i (B i) H1 (hP i hi).1 x hx (hf x hb)
    refine k' _ H2 (e2 _ _ hDl) ⟨hn, (e.trans e2).mut hn, fun i => if i = n then b else B i, ?_, fun i hi => ?_, fun i i' hi hi' hne x hx => ?_⟩
    · rw [List.range_succ, List.map_append, ea]
      congr 1
      · refine List.map_congr_left fun i hi => ?_
        have : i < n := List.mem_range.mp hi
        show rep (B i) = rep (if i = n then b else B i)
        rw [if_neg (by omega)]
      · show [rep b] = [rep (if n = n then b else B n)]
        rw [if_pos rfl]
    · by_cases c : i = n
      · subst c
        show P i (if i = i then b else B i) _ ∧ ∀ x ∈ own (if i = i then b else B i), H x = none ∧ x ≠ Dl
        rw [if_pos rfl]
        exact ⟨hk i b H2 _ Dl hn hPb eU hDb, fun x hx => ⟨fresh_back e (hf x hx), fun z => hDb (z ▸ hx)⟩⟩
      · show P i (if i = n then b else B i) _ ∧ ∀ x ∈ own (if i = n then b else B i), H x = none ∧ x ≠ Dl
        rw [if_neg c]
        obtain ⟨h1, h2⟩ := hP i (by omega)
        have hDi : Dl ∉ own (B i) := fun z => (h2 Dl z).2 rfl
        exact ⟨hk i _ H1 _ Dl hn h1 ((But.of e2).trans eU) hDi, h2⟩
    · have hx' : x ∈ own (if i = n then b else B i) := hx
      show x ∉ own (if i' = n then b else B i')
      by_cases c : i = n
      · rw [if_pos c] at hx'
        rw [if_neg (by omega)]
        exact fun z => fr i' (by omega) x z hx'
      · rw [if_neg c] at hx'
        by_cases c' : i' = n
        · rw [if_pos c']
          exact fr i (by omega) x hx'
        · rw [if_neg c']
          exact hd i i' (by omega) (by omega) hne x hx'
  case hk =>
    intro acc Dl H1 hacc hDl ⟨hn, e, B, ea, hP, hd⟩
    subst ea
    exact k B Dl H1 hn e hDl hP hd
/-! ### tests told part by part -/
theorem q_orW {t u : TT} (h1 : EvT t σ H false) (k : ∀ H1, Ex H H1 → tSeq (tIfS u tu tw) tz D σ H1) : tSeq (tIfS (tOr t u) tu tw) tz D σ H := h1 H (Ex.refl H) _ fun H1 e => by
  show (if false = true then _ else _)
  rw [if_neg (by decide)]
  exact k H1 e
theorem s_orW {t u : TT} (h1 : EvT t σ H false) (k : ∀ H1, Ex H H1 → tIfS u tu tw D σ H1) : tIfS (tOr t u) tu tw D σ H := h1 H (Ex.refl H) _ fun H1 e => by
  show (if false = true then _ else _)
  rw [if_neg (by decide)]
  exact k H1 e
theorem rv_neTup (h : SqT K H p xs) (hf : xs.all flat4 = true) (h2 : SqT K H q xs) : RV (rNeD K) (.ref p) (.ref q) H (.bl false) := fun H1 e Q k => by
  refine ⟨.tuple (xs.map vD), .tuple (xs.map vD), .tup (ex_t e h) (dpAll_flat hf), .tup (ex_t e h2) (dpAll_flat hf), shaped_tup hf, shaped_tup hf, ?_⟩
  have e2 : PyData.eqv (.tuple (xs.map vD)) (.tuple (xs.map vD)) = true := PySem.SeqAt.eqv_refl _ (SeqAt.canLay_of_shaped (shaped_tup hf))
  rw [e2]
  exact k H1 (Ex.refl H1)
/-- found != stepped(..)[:2], the two alike -/
theorem q_neCut {i : Nat} {sp : Sp} {E : XK} {ar : TA} {vs : List V} (h : σ[i]? = some (some (.ref p))) (ha : EvA ar σ H vs) (hf : xs.all flat4 = true)
    (k : ∀ H1, Ex H H1 → ∀ Q : VK, (∀ q ys H2, SqT K H2 q ys → ¬ (HT.sIx ys.length 0 none = 0 ∧ HT.sIx ys.length ys.length (some 2) = ys.length) → cutV ys none (some 2) = xs → SqT K H2 p xs → (∀ H3, Ex H2 H3 → tz D σ H3) → Q (.ref q) H2) → sp vs H1 Q E) :
    tSeq (tIfS (tTest (tOp (rNeD K) (tVar i) (tSl (rSlT K) (tCall sp [] E ar) tNoPart (tPart (tC (.int 2)))))) tu tNext) tz D σ H := by
  refine ⟨.ref p, h, ?_⟩
  refine ha H (Ex.refl H) _ fun H1 e1 => ?_
  rw [List.append_nil]
  refine k H1 e1 _ fun q ys H2 hq hn hc hp kz => ?_
  refine ⟨2, rfl, q, ys, rfl, hq, hn, fun r hr => ?_⟩
  have e2 : Ex H2 (upd H2 r (.tup (cutV ys none (some 2)))) := Ex.new hr
  rw [hc] at e2 ⊢
  refine rv_neTup (ex_t e2 hp) hf (st_of upd_same) _ (Ex.refl _) _ fun H3 e3 => ⟨false, rfl, ?_⟩
  exact kz H3 (e2.trans e3)
theorem q_clear {i : Nat} (h : σ[i]? = some (some (.ref p))) (hp : H p = some (.lst xs)) (k : tz D σ (upd H p (.lst []))) : tSeq (tDrop (tBM0 K "list" rClear (tVar i))) tz D σ H :=
  ⟨.ref p, h, .inl ⟨rfl, xs, sq_of hp⟩, p, xs, rfl, rfl, hp, k⟩
theorem Buts.mut {fp : List Addr} {o : HO} (e : Buts fp H H') (h : H p = none) : Buts fp H (upd H' p o) := fun b u hb hu => by
  have : b ≠ p := fun z => by rw [z, h] at hu; cases hu
  rw [upd_ne this]
  exact e b u hb hu
theorem ev_neTup {tb : TE} (ha : EvU ta σ H xs) (hb : EvU tb σ H xs) (hf : xs.all flat4 = true) : Ev (tOp (rNeD K) ta tb) σ H (.bl false) := ev_opUU ha hb fun p q H1 h1 h2 _ => rv_neTup (st_of h1) hf (st_of h2)
theorem q_joinSet {c : TT} {t u : TS} {i : Nat} {x : V} (h : ∀ D' : Ends, (∀ y H1, y = x → Ex H H1 → D'.nx (σ.set i (some y)) H1) → tIfS c t u D' σ H) (k : ∀ H1, Ex H H1 → tz D (σ.set i (some x)) H1) : tSeq (tIfS c t u) tz D σ H :=
  h { D with nx := tz D } fun y H1 e eH => by
    subst e
    exact k H1 eH
end
end MV
namespace MV
open PySem PySem.Spec PyProof.Rows L2 Evl
/-! ### xs.count(y) of flat things -/
def rCntF (K : PySem.W.Frag) : V → List V → Hp → VK → Prop := fun x xs H Q => ∃ (p : Addr) (ys : List V) (y : V), x = .ref p ∧ xs = [y] ∧ SqL K H p ys ∧ flatV y = true ∧ ys.all flatV = true ∧ Q (.int ((ys.countP fun z => eqV z y : Nat) : Int)) H
theorem count_eqU {x : V} : ∀ {xs : List V} {us : List Value}, Vals xs us → xs.all flatV = true → us.countP (eqU x) = xs.countP fun y => eqV y x
  | _, _, .nil, _ => rfl
  | y :: xs, u :: us, .cons r t, f => by
    rw [List.all_cons, Bool.and_eq_true] at f
    rw [List.countP_cons, List.countP_cons, count_eqU t f.2, eqU_of r f.1]
theorem mt_countF {X : Cx} : MtR X "list.count" (rCntF X.K) := by
  intro pins s σ H x xs v us Q I rx rxs h
  obtain ⟨p, ys, y, rfl, rfl, hs, fy, fys, q⟩ := h
  cases rx
  cases rxs with
  | cons ry rt =>
    rename_i uy ut
    cases rt
    obtain ⟨its, rv, ⟨⟨cls, dd, data, sl⟩, n, ho, hc, hdn, hd⟩, hlen⟩ := I.list hs
    simp only at hc hd
    subst hc hd
    refine call_meets PySem.F.slot_list_count ⟨_, ho, rfl⟩ PySem.F.entry_list_count (PySem.F.args_list_count_2 _ _)
      (SeqAt.list_countAt p its.toArray n dd sl uy (eqU y)) ⟨ho, fun u hu => mem_eqAt ry fy rv fys u (by simpa using hu), ?_⟩
    have ec : its.toArray.toList.countP (eqU y) = ys.countP fun z => eqV z y := count_eqU rv fys
    refine ⟨.int ((ys.countP fun z => eqV z y : Nat) : Int), H, I.tok _, ⟨s.toks, ?_⟩, q⟩
    show Value.int ((its.toArray.toList.countP (eqU y) : Nat) : Int) s.toks = Value.int ((ys.countP fun z => eqV z y : Nat) : Int) s.toks
    rw [ec]
section
variable {K : PySem.W.Frag} {σ : L2.St} {H : Hp} {to : TE} {p : Addr} {ys : List V} {y : V} {te : TE}
theorem ev_count (ho : Ev to σ H (.ref p)) (hs : SqL K H p ys) (h : Ev te σ H y) (fy : flatV y = true) (fys : ys.all flatV = true) (ht : ∀ H1, Ex H H1 → tyV K "list" (.ref p) H1) : Ev (tBM K "list" (rCntF K) to (tCons te tNil)) σ H (.int ((ys.countP fun z => eqV z y : Nat) : Int)) := fun H1 e Q q =>
  ho H1 e _ fun H2 e2 => ⟨ht H2 (e.trans e2), h H2 (e.trans e2) _ fun H3 e3 => ⟨p, ys, y, rfl, rfl, ex_l ((e.trans e2).trans e3) hs, fy, fys, q H3 (e2.trans e3)⟩⟩
theorem ty_list (h : H p = some (.lst ys)) : tyV K "list" (.ref p) H := .inl ⟨rfl, ys, sq_of h⟩
end
end MV
namespace MVH
open PySem PySem.Spec PyProof.Rows L2 HotX
/-! ### a list walked while an exception is handled -/
section
variable {prog : Program} {w : World} {A : Around} {E : Value → Shared → Prop} {s : Shared}
theorem end_hot {it l x1 : Addr} {i : Nat} {items : Array Value} {Q : Option Value → Shared → Prop} (hot : HotAt A x1 s.heap) (hne : x1 ≠ it) (hit : s.heap.IsListIter it l i) (hl : s.heap.IsList l items) (hx : items[i]? = none)
    (hQ : ∀ h', Heap.ExtBut it s.heap h' → Q none { s with heap := h' }) : wpAny (model prog w) A (pyNext (.ref it)) Q E s := by
  obtain ⟨o, ho, hc, hd⟩ := id hit; obtain ⟨ol, hol, _, nl, hdl⟩ := hl; obtain ⟨hh, o1, vs1, h1, d1, c1⟩ := hot
  unfold pyNext
  refine wpAny_bind (wpAny_attempt (wpAny_callSpecial?_slot (name := Str.ofString "__next__") hit.typeIs slot_listiter_next (wpAny_call_entry slot_listiter_next hit.typeIs entry_listiter_next ?_ (args_listiter_next _))))
  show wpAny _ _ (field (.ref it) 0 >>= _) _ _ s
  refine wpAny_bind (wpAny_field ho hd (x := .ref l) rfl ?_); show wpAny _ _ (if (Value.ref l == Value.none) = true then _ else _) _ _ s
  rw [if_neg (by exact Bool.false_ne_true)]
  show wpAny _ _ (field (.ref it) 1 >>= _) _ _ s
  refine wpAny_bind (wpAny_field ho hd (x := .int i 0) rfl ?_); show wpAny _ _ (seqItems? (.ref l) >>= _) _ _ s
  refine wpAny_bind (wpAny_seqItems hol hdl ?_); simp only [Int.toNat_natCast, hx]
  refine wpAny_bind (wpAny_rule (wpAny_bind (wpAny_setField ho hd (by simp) ?_))); show wpAny _ _ (newExc (.type "StopIteration") [] >>= _) _ _ _
  refine wpAny_bind ?_; simp only [newExc, newTuple]
  refine wpAny_bind (wpAny_newObj_type ?_ (by size_fits)); refine wpAny_bind (m := firstArgMember _ _) (wpAny_of_eq (a := Value.none) (by first | rfl | (simp only [firstArgMember]; rfl)) ?_); refine wpAny_newObj_type ?_ (by size_fits)
  have k1 := Heap.SameBut.update (h := s.heap) (a := it) (f := Obj.mapFields (·.setIfInBounds 0 Value.none))
  have hk : (s.heap.update it (Obj.mapFields (·.setIfInBounds 0 Value.none))).get? x1 = some o1 := (k1.2 x1 hne).trans h1
  refine raiseNew_hot ⟨hh, o1, vs1, Heap.get?_push_of_some _ (Heap.get?_push_of_some _ hk), d1, c1⟩ (Nat.ne_of_lt (Heap.lt_size (Heap.get?_push_of_some _ hk))) (Heap.get?_push_size _ rfl) rfl (by first | (simp; done) | (simp; omega)) ?_
  refine wpAny_bind (wpAny_isInstance (T := "StopIteration") (b := true) ⟨_, Heap.get?_update_self _ (Heap.get?_push_size _ rfl) rfl, rfl⟩ isSubtype_stop ?_)
  refine wpAny_pure (hQ _ fun b u hb e => ?_)
  have hb2 := (k1.2 b hb).trans e
  rw [Heap.get?_update_other _ _ (Nat.ne_of_gt (Heap.lt_size (Heap.get?_push_of_some _ hb2)))]
  exact Heap.get?_push_of_some _ (Heap.get?_push_of_some _ hb2)
/-- the walk of a list: the list, and the handled one, stay -/
def StL (I l x1 : Addr) (its : Array Value) (i : Nat) (h : Heap) : Prop := h.IsListIter I l i ∧ h.IsList l its ∧ I ≠ l ∧ x1 ≠ I ∧ ∃ o vs, h.get? x1 = some o ∧ o.data = .fields vs ∧ vs[2]? = some .none
theorem list_walks {I l x1 : Addr} {its : Array Value} (hh : A.handled = some (.ref x1)) : Walks prog w A I [I, l, x1] [I] its.size (fun i v => its[i]? = some v) (StL I l x1 its) where
  sub := by simp
  frame := fun i h h' ⟨a, ⟨ol, b1, b2⟩, n1, n2, ⟨o, vs, c1, c2⟩⟩ k => ⟨a.at fun u e => k I (by simp) u e, ⟨ol, k l (by simp) _ b1, b2⟩, n1, n2, o, vs, k x1 (by simp) _ c1, c2⟩
  item := fun i s Q E hi ⟨a, b, n1, n2, ⟨o, vs, c1, c2⟩⟩ hQ => wpAny_pyNext_list_item (x := its[i]) a b (by simp [hi]) fun h' a' sb => by
    obtain ⟨ol, b1, b2⟩ := b
    exact hQ its[i] h' s.toks (by simp [hi]) ⟨a', ⟨ol, (sb.2 l n1.symm).trans b1, b2⟩, n1, n2, o, vs, (sb.2 x1 n2).trans c1, c2⟩ fun c u hc e => (sb.2 c (by simpa using hc)).trans e
  done := fun s Q E ⟨a, b, n1, n2, ⟨o, vs, c1, c2⟩⟩ hQ => end_hot ⟨hh, o, vs, c1, c2⟩ n2 a b (by simp) fun h' eb => hQ h' s.toks fun c u hc e => eb c u (by simpa using hc) e
  self := fun i s Q E ⟨a, _⟩ q => wpAny_pyIter_listiter a q
end
section
variable {X : Cx}
/-- sum(xs) while an exception is handled -/
theorem cr_sumH (hot : L2H.HotC X) : CallR X (.builtin "sum") (rSum X.K) := by
  intro pins s σ H vs us Q I r h
  obtain ⟨a, ns, rfl, hs, q⟩ := h
  obtain ⟨its, rv, hl, _⟩ := I.list hs
  obtain ⟨x1, hh, o1, vs1, g1, d1, c1⟩ := hot.at I
  rw [Vals.ref1 r]
  have hi := rv.ints
  obtain ⟨xs, e⟩ := hi.allInts.items
  have hn : numsOf (intItems xs).toList = ns := by rw [← e]; exact hi.numsOf
  rw [nums_intItems] at hn
  have hl' : s.heap.IsList a (intItems xs) := e ▸ hl.isList
  refine call_sum_walkG (iter_intList hl' fun s2 e2 st hfp hne => ?_)
  subst e2
  have x1lt := Heap.lt_size g1
  refine ⟨_, _, _, _, _, _, numAt xs, rfl, list_walks (A := X.A.in1) (l := a) (x1 := x1) (its := intItems xs) hh, ⟨st.1, st.2, hne.symm, Nat.ne_of_lt x1lt, o1, vs1, Heap.get?_push_of_some _ g1, d1, c1⟩, fun b hb => ?_, fun _ _ => intItems_at, fun h' tk t' hk => ?_⟩
  · simp only [List.mem_cons, List.not_mem_nil, or_false] at hb
    rcases hb with z | z | z
    · exact hfp b (by simp [z])
    · exact hfp b (by simp [z])
    · rw [z]
      show x1 < (s.heap.push _).objs.size
      rw [Heap.size_push]
      exact Nat.lt_succ_of_lt x1lt
  · have ez : preSum (numAt xs) (intItems xs).size = ns.sum := by
      rw [preSum_eq, List.take_of_length_le (by simp [intItems]), hn]
    rw [ez]
    exact ⟨.int ns.sum, H, I.kept (t' := tk) (old_kept hk), ⟨t', rfl⟩, q⟩
end
/-! ### [int(b) for b in bs] while an exception is handled -/
section
variable {X : Cx} {pins : List (Addr × Obj)} {σ : L2.St} {H : Hp} {s2 s3 : Shared} {scope : Scope} {y : Str} {iy : Nat} {C D I0 : Addr}
theorem names_local {env : Env} (hloc : ∀ z ∈ scope.names, z.2 = .local ∨ z.2 = .globalImplicit) {x : Str} {k : NameKind} (h : (relabel scope env).names.lookup x = some k) : ∃ z ∈ scope.names, z.1 = x ∧ z.2 = k := by
  have hm : (x, k) ∈ (relabel scope env).names := PySem.mem_of_lookup h
  unfold relabel at hm
  obtain ⟨⟨n, k0⟩, hz, e⟩ := List.mem_map.mp hm
  have hk : k0 = .local ∨ k0 = .globalImplicit := hloc _ hz
  rcases hk with rfl | rfl
  · have e' : (n, NameKind.local) = (x, k) := e
    cases e'
    exact ⟨_, hz, rfl, rfl⟩
  · have e' : (n, NameKind.globalImplicit) = (x, k) := e
    cases e'
    exact ⟨_, hz, rfl, rfl⟩
theorem names_not {env : Env} (hloc : ∀ z ∈ scope.names, z.2 = .local ∨ z.2 = .globalImplicit) {x : Str} {k : NameKind} (h : (relabel scope env).names.lookup x = some k) (h1 : k ≠ .local) (h2 : k ≠ .globalImplicit) : False := by
  obtain ⟨z, hz, _, e⟩ := names_local hloc h
  rcases hloc z hz with w | w
  · exact h1 (e.symm.trans w)
  · exact h2 (e.symm.trans w)
theorem blk_inv (hcalm : X.calm = false) (hN : X.N.Nodup) (ok : BlkOk X.N X.env.scope scope [(y, iy)]) (hloc : ∀ z ∈ scope.names, z.2 = .local ∨ z.2 = .globalImplicit) (I2 : Inv X pins σ H s2) (hf : FpOk X pins H I0) (hI : I0 < s2.heap.objs.size) (cb : CompBegins s2 D C s3) :
    Inv (X.blk s2 H scope (compEnvC scope [] C X.env) [I0]) [] (wipe σ [iy]) H s3 := by
  obtain ⟨⟨h, tk, rfl⟩, old, newD, newC, ne, names⟩ := cb
  obtain ⟨f0, f1, f2, f3, f4, f5⟩ := hf
  have neC : I0 ≠ C := Nat.ne_of_lt (Nat.lt_of_lt_of_le hI newC)
  have okB : (X.blk s2 H scope (compEnvC scope [] C X.env) [I0]).Ok :=
    { mod := I2.ok.mod
      kind := ok.kind
      glob := I2.ok.glob
      blt := I2.ok.blt
      above := newC
      inj := fun x z c e => by cases e
      has := fun x hx => by
        rcases hx with e | e
        · exact (names_not (env := X.env) hloc e (by decide) (by decide)).elim
        · exact (names_not (env := X.env) hloc e (by decide) (by decide)).elim
      cab := fun x c _ e => by cases e
      hd := fun z => absurd (hcalm.symm.trans z) (by decide)
      frames := I2.ok.frames
      stk := .inl rfl
      exf := fun b hb => by
        rw [List.mem_singleton.mp hb]
        exact ⟨neC, fun x c e => by cases e⟩
      bs := I2.bs
      bsz := Nat.le_trans I2.ok.bsz I2.sz
      noex := fun b o e hb => by
        rw [List.mem_singleton.mp hb] at e
        rcases f3 with z | z
        · exact I2.ok.noex _ _ e z
        · exact Nat.lt_irrefl _ (Nat.lt_of_lt_of_le (Heap.lt_size (I2.ok.bs _ _ e).1) z)
      exfs := fun b hb hm => by
        rw [List.mem_singleton.mp hb] at hm
        rcases List.mem_cons.mp (I2.stkSub _ hm) with z | z
        · exact f1 z
        · exact f2 z
      funs := I2.stack
      frf := I2.stkFree }
  exact
    { ok := okB
      os := rfl
      bare := I2.bare
      base := ⟨fun b o e _ _ _ => old b o e, fun b o e _ _ _ => ⟨o.slots, old b o e⟩, fun b o e n _ => n, fun b o e _ => ⟨o, old b o e⟩, fun _ _ e => e, fun _ _ _ e => e, fun b ps e => ⟨#[], by simpa using e⟩⟩
      loc := ⟨_, names, fun i x v e1 e2 e3 => by
        exfalso
        have hx : ∃ z ∈ scope.names, z.1 = x ∧ z.2 = .local := by
          rcases e3 with e | e | e
          · exact names_local (env := X.env) hloc e
          · exact (names_not (env := X.env) hloc e (by decide) (by decide)).elim
          · exact (names_not (env := X.env) hloc e (by decide) (by decide)).elim
        obtain ⟨z, hz, rfl, hzl⟩ := hx
        rcases ok.own z hz (.inl hzl) with w | w
        · simp only [List.map_cons, List.map_nil, List.mem_singleton] at w
          have hi : i = iy := nodup_ix hN e1 (by rw [w]; exact ok.ix (y, iy) (by simp))
          exact (wipe_some e2).2 (by simp [hi])
        · exact w (List.mem_of_getElem? e1)⟩
      cell := fun x c e => by cases e
      free := I2.hok.fresh newC
      freeC := fun x c e => by cases e
      pin := fun p hp => by simp at hp
      hok := fun b u e => (I2.hok b u e).stay (fun c w _ q => old c w q) (fun _ q => q) fun _ _ q => q
      len := by rw [wipe_length]; exact I2.len }
theorem vals_bools : ∀ {bs : List Bool} {us : List Value}, Vals (bs.map V.bl) us → us = bs.map Value.bool
  | [], _, h => by cases h; rfl
  | b :: bs, _, h => by
    cases h with
    | cons r t =>
      cases r
      rw [vals_bools t]
      rfl
/-- what stands elsewhere than at the new list and the iterator stays -/
theorem blk_keep {h' : Heap} {tk : Nat} {σ' : L2.St} {s : Shared} (I : Inv (X.blk s2 H scope (compEnvC scope [] C X.env) [I0]) [] σ' H s) (hD : H D = none) (hI : H I0 = none) (nD : D ≠ C) (nI : I0 ≠ C) (newD : s2.heap.objs.size ≤ D)
    (k : ∀ b o, b ∉ D :: [I0] → s.heap.get? b = some o → h'.get? b = some o) : Inv (X.blk s2 H scope (compEnvC scope [] C X.env) [I0]) [] σ' H { s with heap := h', toks := tk } := by
  have nH : ∀ b u, H b = some u → b ∉ D :: [I0] := fun b u e z => by
    rcases List.mem_cons.mp z with w | w
    · rw [w, hD] at e; cases e
    · rw [List.mem_singleton.mp w, hI] at e; cases e
  refine I.call (ch := [D, I0]) (d' := s.drawn) ⟨fun b o e _ _ hc => k b o hc e, fun b o e _ _ hc => ⟨o.slots, k b o hc e⟩, fun b o e n _ => n, fun b o e hc => ⟨o, k b o hc e⟩, fun _ _ e => e, fun _ _ _ e => e, fun b ps e => ⟨#[], by simpa using e⟩⟩ (fun b u e => (I.hok b u e).stay (fun c w hc q => k c w ?_ q) (fun _ q => q) fun _ _ q => q) I.bare fun b hb => ?_
  · rcases hc with z | z
    · rw [z]; exact nH b u e
    · exact nH c _ z
  · rcases List.mem_cons.mp hb with z | z
    · exact ⟨.inr (by rw [z]; exact newD), by rw [z]; exact nD, fun x c e => (by cases e), fun p hp => by simp at hp⟩
    · exact ⟨.inl (by simp [List.mem_singleton.mp z]), by rw [List.mem_singleton.mp z]; exact nI, fun x c e => (by cases e), fun p hp => by simp at hp⟩
def bInt (b : Bool) : Int := if b = true then 1 else 0
/-- [int(y) for y in f], f a list of booleans -/
def tHotInts (jf : Nat) : TE := fun σ H Q => ∃ (l : Addr) (bs : List Bool), σ[jf]? = some (some (.ref l)) ∧ H l = some (.lst (bs.map V.bl)) ∧ ∀ p, H p = none → Q (.ref p) (upd H p (.lst (bs.map fun b => V.int (bInt b))))
theorem clo_nil {cells : List (Str × Addr)} : ∀ {names : List (Str × NameKind)}, (∀ z ∈ names, z.2 = .local ∨ z.2 = .globalImplicit) → cloFrom cells names [] = []
  | [], _ => rfl
  | (n, k) :: r, h => by
    have hk : k = .local ∨ k = .globalImplicit := h (n, k) (by simp)
    have hr : cloFrom cells r [] = [] := clo_nil fun z hz => h z (by simp [hz])
    rcases hk with rfl | rfl <;> exact hr
theorem pe_hotInts {tg elt iter : Expr} {pos : Pos} {jf : Nat} (hcalm : X.calm = false) (hot : L2H.HotC X) (hN : X.N.Nodup) (ok : BlkOk X.N X.env.scope scope [(y, iy)]) (hloc : ∀ z ∈ scope.names, z.2 = .local ∨ z.2 = .globalImplicit) (hi : PE X iter (tVar jf))
    (hg : ∀ (s : Shared) (H : Hp) (C : Addr) (cl : List (Str × Addr)) (fp : List Addr), PG (X.blk s H scope (compEnvC scope cl C X.env) fp) tg (gName iy)) (he : ∀ (s : Shared) (H : Hp) (C : Addr) (cl : List (Str × Addr)) (fp : List Addr), PE (X.blk s H scope (compEnvC scope cl C X.env) fp) elt (tCB MV.rInt1 (tCons (tVar iy) tNil)))
    (hfs : ∀ x, foldedSetIterable iter X.env x = pure x := by intro _; rfl) : PE X (.ListComp elt [⟨tg, iter, [], 0⟩] scope pos) (tHotInts jf) := by
  refine ⟨fun pins s σ H Q I h => ?_⟩
  obtain ⟨l, bs, hσ, hl, q⟩ := h
  have hclos := closure_ok (env := X.env) (scope := scope) fun z hz e => absurd e (by rcases hloc z hz with w | w <;> rw [w] <;> decide)
  rw [clo_nil hloc] at hclos
  refine ListComp_goes hclos (fun z hz => by rcases hloc z hz with w | w <;> rw [w] <;> decide) ok.kind (fun z hz e => by rw [ok.uniq z hz, e]) ?_ hfs
  refine thn (hi.run pins s σ H (fun v H1 => v = .ref l ∧ H = H1) I ⟨_, hσ, rfl, rfl⟩) fun xv s1 ⟨v, H1, I1, r, ⟨e1, e2⟩⟩ => ?_
  subst e1 e2
  cases r
  obtain ⟨its, rv, pl, hz⟩ := I1.list (.inl (.inl hl))
  have eb := vals_bools rv
  subst eb
  obtain ⟨⟨x1, ox⟩, ⟨hh, vs1, d1, c1⟩, hp⟩ := hot
  obtain ⟨g1, n1, nL1, nf1, _⟩ := I1.pin (x1, ox) (List.mem_append_left _ hp)
  refine wpAny_pyIter_list pl.isList ?_
  have hnew : H s1.heap.objs.size = none := I1.hok.fresh (Nat.le_refl _)
  have hf : FpOk X pins H s1.heap.objs.size := I1.fpOk (Nat.le_refl _) hnew
  have x1lt := Heap.lt_size g1
  have llt : l < s1.heap.objs.size := by obtain ⟨_, e, _⟩ := pl.isList; exact Heap.lt_size e
  have I2 : Inv X pins σ H { s1 with heap := s1.heap.push { cls := .type "list_iterator", data := .fields #[.ref l, .int 0 0] } } := I1.kept (t' := s1.toks) fun b o e => Heap.get?_push_of_some _ e
  have g2 : (s1.heap.push { cls := .type "list_iterator", data := .fields #[.ref l, .int 0 0] }).get? x1 = some ox := Heap.get?_push_of_some _ g1
  have st0 : StL s1.heap.objs.size l x1 (bs.map Value.bool).toArray 0 (s1.heap.push { cls := .type "list_iterator", data := .fields #[.ref l, .int 0 0] }) := ⟨⟨_, Heap.get?_push_size _ rfl, rfl, rfl⟩, pl.isList.push _, Nat.ne_of_gt llt, Nat.ne_of_lt x1lt, ox, vs1, g2, d1, c1⟩
  have hsz : s1.heap.objs.size < (s1.heap.push { cls := .type "list_iterator", data := .fields #[.ref l, .int 0 0] }).objs.size := by rw [Heap.size_push]; exact Nat.lt_succ_self _
  have ds2 : ({ s1 with heap := s1.heap.push { cls := .type "list_iterator", data := .fields #[.ref l, .int 0 0] } } : Shared).heap = s1.heap.push { cls := .type "list_iterator", data := .fields #[.ref l, .int 0 0] } := rfl
  rw [← ds2] at g2 st0 hsz
  generalize ({ s1 with heap := s1.heap.push { cls := .type "list_iterator", data := .fields #[.ref l, .int 0 0] } } : Shared) = s2 at g2 st0 hsz I2 ⊢
  generalize s1.heap.objs.size = I0 at hnew hf st0 hsz ⊢
  have hls : (bs.map Value.bool).toArray.size = bs.length := by simp
  refine ⟨I0, [I0, l, x1], [I0], (bs.map Value.bool).toArray.size, fun i v _ => (bs.map Value.bool).toArray[i]? = some v, StL I0 l x1 (bs.map Value.bool).toArray, rfl, Goes.ofWalks (list_walks hh) (fun i v s Q E st q => by
    obtain ⟨⟨o, e, c, d⟩, _⟩ := st
    exact go_of e c d (by decide) q), by rw [hls]; rw [List.length_map] at hz; exact hz, st0, fun b hb => ?_, fun D C s3 cb => ?_⟩
  · simp only [List.mem_cons, List.not_mem_nil, or_false] at hb
    rcases hb with z | z | z
    · rw [z]; exact hsz
    · rw [z]
      obtain ⟨_, e, _⟩ := st0.2.1
      exact Heap.lt_size e
    · rw [z]; exact Heap.lt_size g2
  have newD := cb.newD
  have newC := cb.newC
  have nD := cb.ne
  have hD : H D = none := I2.hok.fresh newD
  have nI : I0 ≠ C := Nat.ne_of_lt (Nat.lt_of_lt_of_le hsz newC)
  have nID : I0 ≠ D := Nat.ne_of_lt (Nat.lt_of_lt_of_le hsz newD)
  have nfD : D ∉ frs X.stack := fun hm => by
    rcases List.mem_cons.mp (I2.stkSub _ hm) with z | z
    · exact Nat.lt_irrefl _ (Nat.lt_of_lt_of_le (z ▸ I2.lt) newD)
    · exact I2.nofs newD z
  have nfI : I0 ∉ frs X.stack := fun hm => by
    rcases List.mem_cons.mp (I2.stkSub _ hm) with z | z
    · exact hf.2.1 z
    · exact hf.2.2.1 z
  have nf1' : x1 ∉ frs X.stack := fun hm => by
    rcases List.mem_cons.mp (I2.stkSub _ hm) with z | z
    · exact nL1 z
    · exact nf1 z
  have n1I : x1 ≠ I0 := st0.2.2.2.1
  refine ⟨fun i ys s => Inv (X.blk s2 H scope (compEnvC scope [] C X.env) [I0]) [] (wipe σ [iy]) H s ∧ Vals ((bs.take i).map fun b => V.int (bInt b)) ys, ⟨blk_inv hcalm hN ok hloc I2 hf hsz cb, .nil⟩, fun i ys s h' tk ⟨G1, G2⟩ k _ => ⟨blk_keep G1 hD hnew nD nI newD k, G2⟩, fun i v ys s hin hY hSt ⟨G1, G2⟩ hPl => ?_, fun ys s ⟨G1, G2⟩ hPl => ?_⟩
  · have hib : i < bs.length := by rw [← hls]; exact hin
    have hv : v = .bool bs[i] := by
      have hY : (bs.map Value.bool).toArray[i]? = some v := hY
      rw [List.getElem?_toArray, List.getElem?_map, List.getElem?_eq_getElem hib] at hY
      exact (Option.some.inj hY).symm
    subst hv
    obtain ⟨⟨oI, eI, cI, dI⟩, hlI, n2, n3, hx1⟩ := hSt
    obtain ⟨nn, eD⟩ := hPl
    have J : Inv (X.blk s2 H scope (compEnvC scope [] C X.env) [I0]) [(I0, oI), (D, { cls := .type "list", data := .seq ys.toArray nn })] (wipe σ [iy]) H s := G1.pins_of fun p hp => by
      rcases List.mem_cons.mp hp with z | z
      · rw [z]; exact ⟨eI, hnew, nI, nfI, fun v z => by rw [dI] at z; cases z⟩
      · rw [List.mem_singleton.mp z]; exact ⟨eD, hD, nD, nfD, fun v z => by cases z⟩
    refine thnF ((hg s2 H C [] [I0]).run _ s _ H (.bl bs[i]) (.bool bs[i]) (fun σ' H' => σ' = (wipe σ [iy]).set iy (some (.bl bs[i])) ∧ H = H') J rfl ⟨rfl, rfl⟩) fun _ s4 ⟨σ4, H4, J4, ⟨e4, e5⟩⟩ => ?_
    subst e4 e5
    refine wpAny_of_eq (a := true) rfl ?_
    rw [if_pos rfl]
    have hiyl : iy < (wipe σ [iy]).length := by
      rw [wipe_length, I2.len]
      exact (List.getElem?_eq_some_iff.mp (ok.ix (y, iy) (by simp))).1
    refine thnF ((he s2 H C [] [I0]).run _ s4 _ H (fun v H' => v = .int (bInt bs[i]) ∧ H = H') J4 ⟨.bl bs[i], by rw [List.getElem?_set_self hiyl], .inr ⟨bs[i], rfl, rfl, rfl⟩⟩) fun x s6 ⟨v, H6, J6, r6, ⟨e6, e7⟩⟩ => ?_
    subst e6 e7
    have q1 := (J6.pin (I0, oI) (by simp)).1
    have q2 := (J6.pin (D, { cls := .type "list", data := .seq ys.toArray nn }) (by simp)).1
    obtain ⟨its6, rv6, pl6, _⟩ := J6.list (a := l) (.inl (.inl hl))
    have eb6 := vals_bools rv6
    subst eb6
    refine ⟨⟨(J6.unpinned (pins := [])).weak (by rw [List.length_set]) fun j w e => ?_, ?_⟩, ⟨⟨oI, q1, cI, dI⟩, pl6.isList, n2, n3, ox, vs1, J6.base.keep x1 ox g2 n1 nf1' (by simpa using n1I), d1, c1⟩, nn, q2⟩
    · have hj : iy ≠ j := fun z => (wipe_some e).2 (by simp [z])
      rw [List.getElem?_set_ne hj]
      exact e
    · rw [List.take_add_one, List.getElem?_eq_getElem hib, List.map_append]
      exact G2.append (.cons r6 .nil)
  · have ht : bs.take (bs.map Value.bool).toArray.size = bs := by rw [hls]; exact List.take_length
    rw [ht] at G2
    obtain ⟨m, hn, _⟩ := id G1.loc
    refine ⟨m, hn, fun h' sb => ⟨.ref D, upd H D (.lst (bs.map fun b => V.int (bInt b))), ?_, rfl, q D hD⟩⟩
    obtain ⟨nn, eD⟩ := hPl
    have nH : ∀ b u, H b = some u → b ≠ D := fun b u e z => by rw [z, hD] at e; cases e
    have nHC : ∀ b u, H b = some u → b ≠ C := fun b u e z => by
      have := I2.hok.lt e
      rw [z] at this
      exact Nat.lt_irrefl _ (Nat.lt_of_lt_of_le this newC)
    have old : ∀ b o, s2.heap.get? b = some o → b ≠ C ∧ b ≠ D := fun b o e => ⟨Nat.ne_of_lt (Nat.lt_of_lt_of_le (Heap.lt_size e) newC), Nat.ne_of_lt (Nat.lt_of_lt_of_le (Heap.lt_size e) newD)⟩
    have B := G1.base
    refine I2.call' (s' := { s with heap := h' }) (ch := [I0]) G1.os ⟨fun b o e n hb hc => ?_, fun b o e n hb hc => ?_, fun b o e n _ => ?_, fun b o e hc => ?_, fun b xs e => ?_, fun b o u e => ?_, fun b ps e => ⟨#[], ?_⟩⟩ (fun b u e => ?_) G1.bare fun b hb => ?_
    · exact (sb.2 b (old b o e).1).trans (B.keep b o e n hb hc)
    · obtain ⟨sl, q'⟩ := B.slot b o e n hb hc
      exact ⟨sl, (sb.2 b (old b o e).1).trans q'⟩
    · rw [upd_ne (old b o e).2]; exact n
    · obtain ⟨o', q'⟩ := B.there b o e hc
      exact ⟨o', (sb.2 b (old b o e).1).trans q'⟩
    · rw [upd_ne (nH _ _ e)]; exact e
    · rw [upd_ne (nH _ _ e)]; exact e
    · rw [upd_ne (nH _ _ e)]; simpa using e
    · by_cases hb : b = D
      · subst hb
        rw [upd_same] at e
        cases e
        exact ⟨by rw [List.length_map] at hz ⊢; exact hz, ys, nn, G2, (sb.2 b nD).trans eD⟩
      · rw [upd_ne hb] at e
        exact (G1.hok b u e).stay (fun c w hc q' => (sb.2 c (by
          rcases hc with z | z
          · rw [z]; exact nHC b u e
          · exact nHC c _ z)).trans q') (fun c q' => by rw [upd_ne (nH _ _ q')]; exact q') fun c xs q' => by rw [upd_ne (nH _ _ q')]; exact q'
    · rw [List.mem_singleton.mp hb]
      exact ⟨hf.2.2.2.1, hf.2.1, hf.2.2.2.2.1, hf.2.2.2.2.2⟩
end
end MVH
namespace MV
open PySem PySem.Spec PyProof.Rows L2 Evl MVH
/-! ### raised things whose context is None (L2N) -/
theorem passLN {X : Cx} : Passes (L2N.CX X.prog X.w) X E0 := fun _ _ _ _ _ _ _ h => by
  obtain ⟨_, _, _, _, _, _, _, _, _, _, _, _, q⟩ := h
  exact False.elim q
theorem takesN0 {X : Cx} : L2N.Takes X (fun _ _ _ _ => False) := fun _ _ x => by
  obtain ⟨_, _, _, _, _, _, _, _, _, _, _, _, _, _, _, _, q⟩ := x
  exact False.elim q
theorem takesN_len {X : Cx} {W : WX} (tk : L2N.Takes X W) : L2N.Takes X (fun cls d σ H => σ.length = X.N.length → W cls d σ H) := fun u s' ⟨a, B, sI, pins, σ, H, cls, d, e, I, nb, up, sky, na, os, ag, w⟩ =>
  tk u s' ⟨a, B, sI, pins, σ, H, cls, d, e, I, nb, up, sky, na, os, ag, w I.len⟩
theorem okN {P : Program} {w : World} {K : PySem.W.Frag} {mg : Str → Option Value} {base : Heap} {x qual : Str} {st : Stmt} {f : Addr} {fd : FuncData} {N ps : List Str} {k : Nat} {sp : Sp} (F : Fun K x qual st f fd) (S : FnScope N ps (defScope st)) (len : ∀ vs H Q E, sp vs H Q E → vs.length = ps.length)
    (hb : ∀ (cdv : Value) (A : Around) (outer : List Env) (s : Shared) (H : Hp) (vs : List V) (Q : VK) (E : XK), Room k (A.deeper (envOfC qual (defScope st) s.heap.objs.size f cdv)) → sp vs H Q E → ∃ t, PSs (cxOf (L2N.CX P w) P w K mg base N qual (defScope st) f cdv A outer s H E) (defBody st) t ∧ t { nx := fun _ H' => Q .non H', rt := Q } (start N vs) H) : FnOk P w K mg base (L2N.CX P w) (k + 1) f fd ps sp := by
  obtain ⟨oc, od, kV, doc, pm, an, cdv, ct, osl, rfl, lk, hcd⟩ := F.ex
  exact fn_of lk hcd S len fun A outer s H vs Q E hr hsp => hb cdv A outer s H vs Q E hr hsp
/-! ### isinstance of a pinned one -/
def rIsP (K : PySem.W.Frag) (C a : Addr) : List V → Hp → VK → Prop := fun xs H Q => ∃ (c : V) (cv : Value) (b : Bool), xs = [.ref a, c] ∧ ClsV c cv ∧ PySem.W.kitOne K (.ref C) cv = some b ∧ Q (.bl b) H
theorem call_isP {X : Cx} {p : Addr × Obj} {C : Addr} (hp : p ∈ X.pn) (hz : Zc (.ref C) none p.2) (hf : ∃ vs, p.2.data = .fields vs) (hC : ExcC X.K C) : CallR X (.builtin "isinstance") (rIsP X.K C p.1) := by
  intro pins s σ H xs us Q I r h
  obtain ⟨c, cv, b, rfl, hcv, e, q⟩ := h
  obtain ⟨a, oe⟩ := p
  cases r with
  | cons rx rr =>
    cases rr with
    | cons rt rr =>
      cases rr
      cases rx
      have ec := hcv.eq rt
      subst ec
      obtain ⟨hget, _⟩ := I.pin (a, oe) (List.mem_append_left _ hp)
      obtain ⟨vs, hv⟩ := hf
      have J : PySem.W.InstAt s.heap a oe C none := by
        obtain ⟨oc, od, oda, osl⟩ := oe
        obtain ⟨h1, h2⟩ := hz
        dsimp only at h1 h2 hv
        subst h1 h2 hv
        exact ⟨hget, rfl, rfl, trivial⟩
      exact PySem.W.kia_one (PySem.W.handS_kitx_exc hC.hg hC.hk hC.hs hC.hd hC.ha hC.hn hC.ht hC.hm) I.kIn J e (fun z => nomatch z) fun tk => ⟨.bl b, H, I.kept (t' := tk) fun _ _ z => z, rfl, q⟩
theorem rc_isP {K : PySem.W.Frag} {H : Hp} {a C : Addr} {c : V} {cv : Value} {b : Bool} (hc : ClsV c cv) (hk : PySem.W.kitOne K (.ref C) cv = some b) : RC (rIsP K C a) [.ref a, c] H (.bl b) := rc_of fun H1 e _ q => ⟨c, cv, b, rfl, hc, hk, q⟩
theorem el_hotInts {σ : L2.St} {H : Hp} {l : Addr} {bs : List Bool} {jf : Nat} (hσ : σ[jf]? = some (some (.ref l))) (hl : H l = some (.lst (bs.map V.bl))) : EvL (tHotInts jf) σ H (bs.map fun b => V.int (bInt b)) := fun H1 e Q q => ⟨l, bs, hσ, e _ _ hl, fun p hp => q p _ hp (Ex.new hp) upd_same⟩
/-- a def called while p's exception is handled, p known to its body -/
theorem fn_pin {P : Program} {w : World} {K : PySem.W.Frag} {mg : Str → Option Value} {base : Heap} {x qual : Str} {st : Stmt} {f : Addr} {fd : FuncData} {N ps : List Str} {k : Nat} (F : Fun K x qual st f fd) (S : FnScope N ps (defScope st)) {A : Around} {outer : List Env} {s : Shared} {H : Hp} {args : Args} {us : List Value} {vs : List V} {Q : VK} {E : XK} {p : Addr × Obj}
    (hr : L2H.RoomH (k + 1) A) (hot : L2H.Hot1 A p) (hpin : L2H.PinOk outer H s p) (e0 : Env0 P w K mg base A outer s H) (hb : BindsTo s fd args (ps.zip us)) (r : Vals vs us) (hl : vs.length = ps.length)
    (body : ∀ cdv : Value, ∃ t, PSs (L2H.cxH CX0 P w K mg base N qual (defScope st) f cdv A outer s H E p) (defBody st) t ∧ t { nx := fun _ H' => Q .non H', rt := Q } (L2.start N vs) H) : codeAny (model P w) A (.call (.ref f) args) (CR CX0 outer P w H s Q E) s := by
  obtain ⟨oc, od, kV, doc, pm, an, cdv, ct, osl, rfl, lk, hcd⟩ := F.ex
  have KX : K.In s.heap := e0.mod.kin.keeps fun b o e => (e0.bs b o e).1
  have hkind : ∀ z ∈ ps.zip us, (defScope st).names.lookup z.1 = some .local ∨ ((defScope st).names.lookup z.1 = some .cell ∧ ((cellsFrom (s.heap.objs.size + 1) (defScope st).names []).lookup z.1).isSome = true) := by
    intro z hz; obtain ⟨n, v⟩ := z
    have hn := S.par n (List.of_mem_zip hz).1
    exact hn.imp id fun q => ⟨q, PySem.W.cellsFrom_some _ _ _ (.inl q)⟩
  refine codeAny_call_function hr.depth (KX _ _ lk) rfl S.co S.gen rfl (PySem.W.codeRec_of KX hcd) (hb _ _ _ _ (wpAny_newFunctionEnv_cells S.kind hkind fun env he s1 xc => ?_))
  subst he
  refine ⟨(e0.mod.nolimit.keeps fun b o e => (e0.bs b o e).1).keeps xc.toInCall.keep, codeAny_func ?_⟩
  obtain ⟨t, ht, hq⟩ := body cdv
  have I : Inv (L2H.cxH CX0 P w K mg base N qual (defScope st) f cdv A outer s H E p) [] (L2.start N vs) H s1 := L2H.inv_startH S hpin e0 hl r xc
  refine wpAny_mono (ht.run [] s1 _ H _ I hq) (fun fl s' hs => ?_) fun e s' hs => hs
  cases fl with
  | ret u => exact let ⟨v, _, H', J, rv, q⟩ := hs; ⟨v, H', J.os, J.bare, J.base, J.hok, rv, q⟩
  | next => exact let ⟨_, H', J, q⟩ := hs; ⟨.non, H', J.os, J.bare, J.base, J.hok, rfl, q⟩
  | brk => exact let ⟨_, _, _, q⟩ := hs; False.elim q
  | cont => exact let ⟨_, _, _, q⟩ := hs; False.elim q
/-- f(e), e the exception that the suite holds; w comes back -/
def tWordOf (i : Nat) (a : Addr) (w : Str) : TE := fun σ H Q => σ[i]? = some (some (.ref a)) ∧ ∀ H', Ex H H' → Q (.str w) H'
theorem pe_callP {X : Cx} {a : Addr} {oe : Obj} {pn : List (Addr × Obj)} {C : Addr} {k : Nat} {f : Addr} {fd : FuncData} {ps : List Str} {x y : Str} {i : Nat} {p p2 pos : Pos} {wd : Str} (hz : L2N.Zn (.ref C) none oe) (hf : ∃ vs, oe.data = .fields vs)
    (F : ∀ (A : Around) (outer : List Env) (s : Shared) (H : Hp) (args : Args) (us : List Value) (Q : VK), L2H.RoomH k A → L2H.Hot1 A (a, oe) → L2H.PinOk outer H s (a, oe) → Env0 X.prog X.w X.K X.mg X.base A outer s H → BindsTo s fd args (ps.zip us) → Vals [.ref a] us → (∀ H', Ex H H' → Q (.str wd) H') → codeAny (model X.prog X.w) A (.call (.ref f) args) (CR CX0 outer X.prog X.w H s Q E0) s)
    (hr : Room k X.A) (hg : Gl (X.suite a ((a, oe) :: pn)) x) (hm : X.mg x = some (.ref f)) (hk : PySem.W.keepIn X.K (.ref f) = true) (hb : Binds X.K fd ps []) (hl : ps.length = 1) (hy : PE (X.suite a ((a, oe) :: pn)) (.Name y p2) (tVar i))
    (hdb : (x == ("__debug__" : Str)) = false := by decide) (he : starEach [.Name y p2] X.env = (false, eval (.Name y p2) X.env) :: starEach [] X.env := by rfl) (hpl : (backTo pos (starEach [] X.env)).any (·.1) = false := by rfl) : PE (X.suite a ((a, oe) :: pn)) (.Call (.Name x p) [.Name y p2] [] pos) (tWordOf i a wd) := by
  refine ⟨fun pins s σ H Q I h => ?_⟩
  obtain ⟨h1, h2⟩ := h
  refine wpAny_Call_Name_kw (ld_glob I hg hm ?_ hdb)
  have ha : PA (X.suite a ((a, oe) :: pn)) [.Name y p2] (tCons (tVar i) tNil) := pa_cons hy pa_nil
  refine PySem.W.callWith_K (h₀ := X.base) I.ok.mod.kin hk (thn (ha.run pos pins s σ H (fun vs H1 => vs = [.ref a] ∧ H = H1) I ⟨_, h1, rfl, rfl⟩) fun us s1 ⟨vs, H1, I1, r, ⟨q1, q2⟩⟩ => ⟨I1.kIn, ?_⟩) he hpl
  subst q1
  subst q2
  obtain ⟨e1, n1, nL, nf, nc⟩ := I1.pin (a, oe) (List.mem_append.mpr (.inl List.mem_cons_self))
  have hus : us.length = ps.length := by rw [← r.length, hl]; rfl
  have hbt := hb s1 us I1.kIn (by rw [List.append_nil]; exact hus)
  rw [List.append_nil] at hbt
  have hot : L2H.Hot1 (X.suite a ((a, oe) :: pn)).A (a, oe) := by
    obtain ⟨fs, hfs⟩ := hf
    exact ⟨rfl, fs, hfs, hz.2.2 fs hfs⟩
  have hpin : L2H.PinOk X.stack H s1 (a, oe) := ⟨e1, n1, fun hm' => (List.mem_cons.mp (I1.stkSub a hm')).elim nL nf, nc⟩
  refine wpAny_call (codeAny_mono (F (X.suite a ((a, oe) :: pn)).A X.stack s1 H ⟨us, []⟩ us Q ⟨hr.dp, hr.un⟩ hot hpin I1.env0 hbt r h2) fun r s' hq => ?_)
  cases r with
  | error e => exact False.elim hq
  | ok fl =>
    cases fl with
    | ret u => exact I1.after hq
    | next => exact False.elim hq
    | brk => exact False.elim hq
    | cont => exact False.elim hq
/-! ### try: .. except X as e: return f(e) -/
def EL (n : Nat) (W : WX) : XK := fun cls d H => ∀ σ : L2.St, σ.length = n → W cls d σ H
/-- what the clause wishes; wE: which class has which word -/
def tsW (wE : Addr → Str → Prop) (i : Nat) (a : Addr) (cls : Value) (d : Option Addr) : TS := fun D σ H => ∃ C w, cls = .ref C ∧ d = none ∧ wE C w ∧ σ[i]? = some (some (.ref a)) ∧ ∀ H', Ex H H' → D.rt (.str w) H'
theorem pss_retW {X : Cx} {wE : Addr → Str → Prop} {i : Nat} {a : Addr} {cls : Value} {d : Option Addr} {e : Expr} {pos : Pos} (h : ∀ C w, cls = .ref C → d = none → wE C w → PE X e (tWordOf i a w)) : PSs X [.Return (some e) pos] (tsW wE i a cls d) :=
  ⟨fun pins s σ H D I ⟨C, w, h1, h2, h3, h4, h5⟩ => (pss_one (ps_ret (h C w h1 h2 h3))).run pins s σ H D I ⟨h4, h5⟩⟩
def tTryW (K : PySem.W.Frag) (c : Value) (i : Nat) (wE : Addr → Str → Prop) (tb : WX → TS) : TS := fun D σ H => tb (wAs K c i (tsW wE i) (fun _ _ _ _ => False) D) D σ H
end MV
namespace MV
open PySem PySem.Spec PyProof.Rows L2 Evl LamX
/-! ### sorted(xs, key=lambda a: body): some order of the items -/
theorem vals_perm : ∀ {us vs : List Value}, us.Perm vs → ∀ {xs : List V}, Vals xs us → ∃ ys, ys.Perm xs ∧ Vals ys vs := by
  intro us vs h
  induction h with
  | nil => intro xs r; exact ⟨xs, .refl _, r⟩
  | cons u _ ih =>
    intro xs r
    cases r with
    | cons r1 r2 =>
      obtain ⟨ys, p, q⟩ := ih r2
      exact ⟨_, p.cons _, .cons r1 q⟩
  | swap u v l =>
    intro xs r
    cases r with
    | cons r1 r2 =>
      cases r2 with
      | cons r3 r4 => exact ⟨_, List.Perm.swap _ _ _, .cons r3 (.cons r1 r4)⟩
  | trans _ _ ih1 ih2 =>
    intro xs r
    obtain ⟨ys, p, q⟩ := ih1 r
    obtain ⟨zs, p2, q2⟩ := ih2 q
    exact ⟨zs, p2.trans p, q2⟩
theorem kskout_perm {kz : List Int} {vs out : List Value} (h : KskOut false kz vs out) (hl : kz.length = vs.length) : out.Perm vs := by
  obtain ⟨ps, hp, e, _⟩ := h
  rw [e]
  have := hp.map Prod.snd
  rwa [List.map_snd_zip (Nat.le_of_eq hl.symm)] at this
section
variable {X : Cx} {pins : List (Addr × Obj)} {σ : L2.St} {H H' : Hp} {s : Shared}
/-- an object not tracked yet, new since the entry, is tracked from now on -/
theorem inv_track {o : HO} {a : Addr} (I : Inv X pins σ H s) (f : FpOk X pins H a) (hx : X.ex = []) (new : ObjOk X.prog X.w (upd H a o) s.heap a o) : Inv X pins σ (upd H a o) s := by
  obtain ⟨f0, f1, f2, f3, f4, f5⟩ := f
  have hge : X.s_0.heap.objs.size ≤ a := f3.resolve_left fun z => by rw [hx] at z; cases z
  have ne : ∀ b u, H b = some u → b ≠ a := fun b u e => ne_of_none e f0
  refine ⟨I.ok, I.os, I.bare, ⟨I.base.keep, I.base.slot, fun b o' e n hb => ?_, I.base.there, fun b xs e => ?_, fun b o' xs e => ?_, fun b ps e => ?_⟩, I.loc, I.cell, ?_, fun x c e => ?_, fun p hp => ?_, fun b u e => ?_, I.len⟩
  · have hlt := Heap.lt_size e
    rw [upd_ne (Nat.ne_of_lt (Nat.lt_of_lt_of_le hlt hge))]
    exact I.base.free b o' e n hb
  · have q := I.base.tups b xs e
    rw [upd_ne (ne b _ q)]
    exact q
  · have q := I.base.frzs b o' xs e
    rw [upd_ne (ne b _ q)]
    exact q
  · obtain ⟨more, q⟩ := I.base.tbls b ps e
    exact ⟨more, by rw [upd_ne (ne b _ q)]; exact q⟩
  · rw [upd_ne (Ne.symm f1)]
    exact I.free
  · rw [upd_ne (f4 x c e)]
    exact I.freeC x c e
  · obtain ⟨e, n, r⟩ := I.pin p hp
    exact ⟨e, by rw [upd_ne (f5 p hp)]; exact n, r⟩
  · by_cases hb : b = a
    · subst hb
      rw [upd_same] at e
      cases e
      exact new
    · rw [upd_ne hb] at e
      exact (I.hok b u e).stay (fun c v _ q => q) (fun c q => by rw [upd_ne (ne c _ q)]; exact q) fun c xs q => by rw [upd_ne (ne c _ q)]; exact q
theorem inv_turn {h' : Heap} {it : Addr} (I : Inv X pins σ H s) (f : FpOk X pins H it) (k : Heap.SameBut it s.heap h') : Inv X pins σ H { s with heap := h', toks := s.toks } := by
  obtain ⟨f0, f1, f2, f3, f4, f5⟩ := f
  exact I.turned (fun b o hb e => (k.2 b hb).trans e) f0 f1 f3 f4 f5
end
section
variable {X : Cx} {pins : List (Addr × Obj)} {σ : L2.St} {H H2 : Hp} {s : Shared} {A : Around} {E : Value → Shared → Prop} {a kS : Addr} {vs : List Value} {kz : List Int} {keys : Array Value} {e e1 : Nat} {P : PySem.Fin → Shared → Prop}
/-- what the sort leaves -/
abbrev SortEnd (X : Cx) (pins : List (Addr × Obj)) (σ : L2.St) (H2 : Hp) (a : Addr) (vs : List Value) (P : PySem.Fin → Shared → Prop) : Prop :=
  ∀ (H : Hp) (s' : Shared) (out : Array Value) (c : Nat), Inv X pins σ H s' → Ex H2 H → FpOk X pins H a → s'.heap.get? a = some (seqObj "list" out c) → out.toList.Perm vs → P (.done (.ret .none)) s'
theorem lam_tail {st : SortSt} (I : Inv X pins σ H s) (hx : Ex H2 H) (fa : FpOk X pins H a) (fk : FpOk X pins H kS) (hka : kS ≠ a) (nk : s.heap.get? kS = some (seqObj "list" keys e)) (na : s.heap.get? a = some (seqObj "list" #[] e1))
    (hk : IntsAre keys.toList kz) (hlen : kz.length = vs.length) (h64 : vs.length < 64) (hp : (arrOf st).Perm (keys.zip vs.toArray)) (hs : SortedTo (arrOf st) (arrOf st).size) (hfl : failedOf st = none) (h : SortEnd X pins σ H2 a vs P) :
    wpAny (model X.prog X.w) A (ksk_tail a false e1 (.ref kS) st) P E s := by
  have hsz : keys.size = vs.length := by
    have h1 := hk.length
    rw [Array.length_toList] at h1
    omega
  have hsz2 : (arrOf st).size = vs.length := by rw [hp.size_eq, Array.size_zip, hsz, List.size_toArray, Nat.min_self]
  have s1 := Heap.SameBut.update s.heap kS (Obj.mapSeq fun _ => (#[] : Array Value))
  have na1 : (s.heap.update kS (Obj.mapSeq fun _ => (#[] : Array Value))).get? a = some (seqObj "list" #[] e1) := (s1.2 a hka.symm).trans na
  have s2 := Heap.SameBut.update (s.heap.update kS (Obj.mapSeq fun _ => (#[] : Array Value))) a (Obj.mapSeq fun _ => (arrOf st).map (·.2))
  obtain ⟨c2, hc2⟩ : ∃ c2, ((s.heap.update kS (Obj.mapSeq fun _ => (#[] : Array Value))).update a (Obj.mapSeq fun _ => (arrOf st).map (·.2))).get? a = some (seqObj "list" ((arrOf st).map (·.2)) c2) :=
    ⟨_, get?_update_seq na1 fun _ => (arrOf st).map (·.2)⟩
  have I1 := inv_turn I fk s1
  have I2 := inv_turn I1 fa s2
  unfold ksk_tail
  try dsimp only
  refine wpAny_bind (listUpdate_at nk rfl ?_ (by rw [hsz, sizeLine_eq]; omega) (Nat.zero_le _))
  refine wpAny_bind (wpAny_letGo ?_)
  refine wpAny_bind (seqEpoch_at na1 rfl ?_)
  refine wpAny_bind (listUpdate_at na1 rfl ?_ (Nat.zero_le _) (by show ((arrOf st).map (·.2)).size ≤ _; rw [Array.size_map, hsz2, sizeLine_eq]; omega))
  rw [hfl]
  simp only [bne_self_eq_false, Bool.false_eq_true, if_false]
  have ho := ksk_out (b := false) hk hp hs
  exact wpAny_pure (h H _ _ c2 I2 hx fa hc2 (kskout_perm ho hlen))
theorem lam_end (I : Inv X pins σ H s) (hx : Ex H2 H) (fa : FpOk X pins H a) (fk : FpOk X pins H kS) (hka : kS ≠ a) (nk : s.heap.get? kS = some (seqObj "list" keys e)) (na : s.heap.get? a = some (seqObj "list" #[] e1))
    (hk : IntsAre keys.toList kz) (hlen : kz.length = vs.length) (h64 : vs.length < 64) (h : SortEnd X pins σ H2 a vs P) :
    wpAny (model X.prog X.w) A (ksk_end a false vs.toArray e1 (.ref kS) keys) P E s := by
  have hsz : keys.size = vs.length := by
    have h1 := hk.length
    rw [Array.length_toList] at h1
    omega
  have hzs : (keys.zip vs.toArray).size = vs.length := by rw [Array.size_zip, hsz, List.size_toArray, Nat.min_self]
  unfold ksk_end
  simp only [Bool.false_eq_true, if_false]
  by_cases h2 : vs.toArray.size < 2
  · rw [if_pos h2, if_pos h2]
    refine wpAny_bind (wpAny_pure ?_)
    rw [StateT.run_pure]
    refine wpAny_bind (wpAny_pure ?_)
    try dsimp only
    refine lam_tail (st := SortSt.mk' general' (keys.zip vs.toArray) #[] 7 none) I hx fa fk hka nk na hk hlen h64 (Array.Perm.refl _) ?_ rfl h
    intro i j hij hj
    have hj2 : j < (keys.zip vs.toArray).size := hj
    rw [hzs] at hj2
    rw [List.size_toArray] at h2
    have : i = j := by omega
    subst this
    exact Int.le_refl _
  · rw [if_neg h2, if_neg h2]
    rw [List.size_toArray] at h2
    rw [ksk_kind hk (by rw [hsz]; omega)]
    refine wpAny_bind (wpAny_pure ?_)
    refine wpAny_bind (wpAny_mono (wpS_sortRuns (a₀ := keys.zip vs.toArray) (st := SortSt.mk' oneType' (keys.zip vs.toArray) #[] 7 none)
      (Q := fun _ st' => (arrOf st').Perm (keys.zip vs.toArray) ∧ failedOf st' = none ∧ SortedTo (arrOf st') (keys.zip vs.toArray).size)
      (ksk_intKeys hk) ⟨Array.Perm.refl _, rfl, rfl, rfl⟩ (by rw [hzs]; omega) (by rw [hzs]; exact h64) fun st' a1 a2 a3 => ⟨a1, a2, a3⟩) ?_ fun _ _ e => e)
    rintro ⟨⟨⟩, st'⟩ s' ⟨rfl, hp, hf, hs⟩
    try dsimp only
    exact lam_tail I hx fa fk hka nk na hk hlen h64 hp (by rw [hp.size_eq]; exact hs) hf h
/-- the keys are asked, one by one -/
theorem lam_rest {f : Value} (I : Inv X pins σ H s) (hx : Ex H2 H) (fa : FpOk X pins H a) (fk : FpOk X pins H kS) (hka : kS ≠ a) (nk : s.heap.get? kS = some (seqObj "list" #[] 0)) (na : s.heap.get? a = some (seqObj "list" #[] e1)) (h64 : vs.length < 64)
    (turn : ∀ (pins' : List (Addr × Obj)) (H' : Hp) (s' : Shared) (v : Value), v ∈ vs → Inv X (pins ++ pins') σ H' s' → Ex H2 H' → wpAny (model X.prog X.w) A (call f [v]) (EP X (pins ++ pins') σ fun v H'' => (∃ n, v = .int n) ∧ Ex H2 H'') (fun _ _ => False) s')
    (h : SortEnd X pins σ H2 a vs P) :
    wpAny (model X.prog X.w) A (ksk_rest a f false vs.toArray e1 (.ref kS)) P E s := by
  have up : ∀ {H0 : Hp} {b : Addr}, FpOk X pins H b → H0 b = none → FpOk X pins H0 b := fun f n => ⟨n, f.2⟩
  unfold ksk_rest
  refine wpAny_bind (wpAny_rule ?_)
  first
    | rw [List.forIn_toArray]
    | (rw [← Array.forIn_toList]; simp only [List.toList_toArray])
    | rw [← Array.forIn_toList]
  refine wpAny_bind (ksk_fold (fun i s' => ∃ H' kA e kz, Inv X pins σ H' s' ∧ Ex H2 H' ∧ H' a = none ∧ H' kS = none ∧ s'.heap.get? kS = some (seqObj "list" kA e) ∧ s'.heap.get? a = some (seqObj "list" #[] e1) ∧ IntsAre kA.toList kz ∧ kz.length = i) vs 0 s
    ⟨H, #[], 0, [], I, hx, fa.1, fk.1, nk, na, IntsAre.nil, rfl⟩ ?step ?done)
  case step =>
    rintro j x s' hx' ⟨H', kA, e, kz, I', ex', na0, nk0, nk', na', hk, hl⟩
    have hj : j < vs.length := (List.getElem?_eq_some_iff.mp hx').1
    have hz : kA.size ≤ vs.length := by
      have h1 := hk.length
      rw [Array.length_toList] at h1
      omega
    have noc : ∀ (xs : Array Value) (n : Nat) (v : Option Value), (seqObj "list" xs n).data ≠ .cell v := fun _ _ _ z => by cases z
    have Ip : Inv X (pins ++ [(a, seqObj "list" #[] e1), (kS, seqObj "list" kA e)]) σ H' s' := I'.pins_of fun p hp => by
      rcases List.mem_append.mp hp with z | z
      · exact I'.pin p (List.mem_append_right _ z)
      · rcases List.mem_cons.mp z with z | z
        · subst z
          exact ⟨na', na0, fa.2.1, fa.2.2.1, noc _ _⟩
        · rw [List.mem_singleton.mp z]
          exact ⟨nk', nk0, fk.2.1, fk.2.2.1, noc _ _⟩
    refine wpAny_bind (wpAny_attempt (wpAny_mono (turn _ H' s' x (List.mem_of_getElem? hx') Ip ex') (fun v s'' he => ?_) fun _ _ hF => hF.elim))
    obtain ⟨v', H'', I'', rv, ⟨n, hn⟩, ex''⟩ := he
    subst hn
    obtain ⟨t, rfl⟩ := rv
    try dsimp only
    obtain ⟨pa, na2, _⟩ := I''.pin (a, seqObj "list" #[] e1) (List.mem_append_right _ (List.mem_append_right _ List.mem_cons_self))
    obtain ⟨pk, nk2, _⟩ := I''.pin (kS, seqObj "list" kA e) (List.mem_append_right _ (List.mem_append_right _ (List.mem_cons_of_mem _ List.mem_cons_self)))
    have J := I''.unpinned
    have s1 := Heap.SameBut.update s''.heap kS (Obj.mapSeq (·.push (.int n t)))
    obtain ⟨c2, hc2⟩ : ∃ c2, (s''.heap.update kS (Obj.mapSeq (·.push (.int n t)))).get? kS = some (seqObj "list" (kA.push (.int n t)) c2) := ⟨_, get?_update_seq pk (·.push (.int n t))⟩
    have ea : (kA.push (Value.int n t)).toList = kA.toList ++ [Value.int n t] := by simp
    refine wpAny_bind (listUpdate_at pk rfl ?_ (by rw [sizeLine_eq]; omega) (Nat.le_trans (Nat.le_of_eq (Array.size_push ..)) (by rw [sizeLine_eq]; omega)))
    exact wpAny_pure ⟨rfl, H'', kA.push (.int n t), c2, kz ++ [n], inv_turn J (up fk nk2) s1, ex'', na2, nk2, hc2, (s1.2 a hka.symm).trans pa, by rw [ea]; exact ksk_snoc hk, by rw [List.length_append, hl]; rfl⟩
  case done =>
    rintro s' ⟨H', kA, e, kz, I', ex', na0, nk0, nk', na', hk, hl⟩
    try dsimp only
    refine wpAny_bind (listItems_at nk' rfl ?_)
    exact lam_end I' ex' (up fa na0) (up fk nk0) hka nk' na' hk (by omega) h64 h
/-- sorted(xs, key=f), f's calls told by turn -/
theorem lam_sorted {l : Addr} {xs : List V} {f : Addr} {Q : VK} {E : Value → Shared → Prop} (hex : X.ex = []) (I : Inv X pins σ H s) (hl : SqL X.K H l xs) (h64 : xs.length < 64)
    (turn : ∀ (pins' : List (Addr × Obj)) (H' : Hp) (s' : Shared) (v : Value) (x : V), x ∈ xs → RelV x v → Inv X (pins ++ pins') σ H' s' → Ex H H' → wpAny (model X.prog X.w) X.A.in1.in1 (call (.ref f) [v]) (EP X (pins ++ pins') σ fun v H'' => (∃ n, v = .int n) ∧ Ex H H'') (fun _ _ => False) s')
    (q : ∀ (ys : List V) (p : Addr) (H1 : Hp), ys.Perm xs → H p = none → Ex H H1 → H1 p = some (.lst ys) → Q (.ref p) H1) :
    wpAny (model X.prog X.w) X.A (call (.builtin "sorted") [.ref l] [(Str.ofString "key", .ref f)]) (EP X pins σ Q) E s := by
  obtain ⟨its, rv, hli, hz⟩ := I.list hl
  have hlen := rv.length
  have h64' : its.length < 64 := by omega
  refine PySem.W.sorted_of_sort hli.isList (by rw [← hlen]; exact hz) (ksk_s1 _ _) (fun _ => ksk_l1 _ _) fun E' => ?_
  rw [ksk_t1]
  have hge : s.heap.objs.size ≤ s.heap.objs.size + 1 := Nat.le_succ _
  have fa : FpOk X pins H (s.heap.objs.size + 1) := I.fpOk hge (I.hok.fresh hge)
  have I1 : Inv X pins σ H { s with heap := PySem.W.copyHeap s.heap its } := I.kept (t' := s.toks) fun b o e => PySem.W.copyHeap_old e
  have ho := PySem.W.copyHeap_at s.heap its
  generalize hs1 : ({ s with heap := PySem.W.copyHeap s.heap its } : Shared) = s1 at I1
  have ho : s1.heap.get? (s.heap.objs.size + 1) = some (seqObj "list" its.toArray 0) := by rw [← hs1]; exact ho
  generalize s.heap.objs.size + 1 = a at fa ho
  have b1 := Heap.SameBut.update s1.heap a (Obj.mapSeq fun _ => (#[] : Array Value))
  obtain ⟨e1, ho1⟩ : ∃ e1, (s1.heap.update a (Obj.mapSeq fun _ => (#[] : Array Value))).get? a = some (seqObj "list" #[] e1) := ⟨_, get?_update_seq ho fun _ => #[]⟩
  have I2 := inv_turn I1 fa b1
  have I3 : Inv X pins σ H { s1 with heap := ((s1.heap.update a (Obj.mapSeq fun _ => (#[] : Array Value))).push (seqObj "tuple" its.toArray 0)).push (seqObj "list" #[] 0) } := I2.kept (t' := s1.toks) fun b o e => Heap.get?_push_of_some _ (Heap.get?_push_of_some _ e)
  have hkS : ((s1.heap.update a (Obj.mapSeq fun _ => (#[] : Array Value))).push (seqObj "tuple" its.toArray 0)).objs.size = s1.heap.objs.size + 1 := by rw [size_push', Heap.size_update]
  have hgk : s1.heap.objs.size ≤ s1.heap.objs.size + 1 := Nat.le_succ _
  have fk : FpOk X pins H (s1.heap.objs.size + 1) := I1.fpOk hgk (I1.hok.fresh hgk)
  have hka : s1.heap.objs.size + 1 ≠ a := fun z => Nat.lt_irrefl _ (Nat.lt_of_lt_of_le (Heap.lt_size ho) (by rw [← z]; exact hgk))
  unfold ksk_tree
  refine wpAny_bind (listItems_at ho rfl ?_)
  refine wpAny_bind (listUpdate_at ho rfl ?_ (by rw [List.size_toArray, sizeLine_eq]; omega) (Nat.zero_le _))
  refine wpAny_bind (seqEpoch_at ho1 rfl ?_)
  refine wpAny_bind (wpAny_newTuple ?_ (by show its.length ≤ _; rw [sizeLine_eq]; omega))
  refine wpAny_bind (wpAny_newList ?_ (Nat.zero_le _))
  refine wpAny_holding ?_
  rw [hkS]
  have nk : ((((s1.heap.update a (Obj.mapSeq fun _ => (#[] : Array Value))).push (seqObj "tuple" its.toArray 0)).push (seqObj "list" #[] 0))).get? (s1.heap.objs.size + 1) = some (seqObj "list" #[] 0) := by
    rw [← hkS]
    exact Heap.get?_push_size _ rfl
  refine lam_rest (H2 := H) (e1 := e1) I3 (Ex.refl H) fa fk hka nk (Heap.get?_push_of_some _ (Heap.get?_push_of_some _ ho1)) h64' (fun pins' H' s' v hv J ex => ?_) fun H' s' out c J ex fa' ha hp => ⟨rfl, ?_⟩
  · obtain ⟨j, hj⟩ := List.mem_iff_getElem?.mp hv
    have hjl := (List.getElem?_eq_some_iff.mp hj).1
    have hjx : j < xs.length := by omega
    obtain ⟨u, hu, ru⟩ := rv.get (List.getElem?_eq_getElem hjx)
    rw [hj] at hu
    cases hu
    exact turn pins' H' s' v _ (List.getElem_mem hjx) ru J ex
  · obtain ⟨ys, py, ry⟩ := vals_perm hp.symm rv
    have hly : ys.length = xs.length := py.length_eq
    have J2 := inv_track (o := .lst ys) J fa' hex ⟨by rw [hly]; exact hz, out.toList, c, ry, by rw [Array.toArray_toList]; exact ha⟩
    exact ⟨.ref a, upd H' a (.lst ys), J2, rfl, q ys a _ py fa.1 (ex.mut fa.1) upd_same⟩
end
end MV
namespace MV
open PySem PySem.Spec PyProof.Rows L2 Evl LamX
/-! ### a lambda of one parameter, as the key of sorted -/
structure LamS1 (sc scope : Scope) (a : Str) : Prop where
  kind : scope.kind = .function
  co : scope.isCoroutine = false
  gen : scope.isGenerator = false
  par : scope.names.lookup a = some .local
  loc : ∀ y, scope.names.lookup y = some .local → y = a
  nocell : ∀ y ∈ scope.names, y.2 ≠ .cell
  free : ∀ y ∈ scope.names, y.2 = .free → sc.names.lookup y.1 = some .cell ∨ sc.names.lookup y.1 = some .free
def lamS1B (sc scope : Scope) (a : Str) : Bool :=
  decide (scope.kind = .function) && !scope.isCoroutine && !scope.isGenerator && decide (scope.names.lookup a = some .local) && scope.names.all fun y => (!decide (y.2 = .local) || decide (y.1 = a)) && !decide (y.2 = .cell) && (!decide (y.2 = .free) || decide (sc.names.lookup y.1 = some .cell) || decide (sc.names.lookup y.1 = some .free))
theorem lamS1_by {sc scope : Scope} {a : Str} (h : lamS1B sc scope a = true) : LamS1 sc scope a := by
  unfold lamS1B at h
  simp only [Bool.and_eq_true, Bool.or_eq_true, Bool.not_eq_true', decide_eq_true_eq, decide_eq_false_iff_not, List.all_eq_true] at h
  obtain ⟨⟨⟨⟨h1, h2⟩, h3⟩, h5⟩, h4⟩ := h
  refine ⟨h1, h2, h3, h5, fun y hy => ?_, fun y hy => (h4 y hy).1.2, fun y hy e => ?_⟩
  · rcases (h4 _ (PySem.mem_of_lookup hy)).1.1 with z | z
    · exact absurd rfl z
    · exact z
  · rcases (h4 y hy).2 with (z | z) | z
    · exact absurd e z
    · exact .inl z
    · exact .inr z
theorem LamS1.has {X : Cx} {scope : Scope} {a : Str} (L : LamS1 X.env.scope scope a) (ok : X.Ok) : ∀ y ∈ scope.names, y.2 = .free → ∃ c, X.env.cells.lookup y.1 = some c := fun y hy e => by
  rcases L.free y hy e with k | k
  · exact ok.has _ (.inl k)
  · exact ok.has _ (.inr k)
section
variable {X : Cx} {pins : List (Addr × Obj)} {σ : L2.St} {H : Hp} {s : Shared}
theorem lam_start1 {A : Around} {E : XK} {scope : Scope} {f c' : Addr} {h₁ : Heap} {tk i : Nat} {a : Str} {x : V} {u : Value} (I : Inv X pins σ H s) (hN : X.N.Nodup) (L : LamS1 X.env.scope scope a) (hi : X.N[i]? = some a) (e0 : Env0 X.prog X.w X.K X.mg X.base A X.stack s H) (hd : A.handled = none)
    (r : RelV x u) (hns : h₁.Ns s.heap.objs.size fun y => ([(a, u)] : List (Str × Value)).reverse.lookup y) (kp : ∀ b o, s.heap.get? b = some o → h₁.get? b = some o) :
    Inv (lamCx X A X.stack s H E scope f c') [] (σ.set i (some x)) H { s with heap := h₁, toks := tk } := by
  have hfree := L.has I.ok
  have cm : ∀ {y c}, (cloFrom X.env.cells scope.names []).lookup y = some c → X.env.cells.lookup y = some c := fun {y c} e => by
    rcases cloFrom_mem (PySem.mem_of_lookup e) with hm | ⟨h1, h2⟩
    · cases hm
    · obtain ⟨c1, hc⟩ := hfree _ h1 rfl
      have hc : X.env.cells.lookup y = some c1 := hc
      have e2 : c = c1 := by
        rw [h2, hc] <;> rfl
      rw [e2]
      exact hc
  have look : ∀ {y}, scope.names.lookup y = some .free → ∃ c, (cloFrom X.env.cells scope.names []).lookup y = some c := fun {y} hl => by
    have hy : (y, NameKind.free) ∈ scope.names := PySem.mem_of_lookup hl
    exact mem_lookup (cloFrom_has (cells := X.env.cells) (acc := []) hy)
  have cellK : ∀ {c : Addr} {v : Option Value}, s.heap.IsCell c v → h₁.IsCell c v := fun {c v} ⟨o, ho, hd⟩ => ⟨o, kp _ _ ho, hd⟩
  have noA : ∀ b : Addr, b ∉ (lamCx X A X.stack s H E scope f c').ex := fun b z => absurd (show b ∈ ([] : List Addr) from z) (by simp)
  have hiσ : i < σ.length := by rw [I.len]; exact (List.getElem?_eq_some_iff.mp hi).1
  refine ⟨⟨e0.mod, L.kind, rfl, rfl, Nat.le_refl _, fun y z c e1 e2 => I.ok.inj y z c (cm e1) (cm e2), fun y hy => ?_, fun y c z _ => ?_, fun _ => hd, Around.frames_deeper e0.frames, .inr ⟨rfl, rfl⟩, fun b z => absurd z (noA b), e0.bs, e0.bsz, fun b _ _ => noA b,
      fun b z => absurd z (noA b), e0.funs, e0.frf⟩,
    rfl, e0.bare, Un.kept kp, ⟨_, hns, fun j y v e1 e2 e3 => ?_⟩, fun y c e => ?_, e0.hok.fresh (Nat.le_refl _), fun y c e => ?_, fun q hq => absurd (show q ∈ ([] : List (Addr × Obj)) ++ [] from hq) (by simp), e0.hok.kept kp, by rw [List.length_set]; exact I.len⟩
  · have hy : scope.names.lookup y = some .cell ∨ scope.names.lookup y = some .free := hy
    rcases hy with hy | hy
    · exact absurd rfl (L.nocell _ (PySem.mem_of_lookup hy))
    · exact look hy
  · have z : false = true := z
    cases z
  · have e3 : Vis scope y := e3
    have e1 : X.N[j]? = some y := e1
    rcases e3 with k | k | k
    · have ya := L.loc y k
      subst ya
      have hj := nodup_ix hN e1 hi
      subst hj
      rw [List.getElem?_set_self hiσ] at e2
      cases e2
      refine ⟨u, r, .inl ⟨k, ?_⟩⟩
      show ([(y, u)] : List (Str × Value)).reverse.lookup y = some u
      simp
    · exact absurd rfl (L.nocell _ (PySem.mem_of_lookup k))
    · have hne : i ≠ j := fun z => by
        subst z
        rw [hi] at e1
        cases e1
        rw [L.par] at k
        cases k
      rw [List.getElem?_set_ne hne] at e2
      obtain ⟨m, hn, hl⟩ := I.loc
      have hvis : Vis X.env.scope y := (L.free _ (PySem.mem_of_lookup k) rfl).elim (fun k => .inr (.inl k)) (fun k => .inr (.inr k))
      obtain ⟨w', r', q⟩ := hl j y v e1 e2 hvis
      obtain ⟨c2, h2⟩ := look k
      refine ⟨w', r', .inr ⟨.inr k, c2, h2, ?_⟩⟩
      have c1 := cm h2
      rcases q with ⟨k', _⟩ | ⟨_, c3, e', z⟩
      · have k' : X.env.scope.names.lookup y = some .local := k'
        rcases L.free _ (PySem.mem_of_lookup k) rfl with k2 | k2 <;> rw [show X.env.scope.names.lookup y = _ from k2] at k' <;> cases k'
      · rw [c1] at e'
        cases e'
        exact cellK z
  · obtain ⟨w', z⟩ := I.cell y c (cm e)
    exact ⟨w', cellK z⟩
  · exact I.freeC y c (cm e)
/-- the key's call -/
theorem lam_key {params : Arguments} {body : Expr} {scope : Scope} {pm ctv : Value} {f c' : Addr} {a : Str} {i k : Nat} {x : V} {u : Value} {tb : TE} {Q : VK} {A : Around} (I : Inv X pins σ H s) (hN : X.N.Nodup) (L : LamS1 X.env.scope scope a) (hi : X.N[i]? = some a)
    (hf : s.heap.get? f = some (PySem.W.kla_obj "<lambda>" (X.env.qual ++ "<lambda>") params body scope (cloFrom X.env.cells scope.names []) pm c' ctv)) (hc : H c' = some (CodeO c' (X.env.qual ++ "<lambda>")))
    (hbind : bindArgs (PySem.W.kla_fn "<lambda>" (X.env.qual ++ "<lambda>") params body scope (cloFrom X.env.cells scope.names []) pm (.ref c') ctv) ⟨[u], []⟩ = pure [(a, u)])
    (e0 : Env0 X.prog X.w X.K X.mg X.base A X.stack s H) (hr : Room (k + 1) A)
    (hbody : ∀ (A : Around) (outer : List Env) (s : Shared) (H : Hp) (f c' : Addr), Room k (A.deeper (lamEnv X scope s.heap.objs.size f c')) → PE (lamCx X A outer s H C8.E0 scope f c') body tb)
    (r : RelV x u) (ht : tb (σ.set i (some x)) H Q) : wpAny (model X.prog X.w) A (call (.ref f) [u]) (EP X pins σ Q) (fun _ _ => False) s := by
  obtain ⟨⟨oc, vs, t, hoc, hdc, hvc⟩, _, _⟩ := I.hok c' _ hc
  have rc : codeAny (model X.prog X.w) A (.call (.ref f) ⟨[u], []⟩) (CR (L2.CX X.prog X.w) X.stack X.prog X.w H s Q C8.E0) s := by
    refine PySem.W.kla_callFunE hr.depth hf rfl L.co L.gen rfl ⟨c', oc, vs, t, rfl, hoc, hdc, hvc⟩ ?_
    rw [hbind]
    refine wpAny_pure (wpAny_newFunctionEnv (fun y hy => L.nocell y hy) (fun y hy => by rw [List.mem_singleton.mp hy]; exact L.par) (fun h₁ hns hsb => ⟨I.nolimit.fresh _ hsb, ?_⟩) L.kind)
    show codeAny _ _ (.expr body (lamEnv X scope s.heap.objs.size f c')) _ _
    have kp : ∀ b o, s.heap.get? b = some o → h₁.get? b = some o := fun b o e => hsb.extBut b o (Nat.ne_of_lt (Heap.lt_size e)) (Heap.get?_push_of_some _ e)
    have J : Inv (lamCx X A X.stack s H C8.E0 scope f c') [] (σ.set i (some x)) H { s with heap := h₁, toks := s.toks + ([(a, u)] : List (Str × Value)).length } := lam_start1 I hN L hi e0 hr.hd r hns kp
    refine PySem.W.kla_codeExpr (wpAny_mono ((hbody A X.stack s H f c' (hr.deeper _)).run [] _ _ H Q J ht) (fun v s' hq => ?_) fun e s' hq => hq)
    obtain ⟨w', H', J', rv, q⟩ := hq
    exact ⟨w', H', J'.os, J'.bare, J'.base, J'.hok, rv, q⟩
  refine wpAny_call (codeAny_mono rc fun r s' hq => ?_)
  cases r with
  | error e =>
    obtain ⟨_, _, _, _, _, _, _, _, _, _, _, _, z⟩ := hq
    exact False.elim z
  | ok fl =>
    cases fl with
    | ret u => exact I.after hq
    | next => exact False.elim hq
    | brk => exact False.elim hq
    | cont => exact False.elim hq
/-- sorted(e, key=lambda a: body): P the table of the def's code object -/
def tSortL (K : PySem.W.Frag) (P : Addr) (q : Str) (i : Nat) (ta : TA) (tb : TE) : TE := fun σ H Q => ta σ H fun vs H1 => ∃ (l : Addr) (xs : List V), vs = [.ref l] ∧ SqL K H1 l xs ∧ xs.length < 64 ∧ TabS H1 P q ∧ ∀ H2, ExtN H1 H2 → TabS H2 P q → SqL K H2 l xs ∧
  (∀ x ∈ xs, ∀ H3, Ex H2 H3 → tb (σ.set i (some x)) H3 fun v H4 => (∃ n, v = .int n) ∧ Ex H3 H4) ∧ ∀ (ys : List V) (p : Addr) (H3 : Hp), ys.Perm xs → H2 p = none → Ex H2 H3 → H3 p = some (.lst ys) → Q (.ref p) H3
theorem pe_sortL {P c : Addr} {a : Str} {i k : Nat} {e : Expr} {ta : TA} {tb : TE} {params : Arguments} {body : Expr} {scope : Scope} {p pos lpos kpos : Pos} (hg : Gl X "sorted") (hm : X.mg "sorted" = none) (hex : X.ex = []) (hN : X.N.Nodup) (hi : X.N[i]? = some a)
    (TB : TabB X.base X.mg c P) (hcode : X.env.code = .ref c) (L : LamS1 X.env.scope scope a) (hr : Room (k + 3) X.A) (he : PA X [e] ta)
    (hbody : ∀ (A : Around) (outer : List Env) (s : Shared) (H : Hp) (f c' : Addr), Room k (A.deeper (lamEnv X scope s.heap.objs.size f c')) → PE (lamCx X A outer s H C8.E0 scope f c') body tb)
    (hdef : defaultsOf params X.env = ([], []) := by rfl)
    (hbind : ∀ (q : Str) (cl : List (Str × Addr)) (pm cv ctv u : Value), bindArgs (PySem.W.kla_fn "<lambda>" q params body scope cl pm cv ctv) ⟨[u], []⟩ = pure [(a, u)] := by intros; rfl)
    (hse : backTo pos (starEach [e] X.env) = (false, eval e X.env) :: backTo pos (starEach [] X.env) := by rfl) (hpl : (backTo pos (starEach [e] X.env)).any (·.1) = false := by rfl) :
    PE X (.Call (.Name "sorted" p) [e] [⟨some (Str.ofString "key"), .Lambda params body scope lpos, kpos⟩] pos) (tSortL X.K P (X.env.qual ++ "<lambda>") i ta tb) := by
  refine ⟨fun pins s σ H Q I h => ?_⟩
  refine wpAny_Call_Name_kw (ld_blt I hg hm PyProof.Rows.boot_sorted ?_)
  refine PyProof.Rows.callWith_kw (thn (he.run pos pins s σ H _ I h) fun us s1 ⟨vs, H1, I1, r1, l, xs, evs, hs, h64, hT, k1⟩ => ?_) hse hpl (by rfl) (by rfl)
  subst evs
  obtain rfl := Vals.ref1 r1
  show wpAny _ _ (evalAll [do let v ← eval (.Lambda params body scope lpos) X.env; standAt pos; pure v]) _ _ s1
  have hTs : Tabs [(P, X.env.qual ++ "<lambda>")] H1 := fun z hz => by rw [List.mem_singleton.mp hz]; exact hT
  refine wpAny_evalAll_cons (wpAny_bind (lam_make2 I1 TB hcode (List.mem_singleton.mpr rfl) (fun z hz _ => by rw [List.mem_singleton.mp hz]) hTs hdef (L.has I1.ok) fun f c' pm ctv H2 s2 I2 eN T2 hf hfn hfr hco => wpAny_bind (wpAny_standAt (wpAny_pure (wpAny_evalAll_nil ?_)))))
  obtain ⟨hs2, hkey, hq⟩ := k1 H2 eN (T2 _ (List.mem_singleton.mpr rfl))
  show wpAny _ _ (call (.builtin "sorted") [.ref l] [(Str.ofString "key", .ref f)]) _ _ s2
  have nL : f ≠ X.env.locals := fun z => by
    obtain ⟨m, ⟨o, es, ep, ho, hd, _⟩, _⟩ := I2.loc
    rw [← z, hf] at ho
    cases ho
    cases hd
  have nfs : f ∉ X.fs := fun z => by
    rcases I2.ok.stk with e | ⟨e, hfm⟩
    · rw [e] at hfr
      exact hfr z
    · rw [e] at hfr
      refine hfr ?_
      show f ∈ List.filterMap (·.frame) (X.env :: X.outer)
      rw [List.filterMap_cons, hfm]
      exact List.mem_cons_of_mem _ z
  have Ip : Inv X (pins ++ [(f, PySem.W.kla_obj "<lambda>" (X.env.qual ++ "<lambda>") params body scope (cloFrom X.env.cells scope.names []) pm c' ctv)]) σ H2 s2 := I2.pins_of fun z hz => by
    rcases List.mem_append.mp hz with w | w
    · exact I2.pin z (List.mem_append_right _ w)
    · rw [List.mem_singleton.mp w]
      exact ⟨hf, hfn, nL, nfs, fun v e => by cases e⟩
  refine thn (lam_sorted (Q := Q) hex Ip hs2 h64 (fun pins' H' s' v x hx rv J ex => ?_) hq) fun u s3 hu => ?_
  · have hf' := (J.pin (f, PySem.W.kla_obj "<lambda>" (X.env.qual ++ "<lambda>") params body scope (cloFrom X.env.cells scope.names []) pm c' ctv) (List.mem_append_right _ (List.mem_append_left _ (List.mem_append_right _ (List.mem_singleton.mpr rfl))))).1
    refine thn (lam_key J hN L hi hf' (ex _ _ hco) (hbind _ _ _ _ _ _) (e0 := J.env0.in1.in1) (k := k) ((hr.in1).in1) hbody rv (hkey x hx H' ex)) fun u s4 hu => ?_
    obtain ⟨w, H4, J4, r4, hn, e4⟩ := hu
    exact ⟨w, H4, J4, r4, hn, ex.trans e4⟩
  · obtain ⟨v, H', J, rv, hv⟩ := hu
    exact ⟨v, H', J.unpinned, rv, hv⟩
end
end MV
namespace MV
open PySem PySem.Spec PyProof.Rows L2 Evl LamX
/-! ### a def that makes lambdas: its code object is at c -/
structure FunC (K : PySem.W.Frag) (x qual : Str) (st : Stmt) (f : Addr) (fd : FuncData) (c : Addr) : Prop where
  ex : ∃ (oc : Value) (od : Option Addr) (kV doc pm : Value) (an : Option Addr) (ct : Value) (osl : Array (Option Value)),
    fd = PySem.W.fnOf x qual (defArgs st) (defBody st) (defScope st) .none kV doc pm an (.ref c) ct ∧ K.lookup f = some ⟨oc, od, .func fd, osl⟩ ∧ PySem.W.codeIn K (.ref c) qual = true
abbrev lamQ (q : Str) : Str := (q ++ ".<locals>.") ++ "<lambda>"
theorem okC {P : Program} {w : World} {K : PySem.W.Frag} {mg : Str → Option Value} {base : Heap} {x qual : Str} {st : Stmt} {f c : Addr} {fd : FuncData} {N ps : List Str} {k : Nat} {sp : Sp} (F : FunC K x qual st f fd c) (S : FnScope N ps (defScope st)) (len : ∀ vs H Q E, sp vs H Q E → vs.length = ps.length)
    (hbody : ∀ (A : Around) (outer : List Env) (s : Shared) (H : Hp) (vs : List V) (Q : VK) (E : XK), Room k (A.deeper (envOfC qual (defScope st) s.heap.objs.size f (.ref c))) → sp vs H Q E →
      ∃ t, PSs (cxOf CX0 P w K mg base N qual (defScope st) f (.ref c) A outer s H E).nox (defBody st) t ∧ t { nx := fun _ H' => Q .non H', rt := Q } (L2.start N vs) H) : FnOk P w K mg base CX0 (k + 1) f fd ps sp := by
  obtain ⟨oc, od, kV, doc, pm, an, ct, osl, rfl, lk, hcd⟩ := F.ex
  refine fn_of lk hcd S len fun A outer s H vs Q E hr hsp => ?_
  obtain ⟨t, h, q⟩ := hbody A outer s H vs Q E hr hsp
  exact ⟨t, h.nox, q⟩
end MV
namespace MV
open PySem PySem.Spec PyProof.Rows L2 Evl LamX
/-! ### heaps behind the making of a lambda: all but the tables are kept -/
theorem exn_rd {H H' : Hp} {a : Addr} {u : HO} (e : ExtN H H') (hu : ∀ ps, u ≠ .tbl ps) (h : Rd H a u) : Rd H' a u := by
  rcases h with h | ⟨o, h⟩
  · exact .inl (e a _ h hu)
  · exact .inr ⟨o, e a _ h fun ps z => by cases z⟩
theorem exn_l {K : PySem.W.Frag} {H H' : Hp} {a : Addr} {xs : List V} (e : ExtN H H') (h : SqL K H a xs) : SqL K H' a xs := by
  rcases h with h | h
  · exact .inl (exn_rd e (fun ps z => by cases z) h)
  · exact .inr h
theorem exn_t {K : PySem.W.Frag} {H H' : Hp} {a : Addr} {xs : List V} (e : ExtN H H') (h : SqT K H a xs) : SqT K H' a xs := by
  rcases h with h | h
  · exact .inl (exn_rd e (fun ps z => by cases z) h)
  · exact .inr h
theorem exn_lst {H H' : Hp} {a : Addr} {xs : List V} (e : ExtN H H') (h : H a = some (.lst xs)) : H' a = some (.lst xs) := e a _ h fun ps z => by cases z
theorem exn_tup {H H' : Hp} {a : Addr} {xs : List V} (e : ExtN H H') (h : H a = some (.tup xs)) : H' a = some (.tup xs) := e a _ h fun ps z => by cases z
theorem exn_ins {H H' : Hp} {a C d : Addr} {fs : List (Str × V)} (e : ExtN H H') (h : H a = some (.ins C d fs)) : H' a = some (.ins C d fs) := e a _ h fun ps z => by cases z
theorem codeO_neL {c : Addr} {q : Str} (xs : List V) : CodeO c q ≠ .lst xs := fun z => by
  unfold CodeO at z
  cases z
/-- a table stays told where tables and code objects are kept -/
theorem tabS_mono {H H' : Hp} {P : Addr} {q : Str} (t : TabS H P q) (e : ∀ b o, H b = some o → ((∃ ps, o = .tbl ps) ∨ ∃ c q, o = CodeO c q) → H' b = some o) : TabS H' P q := by
  obtain ⟨ps, h1, h2, h3⟩ := t
  refine ⟨ps, e _ _ h1 (.inl ⟨ps, rfl⟩), h2, fun pos cv hc => ?_⟩
  obtain ⟨c, e1, e2⟩ := h3 pos cv hc
  exact ⟨c, e1, e _ _ e2 (.inr ⟨c, q, rfl⟩)⟩
theorem tabS_upd {H : Hp} {P p : Addr} {q : Str} {xs ys : List V} (t : TabS H P q) (h : H p = some (.lst xs)) : TabS (upd H p (.lst ys)) P q := tabS_mono t fun b o hb ho => by
  have : b ≠ p := fun z => by
    rw [z, h] at hb
    have hb := Option.some.inj hb
    rcases ho with ⟨ps, z2⟩ | ⟨c, q2, z2⟩
    · rw [z2] at hb; cases hb
    · rw [z2] at hb; exact codeO_neL xs hb.symm
  rw [upd_ne this]
  exact hb
theorem exn_mut {H H' : Hp} {p : Addr} {o : HO} (e : ExtN H H') (h : H p = none) : ExtN H (upd H' p o) := fun b u hb hn => by
  rw [upd_ne (ne_of_none hb h)]
  exact e b u hb hn
/-- places in an order -/
theorem perm_ints {ys : List V} {pl : List Nat} (h : ys.Perm (pl.map fun (i : Nat) => V.int (i : Int))) : ∃ ord : List Nat, ord.Perm pl ∧ ys = ord.map fun (i : Nat) => V.int (i : Int) := by
  let g : V → Nat := fun v => match v with | .int i => i.toNat | _ => 0
  refine ⟨ys.map g, ?_, ?_⟩
  · have := h.map g
    rw [List.map_map] at this
    have e : (pl.map (g ∘ fun (i : Nat) => V.int (i : Int))) = pl := by
      rw [show (g ∘ fun (i : Nat) => V.int (i : Int)) = id from funext fun i => Int.toNat_natCast i, List.map_id]
    rw [e] at this
    exact this
  · rw [List.map_map]
    refine (List.map_id ys).symm.trans (List.map_congr_left fun y hy => ?_)
    obtain ⟨i, _, rfl⟩ := List.mem_map.mp (h.mem_iff.mp hy)
    show V.int (i : Int) = V.int ((((i : Int)).toNat : Nat) : Int)
    rw [Int.toNat_natCast]
section
variable {K : PySem.W.Frag} {σ : L2.St} {H : Hp} {ta : TA} {tb : TE} {D : Ends} {tz : TS} {xs : List V} {l P : Addr} {q : Str} {i j : Nat}
theorem q_sortL (ha : EvA ta σ H [.ref l]) (hl : SqL K H l xs) (h64 : xs.length < 64) (hT : TabS H P q)
    (k : ∀ H2, ExtN H H2 → TabS H2 P q → (∀ x ∈ xs, ∃ n, Ev tb (σ.set i (some x)) H2 (.int n)) ∧ ∀ (ys : List V) (p : Addr) (H3 : Hp), ys.Perm xs → H2 p = none → Ex H2 H3 → H3 p = some (.lst ys) → tz D (σ.set j (some (.ref p))) H3) :
    tSeq (tAsg (tSortL K P q i ta tb) (gName j)) tz D σ H := by
  refine ha H (Ex.refl H) _ fun H1 e1 => ⟨l, xs, rfl, ex_l e1 hl, h64, hT.ext e1, fun H2 e2 T2 => ?_⟩
  have e02 := (ExtN.of e1).trans e2
  obtain ⟨k1, k2⟩ := k H2 e02 T2
  refine ⟨exn_l e02 hl, fun x hx H3 e3 => ?_, k2⟩
  obtain ⟨n, hn⟩ := k1 x hx
  exact hn H3 e3 _ fun H4 e4 => ⟨⟨n, rfl⟩, e4⟩
end
end MV
namespace MV
open PySem PySem.Spec PyProof.Rows L2 Evl LamX
/-! ### a lambda without parameters, what it raises with no context (L2N) -/
abbrev lamCxN (X : Cx) (A : Around) (outer : List Env) (s : Shared) (H : Hp) (E : XK) (scope : Scope) (f c' : Addr) : Cx :=
  { lamCx X A outer s H E scope f c' with xe := fun e s' => wpAny (model X.prog X.w) (A.deeper (lamEnv X scope s.heap.objs.size f c')) (leaving (lamEnv X scope s.heap.objs.size f c') e) (fun _ s'' => L2N.CX X.prog X.w outer H s E e s'') (fun e' s'' => L2N.CX X.prog X.w outer H s E e' s'') s' }
section
variable {X : Cx} {pins : List (Addr × Obj)} {σ : L2.St} {H HZ : Hp} {s s1 : Shared}
theorem lam_start2N {A : Around} {outer : List Env} {E : XK} {scope : Scope} {f c' : Addr} {h₁ : Heap} {tk : Nat} (I : Inv X pins σ H s) (L : LamS X.env.scope scope) (e0 : Env0 X.prog X.w X.K X.mg X.base A outer s1 HZ) (hd : A.handled = none)
    (un : Un (frs X.stack) [] H HZ s.heap s1.heap) (hns : h₁.Ns s1.heap.objs.size fun y => ([] : List (Str × Value)).reverse.lookup y) (kp : ∀ b o, s1.heap.get? b = some o → h₁.get? b = some o) :
    Inv (lamCxN X A outer s1 HZ E scope f c') [] σ HZ { s1 with heap := h₁, toks := tk } :=
  let J := lam_start2 (tk := tk) (E := E) (f := f) (c' := c') I L e0 hd un hns kp
  ⟨⟨J.ok.mod, J.ok.kind, J.ok.glob, J.ok.blt, J.ok.above, J.ok.inj, J.ok.has, J.ok.cab, J.ok.hd, J.ok.frames, J.ok.stk, J.ok.exf, J.ok.bs, J.ok.bsz, J.ok.noex, J.ok.exfs, J.ok.funs, J.ok.frf⟩, J.os, J.bare, J.base, J.loc, J.cell, J.free, J.freeC, J.pin, J.hok, J.len⟩
/-- x(), in the def that got the lambda: Z is that def's context, entered at s -/
theorem pe_actN {CXg : CXT} {Eg : XK} {Ng : List Str} {qg : Str} {sg : Scope} {g f c' : Addr} {cdg pm ctv : Value} {params : Arguments} {body : Expr} {scope : Scope} {k i : Nat} {a : Str} {pn : List (Addr × Obj)} {xe : Value → Shared → Prop} {W : WX} {E : XK} {tb : TE} {p1 p2 : Pos}
    (I : Inv X pins σ H s) (L : LamS X.env.scope scope) (hf : s.heap.get? f = some (PySem.W.kla_obj "<lambda>" (X.env.qual ++ "<lambda>") params body scope (cloFrom X.env.cells scope.names []) pm c' ctv)) (hfn : H f = none) (hfr : f ∉ frs X.stack)
    (hbind : bindArgs (PySem.W.kla_fn "<lambda>" (X.env.qual ++ "<lambda>") params body scope (cloFrom X.env.cells scope.names []) pm (.ref c') ctv) ⟨[], []⟩ = pure [])
    (tk : L2N.Takes ((cxOf CXg X.prog X.w X.K X.mg X.base Ng qg sg g cdg X.A X.stack s H Eg).tr pn xe) W) (hW : ∀ cls d σ' H', E cls d H' → W cls d σ' H') (hr : Room (k + 1) (X.A.deeper (envOfC qg sg s.heap.objs.size g cdg)))
    (hbody : ∀ (A : Around) (outer : List Env) (s : Shared) (H : Hp), Room k (A.deeper (lamEnv X scope s.heap.objs.size f c')) → PE (lamCxN X A outer s H E scope f c') body tb)
    (hN : Ng[i]? = some a) (hv : Vis sg a) (hd : (a == ("__debug__" : Str)) = false := by decide) (hcd : (a == ("__classdict__" : Str)) = false := by decide) :
    PE ((cxOf CXg X.prog X.w X.K X.mg X.base Ng qg sg g cdg X.A X.stack s H Eg).tr pn xe) (.Call (.Name a p1) [] [] p2)
      (fun σZ HZ Q => σZ[i]? = some (some (.ref f)) ∧ HZ c' = some (CodeO c' (X.env.qual ++ "<lambda>")) ∧ tb σ HZ Q) := by
  refine ⟨fun pinsZ sZ σZ HZ Q IZ h => ?_⟩
  obtain ⟨hs, hc, ht⟩ := h
  refine wpAny_Call_Name_kw (thn ((pe_var (pos := p1) (i := i) hN hv hd hcd).run pinsZ sZ σZ HZ (fun v H1 => v = .ref f ∧ H1 = HZ) IZ ⟨.ref f, hs, rfl, rfl⟩) fun u s1 ⟨v, H1, I1, r1, q1⟩ => ?_)
  obtain ⟨ev, eH⟩ := q1
  subst ev
  rw [eH] at I1
  obtain rfl : u = Value.ref f := r1
  have of1 : s1.heap.get? f = some (PySem.W.kla_obj "<lambda>" (X.env.qual ++ "<lambda>") params body scope (cloFrom X.env.cells scope.names []) pm c' ctv) := I1.base.keep f _ hf hfn hfr (fun z => nomatch (show f ∈ ([] : List Addr) from z))
  refine PySem.W.callWith_F0 ⟨_, _, _, _, of1⟩ ?_
  have un : Un (frs X.stack) [] H HZ s.heap s1.heap := I1.base
  obtain ⟨⟨oc, vs, t, hoc, hdc, hvc⟩, _, _⟩ := I1.hok c' _ hc
  have rc : codeAny (model X.prog X.w) (X.A.deeper (envOfC qg sg s.heap.objs.size g cdg)) (.call (.ref f) ⟨[], []⟩) (CR (L2N.CX X.prog X.w) (envOfC qg sg s.heap.objs.size g cdg :: X.stack) X.prog X.w HZ s1 Q E) s1 := by
    refine PySem.W.kla_callFunE hr.depth of1 rfl L.co L.gen rfl ⟨c', oc, vs, t, rfl, hoc, hdc, hvc⟩ ?_
    rw [hbind]
    refine wpAny_pure (wpAny_newFunctionEnv (fun y hy => (L.own y hy).2) (fun y hy => absurd hy (by simp)) (fun h₁ hns hsb => ⟨I1.nolimit.fresh _ hsb, ?_⟩) L.kind)
    show codeAny _ _ (.expr body (lamEnv X scope s1.heap.objs.size f c')) _ _
    have kp : ∀ b o, s1.heap.get? b = some o → h₁.get? b = some o := fun b o e => hsb.extBut b o (Nat.ne_of_lt (Heap.lt_size e)) (Heap.get?_push_of_some _ e)
    have J : Inv (lamCxN X (X.A.deeper (envOfC qg sg s.heap.objs.size g cdg)) (envOfC qg sg s.heap.objs.size g cdg :: X.stack) s1 HZ E scope f c') [] σ HZ { s1 with heap := h₁, toks := s1.toks + ([] : List (Str × Value)).length } :=
      lam_start2N I L I1.env0 hr.hd un hns kp
    refine PySem.W.kla_codeExpr (wpAny_mono ((hbody _ _ s1 HZ (hr.deeper _)).run [] _ _ HZ Q J ht) (fun v s' hq => ?_) fun e s' hq => hq)
    obtain ⟨w', H', J', rv, q⟩ := hq
    exact ⟨w', H', J'.os, J'.bare, J'.base, J'.hok, rv, q⟩
  have hx : Passes (L2N.CX X.prog X.w) ((cxOf CXg X.prog X.w X.K X.mg X.base Ng qg sg g cdg X.A X.stack s H Eg).tr pn xe) E := L2N.passes_call tk hW
  refine wpAny_call (codeAny_mono rc fun r s' hq => ?_)
  cases r with
  | error e => exact hx pinsZ σZ HZ s1 e s' I1 hq
  | ok fl =>
    cases fl with
    | ret u => exact I1.after hq
    | next => exact False.elim hq
    | brk => exact False.elim hq
    | cont => exact False.elim hq
end
/-- the def that calls what it got: a calls it; TT: what it makes of the lambda's reading -/
def GivesToN (k : Nat) (X : Cx) (Ng : List Str) (x : Str) (sg : Scope) (g : Addr) (cdg : Value) (bg : List Stmt) (a : Str) (q : Str) (TT : (XK → Hp → VK → Prop) → Hp → VK → Prop) : Prop :=
  ∀ (f c' : Addr) (s : Shared) (H : Hp) (Q : VK) (tl : XK → Hp → VK → Prop), Room (k + 1) (X.A.deeper (envOfC x sg s.heap.objs.size g cdg)) →
    (∀ (W : WX) (pn : List (Addr × Obj)) (xe : Value → Shared → Prop) (E : XK) (p1 p2 : Pos), L2N.Takes ((cxOf C8.CX0 X.prog X.w X.K X.mg X.base Ng x sg g cdg X.A X.stack s H C8.E0).tr pn xe) W → (∀ cls d σ' H', E cls d H' → W cls d σ' H') →
      PE ((cxOf C8.CX0 X.prog X.w X.K X.mg X.base Ng x sg g cdg X.A X.stack s H C8.E0).tr pn xe) (.Call (.Name a p1) [] [] p2) (fun σZ HZ Q => σZ[0]? = some (some (.ref f)) ∧ HZ c' = some (CodeO c' q) ∧ tl E HZ Q)) →
    H c' = some (CodeO c' q) → TT tl H Q →
    ∃ t, PSs (cxOf C8.CX0 X.prog X.w X.K X.mg X.base Ng x sg g cdg X.A X.stack s H C8.E0).nox bg t ∧ t { nx := fun _ H' => Q .non H', rt := Q } (L2.start Ng [.ref f]) H
section
variable {X : Cx}
/-- x(lambda: body) -/
theorem pe_lamcallN {T : List (Addr × Str)} {TT : (XK → Hp → VK → Prop) → Hp → VK → Prop} {x a : Str} {g c P : Addr} {k : Nat} {pg : Arguments} {bg : List Stmt} {sg : Scope} {dV kV doc pm cdv ct oc : Value} {an od : Option Addr} {osl : Array (Option Value)} {Ng : List Str}
    {params : Arguments} {body : Expr} {scope : Scope} {t : XK → TE} {p lpos pos : Pos} (hg : Gl X x) (hm : X.mg x = some (.ref g)) (hk : PySem.W.keepIn X.K (.ref g) = true)
    (lk : X.K.lookup g = some ⟨oc, od, .func (PySem.W.fnOf x x pg bg sg dV kV doc pm an cdv ct), osl⟩) (hcg : PySem.W.codeIn X.K cdv x = true) (hb : L2.Binds X.K (PySem.W.fnOf x x pg bg sg dV kV doc pm an cdv ct) [a] []) (Sg : FnScope Ng [a] sg) (hNg : Ng[0]? = some a) (hva : Vis sg a)
    (hG : GivesToN k X Ng x sg g cdv bg a (X.env.qual ++ "<lambda>") TT)
    (TB : TabB X.base X.mg c P) (hcode : X.env.code = .ref c) (hmT : (P, X.env.qual ++ "<lambda>") ∈ T) (hu : ∀ p ∈ T, p.1 = P → p.2 = X.env.qual ++ "<lambda>") (hr : Room (k + 2) X.A) (L : LamS X.env.scope scope) (hdef : defaultsOf params X.env = ([], []))
    (hbind : ∀ (q : Str) (cl : List (Str × Addr)) (pm cv ctv : Value), bindArgs (PySem.W.kla_fn "<lambda>" q params body scope cl pm cv ctv) ⟨[], []⟩ = pure [])
    (hbody : ∀ (A : Around) (outer : List Env) (s : Shared) (H : Hp) (E : XK) (f c' : Addr), Room k (A.deeper (lamEnv X scope s.heap.objs.size f c')) → PE (lamCxN X A outer s H E scope f c') body (t E))
    (hdb : (x == ("__debug__" : Str)) = false := by decide) (hd : (a == ("__debug__" : Str)) = false := by decide) (hcd : (a == ("__classdict__" : Str)) = false := by decide) :
    PE X (.Call (.Name x p) [.Lambda params body scope lpos] [] pos) (tLam T TT t) := by
  refine ⟨fun pins s σ H Q I h => ?_⟩
  obtain ⟨hT, h⟩ := h
  refine wpAny_Call_Name_kw (ld_glob I hg hm ?_ hdb)
  refine PySem.W.callWith_K (h₀ := X.base) I.ok.mod.kin hk ?_ (by rfl) (by rfl)
  show wpAny _ _ (spliced ((false, eval (.Lambda params body scope lpos) X.env) :: backTo pos (starEach [] X.env))) _ _ s
  refine Calls.spliced_cons (lam_make2 I TB hcode hmT hu hT hdef (L.has I.ok) fun f c' pm' ctv H1 s' I1 eN T1 hf hfn hfr hco => ?_)
  refine Calls.spliced_nil ⟨I1.kIn, ?_⟩
  have rc : codeAny (model X.prog X.w) X.A (.call (.ref g) ⟨[.ref f], []⟩) (CR C8.CX0 X.stack X.prog X.w H1 s' Q C8.E0) s' := by
    refine run_ofS (N := Ng) (ps := [a]) (us := [.ref f]) (vs := [.ref f]) lk hcg Sg hr I1.env0 (hb s' [.ref f] I1.kIn rfl) (.cons rfl .nil) rfl fun hr' => ?_
    obtain ⟨t', ht', hq'⟩ := hG f c' s' H1 Q (fun E H' Q' => t E σ H' Q') hr' (fun W pn xe E p1 p2 tk hW => pe_actN (i := 0) I1 L hf hfn hfr (hbind _ _ _ _ _) tk hW hr' (fun A outer s H hr2 => hbody A outer s H E f c' hr2) hNg hva hd hcd) hco (h H1 eN T1)
    exact ⟨t', ht'.nox, hq'⟩
  refine wpAny_call (codeAny_mono rc fun r s2 hq => ?_)
  cases r with
  | error e => exact (show False from hq).elim
  | ok fl =>
    cases fl with
    | ret u => exact I1.after hq
    | next => exact False.elim hq
    | brk => exact False.elim hq
    | cont => exact False.elim hq
end
end MV
local macro_rules | `(tactic| walk_at "ev1") => `(tactic| (first
  | ((with_reducible apply Evl.ev_var); exact rfl)
  | with_reducible exact Evl.ev_c
  | with_reducible apply MV.ev_menuL
  | with_reducible exact Evl.ea_nil
  | with_reducible apply Evl.ea_cons
  | with_reducible apply MV.ev_chain
  | with_reducible apply Evl.ev_op
  | with_reducible apply Evl.ev_un
  | with_reducible apply Evl.ev_cb
  | with_reducible apply Evl.ev_notV
  | with_reducible apply Evl.et_test
  | with_reducible apply Evl.et_B
  | with_reducible apply Evl.et_not
  | with_reducible exact Evl.rv_I0
  | with_reducible exact Evl.ru_neg
  | with_reducible exact MV.rv_eqI
  | with_reducible exact MV.rv_neI
  | with_reducible exact MV.rv_eqS
  | with_reducible exact MV.rv_neS
  | with_reducible exact MV.rv_isN
  | with_reducible exact MV.rv_notN
  | with_reducible exact MV.rc_abs
  | with_reducible exact MV.rc_min2
  | with_reducible exact MV.rc_max2
  | with_reducible exact MV.rc_int
  | with_reducible exact MV.rc_intB
  | with_reducible exact MV.rc_len (by assumption)
  | with_reducible exact MV.rc_lenT (by assumption)
  | with_reducible exact MV.rv_ixInts (by assumption) (by omega) (by omega)
  | with_reducible exact Evl.rv_I (MV.cmul_r (by omega) (by omega))
  | with_reducible exact Evl.rv_I (MV.cmul_l (by omega) (by omega))
  | with_reducible exact Evl.rv_I (MV.cdiv_s (by omega) (by omega))
  | with_reducible exact Evl.rv_I (MV.cdiv_c (by decide +kernel) (by decide +kernel))
  | with_reducible exact Evl.rv_I (MV.cpow_c (by decide) (by decide) (by decide))
  | with_reducible exact Evl.rv_I (show (0 : Int) < _ by first | omega | decide +kernel)
  | with_reducible apply Evl.rv_I
  | (show _ = List.map L2.V.int (MV.toInts _); exact rfl)
  | (show (0 : Int) ≤ _; omega)
  | (show (_ : Int) < (List.length _ : Nat); simp only [List.length_cons, List.length_nil]; omega)
  | (show List.length _ ≤ 100; simp only [List.length_cons, List.length_nil]; omega)))
local macro_rules | `(tactic| walk_at "ev1") => `(tactic| with_reducible apply MV.ev_call0)
local macro_rules | `(tactic| walk_at "ev") => `(tactic| repeat' (walk_at "ev1"))
local macro_rules | `(tactic| walk_at "ev1") => `(tactic| (first
  | with_reducible apply MV.ev_andB
  | with_reducible apply MV.ev_orB
  | with_reducible apply MV.et_andB
  | with_reducible apply MV.et_orB
  | with_reducible exact MV.isi_int_bool
  | with_reducible exact MV.isi_int_int
  | with_reducible exact MV.isi_list_list (by assumption)
  | with_reducible exact MV.isi_tup_tup (by assumption)
  | with_reducible exact MV.isi_list_tup (by assumption)))
namespace MV
open PySem PySem.Spec PyProof.Rows L2 Evl MVH LamX
def topS (i : Nat) : Stmt := PySem.Challenge.pw_midvalue_k11_refused.main.body.getD i (.Pass ⟨0, 0, 0, 0⟩)
structure Ads where
  c_VoteError : Addr
  c_BadSettings : Addr
  c_BadStep : Addr
  c_NoSensor : Addr
  c_BadRow : Addr
  c_Sensor : Addr
  c_Voter : Addr
  f_middle : Addr
  d_middle : FuncData
  f_moved : Addr
  d_moved : FuncData
  f_agree : Addr
  d_agree : FuncData
  f_need_settings : Addr
  d_need_settings : FuncData
  f_need_step : Addr
  d_need_step : FuncData
  f_Sensor_init : Addr
  d_Sensor_init : FuncData
  f_Voter_init : Addr
  d_Voter_init : FuncData
  f_Voter_given : Addr
  d_Voter_given : FuncData
  f_Voter_sensor : Addr
  d_Voter_sensor : FuncData
  f_Voter_state : Addr
  d_Voter_state : FuncData
  f_Voter_count : Addr
  d_Voter_count : FuncData
  f_Voter_word : Addr
  d_Voter_word : FuncData
  f_Voter_is_close : Addr
  d_Voter_is_close : FuncData
  f_Voter_watch : Addr
  d_Voter_watch : FuncData
  f_Voter_wait : Addr
  d_Voter_wait : FuncData
  f_Voter_step : Addr
  d_Voter_step : FuncData
  f_fresh : Addr
  d_fresh : FuncData
  f_run : Addr
  d_run : FuncData
  f_outs : Addr
  d_outs : FuncData
  f_l_cell : Addr
  d_l_cell : FuncData
  f_l_drawn : Addr
  d_l_drawn : FuncData
  f_l_word : Addr
  d_l_word : FuncData
  f_l_settings : Addr
  d_l_settings : FuncData
  f_l_values : Addr
  d_l_values : FuncData
  f_l_steps : Addr
  d_l_steps : FuncData
  f_l_told : Addr
  d_l_told : FuncData
  f_l_all : Addr
  d_l_all : FuncData
  f_l_bad : Addr
  d_l_bad : FuncData
  f_l_good : Addr
  d_l_good : FuncData
  f_law : Addr
  d_law : FuncData
  cd_law : Addr
  P_law : Addr
abbrev s_middle : Stmt := (topS 7)
abbrev s_moved : Stmt := (topS 8)
abbrev s_agree : Stmt := (topS 9)
abbrev s_need_settings : Stmt := (topS 16)
abbrev s_need_step : Stmt := (topS 17)
abbrev s_Sensor_init : Stmt := (inClass (topS 18) 0)
abbrev s_Voter_init : Stmt := (inClass (topS 19) 0)
abbrev s_Voter_given : Stmt := (inClass (topS 19) 1)
abbrev s_Voter_sensor : Stmt := (inClass (topS 19) 2)
abbrev s_Voter_state : Stmt := (inClass (topS 19) 3)
abbrev s_Voter_count : Stmt := (inClass (topS 19) 4)
abbrev s_Voter_word : Stmt := (inClass (topS 19) 5)
abbrev s_Voter_is_close : Stmt := (inClass (topS 19) 6)
abbrev s_Voter_watch : Stmt := (inClass (topS 19) 7)
abbrev s_Voter_wait : Stmt := (inClass (topS 19) 8)
abbrev s_Voter_step : Stmt := (inClass (topS 19) 9)
abbrev s_fresh : Stmt := (topS 21)
abbrev s_run : Stmt := (topS 22)
abbrev s_outs : Stmt := (topS 23)
abbrev s_l_cell : Stmt := (topS 25)
abbrev s_l_drawn : Stmt := (topS 26)
abbrev s_l_word : Stmt := (topS 27)
abbrev s_l_settings : Stmt := (topS 28)
abbrev s_l_values : Stmt := (topS 29)
abbrev s_l_steps : Stmt := (topS 30)
abbrev s_l_told : Stmt := (topS 31)
abbrev s_l_all : Stmt := (topS 32)
abbrev s_l_bad : Stmt := (topS 33)
abbrev s_l_good : Stmt := (topS 34)
abbrev s_law : Stmt := (topS 35)
structure Txt (K : PySem.W.Frag) (mg : Str → Option Value) (A : Ads) : Prop where
  n_ValueError : mg "ValueError" = none
  n_abs : mg "abs" = none
  n_all : mg "all" = none
  n_enumerate : mg "enumerate" = none
  n_int : mg "int" = none
  n_isinstance : mg "isinstance" = none
  n_len : mg "len" = none
  n_list : mg "list" = none
  n_max : mg "max" = none
  n_min : mg "min" = none
  n_range : mg "range" = none
  n_sorted : mg "sorted" = none
  n_sum : mg "sum" = none
  c_LEAST : ∃ t, mg "LEAST" = some (.int 3 t)
  c_MOST : ∃ t, mg "MOST" = some (.int 9 t)
  c_MOST_THRESHOLD : ∃ t, mg "MOST_THRESHOLD" = some (.int 1000000 t)
  c_MOST_COUNT : ∃ t, mg "MOST_COUNT" = some (.int 1000 t)
  c_MOST_VALUE : ∃ t, mg "MOST_VALUE" = some (.int 1000000000 t)
  g_VoteError : mg "VoteError" = some (.ref A.c_VoteError)
  x_VoteError : PySem.W.excIn K A.c_VoteError [.type "ValueError", .type "Exception", .type "BaseException", .type "object"] "ValueError.__new__" = true
  k_VoteError : PySem.W.keepIn K (.ref A.c_VoteError) = true
  xb_VoteError : PySem.W.subIn K (.ref A.c_VoteError) (.type "BaseException") = some true
  xt_VoteError : PySem.W.typeIn K (.ref A.c_VoteError) = some (.type "type")
  xi_VoteError : PySem.W.isClsIn K A.c_VoteError = true
  xd_VoteError : PySem.W.hasDictIn K A.c_VoteError = true
  xs_VoteError_VoteError : PySem.W.subIn K (.ref A.c_VoteError) (.ref A.c_VoteError) = some true
  xs_VoteError_BadSettings : PySem.W.subIn K (.ref A.c_VoteError) (.ref A.c_BadSettings) = some false
  xs_VoteError_BadStep : PySem.W.subIn K (.ref A.c_VoteError) (.ref A.c_BadStep) = some false
  xs_VoteError_NoSensor : PySem.W.subIn K (.ref A.c_VoteError) (.ref A.c_NoSensor) = some false
  xs_VoteError_BadRow : PySem.W.subIn K (.ref A.c_VoteError) (.ref A.c_BadRow) = some false
  g_BadSettings : mg "BadSettings" = some (.ref A.c_BadSettings)
  x_BadSettings : PySem.W.excIn K A.c_BadSettings [.type "ValueError", .type "Exception", .type "BaseException", .type "object"] "ValueError.__new__" = true
  k_BadSettings : PySem.W.keepIn K (.ref A.c_BadSettings) = true
  xb_BadSettings : PySem.W.subIn K (.ref A.c_BadSettings) (.type "BaseException") = some true
  xt_BadSettings : PySem.W.typeIn K (.ref A.c_BadSettings) = some (.type "type")
  xi_BadSettings : PySem.W.isClsIn K A.c_BadSettings = true
  xd_BadSettings : PySem.W.hasDictIn K A.c_BadSettings = true
  ec_BadSettings : ExcC K A.c_BadSettings
  kv_BadSettings : PySem.W.kitOne K (.ref A.c_BadSettings) (.type "ValueError") = some true
  ki_BadSettings_BadSettings : PySem.W.kitOne K (.ref A.c_BadSettings) (.ref A.c_BadSettings) = some true
  ki_BadSettings_BadStep : PySem.W.kitOne K (.ref A.c_BadSettings) (.ref A.c_BadStep) = some false
  ki_BadSettings_NoSensor : PySem.W.kitOne K (.ref A.c_BadSettings) (.ref A.c_NoSensor) = some false
  ki_BadSettings_BadRow : PySem.W.kitOne K (.ref A.c_BadSettings) (.ref A.c_BadRow) = some false
  xs_BadSettings_VoteError : PySem.W.subIn K (.ref A.c_BadSettings) (.ref A.c_VoteError) = some true
  xs_BadSettings_BadSettings : PySem.W.subIn K (.ref A.c_BadSettings) (.ref A.c_BadSettings) = some true
  xs_BadSettings_BadStep : PySem.W.subIn K (.ref A.c_BadSettings) (.ref A.c_BadStep) = some false
  xs_BadSettings_NoSensor : PySem.W.subIn K (.ref A.c_BadSettings) (.ref A.c_NoSensor) = some false
  xs_BadSettings_BadRow : PySem.W.subIn K (.ref A.c_BadSettings) (.ref A.c_BadRow) = some false
  g_BadStep : mg "BadStep" = some (.ref A.c_BadStep)
  x_BadStep : PySem.W.excIn K A.c_BadStep [.type "ValueError", .type "Exception", .type "BaseException", .type "object"] "ValueError.__new__" = true
  k_BadStep : PySem.W.keepIn K (.ref A.c_BadStep) = true
  xb_BadStep : PySem.W.subIn K (.ref A.c_BadStep) (.type "BaseException") = some true
  xt_BadStep : PySem.W.typeIn K (.ref A.c_BadStep) = some (.type "type")
  xi_BadStep : PySem.W.isClsIn K A.c_BadStep = true
  xd_BadStep : PySem.W.hasDictIn K A.c_BadStep = true
  ec_BadStep : ExcC K A.c_BadStep
  kv_BadStep : PySem.W.kitOne K (.ref A.c_BadStep) (.type "ValueError") = some true
  ki_BadStep_BadSettings : PySem.W.kitOne K (.ref A.c_BadStep) (.ref A.c_BadSettings) = some false
  ki_BadStep_BadStep : PySem.W.kitOne K (.ref A.c_BadStep) (.ref A.c_BadStep) = some true
  ki_BadStep_NoSensor : PySem.W.kitOne K (.ref A.c_BadStep) (.ref A.c_NoSensor) = some false
  ki_BadStep_BadRow : PySem.W.kitOne K (.ref A.c_BadStep) (.ref A.c_BadRow) = some false
  xs_BadStep_VoteError : PySem.W.subIn K (.ref A.c_BadStep) (.ref A.c_VoteError) = some true
  xs_BadStep_BadSettings : PySem.W.subIn K (.ref A.c_BadStep) (.ref A.c_BadSettings) = some false
  xs_BadStep_BadStep : PySem.W.subIn K (.ref A.c_BadStep) (.ref A.c_BadStep) = some true
  xs_BadStep_NoSensor : PySem.W.subIn K (.ref A.c_BadStep) (.ref A.c_NoSensor) = some false
  xs_BadStep_BadRow : PySem.W.subIn K (.ref A.c_BadStep) (.ref A.c_BadRow) = some false
  g_NoSensor : mg "NoSensor" = some (.ref A.c_NoSensor)
  x_NoSensor : PySem.W.excIn K A.c_NoSensor [.type "ValueError", .type "Exception", .type "BaseException", .type "object"] "ValueError.__new__" = true
  k_NoSensor : PySem.W.keepIn K (.ref A.c_NoSensor) = true
  xb_NoSensor : PySem.W.subIn K (.ref A.c_NoSensor) (.type "BaseException") = some true
  xt_NoSensor : PySem.W.typeIn K (.ref A.c_NoSensor) = some (.type "type")
  xi_NoSensor : PySem.W.isClsIn K A.c_NoSensor = true
  xd_NoSensor : PySem.W.hasDictIn K A.c_NoSensor = true
  ec_NoSensor : ExcC K A.c_NoSensor
  kv_NoSensor : PySem.W.kitOne K (.ref A.c_NoSensor) (.type "ValueError") = some true
  ki_NoSensor_BadSettings : PySem.W.kitOne K (.ref A.c_NoSensor) (.ref A.c_BadSettings) = some false
  ki_NoSensor_BadStep : PySem.W.kitOne K (.ref A.c_NoSensor) (.ref A.c_BadStep) = some false
  ki_NoSensor_NoSensor : PySem.W.kitOne K (.ref A.c_NoSensor) (.ref A.c_NoSensor) = some true
  ki_NoSensor_BadRow : PySem.W.kitOne K (.ref A.c_NoSensor) (.ref A.c_BadRow) = some false
  xs_NoSensor_VoteError : PySem.W.subIn K (.ref A.c_NoSensor) (.ref A.c_VoteError) = some true
  xs_NoSensor_BadSettings : PySem.W.subIn K (.ref A.c_NoSensor) (.ref A.c_BadSettings) = some false
  xs_NoSensor_BadStep : PySem.W.subIn K (.ref A.c_NoSensor) (.ref A.c_BadStep) = some false
  xs_NoSensor_NoSensor : PySem.W.subIn K (.ref A.c_NoSensor) (.ref A.c_NoSensor) = some true
  xs_NoSensor_BadRow : PySem.W.subIn K (.ref A.c_NoSensor) (.ref A.c_BadRow) = some false
  g_BadRow : mg "BadRow" = some (.ref A.c_BadRow)
  x_BadRow : PySem.W.excIn K A.c_BadRow [.type "ValueError", .type "Exception", .type "BaseException", .type "object"] "ValueError.__new__" = true
  k_BadRow : PySem.W.keepIn K (.ref A.c_BadRow) = true
  xb_BadRow : PySem.W.subIn K (.ref A.c_BadRow) (.type "BaseException") = some true
  xt_BadRow : PySem.W.typeIn K (.ref A.c_BadRow) = some (.type "type")
  xi_BadRow : PySem.W.isClsIn K A.c_BadRow = true
  xd_BadRow : PySem.W.hasDictIn K A.c_BadRow = true
  ec_BadRow : ExcC K A.c_BadRow
  kv_BadRow : PySem.W.kitOne K (.ref A.c_BadRow) (.type "ValueError") = some true
  ki_BadRow_BadSettings : PySem.W.kitOne K (.ref A.c_BadRow) (.ref A.c_BadSettings) = some false
  ki_BadRow_BadStep : PySem.W.kitOne K (.ref A.c_BadRow) (.ref A.c_BadStep) = some false
  ki_BadRow_NoSensor : PySem.W.kitOne K (.ref A.c_BadRow) (.ref A.c_NoSensor) = some false
  ki_BadRow_BadRow : PySem.W.kitOne K (.ref A.c_BadRow) (.ref A.c_BadRow) = some true
  xs_BadRow_VoteError : PySem.W.subIn K (.ref A.c_BadRow) (.ref A.c_VoteError) = some true
  xs_BadRow_BadSettings : PySem.W.subIn K (.ref A.c_BadRow) (.ref A.c_BadSettings) = some false
  xs_BadRow_BadStep : PySem.W.subIn K (.ref A.c_BadRow) (.ref A.c_BadStep) = some false
  xs_BadRow_NoSensor : PySem.W.subIn K (.ref A.c_BadRow) (.ref A.c_NoSensor) = some false
  xs_BadRow_BadRow : PySem.W.subIn K (.ref A.c_BadRow) (.ref A.c_BadRow) = some true
  g_Sensor : mg "Sensor" = some (.ref A.c_Sensor)
  cl_Sensor : Cls K A.c_Sensor
  mk_Sensor : Mk K A.c_Sensor A.f_Sensor_init
  na_Sensor_is_out : NoAttr K A.c_Sensor "is_out"
  na_Sensor_many : NoAttr K A.c_Sensor "many"
  g_Voter : mg "Voter" = some (.ref A.c_Voter)
  cl_Voter : Cls K A.c_Voter
  mk_Voter : Mk K A.c_Voter A.f_Voter_init
  na_Voter_threshold : NoAttr K A.c_Voter "threshold"
  na_Voter_rate : NoAttr K A.c_Voter "rate"
  na_Voter_misses : NoAttr K A.c_Voter "misses"
  na_Voter_backs : NoAttr K A.c_Voter "backs"
  na_Voter_sensors : NoAttr K A.c_Voter "sensors"
  na_Voter_last : NoAttr K A.c_Voter "last"
  F_middle : Fun K "middle" "middle" s_middle A.f_middle A.d_middle
  g_middle : mg "middle" = some (.ref A.f_middle)
  b_middle : Binds K A.d_middle ["numbers", "near"] []
  F_moved : Fun K "moved" "moved" s_moved A.f_moved A.d_moved
  g_moved : mg "moved" = some (.ref A.f_moved)
  b_moved : Binds K A.d_moved ["one", "goal", "most"] []
  F_agree : Fun K "agree" "agree" s_agree A.f_agree A.d_agree
  g_agree : mg "agree" = some (.ref A.f_agree)
  b_agree : Binds K A.d_agree ["numbers", "value", "threshold"] []
  F_need_settings : Fun K "need_settings" "need_settings" s_need_settings A.f_need_settings A.d_need_settings
  g_need_settings : mg "need_settings" = some (.ref A.f_need_settings)
  b_need_settings : Binds K A.d_need_settings ["settings"] []
  F_need_step : Fun K "need_step" "need_step" s_need_step A.f_need_step A.d_need_step
  g_need_step : mg "need_step" = some (.ref A.f_need_step)
  b_need_step : Binds K A.d_need_step ["values", "many"] []
  F_Sensor_init : Fun K "__init__" "Sensor.__init__" s_Sensor_init A.f_Sensor_init A.d_Sensor_init
  b_Sensor_init : Binds K A.d_Sensor_init ["self"] []
  F_Voter_init : Fun K "__init__" "Voter.__init__" s_Voter_init A.f_Voter_init A.d_Voter_init
  b_Voter_init : Binds K A.d_Voter_init ["self", "settings", "start"] []
  F_Voter_given : Fun K "given" "Voter.given" s_Voter_given A.f_Voter_given A.d_Voter_given
  m_Voter_given : Meth K A.c_Voter "given" A.f_Voter_given
  b_Voter_given : Binds K A.d_Voter_given ["self"] []
  F_Voter_sensor : Fun K "sensor" "Voter.sensor" s_Voter_sensor A.f_Voter_sensor A.d_Voter_sensor
  m_Voter_sensor : Meth K A.c_Voter "sensor" A.f_Voter_sensor
  b_Voter_sensor : Binds K A.d_Voter_sensor ["self", "place"] []
  F_Voter_state : Fun K "state" "Voter.state" s_Voter_state A.f_Voter_state A.d_Voter_state
  m_Voter_state : Meth K A.c_Voter "state" A.f_Voter_state
  b_Voter_state : Binds K A.d_Voter_state ["self", "place"] []
  F_Voter_count : Fun K "count" "Voter.count" s_Voter_count A.f_Voter_count A.d_Voter_count
  m_Voter_count : Meth K A.c_Voter "count" A.f_Voter_count
  b_Voter_count : Binds K A.d_Voter_count ["self", "place"] []
  F_Voter_word : Fun K "word" "Voter.word" s_Voter_word A.f_Voter_word A.d_Voter_word
  m_Voter_word : Meth K A.c_Voter "word" A.f_Voter_word
  b_Voter_word : Binds K A.d_Voter_word ["self", "numbers", "value"] []
  F_Voter_is_close : Fun K "is_close" "Voter.is_close" s_Voter_is_close A.f_Voter_is_close A.d_Voter_is_close
  m_Voter_is_close : Meth K A.c_Voter "is_close" A.f_Voter_is_close
  b_Voter_is_close : Binds K A.d_Voter_is_close ["self", "thing", "value"] []
  F_Voter_watch : Fun K "watch" "Voter.watch" s_Voter_watch A.f_Voter_watch A.d_Voter_watch
  m_Voter_watch : Meth K A.c_Voter "watch" A.f_Voter_watch
  b_Voter_watch : Binds K A.d_Voter_watch ["self", "one", "is_close"] []
  F_Voter_wait : Fun K "wait" "Voter.wait" s_Voter_wait A.f_Voter_wait A.d_Voter_wait
  m_Voter_wait : Meth K A.c_Voter "wait" A.f_Voter_wait
  b_Voter_wait : Binds K A.d_Voter_wait ["self", "one", "is_close"] []
  F_Voter_step : Fun K "step" "Voter.step" s_Voter_step A.f_Voter_step A.d_Voter_step
  m_Voter_step : Meth K A.c_Voter "step" A.f_Voter_step
  b_Voter_step : Binds K A.d_Voter_step ["self", "values"] []
  F_fresh : Fun K "fresh" "fresh" s_fresh A.f_fresh A.d_fresh
  g_fresh : mg "fresh" = some (.ref A.f_fresh)
  b_fresh : Binds K A.d_fresh ["settings", "start", "steps"] []
  F_run : Fun K "run" "run" s_run A.f_run A.d_run
  g_run : mg "run" = some (.ref A.f_run)
  b_run : Binds K A.d_run ["settings", "start", "steps"] []
  F_outs : Fun K "outs" "outs" s_outs A.f_outs A.d_outs
  g_outs : mg "outs" = some (.ref A.f_outs)
  b_outs : Binds K A.d_outs ["settings", "start", "steps"] []
  F_l_cell : Fun K "_law_cell" "_law_cell" s_l_cell A.f_l_cell A.d_l_cell
  g_l_cell : mg "_law_cell" = some (.ref A.f_l_cell)
  b_l_cell : Binds K A.d_l_cell ["_law_script", "_law_k"] []
  F_l_drawn : Fun K "_law_drawn" "_law_drawn" s_l_drawn A.f_l_drawn A.d_l_drawn
  g_l_drawn : mg "_law_drawn" = some (.ref A.f_l_drawn)
  b_l_drawn : Binds K A.d_l_drawn ["_law_cell_here", "_law_k"] []
  F_l_word : Fun K "_law_word" "_law_word" s_l_word A.f_l_word A.d_l_word
  g_l_word : mg "_law_word" = some (.ref A.f_l_word)
  b_l_word : Binds K A.d_l_word ["_law_e"] []
  F_l_settings : Fun K "_law_settings" "_law_settings" s_l_settings A.f_l_settings A.d_l_settings
  g_l_settings : mg "_law_settings" = some (.ref A.f_l_settings)
  b_l_settings : Binds K A.d_l_settings ["_law_more"] []
  F_l_values : Fun K "_law_values" "_law_values" s_l_values A.f_l_values A.d_l_values
  g_l_values : mg "_law_values" = some (.ref A.f_l_values)
  b_l_values : Binds K A.d_l_values ["_law_script", "_law_k", "_law_settings_here", "_law_base"] []
  F_l_steps : Fun K "_law_steps" "_law_steps" s_l_steps A.f_l_steps A.d_l_steps
  g_l_steps : mg "_law_steps" = some (.ref A.f_l_steps)
  b_l_steps : Binds K A.d_l_steps ["_law_script", "_law_settings_here", "_law_many"] []
  F_l_told : Fun K "_law_told" "_law_told" s_l_told A.f_l_told A.d_l_told
  g_l_told : mg "_law_told" = some (.ref A.f_l_told)
  b_l_told : Binds K A.d_l_told ["_law_deed"] []
  F_l_all : Fun K "_law_all" "_law_all" s_l_all A.f_l_all A.d_l_all
  g_l_all : mg "_law_all" = some (.ref A.f_l_all)
  b_l_all : Binds K A.d_l_all ["_law_voter", "_law_many"] []
  F_l_bad : Fun K "_law_bad" "_law_bad" s_l_bad A.f_l_bad A.d_l_bad
  g_l_bad : mg "_law_bad" = some (.ref A.f_l_bad)
  b_l_bad : Binds K A.d_l_bad ["_law_more", "_law_settings_here"] []
  F_l_good : Fun K "_law_good" "_law_good" s_l_good A.f_l_good A.d_l_good
  g_l_good : mg "_law_good" = some (.ref A.f_l_good)
  b_l_good : Binds K A.d_l_good ["_law_more"] []
  F_law : Fun K "law" "law" s_law A.f_law A.d_law
  FC_law : FunC K "law" "law" s_law A.f_law A.d_law A.cd_law
  g_law : mg "law" = some (.ref A.f_law)
  b_law : Binds K A.d_law ["_law_script"] []
def spL (K : PySem.W.Frag) : Sp := fun vs H Q _ => ∃ (a : Addr) (ns : List Int), vs = [.ref a] ∧ SqL K H a (ns.map V.int) ∧ ns.length ≤ 63 ∧ ∀ H', Q (.bl true) H'
def cell (ns : List Int) (k : Int) : Int := if ns = [] then k * 7919 else ns.getD (k % (ns.length : Int)).toNat 0 + k / (ns.length : Int) * 104729
def sp_l_cell (K : PySem.W.Frag) (A : Ads) : Sp := fun vs H Q _ => ∃ (a : Addr) (ns : List Int) (k : Int), vs = [.ref a, .int k] ∧ SqL K H a (ns.map V.int) ∧ ns.length ≤ 63 ∧ RetV (.int (cell ns k)) H Q
def drawn (c k : Int) : Int := ((c * 6364136223846793005 + (k + 1) * 1442695040888963407) % 340282366920938463463374607431768211507) * ((c * 6364136223846793005 + (k + 1) * 1442695040888963407) % 340282366920938463463374607431768211507) % 340282366920938463463374607431768211297
def sp_l_drawn (K : PySem.W.Frag) (A : Ads) : Sp := fun vs H Q _ => ∃ (c k : Int), vs = [.int c, .int k] ∧ RetV (.int (drawn c k)) H Q
theorem drawn_nn (c k : Int) : 0 ≤ drawn c k := Int.emod_nonneg _ (by decide)
theorem drawn_lt (c k : Int) : drawn c k < 340282366920938463463374607431768211297 := Int.emod_lt_of_pos _ (by decide)
theorem len_spL {K : PySem.W.Frag} {vs : List V} {H : Hp} {Q : VK} {E : XK} (h : spL K vs H Q E) : vs.length = 1 := by
  obtain ⟨_, _, rfl, _⟩ := h
  rfl
theorem len_l_cell {K : PySem.W.Frag} {A : Ads} {vs : List V} {H : Hp} {Q : VK} {E : XK} (h : sp_l_cell K A vs H Q E) : vs.length = 2 := by
  obtain ⟨_, _, _, rfl, _⟩ := h
  rfl
theorem len_l_drawn {K : PySem.W.Frag} {A : Ads} {vs : List V} {H : Hp} {Q : VK} {E : XK} (h : sp_l_drawn K A vs H Q E) : vs.length = 2 := by
  obtain ⟨_, _, rfl, _⟩ := h
  rfl
def spLT (K : PySem.W.Frag) (P : Addr) : Sp := fun vs H Q _ => ∃ (a : Addr) (ns : List Int), vs = [.ref a] ∧ SqL K H a (ns.map V.int) ∧ ns.length ≤ 63 ∧ H P = some (.tbl #[]) ∧ ∀ H', Q (.bl true) H'
abbrev sp_law (K : PySem.W.Frag) (A : Ads) : Sp := spLT K A.P_law
theorem len_law {K : PySem.W.Frag} {A : Ads} {vs : List V} {H : Hp} {Q : VK} {E : XK} (h : sp_law K A vs H Q E) : vs.length = 1 := by
  obtain ⟨_, _, rfl, _⟩ := h
  rfl
def ab (i : Int) : Int := if i < 0 then -i else i
/-- the middle one of numbers, of two the nearer -/
def mid (ns : List Int) (near : Int) : Int :=
  if ((srt ns).length : Int) % 2 = 1 then (srt ns).getD (((srt ns).length : Int) / 2).toNat 0
  else if ab ((srt ns).getD (((srt ns).length : Int) / 2).toNat 0 - near) < ab ((srt ns).getD (((srt ns).length : Int) / 2 - 1).toNat 0 - near) then (srt ns).getD (((srt ns).length : Int) / 2).toNat 0
  else (srt ns).getD (((srt ns).length : Int) / 2 - 1).toNat 0
def mvd (one goal most : Int) : Int := if one < goal then (if one + most < goal then one + most else goal) else (if one - most > goal then one - most else goal)
def agr (ns : List Int) (v t : Int) : List V := Evl.given ns.length (fun i => decide (ab (ns.getD i 0 - v) ≤ t)) fun i => .int (i : Int)
def sp_middle (K : PySem.W.Frag) (A : Ads) : Sp := fun vs H Q _ => ∃ (a : Addr) (ns : List Int) (near : Int), vs = [.ref a, .int near] ∧ SqL K H a (ns.map V.int) ∧ ns ≠ [] ∧ ns.length < 64 ∧ RetV (.int (mid ns near)) H Q
theorem len_middle {K : PySem.W.Frag} {A : Ads} {vs : List V} {H : Hp} {Q : VK} {E : XK} (h : sp_middle K A vs H Q E) : vs.length = 2 := by
  obtain ⟨_, _, _, rfl, _⟩ := h
  rfl
def sp_moved (K : PySem.W.Frag) (A : Ads) : Sp := fun vs H Q _ => ∃ (one goal most : Int), vs = [.int one, .int goal, .int most] ∧ RetV (.int (mvd one goal most)) H Q
def sp_agree (K : PySem.W.Frag) (A : Ads) : Sp := fun vs H Q _ => ∃ (a : Addr) (ns : List Int) (v t : Int), vs = [.ref a, .int v, .int t] ∧ SqL K H a (ns.map V.int) ∧ ns.length ≤ 1000 ∧ RetL (agr ns v t) H Q
theorem len_moved {K : PySem.W.Frag} {A : Ads} {vs : List V} {H : Hp} {Q : VK} {E : XK} (h : sp_moved K A vs H Q E) : vs.length = 3 := by
  obtain ⟨_, _, _, rfl, _⟩ := h
  rfl
theorem len_agree {K : PySem.W.Frag} {A : Ads} {vs : List V} {H : Hp} {Q : VK} {E : XK} (h : sp_agree K A vs H Q E) : vs.length = 3 := by
  obtain ⟨_, _, _, _, rfl, _⟩ := h
  rfl
/-! ### the voter as a plain model -/
structure Vst where
  th : Int
  rate : Int
  mis : Int
  bk : Int
  last : Int
  ss : List (Bool × Int)
def vfs (v : Vst) (l : Addr) : List (Str × V) := [("threshold", .int v.th), ("rate", .int v.rate), ("misses", .int v.mis), ("backs", .int v.bk), ("sensors", .ref l), ("last", .int v.last)]
def sfs (o : Bool) (m : Int) : List (Str × V) := [("is_out", .bl o), ("many", .int m)]
abbrev S0 : Bool × Int := (false, 0)
def oV : Option Int → V
  | none => .non
  | some i => .int i
def clo (th value : Int) : Option Int → Bool
  | none => false
  | some i => decide (ab (i - value) ≤ th)
def okOne : Option Int → Bool
  | none => true
  | some i => decide (ab i ≤ 1000000000)
def okStep (vals : List (Option Int)) (many : Int) : Bool := decide ((vals.length : Int) = many) && vals.all okOne
def okSet (m t r ms b : Int) : Bool := (decide (3 ≤ m) && decide (m ≤ 9)) && ((decide (0 ≤ t) && decide (t ≤ 1000000)) && ((decide (1 ≤ r) && decide (r ≤ 1000000)) && ((decide (1 ≤ ms) && decide (ms ≤ 1000)) && (decide (1 ≤ b) && decide (b ≤ 1000)))))
def isHere (ss : List (Bool × Int)) (vals : List (Option Int)) (i : Nat) : Bool := (!(ss.getD i S0).1) && (vals.getD i none).isSome
def there (ss : List (Bool × Int)) (vals : List (Option Int)) : List Int := ((List.range ss.length).filter (isHere ss vals)).map fun i => (vals.getD i none).getD 0
def valueOf (v : Vst) (vals : List (Option Int)) : Int := if there v.ss vals = [] then v.last else mid (there v.ss vals) v.last
def wordOf (n : Nat) (th : Int) (t : List Int) (value : Int) : Str :=
  if t = [] then "lost" else if t.length = 1 then "single" else if 2 * (agr t value th).length ≤ t.length then "split" else if (agr t value th).length = n then "all" else "most"
def inN (ss : List (Bool × Int)) : Nat := (ss.filter fun s => !s.1).length
def nextW (bk : Int) (any : Bool) (s : Bool × Int) (c : Bool) : Bool × Int := if (s.2 + 1) * (if (c && any) = true then 1 else 0) = bk then (false, 0) else (true, (s.2 + 1) * (if (c && any) = true then 1 else 0))
def nextG (mis : Int) (n : Nat) (s : Bool × Int) (c : Bool) : Bool × Int := if c = true then (false, if s.2 - 1 > 0 then s.2 - 1 else 0) else if mis ≤ s.2 + 1 ∧ 1 < n then (true, 0) else (false, s.2 + 1)
def nextS (v : Vst) (any : Bool) (ss : List (Bool × Int)) (s : Bool × Int) (c : Bool) : Bool × Int := if s.1 = true then nextW v.bk any s c else nextG v.mis (inN ss) s c
def turnS (v : Vst) (any : Bool) (value : Int) (vals : List (Option Int)) (ss : List (Bool × Int)) (i : Nat) : List (Bool × Int) := ss.set i (nextS v any ss (ss.getD i S0) (clo v.th value (vals.getD i none)))
def turns (v : Vst) (any : Bool) (value : Int) (vals : List (Option Int)) (n : Nat) : List (Bool × Int) := (List.range n).foldl (turnS v any value vals) v.ss
def anyHere (v : Vst) (vals : List (Option Int)) : Bool := !decide (there v.ss vals = [])
def stepS (v : Vst) (vals : List (Option Int)) : List (Bool × Int) := turns v (anyHere v vals) (valueOf v vals) vals v.ss.length
def stepV (v : Vst) (vals : List (Option Int)) : Vst := { v with last := mvd v.last (valueOf v vals) v.rate, ss := stepS v vals }
def stepW (v : Vst) (vals : List (Option Int)) : Str := wordOf v.ss.length v.th (there v.ss vals) (valueOf v vals)
def stateW (s : Bool × Int) : Str := if s.1 = true then "out" else if s.2 = 0 then "good" else "suspect"
def freshV (m t r ms b start : Int) : Vst := ⟨t, r, ms, b, start, List.replicate m.toNat S0⟩
/-- at p a voter stands, its sensors at as, their list at l -/
structure VAt (A : Ads) (H : Hp) (p l : Addr) (as : List Addr) (v : Vst) : Prop where
  own : ∃ dx, H p = some (.ins A.c_Voter dx (vfs v l))
  lst : H l = some (.lst (as.map V.ref))
  len : as.length = v.ss.length
  small : as.length ≤ 9
  nd : as.Nodup
  np : p ∉ as
  sens : ∀ i s, as[i]? = some s → ∃ dy, H s = some (.ins A.c_Sensor dy (sfs (v.ss.getD i S0).1 (v.ss.getD i S0).2))
/-! ### promises -/
def sp_need_settings (K : PySem.W.Frag) (A : Ads) : Sp := fun vs H Q E => ∃ (a : Addr) (m t r ms b : Int), vs = [.ref a] ∧ SqT K H a [.int m, .int t, .int r, .int ms, .int b] ∧
  (okSet m t r ms b = true → RetV .non H Q) ∧ (okSet m t r ms b = false → ∀ H', Ex H H' → E (.ref A.c_BadSettings) none H')
def sp_need_step (K : PySem.W.Frag) (A : Ads) : Sp := fun vs H Q E => ∃ (a : Addr) (vals : List (Option Int)) (many : Int), vs = [.ref a, .int many] ∧ SqL K H a (vals.map oV) ∧ vals.length ≤ 40000 ∧
  (okStep vals many = true → RetV .non H Q) ∧ (okStep vals many = false → ∀ H', Ex H H' → E (.ref A.c_BadStep) none H')
def sp_Sensor_init (K : PySem.W.Frag) (A : Ads) : Sp := fun vs H Q _ => ∃ (x dx : Addr), vs = [.ref x] ∧ H x = some (.ins A.c_Sensor dx []) ∧ ∀ H', But x H H' → H' x = some (.ins A.c_Sensor dx (sfs false 0)) → Q .non H'
def sp_Voter_init (K : PySem.W.Frag) (A : Ads) : Sp := fun vs H Q E => ∃ (p dx a : Addr) (m t r ms b start : Int), vs = [.ref p, .ref a, .int start] ∧ H p = some (.ins A.c_Voter dx []) ∧ SqT K H a [.int m, .int t, .int r, .int ms, .int b] ∧
  (okSet m t r ms b = true → ∀ (H' : Hp) (l : Addr) (as : List Addr), But p H H' → (∀ s ∈ as, H s = none) → H l = none → VAt A H' p l as (freshV m t r ms b start) → Q .non H') ∧ (okSet m t r ms b = false → ∀ H', Ex H H' → E (.ref A.c_BadSettings) none H')
def sp_Voter_given (K : PySem.W.Frag) (A : Ads) : Sp := fun vs H Q _ => ∃ (p l : Addr) (as : List Addr) (v : Vst), vs = [.ref p] ∧ VAt A H p l as v ∧ RetV (.int v.last) H Q
def sp_Voter_sensor (K : PySem.W.Frag) (A : Ads) : Sp := fun vs H Q E => ∃ (p l : Addr) (as : List Addr) (v : Vst) (i : Int), vs = [.ref p, .int i] ∧ VAt A H p l as v ∧
  (∀ s, 0 ≤ i → as[i.toNat]? = some s → RetV (.ref s) H Q) ∧ (¬ (0 ≤ i ∧ i < (as.length : Int)) → ∀ H', Ex H H' → E (.ref A.c_NoSensor) none H')
def sp_Voter_state (K : PySem.W.Frag) (A : Ads) : Sp := fun vs H Q E => ∃ (p l : Addr) (as : List Addr) (v : Vst) (i : Int), vs = [.ref p, .int i] ∧ VAt A H p l as v ∧
  (0 ≤ i ∧ i < (as.length : Int) → RetV (.str (stateW (v.ss.getD i.toNat S0))) H Q) ∧ (¬ (0 ≤ i ∧ i < (as.length : Int)) → ∀ H', Ex H H' → E (.ref A.c_NoSensor) none H')
def sp_Voter_count (K : PySem.W.Frag) (A : Ads) : Sp := fun vs H Q E => ∃ (p l : Addr) (as : List Addr) (v : Vst) (i : Int), vs = [.ref p, .int i] ∧ VAt A H p l as v ∧
  (0 ≤ i ∧ i < (as.length : Int) → RetV (.int (v.ss.getD i.toNat S0).2) H Q) ∧ (¬ (0 ≤ i ∧ i < (as.length : Int)) → ∀ H', Ex H H' → E (.ref A.c_NoSensor) none H')
def sp_Voter_word (K : PySem.W.Frag) (A : Ads) : Sp := fun vs H Q _ => ∃ (p l : Addr) (as : List Addr) (v : Vst) (a : Addr) (t : List Int) (value : Int), vs = [.ref p, .ref a, .int value] ∧ VAt A H p l as v ∧ SqL K H a (t.map V.int) ∧ t.length ≤ 100 ∧ RetV (.str (wordOf as.length v.th t value)) H Q
def sp_Voter_is_close (K : PySem.W.Frag) (A : Ads) : Sp := fun vs H Q _ => ∃ (p l : Addr) (as : List Addr) (v : Vst) (x : Option Int) (value : Int), vs = [.ref p, oV x, .int value] ∧ VAt A H p l as v ∧ RetV (.bl (clo v.th value x)) H Q
def sp_Voter_watch (K : PySem.W.Frag) (A : Ads) : Sp := fun vs H Q _ => ∃ (p l : Addr) (as : List Addr) (v : Vst) (s : Addr) (i : Nat) (c : Bool), vs = [.ref p, .ref s, .bl c] ∧ VAt A H p l as v ∧ as[i]? = some s ∧ (v.ss.getD i S0).1 = false ∧
  ∀ H', But s H H' → VAt A H' p l as { v with ss := v.ss.set i (nextG v.mis (inN v.ss) (v.ss.getD i S0) c) } → Q .non H'
def sp_Voter_wait (K : PySem.W.Frag) (A : Ads) : Sp := fun vs H Q _ => ∃ (p l : Addr) (as : List Addr) (v : Vst) (s : Addr) (i : Nat) (c : Bool), vs = [.ref p, .ref s, .bl c] ∧ VAt A H p l as v ∧ as[i]? = some s ∧ (v.ss.getD i S0).1 = true ∧
  ∀ H', But s H H' → VAt A H' p l as { v with ss := v.ss.set i (nextW v.bk true (v.ss.getD i S0) c) } → Q .non H'
def sp_Voter_step (K : PySem.W.Frag) (A : Ads) : Sp := fun vs H Q E => ∃ (p l : Addr) (as : List Addr) (v : Vst) (a : Addr) (vals : List (Option Int)), vs = [.ref p, .ref a] ∧ VAt A H p l as v ∧ SqL K H a (vals.map oV) ∧ vals.length ≤ 40000 ∧ a ∉ p :: as ∧
  (okStep vals as.length = true → ∀ (H' : Hp) (q : Addr), Buts (p :: as) H H' → H q = none → H' q = some (.tup [.int (stepV v vals).last, .str (stepW v vals)]) → VAt A H' p l as (stepV v vals) → Q (.ref q) H') ∧
  (okStep vals as.length = false → ∀ H', Ex H H' → E (.ref A.c_BadStep) none H')
section
variable {K : PySem.W.Frag} {A : Ads} {vs : List V} {H : Hp} {Q : VK} {E : XK}
theorem len_need_settings (h : sp_need_settings K A vs H Q E) : vs.length = 1 := by obtain ⟨_, _, _, _, _, _, rfl, _⟩ := h; rfl
theorem len_need_step (h : sp_need_step K A vs H Q E) : vs.length = 2 := by obtain ⟨_, _, _, rfl, _⟩ := h; rfl
theorem len_Sensor_init (h : sp_Sensor_init K A vs H Q E) : vs.length = 1 := by obtain ⟨_, _, rfl, _⟩ := h; rfl
theorem len_Voter_init (h : sp_Voter_init K A vs H Q E) : vs.length = 3 := by obtain ⟨_, _, _, _, _, _, _, _, _, rfl, _⟩ := h; rfl
theorem len_Voter_given (h : sp_Voter_given K A vs H Q E) : vs.length = 1 := by obtain ⟨_, _, _, _, rfl, _⟩ := h; rfl
theorem len_Voter_sensor (h : sp_Voter_sensor K A vs H Q E) : vs.length = 2 := by obtain ⟨_, _, _, _, _, rfl, _⟩ := h; rfl
theorem len_Voter_state (h : sp_Voter_state K A vs H Q E) : vs.length = 2 := by obtain ⟨_, _, _, _, _, rfl, _⟩ := h; rfl
theorem len_Voter_count (h : sp_Voter_count K A vs H Q E) : vs.length = 2 := by obtain ⟨_, _, _, _, _, rfl, _⟩ := h; rfl
theorem len_Voter_word (h : sp_Voter_word K A vs H Q E) : vs.length = 3 := by obtain ⟨_, _, _, _, _, _, _, rfl, _⟩ := h; rfl
theorem len_Voter_is_close (h : sp_Voter_is_close K A vs H Q E) : vs.length = 3 := by obtain ⟨_, _, _, _, _, _, rfl, _⟩ := h; rfl
theorem len_Voter_watch (h : sp_Voter_watch K A vs H Q E) : vs.length = 3 := by obtain ⟨_, _, _, _, _, _, _, rfl, _⟩ := h; rfl
theorem len_Voter_wait (h : sp_Voter_wait K A vs H Q E) : vs.length = 3 := by obtain ⟨_, _, _, _, _, _, _, rfl, _⟩ := h; rfl
theorem len_Voter_step (h : sp_Voter_step K A vs H Q E) : vs.length = 2 := by obtain ⟨_, _, _, _, _, _, rfl, _⟩ := h; rfl
end
theorem sc_middle : FnScope ["numbers", "near", "row", "half"] ["numbers", "near"] (defScope s_middle) := ⟨rfl, rfl, rfl, by decide +kernel, rfl, by decide +kernel, by decide +kernel⟩
def t_middle (K : PySem.W.Frag) (A : Ads) (E : XK) : TS :=
      (tSeq (tAsg (tCB (rSorted K) (tCons (tVar 0) tNil)) (gName 2))
      (tSeq (tAsg (tOp oDivW (tCB (rLenS K) (tCons (tVar 2) tNil)) (tC (.int 2))) (gName 3))
      (tSeq (tIfS (tTest (tOp rEq (tOp oMod (tCB (rLenS K) (tCons (tVar 2) tNil)) (tC (.int 2))) (tC (.int 1)))) (tRet (tOp (rIxL K) (tVar 2) (tVar 3))) tNext)
      (tSeq (tIfS (tTest (tOp oLt (tCB rAbs (tCons (tOp oSub (tOp (rIxL K) (tVar 2) (tVar 3)) (tVar 1)) tNil)) (tCB rAbs (tCons (tOp oSub (tOp (rIxL K) (tVar 2) (tOp oSub (tVar 3) (tC (.int 1)))) (tVar 1)) tNil)))) (tRet (tOp (rIxL K) (tVar 2) (tVar 3))) tNext)
      (tRet (tOp (rIxL K) (tVar 2) (tOp oSub (tVar 3) (tC (.int 1)))))))))
theorem sc_moved : FnScope ["one", "goal", "most"] ["one", "goal", "most"] (defScope s_moved) := ⟨rfl, rfl, rfl, by decide +kernel, rfl, by decide +kernel, by decide +kernel⟩
def t_moved (K : PySem.W.Frag) (A : Ads) (E : XK) : TS :=
      (tSeq (tIfS (tTest (tOp oGt (tVar 1) (tVar 0))) (tRet (tCB rMin2 (tCons (tVar 1) (tCons (tOp oAdd (tVar 0) (tVar 2)) tNil)))) tNext)
      (tRet (tCB rMax2 (tCons (tVar 1) (tCons (tOp oSub (tVar 0) (tVar 2)) tNil)))))
theorem sc_agree : FnScope ["numbers", "value", "threshold", "place", "number"] ["numbers", "value", "threshold"] (defScope s_agree) := ⟨rfl, rfl, rfl, by decide +kernel, rfl, by decide +kernel, by decide +kernel⟩
def t_agree (K : PySem.W.Frag) (A : Ads) (E : XK) : TS :=
      (tRet (tLc (iEnum K (tCons (tVar 0) tNil)) (gTup K 2 (gCons (gName 3) (gCons (gName 4) gNil))) (tTest (tOp oLe (tCB rAbs (tCons (tOp oSub (tVar 4) (tVar 1)) tNil)) (tVar 2))) (tVar 3) [3, 4]))
theorem sc_need_settings : FnScope ["settings", "many", "threshold", "rate", "misses", "backs"] ["settings"] (defScope s_need_settings) := ⟨rfl, rfl, rfl, by decide +kernel, rfl, by decide +kernel, by decide +kernel⟩
def t_need_settings (K : PySem.W.Frag) (A : Ads) (E : XK) : TS :=
      (tSeq (tAsg (tVar 0) (gTup K 5 (gCons (gName 1) (gCons (gName 2) (gCons (gName 3) (gCons (gName 4) (gCons (gName 5) gNil)))))))
      (tSeq (tIfS (tOr (tNot (tTest (tChain oLe oLe (tC (.int 3)) (tVar 1) (tC (.int 9))))) (tOr (tNot (tTest (tChain oLe oLe (tC (.int 0)) (tVar 2) (tC (.int 1000000))))) (tNot (tTest (tChain oLe oLe (tC (.int 1)) (tVar 3) (tC (.int 1000000))))))) (tRaise E (.ref A.c_BadSettings)) tNext)
      (tIfS (tOr (tNot (tTest (tChain oLe oLe (tC (.int 1)) (tVar 4) (tC (.int 1000))))) (tNot (tTest (tChain oLe oLe (tC (.int 1)) (tVar 5) (tC (.int 1000)))))) (tRaise E (.ref A.c_BadSettings)) tNext)))
theorem sc_need_step : FnScope ["values", "many", "value"] ["values", "many"] (defScope s_need_step) := ⟨rfl, rfl, rfl, by decide +kernel, rfl, by decide +kernel, by decide +kernel⟩
def t_need_step (K : PySem.W.Frag) (A : Ads) (E : XK) : TS :=
      (tSeq (tIfS (tTest (tOp rNe (tCB (rLenS K) (tCons (tVar 0) tNil)) (tVar 1))) (tRaise E (.ref A.c_BadStep)) tNext)
      (tIfS (tNot (tB (tCB (rAll K) (tCons (tLc (iList K (tVar 0)) (gName 2) (tTest (tOp oNotN (tVar 2) (tC .non))) (tOp oLe (tCB rAbs (tCons (tVar 2) tNil)) (tC (.int 1000000000))) [2]) tNil)))) (tRaise E (.ref A.c_BadStep)) tNext))
theorem sc_Sensor_init : FnScope ["self"] ["self"] (defScope s_Sensor_init) := ⟨rfl, rfl, rfl, by decide +kernel, rfl, by decide +kernel, by decide +kernel⟩
def t_Sensor_init (K : PySem.W.Frag) (A : Ads) (E : XK) : TS :=
      (tSeq (sFld K (tVar 0) (tC (.bl false)) "is_out")
      (sFld K (tVar 0) (tC (.int 0)) "many"))
theorem sc_Voter_init : FnScope ["self", "settings", "start", "many", "threshold", "rate", "misses", "backs", "k"] ["self", "settings", "start"] (defScope s_Voter_init) := ⟨rfl, rfl, rfl, by decide +kernel, rfl, by decide +kernel, by decide +kernel⟩
def t_Voter_init (K : PySem.W.Frag) (A : Ads) (E : XK) : TS :=
      (tSeq (tDrop (tCall (sp_need_settings K A) [] E (tCons (tVar 1) tNil)))
      (tSeq (tAsg (tVar 1) (gTup K 5 (gCons (gName 3) (gCons (gName 4) (gCons (gName 5) (gCons (gName 6) (gCons (gName 7) gNil)))))))
      (tSeq (sFld K (tVar 0) (tVar 4) "threshold")
      (tSeq (sFld K (tVar 0) (tVar 5) "rate")
      (tSeq (sFld K (tVar 0) (tVar 6) "misses")
      (tSeq (sFld K (tVar 0) (tVar 7) "backs")
      (tSeq (sFld K (tVar 0) (tLc (iRng1 (tCons (tVar 3) tNil)) (gName 8) tYes (tMake A.c_Sensor (sp_Sensor_init K A) [] E0 tNil) [8]) "sensors")
      (sFld K (tVar 0) (tVar 2) "last"))))))))
theorem sc_Voter_given : FnScope ["self"] ["self"] (defScope s_Voter_given) := ⟨rfl, rfl, rfl, by decide +kernel, rfl, by decide +kernel, by decide +kernel⟩
def t_Voter_given (K : PySem.W.Frag) (A : Ads) (E : XK) : TS :=
      (tRet (tFld K (tVar 0) "last"))
theorem sc_Voter_sensor : FnScope ["self", "place"] ["self", "place"] (defScope s_Voter_sensor) := ⟨rfl, rfl, rfl, by decide +kernel, rfl, by decide +kernel, by decide +kernel⟩
def t_Voter_sensor (K : PySem.W.Frag) (A : Ads) (E : XK) : TS :=
      (tSeq (tIfS (tNot (tTest (tChain oLe oLt (tC (.int 0)) (tVar 1) (tCB (rLenS K) (tCons (tFld K (tVar 0) "sensors") tNil))))) (tRaise E (.ref A.c_NoSensor)) tNext)
      (tRet (tOp (rIxL K) (tFld K (tVar 0) "sensors") (tVar 1))))
theorem sc_Voter_state : FnScope ["self", "place", "one"] ["self", "place"] (defScope s_Voter_state) := ⟨rfl, rfl, rfl, by decide +kernel, rfl, by decide +kernel, by decide +kernel⟩
def t_Voter_state (K : PySem.W.Frag) (A : Ads) (E : XK) : TS :=
      (tSeq (tAsg (tMeth A.c_Voter "sensor" (sp_Voter_sensor K A) [] E (tVar 0) (tCons (tVar 1) tNil)) (gName 2))
      (tSeq (tIfS (tB (tFld K (tVar 2) "is_out")) (tRet (tC (.str "out"))) tNext)
      (tRet (tIf (tTest (tOp rEq (tFld K (tVar 2) "many") (tC (.int 0)))) (tC (.str "good")) (tC (.str "suspect"))))))
theorem sc_Voter_count : FnScope ["self", "place"] ["self", "place"] (defScope s_Voter_count) := ⟨rfl, rfl, rfl, by decide +kernel, rfl, by decide +kernel, by decide +kernel⟩
def t_Voter_count (K : PySem.W.Frag) (A : Ads) (E : XK) : TS :=
      (tRet (tFld K (tMeth A.c_Voter "sensor" (sp_Voter_sensor K A) [] E (tVar 0) (tCons (tVar 1) tNil)) "many"))
theorem sc_Voter_word : FnScope ["self", "numbers", "value", "close"] ["self", "numbers", "value"] (defScope s_Voter_word) := ⟨rfl, rfl, rfl, by decide +kernel, rfl, by decide +kernel, by decide +kernel⟩
def t_Voter_word (K : PySem.W.Frag) (A : Ads) (E : XK) : TS :=
      (tSeq (tIfS (tTest (tOp (rEqD K) (tVar 1) (tLst tNil))) (tRet (tC (.str "lost"))) tNext)
      (tSeq (tIfS (tTest (tOp rEq (tCB (rLenS K) (tCons (tVar 1) tNil)) (tC (.int 1)))) (tRet (tC (.str "single"))) tNext)
      (tSeq (tAsg (tCB (rLenS K) (tCons (tCall (sp_agree K A) [] E0 (tCons (tVar 1) (tCons (tVar 2) (tCons (tFld K (tVar 0) "threshold") tNil)))) tNil)) (gName 3))
      (tSeq (tIfS (tTest (tOp oLe (tOp oMul (tC (.int 2)) (tVar 3)) (tCB (rLenS K) (tCons (tVar 1) tNil)))) (tRet (tC (.str "split"))) tNext)
      (tRet (tIf (tTest (tOp rEq (tVar 3) (tCB (rLenS K) (tCons (tFld K (tVar 0) "sensors") tNil)))) (tC (.str "all")) (tC (.str "most"))))))))
theorem sc_Voter_is_close : FnScope ["self", "thing", "value"] ["self", "thing", "value"] (defScope s_Voter_is_close) := ⟨rfl, rfl, rfl, by decide +kernel, rfl, by decide +kernel, by decide +kernel⟩
def t_Voter_is_close (K : PySem.W.Frag) (A : Ads) (E : XK) : TS :=
      (tRet (tAndV (tOp oNotN (tVar 1) (tC .non)) (tOp oLe (tCB rAbs (tCons (tOp oSub (tVar 1) (tVar 2)) tNil)) (tFld K (tVar 0) "threshold"))))
theorem sc_Voter_watch : FnScope ["self", "one", "is_close", "others", "other"] ["self", "one", "is_close"] (defScope s_Voter_watch) := ⟨rfl, rfl, rfl, by decide +kernel, rfl, by decide +kernel, by decide +kernel⟩
def t_Voter_watch (K : PySem.W.Frag) (A : Ads) (E : XK) : TS :=
      (tSeq (tIfS (tB (tVar 2)) (tSeq (sFld K (tVar 1) (tCB rMax2 (tCons (tC (.int 0)) (tCons (tOp oSub (tFld K (tVar 1) "many") (tC (.int 1))) tNil))) "many")
      tRetN) tNext)
      (tSeq (sFld K (tVar 1) (tOp oAdd (tFld K (tVar 1) "many") (tC (.int 1))) "many")
      (tSeq (tAsg (tLc (iList K (tFld K (tVar 0) "sensors")) (gName 4) (tNot (tB (tFld K (tVar 4) "is_out"))) (tVar 4) [4]) (gName 3))
      (tIfS (tAnd (tTest (tOp oGe (tFld K (tVar 1) "many") (tFld K (tVar 0) "misses"))) (tTest (tOp oGt (tCB (rLenS K) (tCons (tVar 3) tNil)) (tC (.int 1))))) (tSeq (sFld K (tVar 1) (tC (.bl true)) "is_out")
      (sFld K (tVar 1) (tC (.int 0)) "many")) tNext))))
theorem sc_Voter_wait : FnScope ["self", "one", "is_close"] ["self", "one", "is_close"] (defScope s_Voter_wait) := ⟨rfl, rfl, rfl, by decide +kernel, rfl, by decide +kernel, by decide +kernel⟩
def t_Voter_wait (K : PySem.W.Frag) (A : Ads) (E : XK) : TS :=
      (tSeq (sFld K (tVar 1) (tOp oMul (tOp oAdd (tFld K (tVar 1) "many") (tC (.int 1))) (tCB rInt1 (tCons (tVar 2) tNil))) "many")
      (tIfS (tTest (tOp rEq (tFld K (tVar 1) "many") (tFld K (tVar 0) "backs"))) (tSeq (sFld K (tVar 1) (tC (.bl false)) "is_out")
      (sFld K (tVar 1) (tC (.int 0)) "many")) tNext))
theorem sc_Voter_step : FnScope ["self", "values", "numbers", "place", "one", "value", "word", "is_close"] ["self", "values"] (defScope s_Voter_step) := ⟨rfl, rfl, rfl, by decide +kernel, rfl, by decide +kernel, by decide +kernel⟩
def t_Voter_step (K : PySem.W.Frag) (A : Ads) (E : XK) : TS :=
      (tSeq (tDrop (tCall (sp_need_step K A) [] E (tCons (tVar 1) (tCons (tCB (rLenS K) (tCons (tFld K (tVar 0) "sensors") tNil)) tNil))))
      (tSeq (tAsg (tLc (iEnum K (tCons (tFld K (tVar 0) "sensors") tNil)) (gTup K 2 (gCons (gName 3) (gCons (gName 4) gNil))) (tAnd (tNot (tB (tFld K (tVar 4) "is_out"))) (tTest (tOp oNotN (tOp (rIxL K) (tVar 1) (tVar 3)) (tC .non)))) (tOp (rIxL K) (tVar 1) (tVar 3)) [3, 4]) (gName 2))
      (tSeq (tAsg (tFld K (tVar 0) "last") (gName 5))
      (tSeq (tIfS (tTest (tOp (rNeD K) (tVar 2) (tLst tNil))) (tAsg (tCall (sp_middle K A) [] E0 (tCons (tVar 2) (tCons (tFld K (tVar 0) "last") tNil))) (gName 5)) tNext)
      (tSeq (tAsg (tMeth A.c_Voter "word" (sp_Voter_word K A) [] E0 (tVar 0) (tCons (tVar 2) (tCons (tVar 5) tNil))) (gName 6))
      (tSeq (tFor (iEnum K (tCons (tFld K (tVar 0) "sensors") tNil)) (gTup K 2 (gCons (gName 3) (gCons (gName 4) gNil))) (tSeq (tAsg (tMeth A.c_Voter "is_close" (sp_Voter_is_close K A) [] E0 (tVar 0) (tCons (tOp (rIxL K) (tVar 1) (tVar 3)) (tCons (tVar 5) tNil))) (gName 7))
      (tIfS (tB (tFld K (tVar 4) "is_out")) (tDrop (tMeth A.c_Voter "wait" (sp_Voter_wait K A) [] E0 (tVar 0) (tCons (tVar 4) (tCons (tAndV (tVar 7) (tOp (rNeD K) (tVar 2) (tLst tNil))) tNil)))) (tDrop (tMeth A.c_Voter "watch" (sp_Voter_watch K A) [] E0 (tVar 0) (tCons (tVar 4) (tCons (tVar 7) tNil)))))))
      (tSeq (sFld K (tVar 0) (tCall (sp_moved K A) [] E0 (tCons (tFld K (tVar 0) "last") (tCons (tVar 5) (tCons (tFld K (tVar 0) "rate") tNil)))) "last")
      (tRet (tTup (tCons (tFld K (tVar 0) "last") (tCons (tVar 6) tNil)))))))))))
end MV
namespace MV
open PySem PySem.Spec PyProof.Rows L2 Evl
section
variable {K : PySem.W.Frag} {mg : Str → Option Value} {A : Ads}
theorem pure_middle (T : Txt K mg A) (vs : List V) (H : Hp) (Q : VK) (E : XK) (h : sp_middle K A vs H Q E) : t_middle K A E { nx := fun _ H' => Q .non H', rt := Q } (start ["numbers", "near", "row", "half"] vs) H := by
  obtain ⟨a, ns, near, rfl, hS, hne, hl, q⟩ := h
  show t_middle K A E _ [some (.ref a), some (.int near), none, none] H
  have hp : 0 < (srt ns).length := by rw [srt_len]; exact List.length_pos_iff.mpr hne
  refine q_asgL (el_cb (by walk_at "ev") (rcl_sorted hS hl)) fun p H1 np e1 h1 => ?_
  have hS1 : SqL K H1 p ((srt ns).map V.int) := sq_of h1
  have hm : (((srt ns).map V.int).length : Int) = ((srt ns).length : Int) := by rw [List.length_map]
  refine q_asg (v := .int (((srt ns).length : Int) / 2)) ?_ fun H2 e2 => ?_
  · rw [← hm]
    walk_at "ev"
  have hS2 := ex_l e2 hS1
  refine q_when (b := decide (((srt ns).length : Int) % 2 = 1)) ?_ (fun hb H3 e3 => ?_) (fun hb H3 e3 => ?_)
  · rw [← hm]
    walk_at "ev"
  · have hb1 : ((srt ns).length : Int) % 2 = 1 := by simpa using hb
    refine s_ret (v := .int (mid ns near)) ?_ fun H4 e4 => q H4 (((e1.trans e2).trans e3).trans e4)
    have e : mid ns near = (srt ns).getD (((srt ns).length : Int) / 2).toNat 0 := by unfold mid; rw [if_pos hb1]
    rw [e]
    have hS3 := ex_l e3 hS2
    walk_at "ev"
  · have hb1 : ¬ ((srt ns).length : Int) % 2 = 1 := by simpa using hb
    have hS3 := ex_l e3 hS2
    refine q_when (b := decide (ab ((srt ns).getD (((srt ns).length : Int) / 2).toNat 0 - near) < ab ((srt ns).getD (((srt ns).length : Int) / 2 - 1).toNat 0 - near))) ?_ (fun hc H4 e4 => ?_) (fun hc H4 e4 => ?_)
    · unfold ab
      walk_at "ev"
    · have hc1 := of_decide_eq_true hc
      have hS4 := ex_l e4 hS3
      refine s_ret (v := .int (mid ns near)) ?_ fun H5 e5 => q H5 ((((e1.trans e2).trans e3).trans e4).trans e5)
      have e : mid ns near = (srt ns).getD (((srt ns).length : Int) / 2).toNat 0 := by unfold mid; rw [if_neg hb1, if_pos hc1]
      rw [e]
      walk_at "ev"
    · have hc1 := of_decide_eq_false hc
      have hS4 := ex_l e4 hS3
      refine s_ret (v := .int (mid ns near)) ?_ fun H5 e5 => q H5 ((((e1.trans e2).trans e3).trans e4).trans e5)
      have e : mid ns near = (srt ns).getD (((srt ns).length : Int) / 2 - 1).toNat 0 := by unfold mid; rw [if_neg hb1, if_neg hc1]
      rw [e]
      walk_at "ev"
end
end MV
namespace MV
open PySem PySem.Spec PyProof.Rows L2 Evl
theorem spv_middle {K : PySem.W.Frag} {A : Ads} {H : Hp} {a : Addr} {ns : List Int} {near : Int} (hS : SqL K H a (ns.map V.int)) (hn : ns ≠ []) (hl : ns.length < 64) : SpV (sp_middle K A) [.ref a, .int near] H (.int (mid ns near)) := fun H1 e Q q E => ⟨a, ns, near, rfl, ex_l e hS, hn, hl, q⟩
end MV
namespace MV
open PySem PySem.Spec PyProof.Rows L2 Evl
section
variable {K : PySem.W.Frag} {mg : Str → Option Value} {A : Ads}
theorem pure_moved (T : Txt K mg A) (vs : List V) (H : Hp) (Q : VK) (E : XK) (h : sp_moved K A vs H Q E) : t_moved K A E { nx := fun _ H' => Q .non H', rt := Q } (start ["one", "goal", "most"] vs) H := by
  obtain ⟨one, goal, most, rfl, q⟩ := h
  show t_moved K A E _ [some (.int one), some (.int goal), some (.int most)] H
  refine q_when (b := decide (one < goal)) (by walk_at "ev") (fun hb H1 e1 => ?_) (fun hb H1 e1 => ?_)
  · have e : mvd one goal most = if one + most < goal then one + most else goal := by unfold mvd; rw [if_pos (of_decide_eq_true hb)]
    refine s_ret (v := .int (mvd one goal most)) ?_ fun H2 e2 => q H2 (e1.trans e2)
    rw [e]
    walk_at "ev"
  · have e : mvd one goal most = if one - most > goal then one - most else goal := by unfold mvd; rw [if_neg (of_decide_eq_false hb)]
    refine s_ret (v := .int (mvd one goal most)) ?_ fun H2 e2 => q H2 (e1.trans e2)
    rw [e]
    walk_at "ev"
theorem pure_agree (T : Txt K mg A) (vs : List V) (H : Hp) (Q : VK) (E : XK) (h : sp_agree K A vs H Q E) : t_agree K A E { nx := fun _ H' => Q .non H', rt := Q } (start ["numbers", "value", "threshold", "place", "number"] vs) H := by
  obtain ⟨a, ns, v, t, rfl, hS, hl, q⟩ := h
  show t_agree K A E _ [some (.ref a), some (.int v), some (.int t), none, none] H
  have hm : (ns.map V.int).length = ns.length := List.length_map ..
  refine s_retL (xs := agr ns v t) (el_is (el_lcE (xs := ns.map V.int) (fun i => decide (ab (ns.getD i 0 - v) ≤ t)) (fun i => .int (i : Int)) (by walk_at "ev") hS (by omega) rfl (fun _ _ => rfl) (fun i x H1 e1 hx => ?_) (fun i x H1 e1 hx _ => ?_)) ?_) q
  · rw [List.getElem?_map] at hx
    have e : x = .int (ns.getD i 0) := by
      rw [List.getD_eq_getElem?_getD]
      cases hn : ns[i]? with
      | none => rw [hn] at hx; cases hx
      | some n => rw [hn] at hx; exact (Option.some.inj hx).symm
    subst e
    unfold ab
    walk_at "ev"
  · walk_at "ev"
  · unfold agr
    rw [hm]
end
end MV
namespace MV
open PySem PySem.Spec PyProof.Rows L2 Evl
theorem spv_moved {K : PySem.W.Frag} {A : Ads} {H : Hp} {one goal most : Int} : SpV (sp_moved K A) [.int one, .int goal, .int most] H (.int (mvd one goal most)) := fun H1 e Q q E => ⟨one, goal, most, rfl, q⟩
theorem spl_agree {K : PySem.W.Frag} {A : Ads} {H : Hp} {a : Addr} {ns : List Int} {v t : Int} (hS : SqL K H a (ns.map V.int)) (hl : ns.length ≤ 1000) : SpL (sp_agree K A) [.ref a, .int v, .int t] H (agr ns v t) := fun H1 e Q q E => ⟨a, ns, v, t, rfl, ex_l e hS, hl, q⟩
end MV
namespace MV
open PySem PySem.Spec PyProof.Rows L2 Evl
section
variable {K : PySem.W.Frag} {mg : Str → Option Value} {A : Ads} {H H' : Hp} {p l s a : Addr} {as : List Addr} {v : Vst} {σ : L2.St} {ta : TE} {i : Nat}
theorem VAt.ext (h : VAt A H p l as v) (e : Ex H H') : VAt A H' p l as v := by
  obtain ⟨⟨dx, h1⟩, h2, h3, h4, h5, h6, h7⟩ := h
  exact ⟨⟨dx, e _ _ h1⟩, e _ _ h2, h3, h4, h5, h6, fun i s hs => let ⟨dy, q⟩ := h7 i s hs; ⟨dy, e _ _ q⟩⟩
/-- what else is kept keeps the voter -/
theorem VAt.buts {fp : List Addr} (h : VAt A H p l as v) (e : Buts fp H H') (h1 : p ∉ fp) (h2 : l ∉ fp) (h3 : ∀ s ∈ as, s ∉ fp) : VAt A H' p l as v := by
  obtain ⟨⟨dx, q1⟩, q2, q3, q4, q5, q6, q7⟩ := h
  exact ⟨⟨dx, e _ _ h1 q1⟩, e _ _ h2 q2, q3, q4, q5, q6, fun i s hs => let ⟨dy, q⟩ := q7 i s hs; ⟨dy, e _ _ (h3 s (List.mem_of_getElem? hs)) q⟩⟩
theorem VAt.seq (h : VAt A H p l as v) : SqL K H l (as.map V.ref) := sq_of h.lst
theorem VAt.nl (h : VAt A H p l as v) (hs : as[i]? = some s) : l ≠ s := by
  obtain ⟨dy, q⟩ := h.sens i s hs
  exact ne_of h.lst q (by intro z; cases z)
theorem VAt.nlp (h : VAt A H p l as v) : l ≠ p := by
  obtain ⟨dy, q⟩ := h.own
  exact ne_of h.lst q (by intro z; cases z)
/-- what holds another thing than an instance is none of the voter's -/
theorem VAt.free_lst (h : VAt A H p l as v) {xs : List V} (ha : H a = some (.lst xs)) : a ∉ p :: as := by
  intro z
  rcases List.mem_cons.mp z with z | z
  · obtain ⟨dx, q⟩ := h.own
    rw [z, q] at ha
    cases ha
  · obtain ⟨j, hj, e⟩ := List.mem_iff_getElem.mp z
    obtain ⟨dy, q⟩ := h.sens j a (by rw [List.getElem?_eq_getElem hj, e])
    rw [q] at ha
    cases ha
theorem VAt.new (h : VAt A H p l as v) (ha : H a = none) : a ∉ p :: as := by
  intro z
  rcases List.mem_cons.mp z with z | z
  · obtain ⟨dx, q⟩ := h.own
    rw [z, q] at ha
    cases ha
  · obtain ⟨j, hj, e⟩ := List.mem_iff_getElem.mp z
    obtain ⟨dy, q⟩ := h.sens j a (by rw [List.getElem?_eq_getElem hj, e])
    rw [q] at ha
    cases ha
/-- a sensor is stored -/
theorem VAt.set {dy : Addr} {o : Bool} {m : Int} (h : VAt A H p l as v) (hs : as[i]? = some s) : VAt A (upd H s (.ins A.c_Sensor dy (sfs o m))) p l as { v with ss := v.ss.set i (o, m) } := by
  have hm : s ∈ as := List.mem_of_getElem? hs
  have nps : p ≠ s := fun z => h.np (z ▸ hm)
  have hi : i < as.length := (List.getElem?_eq_some_iff.mp hs).1
  obtain ⟨dx, q1⟩ := h.own
  refine ⟨⟨dx, by rw [upd_ne nps]; exact q1⟩, by rw [upd_ne (h.nl hs)]; exact h.lst, by rw [List.length_set]; exact h.len, h.small, h.nd, h.np, fun j t ht => ?_⟩
  by_cases e : j = i
  · subst e
    have e2 : t = s := Option.some.inj (ht.symm.trans hs)
    subst e2
    refine ⟨dy, ?_⟩
    have e3 : (v.ss.set j (o, m)).getD j S0 = (o, m) := by
      rw [List.getD_eq_getElem?_getD, List.getElem?_set_self (by rw [← h.len]; exact hi)]
      rfl
    rw [upd_same, e3]
  · obtain ⟨dz, q⟩ := h.sens j t ht
    have nts : t ≠ s := fun z => by
      subst z
      obtain ⟨hj, ej⟩ := List.getElem?_eq_some_iff.mp ht
      obtain ⟨hi2, ei⟩ := List.getElem?_eq_some_iff.mp hs
      exact e ((List.getElem_inj h.nd).mp (ej.trans ei.symm))
    have e3 : (v.ss.set i (o, m)).getD j S0 = v.ss.getD j S0 := by
      rw [List.getD_eq_getElem?_getD, List.getElem?_set_ne (Ne.symm e), List.getD_eq_getElem?_getD]
    exact ⟨dz, by rw [upd_ne nts, e3]; exact q⟩
theorem VAt.last {dx : Addr} {n : Int} (h : VAt A H p l as v) : VAt A (upd H p (.ins A.c_Voter dx (vfs { v with last := n } l))) p l as { v with last := n } := by
  refine ⟨⟨dx, upd_same⟩, by rw [upd_ne h.nlp]; exact h.lst, h.len, h.small, h.nd, h.np, fun j t ht => ?_⟩
  obtain ⟨dz, q⟩ := h.sens j t ht
  have e : t ≠ p := fun z => h.np (z ▸ List.mem_of_getElem? ht)
  exact ⟨dz, by rw [upd_ne e]; exact q⟩
/-! ### fields -/
theorem ev_v_last (h : Ev ta σ H (.ref p)) (hv : VAt A H p l as v) (T : Txt K mg A) : Ev (tFld K ta "last") σ H (.int v.last) := let ⟨_, q⟩ := hv.own; ev_fld h q T.cl_Voter T.na_Voter_last rfl
theorem ev_v_th (h : Ev ta σ H (.ref p)) (hv : VAt A H p l as v) (T : Txt K mg A) : Ev (tFld K ta "threshold") σ H (.int v.th) := let ⟨_, q⟩ := hv.own; ev_fld h q T.cl_Voter T.na_Voter_threshold rfl
theorem ev_v_rate (h : Ev ta σ H (.ref p)) (hv : VAt A H p l as v) (T : Txt K mg A) : Ev (tFld K ta "rate") σ H (.int v.rate) := let ⟨_, q⟩ := hv.own; ev_fld h q T.cl_Voter T.na_Voter_rate rfl
theorem ev_v_mis (h : Ev ta σ H (.ref p)) (hv : VAt A H p l as v) (T : Txt K mg A) : Ev (tFld K ta "misses") σ H (.int v.mis) := let ⟨_, q⟩ := hv.own; ev_fld h q T.cl_Voter T.na_Voter_misses rfl
theorem ev_v_bk (h : Ev ta σ H (.ref p)) (hv : VAt A H p l as v) (T : Txt K mg A) : Ev (tFld K ta "backs") σ H (.int v.bk) := let ⟨_, q⟩ := hv.own; ev_fld h q T.cl_Voter T.na_Voter_backs rfl
theorem ev_v_sens (h : Ev ta σ H (.ref p)) (hv : VAt A H p l as v) (T : Txt K mg A) : Ev (tFld K ta "sensors") σ H (.ref l) := let ⟨_, q⟩ := hv.own; ev_fld h q T.cl_Voter T.na_Voter_sensors rfl
theorem ev_s_out (h : Ev ta σ H (.ref s)) (hv : VAt A H p l as v) (hs : as[i]? = some s) (T : Txt K mg A) : Ev (tFld K ta "is_out") σ H (.bl (v.ss.getD i S0).1) := let ⟨_, q⟩ := hv.sens i s hs; ev_fld h q T.cl_Sensor T.na_Sensor_is_out rfl
theorem ev_s_many (h : Ev ta σ H (.ref s)) (hv : VAt A H p l as v) (hs : as[i]? = some s) (T : Txt K mg A) : Ev (tFld K ta "many") σ H (.int (v.ss.getD i S0).2) := let ⟨_, q⟩ := hv.sens i s hs; ev_fld h q T.cl_Sensor T.na_Sensor_many rfl
end
end MV
local macro_rules | `(tactic| walk_at "ev1") => `(tactic| (first
  | with_reducible apply MV.ev_v_last
  | with_reducible apply MV.ev_v_th
  | with_reducible apply MV.ev_v_rate
  | with_reducible apply MV.ev_v_mis
  | with_reducible apply MV.ev_v_bk
  | with_reducible apply MV.ev_v_sens
  | with_reducible apply MV.ev_s_out
  | with_reducible apply MV.ev_s_many
  | with_reducible assumption))
namespace MV
open PySem PySem.Spec PyProof.Rows L2 Evl
section
variable {K : PySem.W.Frag} {mg : Str → Option Value} {A : Ads}
theorem pure_need_settings (T : Txt K mg A) (vs : List V) (H : Hp) (Q : VK) (E : XK) (h : sp_need_settings K A vs H Q E) : t_need_settings K A E { nx := fun _ H' => Q .non H', rt := Q } (start ["settings", "many", "threshold", "rate", "misses", "backs"] vs) H := by
  obtain ⟨a, m, t, r, ms, b, rfl, hS, q1, q2⟩ := h
  show t_need_settings K A E _ [some (.ref a), none, none, none, none, none] H
  refine q_tup5 (ev_var rfl) hS fun H1 e1 => ?_
  refine q_when (b := !(decide (3 ≤ m) && decide (m ≤ 9)) || (!(decide (0 ≤ t) && decide (t ≤ 1000000)) || !(decide (1 ≤ r) && decide (r ≤ 1000000)))) (by walk_at "ev") (fun hb H2 e2 => ?_) (fun hb H2 e2 => ?_)
  · refine s_raise fun H3 e3 => q2 ?_ H3 ((e1.trans e2).trans e3)
    unfold okSet
    simp only [Bool.or_eq_true, Bool.not_eq_true', Bool.and_eq_false_imp, decide_eq_true_eq, decide_eq_false_iff_not, Bool.and_eq_true] at hb ⊢
    omega
  · refine s_when (b := !(decide (1 ≤ ms) && decide (ms ≤ 1000)) || !(decide (1 ≤ b) && decide (b ≤ 1000))) (by walk_at "ev") (fun hc H3 e3 => ?_) (fun hc H3 e3 => ?_)
    · refine s_raise fun H4 e4 => q2 ?_ H4 (((e1.trans e2).trans e3).trans e4)
      unfold okSet
      simp only [Bool.or_eq_true, Bool.not_eq_true', Bool.and_eq_false_imp, decide_eq_true_eq, decide_eq_false_iff_not, Bool.and_eq_true] at hc ⊢
      omega
    · refine q1 ?_ H3 ((e1.trans e2).trans e3)
      unfold okSet
      simp only [Bool.or_eq_false_iff, Bool.not_eq_false', Bool.and_eq_true, decide_eq_true_eq] at hb hc ⊢
      omega
theorem oV_non {x : Option Int} : oV x = .non ↔ x = none := by
  cases x with
  | none => exact ⟨fun _ => rfl, fun _ => rfl⟩
  | some i => exact ⟨(fun z => nomatch z), (fun z => nomatch z)⟩
theorem map_oV_flat (vals : List (Option Int)) : (vals.map oV).all flat4 = true := by
  rw [List.all_eq_true]
  intro x hx
  obtain ⟨n, _, rfl⟩ := List.mem_map.mp hx
  cases n <;> rfl
theorem said_key : ∀ vals : List (Option Int), ((vals.map oV).filter (fun x => !decide (x = .non))).map (fun x => V.bl (decide (ab (toInt x) ≤ 1000000000))) = (vals.filterMap fun x => x.map fun i => decide (ab i ≤ 1000000000)).map V.bl
  | [] => rfl
  | none :: r => said_key r
  | some i :: r => congrArg (V.bl (decide (ab i ≤ 1000000000)) :: ·) (said_key r)
theorem said_all : ∀ vals : List (Option Int), (vals.filterMap fun x => x.map fun i => decide (ab i ≤ 1000000000)).all id = vals.all okOne
  | [] => rfl
  | none :: r => said_all r
  | some i :: r => congrArg (decide (ab i ≤ 1000000000) && ·) (said_all r)
theorem pure_need_step (T : Txt K mg A) (vs : List V) (H : Hp) (Q : VK) (E : XK) (h : sp_need_step K A vs H Q E) : t_need_step K A E { nx := fun _ H' => Q .non H', rt := Q } (start ["values", "many", "value"] vs) H := by
  obtain ⟨a, vals, many, rfl, hS, hz, q1, q2⟩ := h
  show t_need_step K A E _ [some (.ref a), some (.int many), none] H
  have hm : (vals.map oV).length = vals.length := List.length_map ..
  refine q_when (b := !decide (((vals.map oV).length : Int) = many)) (by walk_at "ev") (fun hb H1 e1 => ?_) (fun hb H1 e1 => ?_)
  · refine s_raise fun H2 e2 => q2 ?_ H2 (e1.trans e2)
    unfold okStep
    have h1 : ¬ ((vals.length : Int) = many) := by simpa [hm] using hb
    rw [decide_eq_false h1]
    rfl
  · have h1 : (vals.length : Int) = many := by simpa [hm] using hb
    have hS1 := ex_l e1 hS
    have key := said_key vals
    have key2 := said_all vals
    refine s_when (b := !(vals.all okOne)) (et_not (et_B ?_)) (fun hc H2 e2 => ?_) (fun hc H2 e2 => ?_)
    · rw [← key2]
      refine ev_cbN (xs := (vals.filterMap fun x => x.map fun i => decide (ab i ≤ 1000000000)).map V.bl) (el_is (el_lcM (fun x => !decide (x = .non)) (fun x => V.bl (decide (ab (toInt x) ≤ 1000000000))) (by walk_at "ev") hS1 (by omega) (fun _ => rfl) (fun x H3 e3 _ => by walk_at "ev") (fun x H3 e3 hx hp => ?_)) key) fun p2 H3 e3 h3 => rc_all (sq_of h3)
      obtain ⟨y, _, rfl⟩ := List.mem_map.mp hx
      cases y with
      | none => exact absurd hp (by decide)
      | some i =>
        show Ev _ ([some (.ref a), some (.int many), some (.int i)]) H3 (V.bl (decide ((if i < 0 then -i else i) ≤ 1000000000)))
        walk_at "ev"
    · refine s_raise fun H3 e3 => q2 ?_ H3 ((e1.trans e2).trans e3)
      unfold okStep
      rw [decide_eq_true h1]
      simpa using hc
    · refine q1 ?_ H2 (e1.trans e2)
      unfold okStep
      rw [decide_eq_true h1]
      simpa using hc
theorem pure_Sensor_init (T : Txt K mg A) (vs : List V) (H : Hp) (Q : VK) (E : XK) (h : sp_Sensor_init K A vs H Q E) : t_Sensor_init K A E { nx := fun _ H' => Q .non H', rt := Q } (start ["self"] vs) H := by
  obtain ⟨x, dx, rfl, h1, q⟩ := h
  show t_Sensor_init K A E _ [some (.ref x)] H
  refine q_fld (fs' := [("is_out", .bl false)]) ev_c (ev_var rfl) h1 T.cl_Sensor T.na_Sensor_is_out (by decide) rfl fun H1 e1 => ?_
  refine s_fld (fs' := sfs false 0) ev_c (ev_var rfl) upd_same T.cl_Sensor T.na_Sensor_many (by decide) rfl fun H2 e2 => ?_
  exact q _ ((But.upd e1).trans (But.upd e2)) upd_same
/-! ### reading a voter -/
theorem pure_Voter_given (T : Txt K mg A) (vs : List V) (H : Hp) (Q : VK) (E : XK) (h : sp_Voter_given K A vs H Q E) : t_Voter_given K A E { nx := fun _ H' => Q .non H', rt := Q } (start ["self"] vs) H := by
  obtain ⟨p, l, as, v, rfl, hv, q⟩ := h
  show t_Voter_given K A E _ [some (.ref p)] H
  exact s_ret (v := .int v.last) (by walk_at "ev") q
theorem refs_len (as : List Addr) : (as.map V.ref).length = as.length := List.length_map ..
theorem ref_at {as : List Addr} {i : Int} {s : Addr} (h0 : 0 ≤ i) (hs : as[i.toNat]? = some s) : atI (as.map V.ref) i = some (.ref s) := by
  obtain ⟨k, rfl⟩ := Int.eq_ofNat_of_zero_le h0
  refine atI_nat ?_
  rw [Int.toNat_natCast] at hs
  rw [List.getElem?_map, hs]
  rfl
theorem pure_Voter_sensor (T : Txt K mg A) (vs : List V) (H : Hp) (Q : VK) (E : XK) (h : sp_Voter_sensor K A vs H Q E) : t_Voter_sensor K A E { nx := fun _ H' => Q .non H', rt := Q } (start ["self", "place"] vs) H := by
  obtain ⟨p, l, as, v, i, rfl, hv, q1, q2⟩ := h
  show t_Voter_sensor K A E _ [some (.ref p), some (.int i)] H
  have hL : SqL K H l (as.map V.ref) := hv.seq
  have hm := refs_len as
  refine q_when (b := !(decide (0 ≤ i) && decide (i < ((as.map V.ref).length : Int)))) (by walk_at "ev") (fun hb H1 e1 => ?_) (fun hb H1 e1 => ?_)
  · refine s_raise fun H2 e2 => q2 (fun z => ?_) H2 (e1.trans e2)
    simp [hm] at hb
    omega
  · have hb1 : 0 ≤ i ∧ i < (as.length : Int) := by simpa [hm] using hb
    have hk : i.toNat < as.length := by omega
    have hs : as[i.toNat]? = some as[i.toNat] := List.getElem?_eq_getElem hk
    have hv1 := hv.ext e1
    have hL1 := ex_l e1 hL
    exact s_ret (v := .ref as[i.toNat]) (ev_op (by walk_at "ev") (by walk_at "ev") (rv_ixL hL1 (ref_at hb1.1 hs))) fun H2 e2 => q1 _ hb1.1 hs H2 (e1.trans e2)
theorem spv_sensor {H : Hp} {p l : Addr} {as : List Addr} {v : Vst} {i : Int} {s : Addr} (hv : VAt A H p l as v) (h0 : 0 ≤ i) (hs : as[i.toNat]? = some s) : SpV (sp_Voter_sensor K A) [.ref p, .int i] H (.ref s) := fun H1 e Q q E =>
  ⟨p, l, as, v, i, rfl, hv.ext e, (fun t _ ht => by
    have e2 : s = t := Option.some.inj (hs.symm.trans ht)
    subst e2
    exact q), fun hn => absurd ⟨h0, by have := (List.getElem?_eq_some_iff.mp hs).1; omega⟩ hn⟩
theorem own_no {m : Str} {v : Vst} {l : Addr} (h : (vfs v l).lookup m = none) : (vfs v l).lookup m = none := h
theorem pure_Voter_state (T : Txt K mg A) (vs : List V) (H : Hp) (Q : VK) (E : XK) (h : sp_Voter_state K A vs H Q E) : t_Voter_state K A E { nx := fun _ H' => Q .non H', rt := Q } (start ["self", "place", "one"] vs) H := by
  obtain ⟨p, l, as, v, i, rfl, hv, q1, q2⟩ := h
  show t_Voter_state K A E _ [some (.ref p), some (.int i), none] H
  obtain ⟨dx, hp⟩ := hv.own
  by_cases hi : 0 ≤ i ∧ i < (as.length : Int)
  · have hk : i.toNat < as.length := by omega
    have hs : as[i.toNat]? = some as[i.toNat] := List.getElem?_eq_getElem hk
    refine q_asg (v := .ref as[i.toNat]) (ev_meth (ev_var rfl) hp rfl (by walk_at "ev") (spv_sensor hv hi.1 hs)) fun H1 e1 => ?_
    have hv1 := hv.ext e1
    refine q_when (b := (v.ss.getD i.toNat S0).1) (by walk_at "ev") (fun hb H2 e2 => ?_) (fun hb H2 e2 => ?_)
    · refine s_ret (v := .str (stateW (v.ss.getD i.toNat S0))) ?_ fun H3 e3 => q1 hi H3 ((e1.trans e2).trans e3)
      unfold stateW
      rw [if_pos hb]
      exact ev_c
    · have hv2 := hv1.ext e2
      refine s_ret (v := .str (stateW (v.ss.getD i.toNat S0))) (ev_is (ev_ifB (b := decide ((v.ss.getD i.toNat S0).2 = 0)) (by walk_at "ev") ev_c ev_c) ?_) fun H3 e3 => q1 hi H3 ((e1.trans e2).trans e3)
      unfold stateW
      rw [hb]
      by_cases c : (v.ss.getD i.toNat S0).2 = 0
      · rw [decide_eq_true c, if_pos rfl, if_neg (by decide), if_pos c]
      · rw [decide_eq_false c, if_neg (by decide), if_neg (by decide), if_neg c]
  · exact q_asgM (ev_var rfl) hp rfl (by walk_at "ev") fun H1 e1 => ⟨p, l, as, v, i, rfl, hv.ext e1, (fun s h0 hs => absurd ⟨h0, by have := (List.getElem?_eq_some_iff.mp hs).1; omega⟩ hi), fun _ H2 e2 => q2 hi H2 (e1.trans e2)⟩
theorem pure_Voter_count (T : Txt K mg A) (vs : List V) (H : Hp) (Q : VK) (E : XK) (h : sp_Voter_count K A vs H Q E) : t_Voter_count K A E { nx := fun _ H' => Q .non H', rt := Q } (start ["self", "place"] vs) H := by
  obtain ⟨p, l, as, v, i, rfl, hv, q1, q2⟩ := h
  show t_Voter_count K A E _ [some (.ref p), some (.int i)] H
  obtain ⟨dx, hp⟩ := hv.own
  by_cases hi : 0 ≤ i ∧ i < (as.length : Int)
  · have hk : i.toNat < as.length := by omega
    have hs : as[i.toNat]? = some as[i.toNat] := List.getElem?_eq_getElem hk
    exact s_ret (v := .int (v.ss.getD i.toNat S0).2) (ev_s_many (ev_meth (ev_var rfl) hp rfl (by walk_at "ev") (spv_sensor hv hi.1 hs)) hv hs T) (q1 hi)
  · exact s_retFM (ev_var rfl) hp rfl (by walk_at "ev") fun H1 e1 Q' => ⟨p, l, as, v, i, rfl, hv.ext e1, (fun s h0 hs => absurd ⟨h0, by have := (List.getElem?_eq_some_iff.mp hs).1; omega⟩ hi), fun _ H2 e2 => q2 hi H2 (e1.trans e2)⟩
theorem pure_Voter_is_close (T : Txt K mg A) (vs : List V) (H : Hp) (Q : VK) (E : XK) (h : sp_Voter_is_close K A vs H Q E) : t_Voter_is_close K A E { nx := fun _ H' => Q .non H', rt := Q } (start ["self", "thing", "value"] vs) H := by
  obtain ⟨p, l, as, v, x, value, rfl, hv, q⟩ := h
  show t_Voter_is_close K A E _ [some (.ref p), some (oV x), some (.int value)] H
  cases x with
  | none => exact s_ret (v := .bl (clo v.th value none)) (ev_is (ev_andIf (a1 := false) (b1 := false) (ev_is (by walk_at "ev") (by rfl)) (fun z => nomatch z)) (by rfl)) q
  | some i =>
    refine s_ret (v := .bl (clo v.th value (some i))) (ev_is (ev_andIf (a1 := true) (b1 := decide ((if i - value < 0 then -(i - value) else i - value) ≤ v.th)) (ev_is (by walk_at "ev") (by rfl)) fun _ => ?_) (by rfl)) q
    show Ev _ [some (.ref p), some (.int i), some (.int value)] H _
    walk_at "ev"
theorem pure_Voter_word (T : Txt K mg A) (vs : List V) (H : Hp) (Q : VK) (E : XK) (h : sp_Voter_word K A vs H Q E) : t_Voter_word K A E { nx := fun _ H' => Q .non H', rt := Q } (start ["self", "numbers", "value", "close"] vs) H := by
  obtain ⟨p, l, as, v, a, t, value, rfl, hv, hS, hz, q⟩ := h
  show t_Voter_word K A E _ [some (.ref p), some (.ref a), some (.int value), none] H
  refine q_when (et_test (ev_eqNil (ev_var rfl) hS (ints_flat t))) (fun hb H1 e1 => ?_) (fun hb H1 e1 => ?_)
  · have h0 : t = [] := by simpa using hb
    refine s_ret (v := .str (wordOf as.length v.th t value)) ?_ fun H2 e2 => q H2 (e1.trans e2)
    unfold wordOf
    rw [if_pos h0]
    exact ev_c
  have h0 : ¬ t = [] := by simpa using hb
  have hS1 := ex_l e1 hS
  have hm : (t.map V.int).length = t.length := List.length_map ..
  refine q_when (b := decide (((t.map V.int).length : Int) = 1)) (by walk_at "ev") (fun hb H2 e2 => ?_) (fun hb H2 e2 => ?_)
  · have h1 : t.length = 1 := by
      have := of_decide_eq_true hb
      omega
    refine s_ret (v := .str (wordOf as.length v.th t value)) ?_ fun H3 e3 => q H3 ((e1.trans e2).trans e3)
    unfold wordOf
    rw [if_neg h0, if_pos h1]
    exact ev_c
  have h1 : ¬ t.length = 1 := by
    have := of_decide_eq_false hb
    omega
  have hv2 := hv.ext (e1.trans e2)
  have hS2 := ex_l e2 hS1
  refine q_asg (v := .int ((agr t value v.th).length : Int)) (ev_lenN (el_call0 (by walk_at "ev") (spl_agree hS2 (by omega)))) fun H3 e3 => ?_
  have hS3 := ex_l e3 hS2
  refine q_when (b := decide (2 * ((agr t value v.th).length : Int) ≤ ((t.map V.int).length : Int))) (by walk_at "ev") (fun hb H4 e4 => ?_) (fun hb H4 e4 => ?_)
  · have h2 : 2 * (agr t value v.th).length ≤ t.length := by
      have := of_decide_eq_true hb
      omega
    refine s_ret (v := .str (wordOf as.length v.th t value)) ?_ fun H5 e5 => q H5 ((((e1.trans e2).trans e3).trans e4).trans e5)
    unfold wordOf
    rw [if_neg h0, if_neg h1, if_pos h2]
    exact ev_c
  have h2 : ¬ 2 * (agr t value v.th).length ≤ t.length := by
    have := of_decide_eq_false hb
    omega
  have hv4 := hv2.ext (e3.trans e4)
  have hL4 : SqL K H4 l (as.map V.ref) := hv4.seq
  refine s_ret (v := .str (wordOf as.length v.th t value)) (ev_is (ev_ifB (b := decide (((agr t value v.th).length : Int) = ((as.map V.ref).length : Int))) (by walk_at "ev") ev_c ev_c) ?_) fun H5 e5 => q H5 ((((e1.trans e2).trans e3).trans e4).trans e5)
  unfold wordOf
  rw [if_neg h0, if_neg h1, if_neg h2, refs_len]
  by_cases c : (agr t value v.th).length = as.length
  · rw [if_pos c, decide_eq_true (by omega), if_pos rfl]
  · rw [if_neg c, decide_eq_false (by omega), if_neg (by decide)]
end
end MV
namespace MV
open PySem PySem.Spec PyProof.Rows L2 Evl
section
variable {K : PySem.W.Frag} {mg : Str → Option Value} {A : Ads}
theorem sfs_small {o : Bool} {m : Int} : (sfs o m).length < 1000 := by show 2 < 1000; decide
theorem vfs_small {v : Vst} {l : Addr} : (vfs v l).length < 1000 := by show 6 < 1000; decide
theorem given_gen {α : Type} (xs : List α) (d : α) (p : α → Bool) (g : Nat → V) : (Evl.given xs.length (fun i => p (xs.getD i d)) g).length = (xs.filter p).length := by
  have key : ∀ i, i ≤ xs.length → (Evl.given i (fun i => p (xs.getD i d)) g).length = ((xs.take i).filter p).length := by
    intro i
    induction i with
    | zero => intro _; rfl
    | succ i ih =>
      intro h
      have hi : i < xs.length := h
      have e : xs.getD i d = xs[i] := by rw [List.getD_eq_getElem?_getD, List.getElem?_eq_getElem hi]; rfl
      have e2 : xs.take (i + 1) = xs.take i ++ [xs[i]] := by rw [List.take_add_one, List.getElem?_eq_getElem hi]; rfl
      rw [e2, List.filter_append, List.length_append, ← ih (by omega)]
      cases hp : p xs[i] with
      | true =>
        rw [Evl.given_yes (by show p (xs.getD i d) = true; rw [e]; exact hp), List.length_append, List.filter_cons, hp]
        rfl
      | false =>
        rw [Evl.given_no (by show p (xs.getD i d) = false; rw [e]; exact hp), List.filter_cons, hp]
        rfl
  rw [key _ (Nat.le_refl _), List.take_length]
theorem getD_set_self {ss : List (Bool × Int)} {i : Nat} {x : Bool × Int} (h : i < ss.length) : (ss.set i x).getD i S0 = x := by
  rw [List.getD_eq_getElem?_getD, List.getElem?_set_self h]
  rfl
theorem set_set' {ss : List (Bool × Int)} {i : Nat} {x y : Bool × Int} : (ss.set i x).set i y = ss.set i y := List.set_set ..
theorem refs_get {as : List Addr} {i : Nat} {x : V} (h : (as.map V.ref)[i]? = some x) : ∃ s, as[i]? = some s ∧ x = .ref s := by
  rw [List.getElem?_map] at h
  cases e : as[i]? with
  | none => rw [e] at h; cases h
  | some s => rw [e] at h; exact ⟨s, rfl, (Option.some.inj h).symm⟩
theorem inN_set {ss : List (Bool × Int)} {i : Nat} {m : Int} (h : (ss.getD i S0).1 = false) : inN (ss.set i (false, m)) = inN ss := by
  unfold inN
  induction ss generalizing i with
  | nil => rfl
  | cons s r ih =>
    cases i with
    | zero =>
      have e : s.1 = false := h
      show (((false, m) :: r).filter fun s => !s.1).length = ((s :: r).filter fun s => !s.1).length
      rw [List.filter_cons, List.filter_cons, e]
      rfl
    | succ i =>
      have h2 : (r.getD i S0).1 = false := h
      show ((s :: r.set i (false, m)).filter fun s => !s.1).length = ((s :: r).filter fun s => !s.1).length
      rw [List.filter_cons, List.filter_cons]
      split
      · rw [List.length_cons, List.length_cons, ih h2]
      · exact ih h2
theorem pure_Voter_watch (T : Txt K mg A) (vs : List V) (H : Hp) (Q : VK) (E : XK) (h : sp_Voter_watch K A vs H Q E) : t_Voter_watch K A E { nx := fun _ H' => Q .non H', rt := Q } (start ["self", "one", "is_close", "others", "other"] vs) H := by
  obtain ⟨p, l, as, v, s, i, c, rfl, hv, hs, ho, q⟩ := h
  show t_Voter_watch K A E _ [some (.ref p), some (.ref s), some (.bl c), none, none] H
  have hi : i < v.ss.length := by rw [← hv.len]; exact (List.getElem?_eq_some_iff.mp hs).1
  refine q_when (b := c) (by walk_at "ev") (fun hb H1 e1 => ?_) (fun hb H1 e1 => ?_)
  · subst hb
    have hv1 := hv.ext e1
    obtain ⟨dy, hq⟩ := hv1.sens i s hs
    refine q_fld (y := .int (if (v.ss.getD i S0).2 - 1 > 0 then (v.ss.getD i S0).2 - 1 else 0)) (fs' := sfs (v.ss.getD i S0).1 (if (v.ss.getD i S0).2 - 1 > 0 then (v.ss.getD i S0).2 - 1 else 0)) (by walk_at "ev") (ev_var rfl) hq T.cl_Sensor T.na_Sensor_many sfs_small rfl fun H2 e2 => ?_
    refine q _ ((But.of e1).trans (But.upd e2)) ?_
    have hv2 := (hv1.ext e2).set (dy := dy) (o := (v.ss.getD i S0).1) (m := if (v.ss.getD i S0).2 - 1 > 0 then (v.ss.getD i S0).2 - 1 else 0) hs
    rw [ho] at hv2 ⊢
    exact hv2
  · subst hb
    have hv1 := hv.ext e1
    obtain ⟨dy, hq⟩ := hv1.sens i s hs
    refine q_fld (y := .int ((v.ss.getD i S0).2 + 1)) (fs' := sfs (v.ss.getD i S0).1 ((v.ss.getD i S0).2 + 1)) (by walk_at "ev") (ev_var rfl) hq T.cl_Sensor T.na_Sensor_many sfs_small rfl fun H2 e2 => ?_
    have hv2 := (hv1.ext e2).set (dy := dy) (o := (v.ss.getD i S0).1) (m := (v.ss.getD i S0).2 + 1) hs
    rw [ho] at hv2 ⊢
    have hL2 := hv2.seq (K := K)
    have b2 : But s H (upd H2 s (.ins A.c_Sensor dy (sfs false ((v.ss.getD i S0).2 + 1)))) := (But.of e1).trans (But.upd e2)
    generalize upd H2 s (.ins A.c_Sensor dy (sfs false ((v.ss.getD i S0).2 + 1))) = H3 at hv2 hL2 b2 ⊢
    have e9 : (v.ss.set i (false, (v.ss.getD i S0).2 + 1)).getD i S0 = (false, (v.ss.getD i S0).2 + 1) := getD_set_self hi
    have eL : (as.map V.ref).length = (v.ss.set i (false, (v.ss.getD i S0).2 + 1)).length := by rw [refs_len, List.length_set]; exact hv.len
    refine q_asgL (el_lcL (fun j => !((v.ss.set i (false, (v.ss.getD i S0).2 + 1)).getD j S0).1) (fun j => (as.map V.ref).getD j .non) (ev_v_sens (ev_var rfl) hv2 T) hL2 (by rw [refs_len]; have := hv.small; omega) (fun _ => rfl) (fun j x H4 e4 hx => ?_) (fun j x H4 e4 hx _ => ?_)) fun op H4 nop e4 h4 => ?_
    · obtain ⟨t, ht, rfl⟩ := refs_get hx
      have hv4 := hv2.ext e4
      exact et_not (et_B (ev_s_out (ev_var rfl) hv4 ht T))
    · have e : (as.map V.ref).getD j .non = x := by rw [List.getD_eq_getElem?_getD, hx]; rfl
      rw [e]
      exact ev_var rfl
    have hv4 := hv2.ext e4
    have hO4 : SqL K H4 op (Evl.given (as.map V.ref).length (fun j => !((v.ss.set i (false, (v.ss.getD i S0).2 + 1)).getD j S0).1) (fun j => (as.map V.ref).getD j .non)) := sq_of h4
    have eN : (Evl.given (as.map V.ref).length (fun j => !((v.ss.set i (false, (v.ss.getD i S0).2 + 1)).getD j S0).1) (fun j => (as.map V.ref).getD j .non)).length = inN v.ss := by
      rw [eL, given_gen (v.ss.set i (false, (v.ss.getD i S0).2 + 1)) S0 (fun s => !s.1)]
      exact inN_set ho
    have hmany : Ev (tFld K (tVar 1) "many") ([some (.ref p), some (.ref s), some (.bl false), none, none].set 3 (some (.ref op))) H4 (.int ((v.ss.getD i S0).2 + 1)) := by
      have := ev_s_many (σ := [some (.ref p), some (.ref s), some (.bl false), none, none].set 3 (some (.ref op))) (ta := tVar 1) (ev_var rfl) hv4 hs T
      rw [e9] at this
      exact this
    refine s_when (b := decide (v.mis ≤ (v.ss.getD i S0).2 + 1) && decide (1 < (inN v.ss : Int))) (et_andB (et_test (ev_op hmany (ev_v_mis (ev_var rfl) hv4 T) rv_I0)) (et_test (ev_op (ev_cb (ea_cons (ev_var rfl) ea_nil) (by have := rc_len hO4; rw [eN] at this; exact this)) ev_c rv_I0))) (fun hb H5 e5 => ?_) (fun hb H5 e5 => ?_)
    · rw [Bool.and_eq_true, decide_eq_true_eq, decide_eq_true_eq] at hb
      have hv5 := hv4.ext e5
      obtain ⟨dz, hq5⟩ := hv5.sens i s hs
      rw [e9] at hq5
      refine q_fld (y := .bl true) (fs' := sfs true ((v.ss.getD i S0).2 + 1)) ev_c (ev_var rfl) hq5 T.cl_Sensor T.na_Sensor_is_out sfs_small rfl fun H6 e6 => ?_
      have hv6 := (hv5.ext e6).set (dy := dz) (o := true) (m := (v.ss.getD i S0).2 + 1) hs
      refine s_fld (y := .int 0) (fs' := sfs true 0) ev_c (ev_var rfl) upd_same T.cl_Sensor T.na_Sensor_many sfs_small rfl fun H7 e7 => ?_
      have hv7 := (hv6.ext e7).set (dy := dz) (o := true) (m := 0) hs
      refine q _ ((((b2.trans (But.of e4)).trans (But.of e5)).trans (But.upd e6)).trans (But.upd e7)) ?_
      have en : nextG v.mis (inN v.ss) (v.ss.getD i S0) false = (true, 0) := by
        unfold nextG
        rw [if_neg (by decide), if_pos ⟨hb.1, by omega⟩]
      rw [en]
      have hv8 := hv7
      simp only [set_set'] at hv8
      exact hv8
    · refine q _ ((b2.trans (But.of e4)).trans (But.of e5)) ?_
      have en : nextG v.mis (inN v.ss) (v.ss.getD i S0) false = (false, (v.ss.getD i S0).2 + 1) := by
        unfold nextG
        rw [if_neg (by decide), if_neg]
        intro z
        rw [decide_eq_true z.1, decide_eq_true (by omega)] at hb
        cases hb
      rw [en]
      exact hv4.ext e5
theorem pure_Voter_wait (T : Txt K mg A) (vs : List V) (H : Hp) (Q : VK) (E : XK) (h : sp_Voter_wait K A vs H Q E) : t_Voter_wait K A E { nx := fun _ H' => Q .non H', rt := Q } (start ["self", "one", "is_close"] vs) H := by
  obtain ⟨p, l, as, v, s, i, c, rfl, hv, hs, ho, q⟩ := h
  show t_Voter_wait K A E _ [some (.ref p), some (.ref s), some (.bl c)] H
  have hi : i < v.ss.length := by rw [← hv.len]; exact (List.getElem?_eq_some_iff.mp hs).1
  obtain ⟨dy, hq⟩ := hv.sens i s hs
  have hb0 : -18446744073709551616 < (if c = true then (1 : Int) else 0) ∧ (if c = true then (1 : Int) else 0) < 18446744073709551616 := by cases c <;> decide
  refine q_fld (y := .int (((v.ss.getD i S0).2 + 1) * (if c = true then 1 else 0))) (fs' := sfs (v.ss.getD i S0).1 (((v.ss.getD i S0).2 + 1) * (if c = true then 1 else 0))) (ev_op (ev_op (ev_s_many (ev_var rfl) hv hs T) ev_c rv_I0) (ev_cb (ea_cons (ev_var rfl) ea_nil) rc_intB) (rv_I (.inr hb0))) (ev_var rfl) hq T.cl_Sensor T.na_Sensor_many sfs_small rfl fun H1 e1 => ?_
  have hv1 := (hv.ext e1).set (dy := dy) (o := (v.ss.getD i S0).1) (m := ((v.ss.getD i S0).2 + 1) * (if c = true then 1 else 0)) hs
  rw [ho] at hv1 ⊢
  have b1 : But s H (upd H1 s (.ins A.c_Sensor dy (sfs true (((v.ss.getD i S0).2 + 1) * (if c = true then 1 else 0))))) := But.upd e1
  generalize upd H1 s (.ins A.c_Sensor dy (sfs true (((v.ss.getD i S0).2 + 1) * (if c = true then 1 else 0)))) = H2 at hv1 b1 ⊢
  have e9 : (v.ss.set i (true, ((v.ss.getD i S0).2 + 1) * (if c = true then 1 else 0))).getD i S0 = (true, ((v.ss.getD i S0).2 + 1) * (if c = true then 1 else 0)) := getD_set_self hi
  have hmany : Ev (tFld K (tVar 1) "many") [some (.ref p), some (.ref s), some (.bl c)] H2 (.int (((v.ss.getD i S0).2 + 1) * (if c = true then 1 else 0))) := by
    have := ev_s_many (σ := [some (.ref p), some (.ref s), some (.bl c)]) (ta := tVar 1) (ev_var rfl) hv1 hs T
    rw [e9] at this
    exact this
  refine s_when (b := decide (((v.ss.getD i S0).2 + 1) * (if c = true then 1 else 0) = v.bk)) (et_test (ev_op hmany (ev_v_bk (ev_var rfl) hv1 T) rv_eqI)) (fun hb H3 e3 => ?_) (fun hb H3 e3 => ?_)
  · have hv3 := hv1.ext e3
    obtain ⟨dz, hq3⟩ := hv3.sens i s hs
    rw [e9] at hq3
    refine q_fld (y := .bl false) (fs' := sfs false (((v.ss.getD i S0).2 + 1) * (if c = true then 1 else 0))) ev_c (ev_var rfl) hq3 T.cl_Sensor T.na_Sensor_is_out sfs_small rfl fun H4 e4 => ?_
    have hv4 := (hv3.ext e4).set (dy := dz) (o := false) (m := ((v.ss.getD i S0).2 + 1) * (if c = true then 1 else 0)) hs
    refine s_fld (y := .int 0) (fs' := sfs false 0) ev_c (ev_var rfl) upd_same T.cl_Sensor T.na_Sensor_many sfs_small rfl fun H5 e5 => ?_
    have hv5 := (hv4.ext e5).set (dy := dz) (o := false) (m := 0) hs
    refine q _ (((b1.trans (But.of e3)).trans (But.upd e4)).trans (But.upd e5)) ?_
    have en : nextW v.bk true (v.ss.getD i S0) c = (false, 0) := by
      unfold nextW
      rw [Bool.and_true, if_pos (of_decide_eq_true hb)]
    rw [en]
    simp only [set_set'] at hv5
    exact hv5
  · refine q _ (b1.trans (But.of e3)) ?_
    have en : nextW v.bk true (v.ss.getD i S0) c = (true, ((v.ss.getD i S0).2 + 1) * (if c = true then 1 else 0)) := by
      unfold nextW
      rw [Bool.and_true, if_neg (of_decide_eq_false hb)]
    rw [en]
    exact hv1.ext e3
end
end MV
namespace MV
open PySem PySem.Spec PyProof.Rows L2 Evl
section
variable {K : PySem.W.Frag} {mg : Str → Option Value} {A : Ads}
theorem spv_word {H : Hp} {p l a : Addr} {as : List Addr} {v : Vst} {t : List Int} {value : Int} (hv : VAt A H p l as v) (hS : SqL K H a (t.map V.int)) (hz : t.length ≤ 100) : SpV (sp_Voter_word K A) [.ref p, .ref a, .int value] H (.str (wordOf as.length v.th t value)) := fun H1 e Q q E =>
  ⟨p, l, as, v, a, t, value, rfl, hv.ext e, ex_l e hS, hz, q⟩
theorem spv_is_close {H : Hp} {p l : Addr} {as : List Addr} {v : Vst} {x : Option Int} {value : Int} (hv : VAt A H p l as v) : SpV (sp_Voter_is_close K A) [.ref p, oV x, .int value] H (.bl (clo v.th value x)) := fun H1 e Q q E =>
  ⟨p, l, as, v, x, value, rfl, hv.ext e, q⟩
theorem said_at {vals : List (Option Int)} {i : Nat} (hi : i < vals.length) : atI (vals.map oV) (i : Int) = some (oV (vals.getD i none)) := by
  refine atI_nat ?_
  rw [List.getElem?_map, List.getElem?_eq_getElem hi, List.getD_eq_getElem?_getD, List.getElem?_eq_getElem hi]
  rfl
theorem there_len (ss : List (Bool × Int)) (vals : List (Option Int)) : (there ss vals).length ≤ ss.length := by
  unfold there
  rw [List.length_map]
  have h := List.length_filter_le (isHere ss vals) (List.range ss.length)
  rw [List.length_range] at h
  exact h
theorem there_given {ss : List (Bool × Int)} {vals : List (Option Int)} : Evl.given ss.length (isHere ss vals) (fun i => oV (vals.getD i none)) = (there ss vals).map V.int := by
  unfold Evl.given there
  rw [List.map_map]
  refine List.map_congr_left fun i hi => ?_
  have h := (List.mem_filter.mp hi).2
  unfold isHere at h
  rw [Bool.and_eq_true] at h
  obtain ⟨x, hx⟩ := Option.isSome_iff_exists.mp h.2
  show oV (vals.getD i none) = V.int ((vals.getD i none).getD 0)
  rw [hx]
  rfl
theorem turns_succ (v : Vst) (any : Bool) (value : Int) (vals : List (Option Int)) (i : Nat) : turns v any value vals (i + 1) = turnS v any value vals (turns v any value vals i) i := by
  unfold turns
  rw [List.range_succ, List.foldl_append]
  rfl
theorem turns_len (v : Vst) (any : Bool) (value : Int) (vals : List (Option Int)) : ∀ i, (turns v any value vals i).length = v.ss.length
  | 0 => rfl
  | i + 1 => by
    rw [turns_succ]
    unfold turnS
    rw [List.length_set]
    exact turns_len v any value vals i
theorem nextW_any (bk : Int) (any : Bool) (s : Bool × Int) (c : Bool) : nextW bk true s (c && any) = nextW bk any s c := by unfold nextW; simp
theorem Buts.fresh {fp : List Addr} {H H' : Hp} {q : Addr} (e : Buts fp H H') (hq : q ∉ fp) (h : H' q = none) : H q = none := by
  cases z : H q with
  | none => rfl
  | some o =>
    rw [e q o hq z] at h
    cases h
theorem pure_Voter_step (T : Txt K mg A) (vs : List V) (H : Hp) (Q : VK) (E : XK) (h : sp_Voter_step K A vs H Q E) : t_Voter_step K A E { nx := fun _ H' => Q .non H', rt := Q } (start ["self", "values", "numbers", "place", "one", "value", "word", "is_close"] vs) H := by
  obtain ⟨p, l, as, v, a, vals, rfl, hv, hS, hz, haf, q1, q2⟩ := h
  show t_Voter_step K A E _ [some (.ref p), some (.ref a), none, none, none, none, none, none] H
  have hL : SqL K H l (as.map V.ref) := hv.seq
  have hm := refs_len as
  by_cases hok : okStep vals as.length = true
  case neg =>
    have hok0 : okStep vals as.length = false := by simpa using hok
    refine q_dropC (vs := [.ref a, .int ((as.map V.ref).length : Int)]) (by walk_at "ev") fun H1 e1 => ⟨a, vals, _, rfl, ex_l e1 hS, hz, fun hn => ?_, fun _ H2 e2 => q2 hok0 H2 (e1.trans e2)⟩
    rw [hm] at hn
    exact absurd hn hok
  refine q_dropC (vs := [.ref a, .int ((as.map V.ref).length : Int)]) (by walk_at "ev") fun H1 e1 => ⟨a, vals, _, rfl, ex_l e1 hS, hz, fun _ H2 e2 => ?_, fun hn => ?_⟩
  case refine_2 =>
    rw [hm, hok] at hn
    cases hn
  have q1 := q1 hok
  have hlen : vals.length = as.length := by
    unfold okStep at hok
    rw [Bool.and_eq_true, decide_eq_true_eq] at hok
    omega
  have hv2 := hv.ext (e1.trans e2)
  have hS2 := ex_l (e1.trans e2) hS
  have hL2 : SqL K H2 l (as.map V.ref) := hv2.seq
  -- the numbers
  refine q_asgL (xs := (there v.ss vals).map V.int) (el_is (el_lcE (fun i => isHere v.ss vals i) (fun i => oV (vals.getD i none)) (ea_cons (ev_v_sens (ev_var rfl) hv2 T) ea_nil) hL2 (by rw [hm]; have := hv.small; omega) rfl (fun _ _ => rfl) (fun i x H3 e3 hx => ?_) (fun i x H3 e3 hx _ => ?_)) ?_) fun np H3 nnp e3 h3 => ?_
  · obtain ⟨s, hs, rfl⟩ := refs_get hx
    have hi : i < vals.length := by rw [hlen]; exact (List.getElem?_eq_some_iff.mp hs).1
    have hv3 := hv2.ext e3
    have hS3 := ex_l e3 hS2
    refine et_is (et_andB (et_not (et_B (ev_s_out (ev_var rfl) hv3 hs T))) (et_test (ev_op (ev_op (ev_var rfl) (ev_var rfl) (rv_ixL hS3 (said_at hi))) ev_c rv_notN))) ?_
    unfold isHere
    cases vals.getD i none <;> rfl
  · obtain ⟨s, hs, rfl⟩ := refs_get hx
    have hi : i < vals.length := by rw [hlen]; exact (List.getElem?_eq_some_iff.mp hs).1
    exact ev_op (ev_var rfl) (ev_var rfl) (rv_ixL (ex_l e3 hS2) (said_at hi))
  · rw [hm, hv.len]
    exact there_given
  have hv3 := hv2.ext e3
  have hN3 : SqL K H3 np ((there v.ss vals).map V.int) := sq_of h3
  have hS3 := ex_l e3 hS2
  -- value
  refine q_asg (v := .int v.last) (ev_v_last (ev_var rfl) hv3 T) fun H4 e4 => ?_
  have hv4 := hv3.ext e4
  have hN4 := ex_l e4 hN3
  have hS4 := ex_l e4 hS3
  have htl := there_len v.ss vals
  have hs9 := hv.small
  have hl9 := hv.len
  refine q_ifAsg (b := !decide ((there v.ss vals).map V.int = [])) (v := .int (valueOf v vals)) (et_test (ev_neNil (ev_var rfl) hN4 (ints_flat _))) (fun hb => ?_) (fun hb => ?_) fun H5 e5 => ?_
  · have h0 : there v.ss vals ≠ [] := by simpa using hb
    unfold valueOf
    rw [if_neg h0]
    exact ev_call0 (ea_cons (ev_var rfl) (ea_cons (ev_v_last (ev_var rfl) hv4 T) ea_nil)) (spv_middle hN4 h0 (by omega))
  · have h0 : there v.ss vals = [] := by simpa using hb
    unfold valueOf
    rw [if_pos h0]
    rfl
  have hv5 := hv4.ext e5
  have hN5 := ex_l e5 hN4
  have hS5 := ex_l e5 hS4
  -- word
  obtain ⟨dx5, hp5⟩ := hv5.own
  refine q_asg (v := .str (stepW v vals)) (ev_is (ev_meth (ev_var rfl) hp5 rfl (ea_cons (ev_var rfl) (ea_cons (ev_var rfl) ea_nil)) (spv_word hv5 hN5 (by omega))) (by unfold stepW; rw [hl9])) fun H6 e6 => ?_
  have hv6 := hv5.ext e6
  have hN6 := ex_l e6 hN5
  have hS6 := ex_l e6 hS5
  have hL6 : SqL K H6 l (as.map V.ref) := hv6.seq
  have eA : (!decide ((there v.ss vals).map V.int = [])) = anyHere v vals := by
    unfold anyHere
    simp
  -- the sensors, in order
  have hnp : np ∉ p :: as := hv2.new nnp
  refine q_forE (p := l) (xs := as.map V.ref) (ea_cons (ev_v_sens (ev_var rfl) hv6 T) ea_nil) hL6
    (fun i σ H' => ∃ y3 y4 y7, σ = [some (.ref p), some (.ref a), some (.ref np), y3, y4, some (.int (valueOf v vals)), some (.str (stepW v vals)), y7] ∧ Buts (p :: as) H6 H' ∧ VAt A H' p l as { v with ss := turns v (anyHere v vals) (valueOf v vals) vals i })
    (fun H7 e7 => ⟨none, none, none, rfl, Buts.of e7, hv6.ext e7⟩) (fun i σ H7 _ ⟨_, _, _, _, _, hv7⟩ => hv7.seq) (fun i x σ H7 hx ⟨y3, y4, y7, es, b7, hv7⟩ H8 e8 => ?_) (fun σ H7 ⟨y3, y4, y7, es, b7, hv7⟩ => ?_)
  · subst es
    obtain ⟨s, hs, rfl⟩ := refs_get hx
    have hia : i < as.length := (List.getElem?_eq_some_iff.mp hs).1
    have hi : i < vals.length := by omega
    have hv8 := hv7.ext e8
    have hS8 := ex_l e8 (b7.seq haf hS6)
    have hN8 := ex_l e8 (b7.seq hnp hN6)
    obtain ⟨dx8, hp8⟩ := hv8.own
    refine q_asg (v := .bl (clo v.th (valueOf v vals) (vals.getD i none))) (ev_meth (ev_var rfl) hp8 rfl (ea_cons (ev_op (ev_var rfl) (ev_var rfl) (rv_ixL hS8 (said_at hi))) (ea_cons (ev_var rfl) ea_nil)) (spv_is_close (v := { v with ss := turns v (anyHere v vals) (valueOf v vals) vals i }) hv8)) fun H9 e9 => ?_
    have hv9 := hv8.ext e9
    have hN9 := ex_l e9 hN8
    obtain ⟨dx9, hp9⟩ := hv9.own
    have b9 : Buts (p :: as) H6 H9 := b7.trans (Buts.of (e8.trans e9))
    have hsm : s ∈ p :: as := List.mem_cons_of_mem _ (List.mem_of_getElem? hs)
    refine s_if (et_B (ev_s_out (ev_var rfl) hv9 hs T)) (fun hb H10 e10 => ?_) (fun hb H10 e10 => ?_)
    · have hv10 := hv9.ext e10
      have hN10 := ex_l e10 hN9
      obtain ⟨dx10, hp10⟩ := hv10.own
      refine s_dropM (vs := [.ref s, .bl (clo v.th (valueOf v vals) (vals.getD i none) && anyHere v vals)]) (ev_var rfl) hp10 rfl (ea_cons (ev_var rfl) (ea_cons (ev_andB (ev_var rfl) (ev_is (ev_neNil (ev_var rfl) hN10 (ints_flat _)) (by rw [eA]))) ea_nil)) fun H11 e11 => ?_
      refine ⟨p, l, as, _, s, i, _, rfl, hv10.ext e11, hs, hb, fun H12 b12 hv12 => ⟨_, _, _, rfl, b9.trans ((Buts.of (e10.trans e11)).trans (Buts.but hsm b12)), ?_⟩⟩
      have en : turns v (anyHere v vals) (valueOf v vals) vals (i + 1) = (turns v (anyHere v vals) (valueOf v vals) vals i).set i (nextW v.bk true ((turns v (anyHere v vals) (valueOf v vals) vals i).getD i S0) (clo v.th (valueOf v vals) (vals.getD i none) && anyHere v vals)) := by
        rw [turns_succ, nextW_any]
        unfold turnS nextS
        rw [if_pos hb]
      rw [en]
      exact hv12
    · have hv10 := hv9.ext e10
      obtain ⟨dx10, hp10⟩ := hv10.own
      refine s_dropM (vs := [.ref s, .bl (clo v.th (valueOf v vals) (vals.getD i none))]) (ev_var rfl) hp10 rfl (ea_cons (ev_var rfl) (ea_cons (ev_var rfl) ea_nil)) fun H11 e11 => ?_
      refine ⟨p, l, as, _, s, i, _, rfl, hv10.ext e11, hs, hb, fun H12 b12 hv12 => ⟨_, _, _, rfl, b9.trans ((Buts.of (e10.trans e11)).trans (Buts.but hsm b12)), ?_⟩⟩
      have en : turns v (anyHere v vals) (valueOf v vals) vals (i + 1) = (turns v (anyHere v vals) (valueOf v vals) vals i).set i (nextG v.mis (inN (turns v (anyHere v vals) (valueOf v vals) vals i)) ((turns v (anyHere v vals) (valueOf v vals) vals i).getD i S0) (clo v.th (valueOf v vals) (vals.getD i none))) := by
        rw [turns_succ]
        unfold turnS nextS
        rw [if_neg (by rw [hb]; decide)]
      rw [en]
      exact hv12
  · subst es
    rw [hm, hl9] at hv7
    obtain ⟨dx7, hp7⟩ := hv7.own
    -- what is given
    refine q_fld (y := .int (mvd v.last (valueOf v vals) v.rate)) (fs' := vfs { v with last := mvd v.last (valueOf v vals) v.rate, ss := stepS v vals } l) (ev_call0 (ea_cons (ev_v_last (ev_var rfl) hv7 T) (ea_cons (ev_var rfl) (ea_cons (ev_v_rate (ev_var rfl) hv7 T) ea_nil))) spv_moved) (ev_var rfl) hp7 T.cl_Voter T.na_Voter_last vfs_small rfl fun H8 e8 => ?_
    have hv9 : VAt A (upd H8 p (.ins A.c_Voter dx7 (vfs { v with last := mvd v.last (valueOf v vals) v.rate, ss := stepS v vals } l))) p l as (stepV v vals) := (hv7.ext e8).last
    have b9 : Buts (p :: as) H (upd H8 p (.ins A.c_Voter dx7 (vfs { v with last := mvd v.last (valueOf v vals) v.rate, ss := stepS v vals } l))) :=
      (Buts.of (((((e1.trans e2).trans e3).trans e4).trans e5).trans e6)).trans (b7.trans (Buts.but List.mem_cons_self (But.upd e8)))
    generalize upd H8 p (.ins A.c_Voter dx7 (vfs { v with last := mvd v.last (valueOf v vals) v.rate, ss := stepS v vals } l)) = H9 at hv9 b9 ⊢
    refine s_retU (eu_tup (vs := [.int (stepV v vals).last, .str (stepW v vals)]) (ea_cons (ev_v_last (ev_var rfl) hv9 T) (ea_cons (ev_var rfl) ea_nil)) (by show 2 ≤ 100000; decide)) fun q H10 nq e10 h10 => ?_
    exact q1 H10 q (b9.trans (Buts.of e10)) (b9.fresh (hv9.new nq) nq) h10 (hv9.ext e10)
end
end MV
namespace MV
open PySem PySem.Spec PyProof.Rows L2 Evl
section
variable {K : PySem.W.Frag} {mg : Str → Option Value} {A : Ads}
theorem fresh_get (n i : Nat) : (List.replicate n S0).getD i S0 = S0 := by
  rw [List.getD_eq_getElem?_getD]
  by_cases h : i < n
  · rw [List.getElem?_replicate, if_pos h]
    rfl
  · rw [List.getElem?_replicate, if_neg h]
    rfl
/-- what the making of the sensors keeps -/
structure Made (A : Ads) (Hb : Hp) (i : Nat) (acc : List V) (Dl : Addr) (H : Hp) : Prop where
  ex : ∃ as : List Addr, acc = as.map V.ref ∧ as.length = i ∧ as.Nodup ∧ Dl ∉ as ∧ (∀ s ∈ as, Hb s = none) ∧ ∀ s ∈ as, ∃ dy, H s = some (.ins A.c_Sensor dy (sfs false 0))
  kept : Ex Hb H
  new : Hb Dl = none
theorem pure_Voter_init (T : Txt K mg A) (vs : List V) (H : Hp) (Q : VK) (E : XK) (h : sp_Voter_init K A vs H Q E) : t_Voter_init K A E { nx := fun _ H' => Q .non H', rt := Q } (start ["self", "settings", "start", "many", "threshold", "rate", "misses", "backs", "k"] vs) H := by
  obtain ⟨p, dx, a, m, t, r, ms, b, st, rfl, hp, hS, q1, q2⟩ := h
  show t_Voter_init K A E _ [some (.ref p), some (.ref a), some (.int st), none, none, none, none, none, none] H
  by_cases hok : okSet m t r ms b = true
  case neg =>
    have hok0 : okSet m t r ms b = false := by simpa using hok
    exact q_dropC (vs := [.ref a]) (by walk_at "ev") fun H1 e1 => ⟨a, m, t, r, ms, b, rfl, ex_t e1 hS, fun hn => absurd hn hok, fun _ H2 e2 => q2 hok0 H2 (e1.trans e2)⟩
  refine q_dropC (vs := [.ref a]) (by walk_at "ev") fun H1 e1 => ⟨a, m, t, r, ms, b, rfl, ex_t e1 hS, fun _ H2 e2 => ?_, fun hn => absurd (hok.symm.trans hn) (by decide)⟩
  have q1 := q1 hok
  have hm : 3 ≤ m ∧ m ≤ 9 := by
    unfold okSet at hok
    simp only [Bool.and_eq_true, decide_eq_true_eq] at hok
    exact hok.1
  refine q_tup5 (ev_var rfl) (ex_t (e1.trans e2) hS) fun H3 e3 => ?_
  have e13 := (e1.trans e2).trans e3
  refine q_fld (y := .int t) (fs' := [("threshold", .int t)]) (ev_var rfl) (ev_var rfl) (e13 p _ hp) T.cl_Voter T.na_Voter_threshold (by decide) rfl fun H4 e4 => ?_
  have b4 : But p H (upd H4 p (.ins A.c_Voter dx [("threshold", .int t)])) := (But.of e13).trans (But.upd e4)
  refine q_fld (y := .int r) (fs' := [("threshold", .int t), ("rate", .int r)]) (ev_var rfl) (ev_var rfl) upd_same T.cl_Voter T.na_Voter_rate (by show 1 < 1000; decide) rfl fun H5 e5 => ?_
  have b5 := b4.trans (But.upd (o := .ins A.c_Voter dx [("threshold", .int t), ("rate", .int r)]) e5)
  refine q_fld (y := .int ms) (fs' := [("threshold", .int t), ("rate", .int r), ("misses", .int ms)]) (ev_var rfl) (ev_var rfl) upd_same T.cl_Voter T.na_Voter_misses (by show 2 < 1000; decide) rfl fun H6 e6 => ?_
  have b6 := b5.trans (But.upd (o := .ins A.c_Voter dx [("threshold", .int t), ("rate", .int r), ("misses", .int ms)]) e6)
  refine q_fld (y := .int b) (fs' := [("threshold", .int t), ("rate", .int r), ("misses", .int ms), ("backs", .int b)]) (ev_var rfl) (ev_var rfl) upd_same T.cl_Voter T.na_Voter_backs (by show 3 < 1000; decide) rfl fun H7 e7 => ?_
  have b7 := b6.trans (But.upd (o := .ins A.c_Voter dx [("threshold", .int t), ("rate", .int r), ("misses", .int ms), ("backs", .int b)]) e7)
  have hp7 : (upd H7 p (.ins A.c_Voter dx [("threshold", .int t), ("rate", .int r), ("misses", .int ms), ("backs", .int b)])) p = some (.ins A.c_Voter dx [("threshold", .int t), ("rate", .int r), ("misses", .int ms), ("backs", .int b)]) := upd_same
  generalize upd H7 p (.ins A.c_Voter dx [("threshold", .int t), ("rate", .int r), ("misses", .int ms), ("backs", .int b)]) = H8 at b7 hp7 ⊢
  -- the sensors
  show sFld K (tVar 0) _ "sensors" _ _ _
  refine lc_R1 (n := m) (ea_cons (ev_var rfl) ea_nil) (by omega) (fun _ => rfl) (fun i acc Dl H' => Made A H8 i acc Dl H') (fun H9 Dl e9 hD => ⟨⟨[], rfl, rfl, List.nodup_nil, by simp, by simp, by simp⟩, e9.trans (Ex.new hD), fresh_back e9 hD⟩) (fun i acc Dl H' hi hacc hDl M Q' k => ?_) (fun acc Dl H' hacc hDl M => ?_)
  · obtain ⟨⟨as, rfl, hlen, hnd, hDa, hfr, hsen⟩, hk, hnew⟩ := M
    intro x dy hx hdy hne
    refine ⟨x, dy, rfl, upd_same, fun H2 b2 h2 => ⟨rfl, ?_⟩⟩
    have old : ∀ c o, H' c = some o → H2 c = some o := fun c o hc => b2 c o (ne_of_none hc hx) (by rw [upd_ne (ne_of_none hc hx), upd_ne (ne_of_none hc hdy)]; exact hc)
    have nxD : x ≠ Dl := (ne_of_none hDl hx).symm
    have hxa : x ∉ as := fun z => by
      obtain ⟨dz, q⟩ := hsen x z
      rw [q] at hx
      cases hx
    refine k _ H2 (old _ _ hDl) ⟨⟨as ++ [x], by rw [List.map_append]; rfl, by rw [List.length_append, hlen]; rfl, ?_, ?_, ?_, ?_⟩, ?_, hnew⟩
    · exact List.nodup_append.mpr ⟨hnd, by simp, fun a ha b hb => by rw [List.mem_singleton.mp hb]; exact fun z => hxa (z ▸ ha)⟩
    · intro z
      rcases List.mem_append.mp z with z | z
      · exact hDa z
      · exact nxD (List.mem_singleton.mp z).symm
    · intro s hs
      rcases List.mem_append.mp hs with z | z
      · exact hfr s z
      · rw [List.mem_singleton.mp z]
        exact fresh_back hk hx
    · intro s hs
      rcases List.mem_append.mp hs with z | z
      · obtain ⟨dz, q⟩ := hsen s z
        have nsD : s ≠ Dl := fun w => hDa (w ▸ z)
        exact ⟨dz, by rw [upd_ne nsD]; exact old _ _ q⟩
      · rw [List.mem_singleton.mp z]
        exact ⟨dy, by rw [upd_ne nxD]; exact h2⟩
    · exact (hk.trans old).mut hnew
  · obtain ⟨⟨as, rfl, hlen, hnd, hDa, hfr, hsen⟩, hk, hnew⟩ := M
    refine ⟨.ref p, rfl, p, A.c_Voter, dx, _, rfl, hk _ _ hp7, T.cl_Voter, T.na_Voter_sensors, by show 4 < 1000; decide, ?_⟩
    show sFld K (tVar 0) (tVar 2) "last" _ _ _
    have ef : putF "sensors" (V.ref Dl) [(("threshold" : Str), V.int t), ("rate", .int r), ("misses", .int ms), ("backs", .int b)] = ([("threshold", .int t), ("rate", .int r), ("misses", .int ms), ("backs", .int b), ("sensors", .ref Dl)] : List (Str × V)) := rfl
    rw [ef]
    have npD : p ≠ Dl := ne_of_none hp7 hnew
    refine s_fld (y := .int st) (fs' := vfs (freshV m t r ms b st) Dl) (ev_var rfl) (ev_var rfl) upd_same T.cl_Voter T.na_Voter_last (by show 5 < 1000; decide) rfl fun H9 e9 => ?_
    have hpa : p ∉ as := fun z => by
      have := hfr p z
      rw [hp7] at this
      cases this
    refine q1 _ Dl as (b7.trans ((But.of hk).trans ((But.upd (Ex.refl H')).trans (But.upd e9)))) (fun s hs => ?_) ?_ ⟨⟨dx, upd_same⟩, ?_, ?_, by omega, hnd, hpa, fun i s hs => ?_⟩
    · have nsp : s ≠ p := fun z => hpa (z ▸ hs)
      cases z : H s with
      | none => rfl
      | some o =>
        have := b7 s o nsp z
        rw [hfr s hs] at this
        cases this
    · cases z : H Dl with
      | none => rfl
      | some o =>
        have := b7 Dl o npD.symm z
        rw [hnew] at this
        cases this
    · rw [upd_ne npD.symm]
      exact e9 _ _ (by rw [upd_ne npD.symm]; exact hDl)
    · rw [hlen]
      show m.toNat = (List.replicate m.toNat S0).length
      rw [List.length_replicate]
    · have hsm := List.mem_of_getElem? hs
      obtain ⟨dy, q⟩ := hsen s hsm
      have nsp : s ≠ p := fun z => hpa (z ▸ hsm)
      refine ⟨dy, ?_⟩
      rw [upd_ne nsp]
      refine e9 _ _ ?_
      rw [upd_ne nsp]
      show H' s = some (.ins A.c_Sensor dy (sfs ((List.replicate m.toNat S0).getD i S0).1 ((List.replicate m.toNat S0).getD i S0).2))
      rw [fresh_get]
      exact q
end
end MV
namespace MV
open PySem PySem.Spec PyProof.Rows L2 Evl MVH LamX
/-- rows of what sensors say, the rows' list at S -/
structure RowsAt (H : Hp) (S : Addr) (rows : List Addr) (valss : List (List (Option Int))) : Prop where
  at_ : H S = some (.lst (rows.map V.ref))
  len : rows.length = valss.length
  row : ∀ (i : Nat) (r : Addr) (vals : List (Option Int)), rows[i]? = some r → valss[i]? = some vals → H r = some (.lst (vals.map oV))
def sp_l_settings (K : PySem.W.Frag) (A : Ads) : Sp := fun vs H Q _ => ∃ (more : Int), vs = [.int more] ∧ ∀ (m t r ms b : Int) (p : Addr) (H' : Hp), okSet m t r ms b = true → ms ≤ 12 → b ≤ 12 → H p = none → Ex H H' → H' p = some (.tup [.int m, .int t, .int r, .int ms, .int b]) → Q (.ref p) H'
def sp_l_values (K : PySem.W.Frag) (A : Ads) : Sp := fun vs H Q _ => ∃ (a : Addr) (ns : List Int) (k : Int) (s : Addr) (m t r ms b base : Int), vs = [.ref a, .int k, .ref s, .int base] ∧ SqL K H a (ns.map V.int) ∧ ns.length ≤ 63 ∧ SqT K H s [.int m, .int t, .int r, .int ms, .int b] ∧ okSet m t r ms b = true ∧
  ∀ (vals : List (Option Int)) (p : Addr) (H' : Hp), okStep vals m = true → H p = none → Ex H H' → H' p = some (.lst (vals.map oV)) → Q (.ref p) H'
def sp_l_steps (K : PySem.W.Frag) (A : Ads) : Sp := fun vs H Q _ => ∃ (a : Addr) (ns : List Int) (s : Addr) (m t r ms b many : Int), vs = [.ref a, .ref s, .int many] ∧ SqL K H a (ns.map V.int) ∧ ns.length ≤ 63 ∧ SqT K H s [.int m, .int t, .int r, .int ms, .int b] ∧ okSet m t r ms b = true ∧ 0 ≤ many ∧ many ≤ 63 ∧
  ∀ (rows : List Addr) (valss : List (List (Option Int))) (S : Addr) (H' : Hp), (valss.length : Int) = many → (∀ vals ∈ valss, okStep vals m = true) → H S = none → (∀ r ∈ rows, H r = none) → Ex H H' → RowsAt H' S rows valss → Q (.ref S) H'
theorem len_l_settings {K : PySem.W.Frag} {A : Ads} {vs : List V} {H : Hp} {Q : VK} {E : XK} (h : sp_l_settings K A vs H Q E) : vs.length = 1 := by obtain ⟨_, rfl, _⟩ := h; rfl
theorem len_l_values {K : PySem.W.Frag} {A : Ads} {vs : List V} {H : Hp} {Q : VK} {E : XK} (h : sp_l_values K A vs H Q E) : vs.length = 4 := by obtain ⟨_, _, _, _, _, _, _, _, _, _, rfl, _⟩ := h; rfl
theorem len_l_steps {K : PySem.W.Frag} {A : Ads} {vs : List V} {H : Hp} {Q : VK} {E : XK} (h : sp_l_steps K A vs H Q E) : vs.length = 3 := by obtain ⟨_, _, _, _, _, _, _, _, _, rfl, _⟩ := h; rfl
theorem sc_l_cell : FnScope ["_law_script", "_law_k"] ["_law_script", "_law_k"] (defScope s_l_cell) := ⟨rfl, rfl, rfl, by decide +kernel, rfl, by decide +kernel, by decide +kernel⟩
def t_l_cell (K : PySem.W.Frag) (A : Ads) (E : XK) : TS :=
      (tSeq (tIfS (tTest (tOp (rEqD K) (tVar 0) (tLst tNil))) (tRet (tOp oMul (tVar 1) (tC (.int 7919)))) tNext)
      (tRet (tOp oAdd (tOp (rIxL K) (tVar 0) (tOp oMod (tVar 1) (tCB (rLenS K) (tCons (tVar 0) tNil)))) (tOp oMul (tOp oDivW (tVar 1) (tCB (rLenS K) (tCons (tVar 0) tNil))) (tC (.int 104729))))))
theorem sc_l_drawn : FnScope ["_law_cell_here", "_law_k", "_law_more"] ["_law_cell_here", "_law_k"] (defScope s_l_drawn) := ⟨rfl, rfl, rfl, by decide +kernel, rfl, by decide +kernel, by decide +kernel⟩
def t_l_drawn (K : PySem.W.Frag) (A : Ads) (E : XK) : TS :=
      (tSeq (tAsg (tOp oMod (tOp oAdd (tOp oMul (tVar 0) (tC (.int 6364136223846793005))) (tOp oMul (tOp oAdd (tVar 1) (tC (.int 1))) (tC (.int 1442695040888963407)))) (tC (.int 340282366920938463463374607431768211507))) (gName 2))
      (tRet (tOp oMod (tOp oMulW (tVar 2) (tVar 2)) (tC (.int 340282366920938463463374607431768211297)))))
theorem sc_l_settings : FnScope ["_law_more", "_law_threshold", "_law_rate", "_law_misses", "_law_backs"] ["_law_more"] (defScope s_l_settings) := ⟨rfl, rfl, rfl, by decide +kernel, rfl, by decide +kernel, by decide +kernel⟩
def t_l_settings (K : PySem.W.Frag) (A : Ads) (E : XK) : TS :=
      (tSeq (tAsg (tOp (rIxL K) (tLst (tCons (tC (.int 0)) (tCons (tC (.int 1)) (tCons (tC (.int 5)) (tCons (tC (.int 50)) (tCons (tC (.int 1000000)) (tCons (tOp oMod (tOp oDivW (tVar 0) (tC (.int 8))) (tC (.int 1000))) tNil))))))) (tOp oMod (tVar 0) (tC (.int 6)))) (gName 1))
      (tSeq (tAsg (tOp (rIxL K) (tLst (tCons (tC (.int 1)) (tCons (tC (.int 1000000)) (tCons (tC (.int 7)) (tCons (tOp oAdd (tC (.int 1)) (tOp oMod (tOp oDivW (tVar 0) (tOp oPow (tC (.int 2)) (tC (.int 14)))) (tC (.int 1000)))) tNil))))) (tOp oMod (tOp oDivW (tVar 0) (tOp oPow (tC (.int 2)) (tC (.int 12)))) (tC (.int 4)))) (gName 2))
      (tSeq (tAsg (tOp (rIxL K) (tLst (tCons (tC (.int 1)) (tCons (tC (.int 2)) (tCons (tC (.int 3)) (tCons (tOp oAdd (tC (.int 1)) (tOp oMod (tOp oDivW (tVar 0) (tOp oPow (tC (.int 2)) (tC (.int 28)))) (tC (.int 12)))) tNil))))) (tOp oMod (tOp oDivW (tVar 0) (tOp oPow (tC (.int 2)) (tC (.int 26)))) (tC (.int 4)))) (gName 3))
      (tSeq (tAsg (tOp (rIxL K) (tLst (tCons (tC (.int 1)) (tCons (tC (.int 2)) (tCons (tC (.int 3)) (tCons (tOp oAdd (tC (.int 1)) (tOp oMod (tOp oDivW (tVar 0) (tOp oPow (tC (.int 2)) (tC (.int 36)))) (tC (.int 12)))) tNil))))) (tOp oMod (tOp oDivW (tVar 0) (tOp oPow (tC (.int 2)) (tC (.int 34)))) (tC (.int 4)))) (gName 4))
      (tRet (tTup (tCons (tOp oAdd (tC (.int 3)) (tOp oMod (tOp oDivW (tVar 0) (tOp oPow (tC (.int 2)) (tC (.int 44)))) (tC (.int 7)))) (tCons (tVar 1) (tCons (tVar 2) (tCons (tVar 3) (tCons (tVar 4) tNil)))))))))))
theorem sc_l_values : FnScope ["_law_script", "_law_k", "_law_settings_here", "_law_base", "_law_values_here", "_law_threshold", "_law_j", "_law_more", "_law_way", "_law_value"] ["_law_script", "_law_k", "_law_settings_here", "_law_base"] (defScope s_l_values) := ⟨rfl, rfl, rfl, by decide +kernel, rfl, by decide +kernel, by decide +kernel⟩
def t_l_values (K : PySem.W.Frag) (A : Ads) (E : XK) : TS :=
      (tSeq (tAsg (tLst tNil) (gName 4))
      (tSeq (tAsg (tOp (rIxT K) (tVar 2) (tC (.int 1))) (gName 5))
      (tSeq (tFor (iRng1 (tCons (tOp (rIxT K) (tVar 2) (tC (.int 0))) tNil)) (gName 6) (tSeq (tAsg (tCall (sp_l_drawn K A) [] E0 (tCons (tCall (sp_l_cell K A) [] E0 (tCons (tVar 0) (tCons (tVar 1) tNil))) (tCons (tOp oAdd (tOp oAdd (tOp oMul (tC (.int 11)) (tVar 1)) (tVar 6)) (tC (.int 50))) tNil))) (gName 7))
      (tSeq (tAsg (tOp (rIxL K) (tLst (tCons (tOp oMod (tOp oDivW (tVar 7) (tC (.int 4096))) (tC (.int 16))) (tCons (tOp oMod (tOp oAdd (tOp oMul (tVar 6) (tC (.int 5))) (tCall (sp_l_drawn K A) [] E0 (tCons (tCall (sp_l_cell K A) [] E0 (tCons (tVar 0) (tCons (tC (.int 0)) tNil))) (tCons (tC (.int 8)) tNil)))) (tC (.int 16))) tNil))) (tOp oMod (tVar 7) (tC (.int 2)))) (gName 8))
      (tSeq (tAsg (tOp oDivW (tVar 7) (tOp oPow (tC (.int 2)) (tC (.int 16)))) (gName 7))
      (tIfS (tTest (tOp oLt (tVar 8) (tC (.int 9)))) (tDrop (tBM K "list" rAppend (tVar 4) (tCons (tOp oAdd (tVar 3) (tOp (rIxL K) (tLst (tCons (tC (.int 0)) (tCons (tOp oSub (tOp oMod (tVar 7) (tC (.int 3))) (tC (.int 1))) (tCons (tOp oSub (tOp oSub (tOp oMod (tVar 7) (tOp oAdd (tOp oMul (tC (.int 2)) (tVar 5)) (tC (.int 3)))) (tVar 5)) (tC (.int 1))) tNil)))) (tOp oMod (tOp oDivW (tVar 7) (tOp oPow (tC (.int 2)) (tC (.int 30)))) (tC (.int 3))))) tNil))) (tIfS (tTest (tOp oLt (tVar 8) (tC (.int 13)))) (tDrop (tBM K "list" rAppend (tVar 4) (tCons (tOp oAdd (tVar 3) (tOp oMul (tOp oSub (tOp oMod (tVar 7) (tC (.int 7))) (tC (.int 3))) (tOp oAdd (tVar 5) (tOp oMod (tOp oDivW (tVar 7) (tC (.int 8))) (tC (.int 2)))))) tNil))) (tIfS (tTest (tOp rEq (tVar 8) (tC (.int 13)))) (tDrop (tBM K "list" rAppend (tVar 4) (tCons (tOp (rIxL K) (tLst (tCons (tC (.int 1000000000)) (tCons (tUn oNeg (tC (.int 1000000000))) (tCons (tOp oSub (tOp oMod (tVar 7) (tC (.int 2000000001))) (tC (.int 1000000000))) tNil)))) (tOp oMod (tOp oDivW (tVar 7) (tOp oPow (tC (.int 2)) (tC (.int 40)))) (tC (.int 3)))) tNil))) (tDrop (tBM K "list" rAppend (tVar 4) (tCons (tC .non) tNil))))))))))
      (tRet (tLc (iList K (tVar 4)) (gName 9) tYes (tIf (tTest (tOp oIsN (tVar 9) (tC .non))) (tC .non) (tCB rMax2 (tCons (tUn oNeg (tOp oPow (tC (.int 10)) (tC (.int 9)))) (tCons (tCB rMin2 (tCons (tOp oPow (tC (.int 10)) (tC (.int 9))) (tCons (tVar 9) tNil))) tNil)))) [9])))))
theorem sc_l_steps : FnScope ["_law_script", "_law_settings_here", "_law_many", "_law_base", "_law_steps_here", "_law_k", "_law_more"] ["_law_script", "_law_settings_here", "_law_many"] (defScope s_l_steps) := ⟨rfl, rfl, rfl, by decide +kernel, rfl, by decide +kernel, by decide +kernel⟩
def t_l_steps (K : PySem.W.Frag) (A : Ads) (E : XK) : TS :=
      (tSeq (tAsg (tOp oSub (tOp oMod (tCall (sp_l_drawn K A) [] E0 (tCons (tCall (sp_l_cell K A) [] E0 (tCons (tVar 0) (tCons (tC (.int 1)) tNil))) (tCons (tC (.int 9)) tNil))) (tC (.int 2001))) (tC (.int 1000))) (gName 3))
      (tSeq (tAsg (tLst tNil) (gName 4))
      (tSeq (tFor (iRng1 (tCons (tVar 2) tNil)) (gName 5) (tSeq (tAsg (tCall (sp_l_drawn K A) [] E0 (tCons (tCall (sp_l_cell K A) [] E0 (tCons (tVar 0) (tCons (tVar 5) tNil))) (tCons (tOp oAdd (tVar 5) (tC (.int 30))) tNil))) (gName 6))
      (tSeq (tAsg (tOp oAdd (tVar 3) (tOp (rIxL K) (tLst (tCons (tC (.int 0)) (tCons (tC (.int 0)) (tCons (tOp oSub (tOp oMod (tOp oDivW (tVar 6) (tC (.int 8))) (tC (.int 5))) (tC (.int 2))) (tCons (tOp oSub (tOp oMod (tOp oDivW (tVar 6) (tC (.int 8))) (tC (.int 200))) (tC (.int 100))) tNil))))) (tOp oMod (tVar 6) (tC (.int 4))))) (gName 3))
      (tDrop (tBM K "list" rAppend (tVar 4) (tCons (tCall (sp_l_values K A) [] E0 (tCons (tVar 0) (tCons (tVar 5) (tCons (tVar 1) (tCons (tVar 3) tNil))))) tNil))))))
      (tRet (tVar 4)))))
end MV
namespace MV
open PySem PySem.Spec PyProof.Rows L2 Evl
section
variable {K : PySem.W.Frag} {mg : Str → Option Value} {A : Ads}
theorem pure_l_cell (T : Txt K mg A) (vs : List V) (H : Hp) (Q : VK) (E : XK) (h : sp_l_cell K A vs H Q E) : t_l_cell K A E { nx := fun _ H' => Q .non H', rt := Q } (start ["_law_script", "_law_k"] vs) H := by
  obtain ⟨a, ns, k, rfl, hS, hl, q⟩ := h
  show t_l_cell K A E _ [some (.ref a), some (.int k)] H
  refine q_when (et_test (ev_eqNil (ev_var rfl) hS (ints_flat ns))) (fun hb H1 e1 => ?_) (fun hb H1 e1 => ?_)
  · have e0 : ns = [] := by simpa using hb
    refine s_ret (v := .int (cell ns k)) ?_ fun H2 e2 => q H2 (e1.trans e2)
    have e : cell ns k = k * 7919 := by unfold cell; rw [if_pos e0]
    rw [e]
    walk_at "ev"
  · have e0 : ns ≠ [] := by simpa using hb
    have hS1 := ex_l e1 hS
    have hp : 0 < ns.length := List.length_pos_iff.mpr e0
    have hm : (ns.map V.int).length = ns.length := List.length_map ..
    refine s_ret (v := .int (cell ns k)) ?_ fun H2 e2 => q H2 (e1.trans e2)
    have e : cell ns k = ns.getD (k % ((ns.map V.int).length : Int)).toNat 0 + k / ((ns.map V.int).length : Int) * 104729 := by unfold cell; rw [if_neg e0, hm]
    rw [e]
    have z0 := Int.emod_nonneg k (show ((ns.map V.int).length : Int) ≠ 0 by omega)
    have z1 := Int.emod_lt_of_pos k (show (0 : Int) < ((ns.map V.int).length : Int) by omega)
    walk_at "ev"
theorem pure_l_drawn (T : Txt K mg A) (vs : List V) (H : Hp) (Q : VK) (E : XK) (h : sp_l_drawn K A vs H Q E) : t_l_drawn K A E { nx := fun _ H' => Q .non H', rt := Q } (start ["_law_cell_here", "_law_k", "_law_more"] vs) H := by
  obtain ⟨c, k, rfl, q⟩ := h
  show t_l_drawn K A E _ [some (.int c), some (.int k), none] H
  refine q_asg (v := .int ((c * 6364136223846793005 + (k + 1) * 1442695040888963407) % 340282366920938463463374607431768211507)) ?_ fun H1 e1 => ?_
  · walk_at "ev"
  · refine s_ret (v := .int (drawn c k)) ?_ fun H2 e2 => q H2 (e1.trans e2)
    have h0 := Int.emod_nonneg (c * 6364136223846793005 + (k + 1) * 1442695040888963407) (show (340282366920938463463374607431768211507 : Int) ≠ 0 by decide)
    have h1 := Int.emod_lt_of_pos (c * 6364136223846793005 + (k + 1) * 1442695040888963407) (show (0 : Int) < 340282366920938463463374607431768211507 by decide)
    have hb : ((c * 6364136223846793005 + (k + 1) * 1442695040888963407) % 340282366920938463463374607431768211507).natAbs < 2 ^ 200 := Nat.lt_trans (m := 340282366920938463463374607431768211507) (by omega) (by decide)
    unfold drawn
    walk_at "ev"
    exact wide_mul hb hb (by decide) (by decide) (by decide)
end
end MV
namespace MV
open PySem PySem.Spec PyProof.Rows L2 Evl
section
variable {K : PySem.W.Frag} {A : Ads} {H : Hp} {a : Addr} {ns : List Int} {c k : Int}
theorem spv_cell (hS : SqL K H a (ns.map V.int)) (hl : ns.length ≤ 63) : SpV (sp_l_cell K A) [.ref a, .int k] H (.int (cell ns k)) := fun H1 e Q q E => ⟨a, ns, k, rfl, ex_l e hS, hl, q⟩
theorem spv_drawn : SpV (sp_l_drawn K A) [.int c, .int k] H (.int (drawn c k)) := fun H1 e Q q E => ⟨c, k, rfl, q⟩
end
end MV
local macro_rules | `(tactic| walk_at "ev1") => `(tactic| (first | with_reducible exact MV.spv_drawn | with_reducible exact MV.spv_cell (by assumption) (by assumption)))
namespace MV
open PySem PySem.Spec PyProof.Rows L2 Evl
section
variable {K : PySem.W.Frag} {mg : Str → Option Value} {A : Ads}
theorem getD_all {l : List Int} {i : Int} {P : Int → Prop} (h : ∀ x ∈ l, P x) (h0 : 0 ≤ i) (h1 : i < (l.length : Int)) : P (l.getD i.toNat 0) := by
  have hk : i.toNat < l.length := by omega
  rw [List.getD_eq_getElem?_getD, List.getElem?_eq_getElem hk]
  exact h _ (List.getElem_mem hk)
theorem all4 {P : Int → Prop} {a b c d : Int} (h1 : P a) (h2 : P b) (h3 : P c) (h4 : P d) : ∀ x ∈ toInts [.int a, .int b, .int c, .int d], P x := by
  intro x hx
  have hx : x ∈ [a, b, c, d] := hx
  simp only [List.mem_cons, List.not_mem_nil, or_false] at hx
  rcases hx with rfl | rfl | rfl | rfl <;> assumption
theorem all6 {P : Int → Prop} {a b c d e f : Int} (h1 : P a) (h2 : P b) (h3 : P c) (h4 : P d) (h5 : P e) (h6 : P f) : ∀ x ∈ toInts [.int a, .int b, .int c, .int d, .int e, .int f], P x := by
  intro x hx
  have hx : x ∈ [a, b, c, d, e, f] := hx
  simp only [List.mem_cons, List.not_mem_nil, or_false] at hx
  rcases hx with rfl | rfl | rfl | rfl | rfl | rfl <;> assumption
abbrev Btw (lo hi : Int) (v : V) : Prop := ∃ i : Int, v = .int i ∧ lo ≤ i ∧ i ≤ hi
theorem pure_l_settings (T : Txt K mg A) (vs : List V) (H : Hp) (Q : VK) (E : XK) (h : sp_l_settings K A vs H Q E) : t_l_settings K A E { nx := fun _ H' => Q .non H', rt := Q } (start ["_law_more", "_law_threshold", "_law_rate", "_law_misses", "_law_backs"] vs) H := by
  obtain ⟨more, rfl, q⟩ := h
  show t_l_settings K A E _ [some (.int more), none, none, none, none] H
  refine q_asgX (P := Btw 0 1000000) ⟨_, (by walk_at "ev"), _, rfl, getD_all (P := fun i => 0 ≤ i ∧ i ≤ 1000000) (all6 (by omega) (by omega) (by omega) (by omega) (by omega) (by omega)) (by omega) (by show _ < (6 : Int); omega)⟩ fun v H1 ⟨t, et, t0, t1⟩ e1 => ?_
  subst et
  refine q_asgX (P := Btw 1 1000000) ⟨_, (by walk_at "ev"), _, rfl, getD_all (P := fun i => 1 ≤ i ∧ i ≤ 1000000) (all4 (by omega) (by omega) (by omega) (by omega)) (by omega) (by show _ < (4 : Int); omega)⟩ fun v H2 ⟨r, er, r0, r1⟩ e2 => ?_
  subst er
  refine q_asgX (P := Btw 1 12) ⟨_, (by walk_at "ev"), _, rfl, getD_all (P := fun i => 1 ≤ i ∧ i ≤ 12) (all4 (by omega) (by omega) (by omega) (by omega)) (by omega) (by show _ < (4 : Int); omega)⟩ fun v H3 ⟨ms, em, m0, m1⟩ e3 => ?_
  subst em
  refine q_asgX (P := Btw 1 12) ⟨_, (by walk_at "ev"), _, rfl, getD_all (P := fun i => 1 ≤ i ∧ i ≤ 12) (all4 (by omega) (by omega) (by omega) (by omega)) (by omega) (by show _ < (4 : Int); omega)⟩ fun v H4 ⟨b, eb, b0, b1⟩ e4 => ?_
  subst eb
  refine s_retU (eu_tup (vs := [.int (3 + more / 2 ^ (44 : Int).toNat % 7), .int t, .int r, .int ms, .int b]) (by walk_at "ev") (by show 5 ≤ 100000; decide)) fun p H5 np e5 h5 => ?_
  have e15 := (((e1.trans e2).trans e3).trans e4)
  refine q _ t r ms b p H5 ?_ m1 b1 (fresh_back e15 np) (e15.trans e5) h5
  unfold okSet
  simp only [Bool.and_eq_true, decide_eq_true_eq]
  omega
def clampV : Option Int → Option Int
  | none => none
  | some i => some (if (if i < 10 ^ (9 : Int).toNat then i else 10 ^ (9 : Int).toNat) > -(10 ^ (9 : Int).toNat) then (if i < 10 ^ (9 : Int).toNat then i else 10 ^ (9 : Int).toNat) else -(10 ^ (9 : Int).toNat))
theorem clampV_ok (x : Option Int) : okOne (clampV x) = true := by
  cases x with
  | none => rfl
  | some i =>
    show decide (ab _ ≤ 1000000000) = true
    rw [show (10 : Int) ^ (9 : Int).toNat = 1000000000 by decide]
    unfold ab
    rw [decide_eq_true_eq]
    (repeat' split) <;> omega
def clampG : V → V
  | .int i => oV (clampV (some i))
  | _ => .non
theorem clamp_map : ∀ ws : List (Option Int), ((ws.map oV).filter fun _ => true).map clampG = (ws.map clampV).map oV
  | [] => rfl
  | none :: r => congrArg (V.non :: ·) (clamp_map r)
  | some i :: r => congrArg (oV (clampV (some i)) :: ·) (clamp_map r)
theorem okSet_m {m t r ms b : Int} (h : okSet m t r ms b = true) : (3 ≤ m ∧ m ≤ 9) ∧ (0 ≤ t ∧ t ≤ 1000000) ∧ (1 ≤ r ∧ r ≤ 1000000) ∧ (1 ≤ ms ∧ ms ≤ 1000) ∧ 1 ≤ b ∧ b ≤ 1000 := by
  unfold okSet at h
  simpa only [Bool.and_eq_true, decide_eq_true_eq] using h
abbrev IsO (v : V) : Prop := ∃ x : Option Int, v = oV x
theorem isO_of {v : V} (h : IsI v) : IsO v := let ⟨i, e⟩ := h; ⟨some i, e⟩
theorem pure_l_values (T : Txt K mg A) (vs : List V) (H : Hp) (Q : VK) (E : XK) (h : sp_l_values K A vs H Q E) : t_l_values K A E { nx := fun _ H' => Q .non H', rt := Q } (start ["_law_script", "_law_k", "_law_settings_here", "_law_base", "_law_values_here", "_law_threshold", "_law_j", "_law_more", "_law_way", "_law_value"] vs) H := by
  obtain ⟨a, ns, k, s, m, t, r, ms, b, base, rfl, hS, hl, hT, hok, q⟩ := h
  show t_l_values K A E _ [some (.ref a), some (.int k), some (.ref s), some (.int base), none, none, none, none, none, none] H
  obtain ⟨hm, ht, _⟩ := okSet_m hok
  refine q_asgL (el_lst ea_nil (by decide)) fun p H1 np e1 h1 => ?_
  have hT1 := ex_t e1 hT
  refine q_asg (v := .int t) (ev_op (ev_var rfl) ev_c (rv_ixT hT1 (atI_nat (j := 1) rfl))) fun H2 e2 => ?_
  have hT2 := ex_t e2 hT1
  refine q_forR1 (n := m) (ea_cons (ev_op (ev_var rfl) ev_c (rv_ixT hT2 (atI_nat (j := 0) rfl))) ea_nil) (by omega)
    (fun i σ H' => ∃ (y6 y7 y8 : Option V) (ws : List (Option Int)), σ = [some (.ref a), some (.int k), some (.ref s), some (.int base), some (.ref p), some (.int t), y6, y7, y8, none] ∧ Ex H H' ∧ H' p = some (.lst (ws.map oV)) ∧ ws.length = i)
    (fun H3 e3 => ⟨none, none, none, [], rfl, (e1.trans e2).trans e3, (e2.trans e3) p _ h1, rfl⟩) (fun i σ H3 hi ⟨y6, y7, y8, ws, es, e3, h3, hw⟩ => ?_) (fun σ H3 ⟨y6, y7, y8, ws, es, e3, h3, hw⟩ => ?_)
  · subst es
    have hS3 := ex_l e3 hS
    refine q_asg (v := .int (drawn (cell ns k) (11 * k + (i : Int) + 50))) (by walk_at "ev") fun H4 e4 => ?_
    generalize drawn (cell ns k) (11 * k + (i : Int) + 50) = more
    have hS4 := ex_l e4 hS3
    refine q_asgX (P := IsI) ⟨_, (by walk_at "ev"), _, rfl⟩ fun v H5 ⟨way, ew⟩ e5 => ?_
    subst ew
    refine q_asgX (P := IsI) ⟨_, (by walk_at "ev"), _, rfl⟩ fun v H6 ⟨mo, em⟩ e6 => ?_
    subst em
    have e36 := (e4.trans e5).trans e6
    have fin : ∀ (v : V) (H7 : Hp) (y6 y7 y8 : Option V), IsO v → Ex H6 H7 → ∃ (z6 z7 z8 : Option V) (ws' : List (Option Int)), [some (V.ref a), some (.int k), some (.ref s), some (.int base), some (.ref p), some (.int t), y6, y7, y8, none] = [some (V.ref a), some (.int k), some (.ref s), some (.int base), some (.ref p), some (.int t), z6, z7, z8, none] ∧ Ex H (upd H7 p (.lst (ws.map oV ++ [v]))) ∧ (upd H7 p (.lst (ws.map oV ++ [v]))) p = some (.lst (ws'.map oV)) ∧ ws'.length = i + 1 := by
      rintro v H7 y6 y7 y8 ⟨x, rfl⟩ e7
      exact ⟨_, _, _, ws ++ [x], rfl, exGrow e3 (e36.trans e7) np, by rw [upd_same, List.map_append]; rfl, by rw [List.length_append, hw]; rfl⟩
    have h6 := e36 p _ h3
    have hz : (ws.map oV).length < 100000 := by rw [List.length_map]; omega
    refine s_if (b := decide (way < 9)) (by walk_at "ev") (fun _ H7 e7 => ?_) (fun _ H7 e7 => ?_)
    · refine s_appX (P := IsI) (e7 p _ h6) (ev_var rfl) ⟨_, (by walk_at "ev"), _, rfl⟩ hz fun v H8 hv e8 => fin v H8 _ _ _ (isO_of hv) (e7.trans e8)
    · refine s_if (b := decide (way < 13)) (by walk_at "ev") (fun _ H8 e8 => ?_) (fun _ H8 e8 => ?_)
      · refine s_appX (P := IsI) ((e7.trans e8) p _ h6) (ev_var rfl) ⟨_, (by walk_at "ev"), _, rfl⟩ hz fun v H9 hv e9 => fin v H9 _ _ _ (isO_of hv) ((e7.trans e8).trans e9)
      · refine s_if (b := decide (way = 13)) (by walk_at "ev") (fun _ H9 e9 => ?_) (fun _ H9 e9 => ?_)
        · refine s_appX (P := IsI) (((e7.trans e8).trans e9) p _ h6) (ev_var rfl) ⟨_, (by walk_at "ev"), _, rfl⟩ hz fun v H10 hv e10 => fin v H10 _ _ _ (isO_of hv) (((e7.trans e8).trans e9).trans e10)
        · exact s_appX (P := IsO) (((e7.trans e8).trans e9) p _ h6) (ev_var rfl) ⟨.non, ev_c, none, rfl⟩ hz fun v H10 hv e10 => fin v H10 _ _ _ hv (((e7.trans e8).trans e9).trans e10)
  · subst es
    have hW : SqL K H3 p (ws.map oV) := sq_of h3
    refine s_retL (xs := (ws.map clampV).map oV) (el_is (el_lcM (fun _ => true) clampG (ev_var rfl) hW (by rw [List.length_map]; omega) (fun _ => rfl) (fun x H4 e4 _ => fun H5 _ Q' q' => q' H5 (Ex.refl H5)) (fun x H4 e4 hx _ => ?_)) (clamp_map ws)) fun pp H4 np4 e4 h4 => ?_
    · obtain ⟨y, _, rfl⟩ := List.mem_map.mp hx
      cases y with
      | none => exact ev_if (b := true) (et_is (by walk_at "ev") (by rfl)) (fun _ => ev_c) (fun z => nomatch z)
      | some i =>
        refine ev_if (b := false) (et_is (by walk_at "ev") (by rfl)) (fun z => nomatch z) (fun _ => ?_)
        show Ev _ [some (.ref a), some (.int k), some (.ref s), some (.int base), some (.ref p), some (.int t), y6, y7, y8, some (.int i)] H4 (.int (if (if i < 10 ^ (9 : Int).toNat then i else 10 ^ (9 : Int).toNat) > -(10 ^ (9 : Int).toNat) then (if i < 10 ^ (9 : Int).toNat then i else 10 ^ (9 : Int).toNat) else -(10 ^ (9 : Int).toNat)))
        walk_at "ev"
    · refine q (ws.map clampV) pp H4 ?_ (fresh_back e3 np4) (e3.trans e4) h4
      unfold okStep
      rw [List.length_map, Bool.and_eq_true, decide_eq_true_eq, List.all_eq_true]
      refine ⟨by omega, fun x hx => ?_⟩
      obtain ⟨y, _, rfl⟩ := List.mem_map.mp hx
      exact clampV_ok y
theorem pure_l_steps (T : Txt K mg A) (vs : List V) (H : Hp) (Q : VK) (E : XK) (h : sp_l_steps K A vs H Q E) : t_l_steps K A E { nx := fun _ H' => Q .non H', rt := Q } (start ["_law_script", "_law_settings_here", "_law_many", "_law_base", "_law_steps_here", "_law_k", "_law_more"] vs) H := by
  obtain ⟨a, ns, s, m, t, r, ms, b, many, rfl, hS, hl, hT, hok, hn0, hn1, q⟩ := h
  show t_l_steps K A E _ [some (.ref a), some (.ref s), some (.int many), none, none, none, none] H
  refine q_asgX (P := IsI) ⟨_, (by walk_at "ev"), _, rfl⟩ fun v H1 ⟨base, eb⟩ e1 => ?_
  subst eb
  refine q_asgL (el_lst ea_nil (by decide)) fun p H2 np e2 h2 => ?_
  have np0 := fresh_back e1 np
  refine q_forR1 (n := many) (by walk_at "ev") (by omega)
    (fun i σ H' => ∃ (y5 y6 : Option V) (base : Int) (rows : List Addr) (valss : List (List (Option Int))), σ = [some (.ref a), some (.ref s), some (.int many), some (.int base), some (.ref p), y5, y6] ∧ Ex H H' ∧ RowsAt H' p rows valss ∧ valss.length = i ∧ (∀ vals ∈ valss, okStep vals m = true) ∧ ∀ r ∈ rows, H r = none)
    (fun H3 e3 => ⟨none, none, base, [], [], rfl, (e1.trans e2).trans e3, ⟨e3 p _ h2, rfl, by simp⟩, rfl, by simp, by simp⟩) (fun i σ H3 hi ⟨y5, y6, base, rows, valss, es, e3, hr, hlen, hv, hf⟩ => ?_) (fun σ H3 ⟨y5, y6, base, rows, valss, es, e3, hr, hlen, hv, hf⟩ => ?_)
  · subst es
    have hS3 := ex_l e3 hS
    refine q_asg (v := .int (drawn (cell ns (i : Int)) ((i : Int) + 30))) (by walk_at "ev") fun H4 e4 => ?_
    generalize drawn (cell ns (i : Int)) ((i : Int) + 30) = more
    refine q_asgX (P := IsI) ⟨_, (by walk_at "ev"), _, rfl⟩ fun v H5 ⟨base2, eb⟩ e5 => ?_
    subst eb
    have hS5 := ex_l (e4.trans e5) hS3
    have hT5 := ex_t ((e3.trans e4).trans e5) hT
    have e35 := e4.trans e5
    refine s_appLP (P := fun xs => ∃ vals : List (Option Int), xs = vals.map oV ∧ okStep vals m = true) (e35 p _ hr.at_) (ev_var rfl) (elp_call0 (vs := [.ref a, .int (i : Int), .ref s, .int base2]) (by walk_at "ev") fun H6 e6 Q' q' E' => ⟨a, ns, _, s, m, t, r, ms, b, base2, rfl, ex_l e6 hS5, hl, ex_t e6 hT5, hok, fun vals pv H7 okv npv e7 h7 => q' _ pv H7 ⟨vals, rfl, okv⟩ npv e7 h7⟩) (by rw [List.length_map, hr.len]; omega) fun ys pv H8 ⟨vals, ey, okv⟩ npv e8 h8 => ?_
    subst ey
    have e38 : Ex H3 H8 := e35.trans e8
    have npp : pv ≠ p := (ne_of_none (e35 p _ hr.at_) npv).symm
    refine ⟨_, _, base2, rows ++ [pv], valss ++ [vals], rfl, (e3.trans e38).mut np0, ⟨by rw [upd_same, List.map_append]; rfl, by rw [List.length_append, List.length_append, hr.len]; rfl, fun j r' vals' h1' h2' => ?_⟩, by rw [List.length_append, hlen]; rfl, ?_, ?_⟩
    · by_cases hj : j < rows.length
      · rw [List.getElem?_append_left hj] at h1'
        rw [List.getElem?_append_left (by rw [← hr.len]; exact hj)] at h2'
        have hrow := hr.row j r' vals' h1' h2'
        have hne : r' ≠ p := fun z => by
          have := hf r' (List.mem_of_getElem? h1')
          have h3p := hr.at_
          subst z
          rw [hrow] at h3p
          have e9 : vals'.map oV = rows.map V.ref := by injection (Option.some.inj h3p)
          cases vals' with
          | nil =>
            cases rows with
            | nil => simp at hj
            | cons _ _ => cases e9
          | cons x _ =>
            cases rows with
            | nil => simp at hj
            | cons _ _ =>
              injection e9 with e9 _
              cases x <;> cases e9
        rw [upd_ne hne]
        exact e38 _ _ hrow
      · have hj2 : j = rows.length := by
          have := (List.getElem?_eq_some_iff.mp h1').1
          rw [List.length_append, List.length_singleton] at this
          omega
        subst hj2
        rw [List.getElem?_append_right (Nat.le_refl _), Nat.sub_self] at h1'
        rw [hr.len, List.getElem?_append_right (Nat.le_refl _), Nat.sub_self] at h2'
        have e1' : pv = r' := Option.some.inj h1'
        have e2' : vals = vals' := Option.some.inj h2'
        subst e1'
        subst e2'
        rw [upd_ne npp]
        exact h8
    · intro v hv'
      rcases List.mem_append.mp hv' with z | z
      · exact hv v z
      · rw [List.mem_singleton.mp z]; exact okv
    · intro r' hr'
      rcases List.mem_append.mp hr' with z | z
      · exact hf r' z
      · rw [List.mem_singleton.mp z]; exact fresh_back (e3.trans e35) npv
  · subst es
    exact s_ret (v := .ref p) (ev_var rfl) fun H4 e4 => q rows valss p H4 (by omega) hv np0 hf (e3.trans e4) ⟨e4 p _ hr.at_, hr.len, fun j r' vals' h1' h2' => e4 _ _ (hr.row j r' vals' h1' h2')⟩
end
end MV
namespace MV
open PySem PySem.Spec PyProof.Rows L2 Evl MVH LamX
structure Own where
  p : Addr
  l : Addr
  as : List Addr
instance : Inhabited Own := ⟨⟨0, 0, []⟩⟩
abbrev Own.all (b : Own) : List Addr := b.p :: b.l :: b.as
/-- tuples of flat things, one behind the other -/
structure TupsAt (H : Hp) (rs : List Addr) (cs : List (List V)) : Prop where
  len : rs.length = cs.length
  row : ∀ (i : Nat) (r : Addr) (c : List V), rs[i]? = some r → cs[i]? = some c → H r = some (.tup c)
/-- what holds of a voter that has made steps -/
structure Good (v : Vst) : Prop where
  len : 3 ≤ v.ss.length ∧ v.ss.length ≤ 9
  rate : 1 ≤ v.rate
  bk : 1 ≤ v.bk
  ss : ∀ s ∈ v.ss, 0 ≤ s.2 ∧ (s.1 = true → s.2 < v.bk)
def sp_l_middle (K : PySem.W.Frag) (A : Ads) : Sp := fun vs H Q _ => ∃ (a : Addr) (t : List Int) (near : Int), vs = [.ref a, .int near] ∧ SqL K H a (t.map V.int) ∧ t ≠ [] ∧ t.length < 64 ∧ RetV (.int (mid t near)) H Q
theorem len_l_middle {K : PySem.W.Frag} {A : Ads} {vs : List V} {H : Hp} {Q : VK} {E : XK} (h : sp_l_middle K A vs H Q E) : vs.length = 2 := by obtain ⟨_, _, _, rfl, _⟩ := h; rfl
/-! ### runs -/
/-- the voter behind i steps -/
def sv (v0 : Vst) (valss : List (List (Option Int))) (i : Nat) : Vst := (valss.take i).foldl stepV v0
def dueV (k : Nat) (ss ss' : List (Bool × Int)) : List (List V) := ((List.range ss.length).filter fun (j : Nat) => !decide ((ss'.getD j S0).1 = (ss.getD j S0).1)).map fun (j : Nat) => [.int (k : Int), .int (j : Int), .bl (ss'.getD j S0).1]
def outsV (v0 : Vst) (valss : List (List (Option Int))) : Nat → List (List V)
  | 0 => []
  | i + 1 => outsV v0 valss i ++ dueV i (sv v0 valss i).ss (sv v0 valss (i + 1)).ss
def runV (v0 : Vst) (valss : List (List (Option Int))) (i : Nat) : List (List V) := (List.range i).map fun j => [.int (sv v0 valss (j + 1)).last, .str (stepW (sv v0 valss j) (valss.getD j []))]
abbrev RunsIn (K : PySem.W.Frag) (H : Hp) (vs : List V) (m t r ms b start : Int) (valss : List (List (Option Int))) : Prop := ∃ (st S : Addr) (rows : List Addr), vs = [.ref st, .int start, .ref S] ∧ SqT K H st [.int m, .int t, .int r, .int ms, .int b] ∧ RowsAt H S rows valss ∧ valss.length ≤ 1000 ∧ ∀ vals ∈ valss, vals.length ≤ 40000
abbrev Refused (A : Ads) (H : Hp) (E : XK) (m t r ms b : Int) (valss : List (List (Option Int))) : Prop := (okSet m t r ms b = false → ∀ H', Ex H H' → E (.ref A.c_BadSettings) none H') ∧ (okSet m t r ms b = true → ¬ (∀ vals ∈ valss, okStep vals m = true) → ∀ H', Ex H H' → E (.ref A.c_BadStep) none H')
def sp_fresh (K : PySem.W.Frag) (A : Ads) : Sp := fun vs H Q E => ∃ (m t r ms b start : Int) (valss : List (List (Option Int))), RunsIn K H vs m t r ms b start valss ∧ Refused A H E m t r ms b valss ∧
  (okSet m t r ms b = true → (∀ vals ∈ valss, okStep vals m = true) → ∀ (H' : Hp) (B : Own), Ex H H' → (∀ x ∈ B.all, H x = none) → VAt A H' B.p B.l B.as (freshV m t r ms b start) → Q (.ref B.p) H')
def sp_run (K : PySem.W.Frag) (A : Ads) : Sp := fun vs H Q E => ∃ (m t r ms b start : Int) (valss : List (List (Option Int))), RunsIn K H vs m t r ms b start valss ∧ Refused A H E m t r ms b valss ∧
  (okSet m t r ms b = true → (∀ vals ∈ valss, okStep vals m = true) → ∀ (H' : Hp) (q : Addr) (rs : List Addr), Ex H H' → H q = none → H' q = some (.lst (rs.map V.ref)) → TupsAt H' rs (runV (freshV m t r ms b start) valss valss.length) → Q (.ref q) H')
def sp_outs (K : PySem.W.Frag) (A : Ads) : Sp := fun vs H Q E => ∃ (m t r ms b start : Int) (valss : List (List (Option Int))), RunsIn K H vs m t r ms b start valss ∧ Refused A H E m t r ms b valss ∧
  (okSet m t r ms b = true → (∀ vals ∈ valss, okStep vals m = true) → ∀ (H' : Hp) (q : Addr) (rs : List Addr), Ex H H' → H q = none → H' q = some (.lst (rs.map V.ref)) → TupsAt H' rs (outsV (freshV m t r ms b start) valss valss.length) → Q (.ref q) H')
theorem len_fresh {K : PySem.W.Frag} {A : Ads} {vs : List V} {H : Hp} {Q : VK} {E : XK} (h : sp_fresh K A vs H Q E) : vs.length = 3 := by obtain ⟨_, _, _, _, _, _, _, ⟨_, _, _, rfl, _⟩, _⟩ := h; rfl
theorem len_run {K : PySem.W.Frag} {A : Ads} {vs : List V} {H : Hp} {Q : VK} {E : XK} (h : sp_run K A vs H Q E) : vs.length = 3 := by obtain ⟨_, _, _, _, _, _, _, ⟨_, _, _, rfl, _⟩, _⟩ := h; rfl
theorem len_outs {K : PySem.W.Frag} {A : Ads} {vs : List V} {H : Hp} {Q : VK} {E : XK} (h : sp_outs K A vs H Q E) : vs.length = 3 := by obtain ⟨_, _, _, _, _, _, _, ⟨_, _, _, rfl, _⟩, _⟩ := h; rfl
theorem sc_fresh : FnScope ["settings", "start", "steps", "voter", "values"] ["settings", "start", "steps"] (defScope s_fresh) := ⟨rfl, rfl, rfl, by decide +kernel, rfl, by decide +kernel, by decide +kernel⟩
def t_fresh (K : PySem.W.Frag) (A : Ads) (E : XK) : TS :=
      (tSeq (tAsg (tMake A.c_Voter (sp_Voter_init K A) [] E (tCons (tVar 0) (tCons (tVar 1) tNil))) (gName 3))
      (tSeq (tFor (iList K (tVar 2)) (gName 4) (tDrop (tCall (sp_need_step K A) [] E (tCons (tVar 4) (tCons (tOp (rIxT K) (tVar 0) (tC (.int 0))) tNil)))))
      (tRet (tVar 3))))
theorem sc_run : FnScope ["settings", "start", "steps", "voter", "values"] ["settings", "start", "steps"] (defScope s_run) := ⟨rfl, rfl, rfl, by decide +kernel, rfl, by decide +kernel, by decide +kernel⟩
def t_run (K : PySem.W.Frag) (A : Ads) (E : XK) : TS :=
      (tSeq (tAsg (tCall (sp_fresh K A) [] E (tCons (tVar 0) (tCons (tVar 1) (tCons (tVar 2) tNil)))) (gName 3))
      (tRet (tLc (iList K (tVar 2)) (gName 4) tYes (tMeth A.c_Voter "step" (sp_Voter_step K A) [] E0 (tVar 3) (tCons (tVar 4) tNil)) [4])))
theorem sc_outs : FnScope ["settings", "start", "steps", "voter", "found", "before", "turn", "values", "after", "place", "is_out"] ["settings", "start", "steps"] (defScope s_outs) := ⟨rfl, rfl, rfl, by decide +kernel, rfl, by decide +kernel, by decide +kernel⟩
def t_outs (K : PySem.W.Frag) (A : Ads) (E : XK) : TS :=
      (tSeq (tAsg (tCall (sp_fresh K A) [] E (tCons (tVar 0) (tCons (tVar 1) (tCons (tVar 2) tNil)))) (gName 3))
      (tSeq (tAsg (tLst tNil) (gName 4))
      (tSeq (tAsg (tOp rRep (tLst (tCons (tC (.bl false)) tNil)) (tOp (rIxT K) (tVar 0) (tC (.int 0)))) (gName 5))
      (tSeq (tFor (iEnum K (tCons (tVar 2) tNil)) (gTup K 2 (gCons (gName 6) (gCons (gName 7) gNil))) (tSeq (tDrop (tMeth A.c_Voter "step" (sp_Voter_step K A) [] E (tVar 3) (tCons (tVar 7) tNil)))
      (tSeq (tAsg (tLc (iRng1 (tCons (tOp (rIxT K) (tVar 0) (tC (.int 0))) tNil)) (gName 9) tYes (tOp rEq (tMeth A.c_Voter "state" (sp_Voter_state K A) [] E0 (tVar 3) (tCons (tVar 9) tNil)) (tC (.str "out"))) [9]) (gName 8))
      (tSeq (tFor (iEnum K (tCons (tVar 8) tNil)) (gTup K 2 (gCons (gName 9) (gCons (gName 10) gNil))) (tIfS (tTest (tOp rNe (tVar 10) (tOp (rIxL K) (tVar 5) (tVar 9)))) (tDrop (tBM K "list" rAppend (tVar 4) (tCons (tTup (tCons (tVar 6) (tCons (tVar 9) (tCons (tVar 10) tNil)))) tNil))) tNext))
      (tAsg (tVar 8) (gName 5))))))
      (tRet (tVar 4))))))
end MV
namespace MV
open PySem PySem.Spec PyProof.Rows L2 Evl
section
variable {K : PySem.W.Frag} {mg : Str → Option Value} {A : Ads} {H H' : Hp} {b : Own} {v : Vst} {σ : L2.St} {rs : List Addr} {cs : List (List V)} {p q a : Addr}
theorem VAt.old (h : VAt A H b.p b.l b.as v) : ∀ x ∈ b.all, H x ≠ none := by
  intro x hx
  rcases List.mem_cons.mp hx with z | z
  · obtain ⟨dx, q⟩ := h.own
    rw [z, q]
    exact fun w => nomatch w
  rcases List.mem_cons.mp z with z | z
  · rw [z, h.lst]
    exact fun w => nomatch w
  · obtain ⟨j, hj, e⟩ := List.mem_iff_getElem.mp z
    obtain ⟨dy, q⟩ := h.sens j x (by rw [List.getElem?_eq_getElem hj, e])
    rw [q]
    exact fun w => nomatch w
theorem VAt.not_tup (h : VAt A H b.p b.l b.as v) : ∀ x ∈ b.all, ∀ c, H x ≠ some (.tup c) := by
  intro x hx c
  rcases List.mem_cons.mp hx with z | z
  · obtain ⟨dx, q⟩ := h.own
    rw [z, q]
    exact fun w => nomatch w
  rcases List.mem_cons.mp z with z | z
  · rw [z, h.lst]
    exact fun w => nomatch w
  · obtain ⟨j, hj, e⟩ := List.mem_iff_getElem.mp z
    obtain ⟨dy, q⟩ := h.sens j x (by rw [List.getElem?_eq_getElem hj, e])
    rw [q]
    exact fun w => nomatch w
theorem VAt.keep {fp : List Addr} (h : VAt A H b.p b.l b.as v) (e : Buts fp H H') (hd : ∀ x ∈ b.all, x ∉ fp) : VAt A H' b.p b.l b.as v :=
  h.buts e (hd _ (by simp)) (hd _ (by simp)) fun s hs => hd _ (by simp [hs])
theorem own_sub {x : Addr} (h : x ∈ b.p :: b.as) : x ∈ b.all := by
  rcases List.mem_cons.mp h with z | z <;> simp [z]
theorem buts_one {x : Addr} (e : But x H H') : Buts [x] H H' := fun b o hb h => e b o (fun z => hb (by simp [z])) h
/-- what is kept but at new places is kept -/
theorem buts_ex {fp : List Addr} {H0 : Hp} (e0 : Ex H0 H) (e : Buts fp H H') (hf : ∀ x ∈ fp, H0 x = none) : Ex H0 H' := fun x o h => e x o (fun z => by rw [hf x z] at h; cases h) (e0 x o h)
theorem TupsAt.nil : TupsAt H [] [] := ⟨rfl, fun i r c h => by simp at h⟩
theorem TupsAt.ext (h : TupsAt H rs cs) (e : Ex H H') : TupsAt H' rs cs := ⟨h.len, fun i r c h1 h2 => e _ _ (h.row i r c h1 h2)⟩
theorem TupsAt.mem (h : TupsAt H rs cs) {r : Addr} (hr : r ∈ rs) : ∃ c, c ∈ cs ∧ H r = some (.tup c) := by
  obtain ⟨i, hi⟩ := List.mem_iff_getElem?.mp hr
  have hl := (List.getElem?_eq_some_iff.mp hi).1
  have hc : i < cs.length := by rw [← h.len]; exact hl
  exact ⟨_, List.getElem_mem hc, h.row i r _ hi (List.getElem?_eq_getElem hc)⟩
theorem TupsAt.keep {fp : List Addr} (h : TupsAt H rs cs) (e : Buts fp H H') (hd : ∀ x ∈ fp, ∀ c, H x ≠ some (.tup c)) : TupsAt H' rs cs := ⟨h.len, fun i r c h1 h2 => e _ _ (fun z => hd r z c (h.row i r c h1 h2)) (h.row i r c h1 h2)⟩
theorem TupsAt.upd {o : HO} {xs : List V} (h : TupsAt H rs cs) (hp : H p = some (.lst xs)) : TupsAt (upd H p o) rs cs := ⟨h.len, fun i r c h1 h2 => by
  have := h.row i r c h1 h2
  rw [upd_ne (ne_of this hp (by intro z; cases z))]
  exact this⟩
theorem TupsAt.push {r : Addr} {c : List V} (h : TupsAt H rs cs) (e : Ex H H') (hr : H' r = some (.tup c)) : TupsAt H' (rs ++ [r]) (cs ++ [c]) := by
  refine ⟨by rw [List.length_append, List.length_append, h.len]; rfl, fun i r' c' h1 h2 => ?_⟩
  by_cases hi : i < rs.length
  · rw [List.getElem?_append_left hi] at h1
    rw [List.getElem?_append_left (by rw [← h.len]; exact hi)] at h2
    exact e _ _ (h.row i r' c' h1 h2)
  · have hj : i = rs.length := by
      have := (List.getElem?_eq_some_iff.mp h1).1
      rw [List.length_append, List.length_singleton] at this
      omega
    subst hj
    rw [List.getElem?_append_right (Nat.le_refl _), Nat.sub_self] at h1
    rw [h.len, List.getElem?_append_right (Nat.le_refl _), Nat.sub_self] at h2
    have e1 : r = r' := Option.some.inj h1
    have e2 : c = c' := Option.some.inj h2
    subst e1
    subst e2
    exact hr
theorem TupsAt.app {rs' : List Addr} {cs' : List (List V)} (h : TupsAt H rs cs) (h' : TupsAt H rs' cs') : TupsAt H (rs ++ rs') (cs ++ cs') := by
  refine ⟨by rw [List.length_append, List.length_append, h.len, h'.len], fun i r c h1 h2 => ?_⟩
  by_cases hi : i < rs.length
  · rw [List.getElem?_append_left hi] at h1
    rw [List.getElem?_append_left (by rw [← h.len]; exact hi)] at h2
    exact h.row i r c h1 h2
  · rw [List.getElem?_append_right (by omega)] at h1
    rw [List.getElem?_append_right (by rw [← h.len]; omega), ← h.len] at h2
    exact h'.row _ r c h1 h2
theorem TupsAt.at (h : TupsAt H rs cs) {i : Nat} {c : List V} (hc : cs[i]? = some c) : ∃ r, rs[i]? = some r ∧ H r = some (.tup c) := by
  have hl : i < rs.length := by rw [h.len]; exact (List.getElem?_eq_some_iff.mp hc).1
  exact ⟨_, List.getElem?_eq_getElem hl, h.row i _ c (List.getElem?_eq_getElem hl) hc⟩
theorem dpAll_tups : ∀ {rs : List Addr} {cs : List (List V)}, TupsAt H rs cs → (∀ c ∈ cs, c.all flat4 = true) → DpAll K H (rs.map V.ref) (cs.map fun c => PyData.tuple (c.map vD))
  | [], [], _, _ => .nil
  | [], _ :: _, h, _ => nomatch h.len
  | _ :: _, [], h, _ => nomatch h.len
  | r :: rs, c :: cs, h, hf => .cons (.tup (st_of (h.row 0 r c rfl rfl)) (dpAll_flat (hf c (by simp)))) (dpAll_tups ⟨by have := h.len; simpa using this, fun i r' c' h1 h2 => h.row (i + 1) r' c' h1 h2⟩ fun c' hc' => hf c' (by simp [hc']))
theorem lay_tups : ∀ {cs : List (List V)}, (∀ c ∈ cs, c.all flat4 = true) → PyData.canLayAll0 (cs.map fun c => PyData.tuple (c.map vD)) = true ∧ PyData.depthAll (cs.map fun c => PyData.tuple (c.map vD)) ≤ 1
  | [], _ => ⟨by simp [PyData.canLayAll0], by simp [PyData.depthAll]⟩
  | c :: cs, h => by
    obtain ⟨h1, h2⟩ := lay_flats (h c (by simp))
    obtain ⟨h3, h4⟩ := lay_tups (cs := cs) fun c' hc' => h c' (by simp [hc'])
    refine ⟨by rw [List.map_cons, PyData.canLayAll0, PyData.canLay0, h1, h3]; rfl, ?_⟩
    rw [List.map_cons, PyData.depthAll, PyData.depth, h2]
    omega
theorem shaped_tups (h : ∀ c ∈ cs, c.all flat4 = true) : SeqAt.shaped (.list (cs.map fun c => PyData.tuple (c.map vD))) = true := by
  obtain ⟨h1, h2⟩ := lay_tups h
  show ((PyData.list _).canLay0 && decide ((PyData.list _).depth ≤ 64)) = true
  rw [PyData.canLay0, PyData.depth, h1, Bool.true_and, decide_eq_true_eq]
  omega
theorem rv_neTups {rs' : List Addr} (hp : H p = some (.lst (rs.map V.ref))) (h : TupsAt H rs cs) (hq : H q = some (.lst (rs'.map V.ref))) (h' : TupsAt H rs' cs) (hf : ∀ c ∈ cs, c.all flat4 = true) : RV (rNeD K) (.ref p) (.ref q) H (.bl false) := fun H1 e Q k => by
  refine ⟨_, _, .lst (sq_of (e _ _ hp)) (dpAll_tups (h.ext e) hf), .lst (sq_of (e _ _ hq)) (dpAll_tups (h'.ext e) hf), shaped_tups hf, shaped_tups hf, ?_⟩
  rw [PySem.SeqAt.eqv_refl _ (SeqAt.canLay_of_shaped (shaped_tups hf))]
  exact k H1 (Ex.refl H1)
/-! ### lists of what sensors say -/
theorem oV_flat (vals : List (Option Int)) : (vals.map oV).all flat4 = true := by
  rw [List.all_map, List.all_eq_true]
  intro x _
  cases x <;> rfl
theorem dpAll_rows : ∀ {rs : List Addr} {vs : List (List (Option Int))}, rs.length = vs.length → (∀ (i : Nat) (r : Addr) (c : List (Option Int)), rs[i]? = some r → vs[i]? = some c → H r = some (.lst (c.map oV))) → DpAll K H (rs.map V.ref) (vs.map fun c => PyData.list ((c.map oV).map vD))
  | [], [], _, _ => .nil
  | [], _ :: _, h, _ => nomatch h
  | _ :: _, [], h, _ => nomatch h
  | r :: rs, c :: cs, h, hf => .cons (.lst (sq_of (hf 0 r c rfl rfl)) (dpAll_flat (oV_flat c))) (dpAll_rows (by simpa using h) fun i r' c' h1 h2 => hf (i + 1) r' c' h1 h2)
theorem lay_rows : ∀ (cs : List (List (Option Int))), PyData.canLayAll0 (cs.map fun c => PyData.list ((c.map oV).map vD)) = true ∧ PyData.depthAll (cs.map fun c => PyData.list ((c.map oV).map vD)) ≤ 1
  | [] => ⟨by simp [PyData.canLayAll0], by simp [PyData.depthAll]⟩
  | c :: cs => by
    obtain ⟨h1, h2⟩ := lay_flats (oV_flat c)
    obtain ⟨h3, h4⟩ := lay_rows cs
    refine ⟨by rw [List.map_cons, PyData.canLayAll0, PyData.canLay0, h1, h3]; rfl, ?_⟩
    rw [List.map_cons, PyData.depthAll, PyData.depth, h2]
    omega
theorem shaped_rows (cs : List (List (Option Int))) : SeqAt.shaped (.list (cs.map fun c => PyData.list ((c.map oV).map vD))) = true := by
  obtain ⟨h1, h2⟩ := lay_rows cs
  show ((PyData.list _).canLay0 && decide ((PyData.list _).depth ≤ 64)) = true
  rw [PyData.canLay0, PyData.depth, h1, Bool.true_and, decide_eq_true_eq]
  omega
theorem RowsAt.ext {rows : List Addr} {valss : List (List (Option Int))} (h : RowsAt H p rows valss) (e : Ex H H') : RowsAt H' p rows valss := ⟨e _ _ h.at_, h.len, fun i r c h1 h2 => e _ _ (h.row i r c h1 h2)⟩
theorem RowsAt.keep {fp : List Addr} {rows : List Addr} {valss : List (List (Option Int))} (h : RowsAt H p rows valss) (e : Buts fp H H') (hp : p ∉ fp) (hr : ∀ r ∈ rows, r ∉ fp) : RowsAt H' p rows valss := ⟨e _ _ hp h.at_, h.len, fun i r c h1 h2 => e _ _ (hr r (List.mem_of_getElem? h1)) (h.row i r c h1 h2)⟩
theorem RowsAt.get {rows : List Addr} {valss : List (List (Option Int))} (h : RowsAt H p rows valss) {i : Nat} (hi : i < valss.length) : ∃ row vals, rows[i]? = some row ∧ valss[i]? = some vals ∧ H row = some (.lst (vals.map oV)) ∧ row ∈ rows ∧ vals ∈ valss ∧ atI (rows.map V.ref) (i : Int) = some (.ref row) := by
  have hr : i < rows.length := by rw [h.len]; exact hi
  have h1 : rows[i]? = some rows[i] := List.getElem?_eq_getElem hr
  have h2 : valss[i]? = some valss[i] := List.getElem?_eq_getElem hi
  exact ⟨_, _, h1, h2, h.row i _ _ h1 h2, List.mem_of_getElem? h1, List.mem_of_getElem? h2, atI_nat (by rw [List.getElem?_map, h1]; rfl)⟩
theorem rv_rows {rows rows' : List Addr} {valss : List (List (Option Int))} (h : RowsAt H p rows valss) (h' : RowsAt H q rows' valss) : RV (rNeD K) (.ref p) (.ref q) H (.bl false) := fun H1 e Q k => by
  refine ⟨_, _, .lst (sq_of (e _ _ h.at_)) (dpAll_rows h.len (h.ext e).row), .lst (sq_of (e _ _ h'.at_)) (dpAll_rows h'.len (h'.ext e).row), shaped_rows valss, shaped_rows valss, ?_⟩
  rw [PySem.SeqAt.eqv_refl _ (SeqAt.canLay_of_shaped (shaped_rows valss))]
  exact k H1 (Ex.refl H1)
theorem rv_eqRows {rows rows' : List Addr} {valss : List (List (Option Int))} (h : RowsAt H p rows valss) (h' : RowsAt H q rows' valss) : RV (rEqD K) (.ref p) (.ref q) H (.bl true) := fun H1 e Q k => by
  refine ⟨_, _, .lst (sq_of (e _ _ h.at_)) (dpAll_rows h.len (h.ext e).row), .lst (sq_of (e _ _ h'.at_)) (dpAll_rows h'.len (h'.ext e).row), shaped_rows valss, shaped_rows valss, ?_⟩
  rw [PySem.SeqAt.eqv_refl _ (SeqAt.canLay_of_shaped (shaped_rows valss))]
  exact k H1 (Ex.refl H1)
theorem rv_eqSame {xs : List V} (h : SqL K H p xs) (hf : xs.all flat4 = true) (h2 : SqL K H q xs) : RV (rEqD K) (.ref p) (.ref q) H (.bl true) := fun H1 e Q k => by
  refine ⟨.list (xs.map vD), .list (xs.map vD), .lst (ex_l e h) (dpAll_flat hf), .lst (ex_l e h2) (dpAll_flat hf), shaped_list hf, shaped_list hf, ?_⟩
  rw [PySem.SeqAt.eqv_refl _ (SeqAt.canLay_of_shaped (shaped_list hf))]
  exact k H1 (Ex.refl H1)
end
end MV
namespace MV
open PySem PySem.Spec PyProof.Rows L2 Evl
section
variable {K : PySem.W.Frag} {mg : Str → Option Value} {A : Ads} {H H' : Hp} {σ : L2.St} {ta tb : TE} {x : V} {k : Int}
theorem Buts.seqU {fp : List Addr} {a : Addr} {xs : List V} (e : Buts fp H H') (ha : ∀ u, H a = some u → a ∉ fp) (h : SqL K H a xs) : SqL K H' a xs := by
  rcases h with (h | ⟨o, h⟩) | h
  · exact .inl (.inl (e _ _ (ha _ h) h))
  · exact .inl (.inr ⟨o, e _ _ (ha _ h) h⟩)
  · exact .inr h
theorem Buts.tupU {fp : List Addr} {a : Addr} {xs : List V} (e : Buts fp H H') (ha : ∀ u, H a = some u → a ∉ fp) (h : SqT K H a xs) : SqT K H' a xs := by
  rcases h with (h | ⟨o, h⟩) | h
  · exact .inl (.inl (e _ _ (ha _ h) h))
  · exact .inl (.inr ⟨o, e _ _ (ha _ h) h⟩)
  · exact .inr h
/-! ### what holds of a voter's counts -/
abbrev Fine (bk : Int) (s : Bool × Int) : Prop := 0 ≤ s.2 ∧ (s.1 = true → s.2 < bk)
theorem nextS_fine {v : Vst} {any : Bool} {ss : List (Bool × Int)} {s : Bool × Int} {c : Bool} (hb : 1 ≤ v.bk) (h : Fine v.bk s) : Fine v.bk (nextS v any ss s c) := by
  unfold nextS
  split
  · rename_i ho
    have h2 := h.2 ho
    unfold nextW
    cases hx : (c && any) with
    | true =>
      simp only [if_true, Int.mul_one]
      split
      · exact ⟨Int.le_refl _, fun z => nomatch z⟩
      · exact ⟨by have := h.1; show 0 ≤ s.2 + 1; omega, fun _ => by show s.2 + 1 < v.bk; omega⟩
    | false =>
      simp only [Bool.false_eq_true, if_false, Int.mul_zero]
      split
      · exact ⟨Int.le_refl _, fun z => nomatch z⟩
      · exact ⟨Int.le_refl _, fun _ => by show (0 : Int) < v.bk; omega⟩
  · unfold nextG
    split
    · refine ⟨?_, fun z => nomatch z⟩
      show 0 ≤ (if s.2 - 1 > 0 then s.2 - 1 else 0)
      split <;> omega
    · split
      · exact ⟨Int.le_refl _, fun _ => by show (0 : Int) < v.bk; omega⟩
      · exact ⟨by have := h.1; show 0 ≤ s.2 + 1; omega, fun z => nomatch z⟩
theorem fine_getD {bk : Int} {ss : List (Bool × Int)} (hb : 1 ≤ bk) (h : ∀ s ∈ ss, Fine bk s) (i : Nat) : Fine bk (ss.getD i S0) := by
  rw [List.getD_eq_getElem?_getD]
  cases e : ss[i]? with
  | none => exact ⟨Int.le_refl _, fun z => nomatch z⟩
  | some s => exact h s (List.mem_of_getElem? e)
theorem turns_fine {v : Vst} {any : Bool} {value : Int} {vals : List (Option Int)} (g : Good v) : ∀ i, ∀ s ∈ turns v any value vals i, Fine v.bk s
  | 0 => g.ss
  | i + 1 => by
    rw [turns_succ]
    intro s hs
    unfold turnS at hs
    rcases List.mem_or_eq_of_mem_set hs with z | z
    · exact turns_fine g i s z
    · rw [z]
      exact nextS_fine g.bk (fine_getD g.bk (turns_fine g i) _)
theorem good_step {v : Vst} {vals : List (Option Int)} (g : Good v) : Good (stepV v vals) :=
  ⟨by show 3 ≤ (turns _ _ _ _ _).length ∧ (turns _ _ _ _ _).length ≤ 9; rw [turns_len]; exact g.len, g.rate, g.bk, turns_fine g _⟩
theorem good_fresh {m t r ms b st : Int} (h : okSet m t r ms b = true) : Good (freshV m t r ms b st) := by
  obtain ⟨h1, h2, h3, h4, h5⟩ := okSet_m h
  refine ⟨?_, h3.1, h5.1, fun s hs => ?_⟩
  · show 3 ≤ (List.replicate m.toNat S0).length ∧ (List.replicate m.toNat S0).length ≤ 9
    rw [List.length_replicate]
    omega
  · rw [List.eq_of_mem_replicate hs]
    exact ⟨Int.le_refl _, fun z => nomatch z⟩
theorem agr_len (t : List Int) (v th : Int) : (agr t v th).length = (t.filter fun y => decide (ab (y - v) ≤ th)).length := given_gen t 0 (fun y => decide (ab (y - v) ≤ th)) _
theorem count_in (ss : List (Bool × Int)) : ((ss.map fun s => V.bl s.1).countP fun z => eqV z (.bl false)) = inN ss := by
  unfold inN
  rw [List.countP_map, List.countP_eq_length_filter]
  congr 2
  funext s
  show (s.1 == false) = !s.1
  cases s.1 <;> rfl
theorem out_flat (ss : List (Bool × Int)) : (ss.map fun s => V.bl s.1).all flatV = true := by
  rw [List.all_map, List.all_eq_true]
  intro s _
  rfl
/-- the law's word is the voter's -/
theorem word_law {n : Nat} {th value : Int} {t : List Int} (h3 : 3 ≤ n) (hn : t.length ≤ n) : wordOf n th t value =
    (if ((t.filter fun y => decide (ab (y - value) ≤ th)).length : Int) = (n : Int) then "all" else if t = [] then "lost" else if (t.length : Int) = 1 then "single" else if ((t.filter fun y => decide (ab (y - value) ≤ th)).length : Int) ≤ (t.length : Int) - ((t.filter fun y => decide (ab (y - value) ≤ th)).length : Int) then "split" else "most") := by
  unfold wordOf
  rw [agr_len]
  have hc := List.length_filter_le (fun y => decide (ab (y - value) ≤ th)) t
  by_cases c0 : t = []
  · rw [if_pos c0, if_pos c0]
    subst c0
    rw [if_neg]
    show ¬ ((0 : Nat) : Int) = (n : Int)
    omega
  rw [if_neg c0, if_neg c0]
  by_cases c1 : t.length = 1
  · rw [if_pos c1, if_neg (by omega), if_pos (by omega)]
  rw [if_neg c1]
  by_cases c2 : 2 * (t.filter fun y => decide (ab (y - value) ≤ th)).length ≤ t.length
  · rw [if_pos c2, if_neg (by omega), if_neg (by omega), if_pos (by omega)]
  rw [if_neg c2]
  by_cases c3 : (t.filter fun y => decide (ab (y - value) ≤ th)).length = n
  · rw [if_pos c3, if_pos (by omega)]
  · rw [if_neg c3, if_neg (by omega), if_neg (by omega), if_neg (by omega)]
end
end MV
namespace MV
open PySem PySem.Spec PyProof.Rows L2 Evl
/-! ### at least one isn't out -/
theorem inN_cons (s : Bool × Int) (r : List (Bool × Int)) : inN (s :: r) = (if s.1 = true then 0 else 1) + inN r := by
  unfold inN
  rw [List.filter_cons]
  cases s.1 with
  | true => simp
  | false => simp; omega
theorem inN_at {ss : List (Bool × Int)} {i : Nat} {x : Bool × Int} (h : i < ss.length) : inN (ss.set i x) + (if (ss.getD i S0).1 = true then 0 else 1) = inN ss + (if x.1 = true then 0 else 1) := by
  induction ss generalizing i with
  | nil => exact absurd h (by simp)
  | cons s r ih =>
    cases i with
    | zero =>
      show inN (x :: r) + (if s.1 = true then 0 else 1) = inN (s :: r) + _
      rw [inN_cons, inN_cons]
      omega
    | succ i =>
      have h2 : i < r.length := by simpa using h
      have := ih h2
      show inN (s :: r.set i x) + (if (r.getD i S0).1 = true then 0 else 1) = inN (s :: r) + _
      rw [inN_cons, inN_cons]
      omega
theorem next_in {v : Vst} {any : Bool} {ss : List (Bool × Int)} {i : Nat} {c : Bool} (hi : i < ss.length) (h : 1 ≤ inN ss) : 1 ≤ inN (ss.set i (nextS v any ss (ss.getD i S0) c)) := by
  have e := inN_at (x := nextS v any ss (ss.getD i S0) c) hi
  cases hs : (ss.getD i S0).1 with
  | true =>
    rw [hs] at e
    simp only [if_true] at e
    omega
  | false =>
    rw [hs] at e
    simp only [Bool.false_eq_true, if_false] at e
    unfold nextS at e ⊢
    rw [if_neg (by rw [hs]; decide)] at e ⊢
    unfold nextG at e ⊢
    by_cases hc : c = true
    · rw [if_pos hc] at e ⊢
      simp only [Bool.false_eq_true, if_false] at e
      omega
    · rw [if_neg hc] at e ⊢
      by_cases hm : v.mis ≤ (ss.getD i S0).2 + 1 ∧ 1 < inN ss
      · rw [if_pos hm] at e ⊢
        simp only [if_true] at e
        omega
      · rw [if_neg hm] at e ⊢
        simp only [Bool.false_eq_true, if_false] at e
        omega
theorem turns_in {v : Vst} {any : Bool} {value : Int} {vals : List (Option Int)} (h : 1 ≤ inN v.ss) : ∀ i, i ≤ v.ss.length → 1 ≤ inN (turns v any value vals i)
  | 0, _ => h
  | i + 1, hi => by
    rw [turns_succ]
    unfold turnS
    exact next_in (by rw [turns_len]; omega) (turns_in h i (by omega))
theorem ex_in {ss : List (Bool × Int)} (h : 1 ≤ inN ss) : ∃ i, i < ss.length ∧ (ss.getD i S0).1 = false := by
  unfold inN at h
  obtain ⟨s, hs⟩ := List.exists_mem_of_length_pos (by omega : 0 < (ss.filter fun s => !s.1).length)
  obtain ⟨h1, h2⟩ := List.mem_filter.mp hs
  obtain ⟨i, hi, e⟩ := List.mem_iff_getElem.mp h1
  refine ⟨i, hi, ?_⟩
  rw [List.getD_eq_getElem?_getD, List.getElem?_eq_getElem hi]
  show (ss[i]).1 = false
  rw [e]
  simpa using h2
theorem inN_rep (n : Nat) : inN (List.replicate n S0) = n := by
  induction n with
  | zero => rfl
  | succ n ih => rw [List.replicate_succ, inN_cons, ih]; show 1 + n = n + 1; omega
theorem state_outI (s : Bool × Int) : decide (stateW s = ("out" : Str)) = s.1 := by
  obtain ⟨b, n⟩ := s
  unfold stateW
  cases b with
  | true => rfl
  | false =>
    show decide ((if n = 0 then "good" else "suspect" : Str) = "out") = false
    split <;> decide +kernel
theorem q_ifM {M : L2.St → Hp → Prop} {c : TT} {t u tz : TS} {σ : L2.St} {H : Hp} {D : Ends} {b : Bool} (h : EvT c σ H b) (h1 : b = true → ∀ H1, Ex H H1 → ∀ D' : Ends, (∀ σ' H', M σ' H' → D'.nx σ' H') → t D' σ H1) (h2 : b = false → ∀ H1, Ex H H1 → ∀ D' : Ends, (∀ σ' H', M σ' H' → D'.nx σ' H') → u D' σ H1)
    (k : ∀ σ' H', M σ' H' → tz D σ' H') : tSeq (tIfS c t u) tz D σ H := s_if (D := { D with nx := tz D }) h (fun hb H1 e1 => h1 hb H1 e1 _ k) fun hb H1 e1 => h2 hb H1 e1 _ k
section
variable {K : PySem.W.Frag} {mg : Str → Option Value} {A : Ads} {σ : L2.St} {H : Hp} {D : Ends} {tz : TS} {E : XK}
/-- a voter is made, the start an expression -/
theorem q_voterE {i i2 : Nat} {te : TE} {st : Addr} {m t r ms b : Int} {P : V → Prop} (h2 : σ[i2]? = some (some (.ref st))) (h3 : ∃ v, Ev te σ H v ∧ P v) (hP : ∀ v, P v → ∃ sta : Int, v = .int sta) (hT : SqT K H st [.int m, .int t, .int r, .int ms, .int b]) (hok : okSet m t r ms b = true)
    (k : ∀ (sta : Int) (H' : Hp) (B : Own), P (.int sta) → Ex H H' → (∀ x ∈ B.all, H x = none) → VAt A H' B.p B.l B.as (freshV m t r ms b sta) → tz D (σ.set i (some (.ref B.p))) H') :
    tSeq (tAsg (tMake A.c_Voter (sp_Voter_init K A) [] E (tCons (tVar i2) (tCons te tNil))) (gName i)) tz D σ H := by
  obtain ⟨v, hv, hp⟩ := h3
  obtain ⟨sta, rfl⟩ := hP v hp
  refine q_asgR ?_
  refine ⟨.ref st, h2, hv H (Ex.refl H) _ fun H0 e0 => ?_⟩
  intro x dx hx0 hdx hne
  have ex0 : Ex H0 (upd (upd H0 dx (.own x)) x (.ins A.c_Voter dx [])) := fun c o hc => by
    rw [upd_ne (ne_of_none hc hx0), upd_ne (ne_of_none hc hdx)]
    exact hc
  have bk : ∀ z, (upd (upd H0 dx (.own x)) x (.ins A.c_Voter dx [])) z = none → H z = none := fun z hz => fresh_back e0 (by
    cases e : H0 z with
    | none => rfl
    | some o => rw [ex0 _ _ e] at hz; cases hz)
  refine ⟨x, dx, st, m, t, r, ms, b, sta, rfl, upd_same, ex_t (e0.trans ex0) hT, fun _ H2 l as b2 has hl hv' => ⟨rfl, ?_⟩, fun hn => absurd (hok.symm.trans hn) (by decide)⟩
  refine k sta H2 ⟨x, l, as⟩ hp (fun c o hc => b2 c o (ne_of_none (e0 _ _ hc) hx0) (ex0 _ _ (e0 _ _ hc))) (fun y hy => ?_) hv'
  rcases List.mem_cons.mp hy with z | z
  · rw [z]; exact fresh_back e0 hx0
  rcases List.mem_cons.mp z with z | z
  · rw [z]; exact bk _ hl
  · exact bk _ (has _ z)
end
end MV
namespace MV
open PySem PySem.Spec PyProof.Rows L2 Evl LamX
/-! ### who isn't out, by places; heaps behind the making of lambdas -/
def inPl (ss : List (Bool × Int)) : List Nat := (List.range ss.length).filter fun i => !(ss.getD i S0).1
theorem inPl_mem {ss : List (Bool × Int)} {i : Nat} : i ∈ inPl ss ↔ i < ss.length ∧ (ss.getD i S0).1 = false := by
  unfold inPl
  rw [List.mem_filter, List.mem_range, Bool.not_eq_true']
theorem inPl_nodup (ss : List (Bool × Int)) : (inPl ss).Nodup := List.Pairwise.filter _ List.nodup_range
theorem inPl_len (ss : List (Bool × Int)) : (inPl ss).length ≤ ss.length := by
  unfold inPl
  have := List.length_filter_le (fun i => !(ss.getD i S0).1) (List.range ss.length)
  rw [List.length_range] at this
  exact this
theorem inPl_ne {ss : List (Bool × Int)} (h : 1 ≤ inN ss) : inPl ss ≠ [] := fun z => by
  obtain ⟨i, h1, h2⟩ := ex_in h
  have : i ∈ inPl ss := inPl_mem.mpr ⟨h1, h2⟩
  rw [z] at this
  cases this
theorem there_inPl {ss : List (Bool × Int)} {vals : List (Option Int)} (h : ∀ i ∈ inPl ss, (vals.getD i none).isSome = true) : there ss vals = (inPl ss).map fun i => (vals.getD i none).getD 0 := by
  unfold there
  congr 1
  unfold inPl
  refine List.filter_congr fun i hi => ?_
  unfold isHere
  cases ho : (ss.getD i S0).1 with
  | true => rfl
  | false =>
    have := h i (inPl_mem.mpr ⟨List.mem_range.mp hi, ho⟩)
    rw [this]
    rfl
theorem inV_places {pl : List Nat} {j : Nat} : inV (.int (j : Int)) (pl.map fun (i : Nat) => V.int (i : Int)) = decide (j ∈ pl) := by
  unfold inV
  rw [List.any_map]
  induction pl with
  | nil => rfl
  | cons a r ih =>
    rw [List.any_cons, ih]
    have e : (((fun y => eqV y (V.int (j : Int))) ∘ fun (i : Nat) => V.int (i : Int)) a) = decide (j = a) := by
      show eqV (V.int (a : Int)) (V.int (j : Int)) = _
      by_cases c : j = a
      · subst c
        rw [decide_eq_true rfl]
        show ((j : Int) == (j : Int)) = true
        simp
      · rw [decide_eq_false c]
        show ((a : Int) == (j : Int)) = false
        simp only [beq_eq_false_iff_ne]
        omega
    rw [e]
    by_cases c : j = a <;> simp [c]
theorem places_flat (pl : List Nat) : (pl.map fun (i : Nat) => V.int (i : Int)).all flatV = true := by
  rw [List.all_map, List.all_eq_true]
  intro x _
  rfl
section
variable {K : PySem.W.Frag} {A : Ads} {H H' : Hp} {p l a P : Addr} {as : List Addr} {v : Vst} {q : Str} {xs : List V} {B : Own}
theorem VAt.extN (h : VAt A H p l as v) (e : ExtN H H') : VAt A H' p l as v := by
  obtain ⟨⟨dx, h1⟩, h2, h3, h4, h5, h6, h7⟩ := h
  exact ⟨⟨dx, exn_ins e h1⟩, exn_lst e h2, h3, h4, h5, h6, fun i s hs => let ⟨dy, q⟩ := h7 i s hs; ⟨dy, exn_ins e q⟩⟩
theorem codeO_neI {c C d : Addr} {q : Str} {fs : List (Str × V)} : CodeO c q ≠ .ins C d fs := fun z => by
  unfold CodeO at z
  cases z
/-- what the voter's step keeps: tables -/
theorem tabS_voter (t : TabS H P q) (h : VAt A H p l as v) (e : Buts (p :: as) H H') : TabS H' P q := tabS_mono t fun b o hb ho => e b o (fun z => by
  have : ∃ C d fs, H b = some (.ins C d fs) := by
    rcases List.mem_cons.mp z with w | w
    · obtain ⟨dx, q1⟩ := h.own
      exact ⟨_, _, _, by rw [w]; exact q1⟩
    · obtain ⟨j, hj⟩ := List.mem_iff_getElem?.mp w
      obtain ⟨dy, q1⟩ := h.sens j b hj
      exact ⟨_, _, _, q1⟩
  obtain ⟨C, d, fs, h1⟩ := this
  rw [hb] at h1
  have h1 := Option.some.inj h1
  rcases ho with ⟨ps, z2⟩ | ⟨c, q2, z2⟩
  · rw [z2] at h1; cases h1
  · rw [z2] at h1; exact codeO_neI h1) hb
/-- a list that is known, or stands apart from the voter -/
def Scr (K : PySem.W.Frag) (B : Own) (H : Hp) (a : Addr) (xs : List V) : Prop := (Rd H a (.lst xs) ∧ a ∉ B.all) ∨ ∃ (o : Obj) (its : Array Value) (n : Nat), K.lookup a = some o ∧ o.cls = .type "list" ∧ o.dict = none ∧ o.data = .seq its n ∧ its.size ≤ sizeLine ∧ Vals xs its.toList
theorem Scr.seq (h : Scr K B H a xs) : SqL K H a xs := h.imp (fun z => z.1) id
theorem Scr.of (h : SqL K H a xs) (hf : ∀ x ∈ B.all, H x = none) (e : Ex H H') : Scr K B H' a xs := by
  rcases h with h | h
  · refine .inl ⟨ex_rd e h, fun z => ?_⟩
    have := hf a z
    rcases h with h | ⟨o, h⟩ <;> rw [h] at this <;> cases this
  · exact .inr h
theorem Scr.extN (h : Scr K B H a xs) (e : ExtN H H') : Scr K B H' a xs := h.imp (fun z => ⟨exn_rd e (fun ps w => by cases w) z.1, z.2⟩) id
theorem Scr.ext (h : Scr K B H a xs) (e : Ex H H') : Scr K B H' a xs := h.extN (ExtN.of e)
theorem Scr.buts (h : Scr K B H a xs) (e : Buts B.all H H') : Scr K B H' a xs := h.imp (fun z => ⟨by
  obtain ⟨h1, h2⟩ := z
  rcases h1 with h1 | ⟨o, h1⟩
  · exact .inl (e _ _ h2 h1)
  · exact .inr ⟨o, e _ _ h2 h1⟩, z.2⟩) id
end
end MV
namespace MV
open PySem PySem.Spec PyProof.Rows L2 Evl
section
variable {K : PySem.W.Frag} {mg : Str → Option Value} {A : Ads} {H H' : Hp} {σ : L2.St} {ta tb : TE} {x : V} {k : Int}
theorem flat_rep (n : Nat) (x : V) : (List.replicate n [x]).flatten = List.replicate n x := by
  induction n with
  | zero => rfl
  | succ n ih => rw [List.replicate_succ, List.flatten_cons, ih, List.replicate_succ]; rfl
theorem el_rep (ha : EvL ta σ H [x]) (hb : Ev tb σ H (.int k)) (h0 : 0 ≤ k) (h1 : k ≤ 1000) : EvL (tOp rRep ta tb) σ H (List.replicate k.toNat x) := fun H1 e Q q =>
  ha H1 e _ fun p H2 hp e2 h2 => hb H2 (e.trans e2) _ fun H3 e3 => ⟨p, k, [x], rfl, rfl, e3 _ _ h2, by omega, by omega, by rw [sizeLine_eq]; show 1 * k.toNat ≤ _; omega, fun l hl => by
    rw [flat_rep]
    exact q l _ (fresh_back (e2.trans e3) hl) ((e2.trans e3).trans (Ex.new hl)) upd_same⟩
end
end MV
namespace MV
open PySem PySem.Spec PyProof.Rows L2 Evl
section
variable {K : PySem.W.Frag} {mg : Str → Option Value} {A : Ads}
theorem sv_succ {v0 : Vst} {valss : List (List (Option Int))} {i : Nat} {vals : List (Option Int)} (h : valss[i]? = some vals) : sv v0 valss (i + 1) = stepV (sv v0 valss i) vals := by
  unfold sv
  rw [List.take_add_one, h, List.foldl_append]
  rfl
theorem sv_zero {v0 : Vst} {valss : List (List (Option Int))} : sv v0 valss 0 = v0 := rfl
theorem sv_len (v0 : Vst) (valss : List (List (Option Int))) : ∀ i, (sv v0 valss i).ss.length = v0.ss.length
  | 0 => rfl
  | i + 1 => by
    cases h : valss[i]? with
    | none =>
      have e : sv v0 valss (i + 1) = sv v0 valss i := by
        unfold sv
        rw [List.take_add_one, h]
        simp
      rw [e]
      exact sv_len v0 valss i
    | some vals =>
      rw [sv_succ h]
      show (turns _ _ _ _ _).length = _
      rw [turns_len]
      exact sv_len v0 valss i
theorem fresh_len {m t r ms b s : Int} (h : okSet m t r ms b = true) : (((freshV m t r ms b s).ss.length : Nat) : Int) = m := by
  obtain ⟨h1, _⟩ := okSet_m h
  show ((List.replicate m.toNat S0).length : Int) = m
  rw [List.length_replicate]
  omega
theorem pure_fresh (T : Txt K mg A) (vs : List V) (H : Hp) (Q : VK) (E : XK) (h : sp_fresh K A vs H Q E) : t_fresh K A E { nx := fun _ H' => Q .non H', rt := Q } (start ["settings", "start", "steps", "voter", "values"] vs) H := by
  obtain ⟨m, t, r, ms, b, sta, valss, ⟨st, S, rows, rfl, hT, hR, hz, hzs⟩, ⟨x1, x2⟩, q⟩ := h
  show t_fresh K A E _ [some (.ref st), some (.int sta), some (.ref S), none, none] H
  refine q_asgR ?_
  refine ⟨.ref st, rfl, .int sta, rfl, ?_⟩
  intro x dx hx0 hdx hne
  have ex0 : Ex H (upd (upd H dx (.own x)) x (.ins A.c_Voter dx [])) := fun c o hc => by
    rw [upd_ne (ne_of_none hc hx0), upd_ne (ne_of_none hc hdx)]
    exact hc
  have bk : ∀ z, (upd (upd H dx (.own x)) x (.ins A.c_Voter dx [])) z = none → H z = none := fun z hz => by
    cases e : H z with
    | none => rfl
    | some o => rw [ex0 _ _ e] at hz; cases hz
  refine ⟨x, dx, st, m, t, r, ms, b, sta, rfl, upd_same, ex_t ex0 hT, fun hok H2 l as b2 has hl hv => ⟨rfl, ?_⟩, fun hn H2 e2 => x1 hn H2 (ex0.trans e2)⟩
  have e2 : Ex H H2 := fun c o hc => b2 c o (ne_of_none hc hx0) (ex0 _ _ hc)
  have hR2 := hR.ext e2
  have hrl : (rows.map V.ref).length = valss.length := by rw [List.length_map, hR.len]
  refine q_forLn (a := S) (xs := rows.map V.ref) (ev_var rfl) (sq_of hR2.at_) (fun i σ H' => ∃ y4, σ = [some (.ref st), some (.int sta), some (.ref S), some (.ref x), y4] ∧ Ex H2 H' ∧ ∀ vals ∈ valss.take i, okStep vals m = true)
    (fun H3 e3 => ⟨_, rfl, e3, by simp⟩) (fun i σ H3 _ ⟨_, _, e3, _⟩ => sq_of (e3 _ _ hR2.at_)) (fun i xx σ H3 hx ⟨y4, es, e3, ha⟩ => ?_) (fun σ H3 ⟨y4, es, e3, ha⟩ => ?_)
  · subst es
    have hi : i < valss.length := by rw [← hrl]; exact (List.getElem?_eq_some_iff.mp hx).1
    obtain ⟨row, vals, g1, g2, g3, g4, g5, _⟩ := (hR2.ext e3).get hi
    have exx : xx = .ref row := by rw [List.getElem?_map, g1] at hx; exact (Option.some.inj hx).symm
    subst exx
    have hT3 := ex_t (e2.trans e3) hT
    refine s_dropC (vs := [.ref row, .int m]) (ea_cons (ev_var rfl) (ea_cons (ev_op (ev_var rfl) ev_c (rv_ixT hT3 (atI_nat (j := 0) rfl))) ea_nil)) fun H4 e4 => ⟨row, vals, m, rfl, sq_of (e4 _ _ g3), hzs _ g5, fun hk H5 e5 => ⟨_, rfl, (e3.trans e4).trans e5, fun w hw => ?_⟩, fun hk H5 e5 => x2 hok (fun z => by rw [z vals g5] at hk; cases hk) H5 (((e2.trans e3).trans e4).trans e5)⟩
    rw [List.take_add_one, g2] at hw
    rcases List.mem_append.mp hw with z | z
    · exact ha w z
    · have : w = vals := by simpa using z
      rw [this]
      exact hk
  · subst es
    rw [hrl, List.take_length] at ha
    refine s_ret (v := .ref x) (ev_var rfl) fun H4 e4 => q hok ha H4 ⟨x, l, as⟩ ((e2.trans e3).trans e4) (fun y hy => ?_) (hv.ext (e3.trans e4))
    rcases List.mem_cons.mp hy with z | z
    · rw [z]; exact hx0
    rcases List.mem_cons.mp z with z | z
    · rw [z]; exact bk _ hl
    · exact bk _ (has _ z)
theorem pure_run (T : Txt K mg A) (vs : List V) (H : Hp) (Q : VK) (E : XK) (h : sp_run K A vs H Q E) : t_run K A E { nx := fun _ H' => Q .non H', rt := Q } (start ["settings", "start", "steps", "voter", "values"] vs) H := by
  obtain ⟨m, t, r, ms, b, sta, valss, ⟨st, S, rows, rfl, hT, hR, hz, hzs⟩, ⟨x1, x2⟩, q⟩ := h
  show t_run K A E _ [some (.ref st), some (.int sta), some (.ref S), none, none] H
  refine q_asgC (vs := [.ref st, .int sta, .ref S]) (ea_cons (ev_var rfl) (ea_cons (ev_var rfl) (ea_cons (ev_var rfl) ea_nil))) fun H1 e1 => ⟨m, t, r, ms, b, sta, valss, ⟨st, S, rows, rfl, ex_t e1 hT, hR.ext e1, hz, hzs⟩, ⟨fun hn H2 e2 => x1 hn H2 (e1.trans e2), fun ho hn H2 e2 => x2 ho hn H2 (e1.trans e2)⟩, fun hok hall H2 B e2 hfB hB => ?_⟩
  have hR2 := (hR.ext e1).ext e2
  have hf0 : ∀ x ∈ B.all, H x = none := fun x hx => fresh_back e1 (hfB x hx)
  have hrl : (rows.map V.ref).length = valss.length := by rw [List.length_map, hR.len]
  have hSB : ∀ r ∈ S :: rows, r ∉ B.all := by
    intro r hr z
    have h0 := hf0 r z
    rcases List.mem_cons.mp hr with w | w
    · rw [w, hR.at_] at h0; cases h0
    · obtain ⟨i, hi⟩ := List.mem_iff_getElem?.mp w
      have hl := (List.getElem?_eq_some_iff.mp hi).1
      have hv : i < valss.length := by rw [← hR.len]; exact hl
      rw [hR.row i r _ hi (List.getElem?_eq_getElem hv)] at h0
      cases h0
  refine lc_L1 (a := S) (xs := rows.map V.ref) (ev_var rfl) (sq_of hR2.at_) (by omega) (fun _ => rfl)
    (fun i acc Dl H' => Ex H H' ∧ Buts (Dl :: B.all) H2 H' ∧ H2 Dl = none ∧ ∃ rs : List Addr, acc = rs.map V.ref ∧ VAt A H' B.p B.l B.as (sv (freshV m t r ms b sta) valss i) ∧ TupsAt H' rs (runV (freshV m t r ms b sta) valss i))
    (fun H3 Dl e3 hD => ⟨((e1.trans e2).trans e3).trans (Ex.new hD), (Buts.of e3).trans (Buts.of (Ex.new hD)), fresh_back e3 hD, [], rfl, (hB.ext e3).ext (Ex.new hD), TupsAt.nil⟩)
    (fun i acc Dl H3 hDl ⟨_, b3, hD2, _⟩ => sq_of (b3 _ _ (fun z => by
      rcases List.mem_cons.mp z with w | w
      · have h := hR2.at_; rw [w, hD2] at h; cases h
      · exact hSB S (by simp) w) hR2.at_)) ?hs ?hk
  case hk =>
    intro acc Dl H3 hlen hDl ⟨e3, b3, hD2, rs, ea, hv, ht⟩
    subst ea
    rw [hrl] at hv ht
    exact q hok hall H3 Dl rs e3 (fresh_back (e1.trans e2) hD2) hDl ht
  case hs =>
    intro i x acc Dl H3 hx hlen hDl ⟨e3, b3, hD2, rs, ea, hv, ht⟩ Q' k
    have hi : i < valss.length := by rw [← hrl]; exact (List.getElem?_eq_some_iff.mp hx).1
    obtain ⟨row, vals, g1, g2, g3, g4, g5, _⟩ := hR2.get hi
    have exx : x = .ref row := by rw [List.getElem?_map, g1] at hx; exact (Option.some.inj hx).symm
    subst exx
    have hrow3 : H3 row = some (.lst (vals.map oV)) := b3 _ _ (fun z => by
      rcases List.mem_cons.mp z with w | w
      · rw [w, hD2] at g3; cases g3
      · exact hSB row (by simp [g4]) w) g3
    obtain ⟨dx, hown⟩ := hv.own
    have hml : ((B.as.length : Nat) : Int) = m := by rw [hv.len, sv_len]; exact fresh_len hok
    refine ⟨.ref B.p, rfl, B.p, dx, _, rfl, hown, by rfl, .ref row, rfl, ?_⟩
    refine ⟨B.p, B.l, B.as, _, row, vals, rfl, hv, sq_of hrow3, hzs _ g5, fun z => hSB row (by simp [g4]) (own_sub z), fun _ H4 p b4 np hp hv4 => ?_, fun z => absurd ((by rw [hml]; exact hall _ g5 : okStep vals ((B.as.length : Nat) : Int) = true).symm.trans z) (by decide)⟩
    have b4' : Buts B.all H3 H4 := b4.mono fun x hx => own_sub hx
    have hDB : Dl ∉ B.all := fun z => by
      have := hB.old _ z
      exact this hD2
    have hDl4 := b4' _ _ hDB hDl
    refine k _ H4 hDl4 ⟨?_, ?_, hD2, rs ++ [p], by rw [ea, List.map_append]; rfl, ?_, ?_⟩
    · exact (buts_ex e3 b4' hf0).mut (fresh_back (e1.trans e2) hD2)
    · refine (b3.trans (b4'.mono fun x hx => List.mem_cons_of_mem _ hx)).trans (Buts.but (List.mem_cons_self ..) (But.upd (Ex.refl _)))
    · rw [sv_succ g2]
      exact VAt.keep (b := B) hv4 (buts_one (But.upd (Ex.refl _))) fun x hx z => hDB (by rw [← List.mem_singleton.mp z]; exact hx)
    · have e9 : runV (freshV m t r ms b sta) valss (i + 1) = runV (freshV m t r ms b sta) valss i ++ [[.int (stepV (sv (freshV m t r ms b sta) valss i) vals).last, .str (stepW (sv (freshV m t r ms b sta) valss i) vals)]] := by
        unfold runV
        rw [List.range_succ, List.map_append]
        simp only [List.map_cons, List.map_nil]
        rw [sv_succ g2, List.getD_eq_getElem?_getD, g2]
        rfl
      rw [e9]
      have ht4 := (ht.keep b4' fun x hx => hv.not_tup x hx).push (Ex.refl _) hp
      exact ht4.upd hDl4
theorem flags_at {ss : List (Bool × Int)} {j : Nat} (h : j < ss.length) : atI (ss.map fun s => V.bl s.1) (j : Int) = some (.bl (ss.getD j S0).1) := by
  refine atI_nat ?_
  rw [List.getElem?_map, List.getElem?_eq_getElem h, List.getD_eq_getElem?_getD, List.getElem?_eq_getElem h]
  rfl
theorem flags_given (ss : List (Bool × Int)) : Evl.given ss.length (fun _ => true) (fun j => V.bl (ss.getD j S0).1) = ss.map fun s => V.bl s.1 := by
  have key : ∀ i, i ≤ ss.length → Evl.given i (fun _ => true) (fun j => V.bl (ss.getD j S0).1) = (ss.take i).map fun s => V.bl s.1 := by
    intro i
    induction i with
    | zero => intro _; rfl
    | succ i ih =>
      intro h
      have hi : i < ss.length := h
      rw [Evl.given_yes rfl, ih (by omega), List.take_add_one, List.getElem?_eq_getElem hi, List.map_append, List.getD_eq_getElem?_getD, List.getElem?_eq_getElem hi]
      rfl
  rw [key _ (Nat.le_refl _), List.take_length]
theorem state_out (s : Bool × Int) : decide (stateW s = ("out" : Str)) = s.1 := by
  obtain ⟨b, n⟩ := s
  unfold stateW
  cases b with
  | true => rfl
  | false =>
    show decide ((if n = 0 then "good" else "suspect" : Str) = "out") = false
    split <;> decide +kernel
/-- those told, up to the j-th sensor -/
def dueN (k : Nat) (ss ss' : List (Bool × Int)) (n : Nat) : List (List V) := ((List.range n).filter fun (j : Nat) => !decide ((ss'.getD j S0).1 = (ss.getD j S0).1)).map fun (j : Nat) => [.int (k : Int), .int (j : Int), .bl (ss'.getD j S0).1]
theorem dueN_yes {k : Nat} {ss ss' : List (Bool × Int)} {n : Nat} (h : ¬ (ss'.getD n S0).1 = (ss.getD n S0).1) : dueN k ss ss' (n + 1) = dueN k ss ss' n ++ [[.int (k : Int), .int (n : Int), .bl (ss'.getD n S0).1]] := by
  unfold dueN
  rw [List.range_succ, List.filter_append, List.map_append]
  congr 1
  rw [List.filter_cons, if_pos (by rw [decide_eq_false h]; rfl)]
  rfl
theorem dueN_no {k : Nat} {ss ss' : List (Bool × Int)} {n : Nat} (h : (ss'.getD n S0).1 = (ss.getD n S0).1) : dueN k ss ss' (n + 1) = dueN k ss ss' n := by
  unfold dueN
  rw [List.range_succ, List.filter_append, List.map_append]
  rw [List.filter_cons, if_neg (by rw [decide_eq_true h]; decide)]
  simp
theorem dueN_len {k : Nat} {ss ss' : List (Bool × Int)} (n : Nat) : (dueN k ss ss' n).length ≤ n := by
  unfold dueN
  rw [List.length_map]
  have := List.length_filter_le (fun (j : Nat) => !decide ((ss'.getD j S0).1 = (ss.getD j S0).1)) (List.range n)
  rw [List.length_range] at this
  exact this
theorem outsV_len {v0 : Vst} {valss : List (List (Option Int))} : ∀ i, (outsV v0 valss i).length ≤ i * v0.ss.length
  | 0 => Nat.zero_le _
  | i + 1 => by
    show (outsV v0 valss i ++ dueV i _ _).length ≤ _
    rw [List.length_append, Nat.succ_mul]
    have h1 := outsV_len (v0 := v0) (valss := valss) i
    have h2 : (dueV i (sv v0 valss i).ss (sv v0 valss (i + 1)).ss).length ≤ (sv v0 valss i).ss.length := dueN_len _
    rw [sv_len] at h2
    omega
theorem pure_outs (T : Txt K mg A) (vs : List V) (H : Hp) (Q : VK) (E : XK) (h : sp_outs K A vs H Q E) : t_outs K A E { nx := fun _ H' => Q .non H', rt := Q } (start ["settings", "start", "steps", "voter", "found", "before", "turn", "values", "after", "place", "is_out"] vs) H := by
  obtain ⟨m, t, r, ms, b, sta, valss, ⟨st, S, rows, rfl, hT, hR, hz, hzs⟩, ⟨x1, x2⟩, q⟩ := h
  show t_outs K A E _ [some (.ref st), some (.int sta), some (.ref S), none, none, none, none, none, none, none, none] H
  refine q_asgC (vs := [.ref st, .int sta, .ref S]) (ea_cons (ev_var rfl) (ea_cons (ev_var rfl) (ea_cons (ev_var rfl) ea_nil))) fun H1 e1 => ⟨m, t, r, ms, b, sta, valss, ⟨st, S, rows, rfl, ex_t e1 hT, hR.ext e1, hz, hzs⟩, ⟨fun hn H2 e2 => x1 hn H2 (e1.trans e2), fun ho hn H2 e2 => x2 ho hn H2 (e1.trans e2)⟩, fun hok hall H2 B e2 hfB hB => ?_⟩
  have e02 := e1.trans e2
  have hf0 : ∀ x ∈ B.all, H x = none := fun x hx => fresh_back e1 (hfB x hx)
  have hrl : (rows.map V.ref).length = valss.length := by rw [List.length_map, hR.len]
  have hSB : ∀ r ∈ S :: rows, r ∉ B.all := by
    intro r hr z
    have h0 := hf0 r z
    rcases List.mem_cons.mp hr with w | w
    · rw [w, hR.at_] at h0; cases h0
    · obtain ⟨i, hi⟩ := List.mem_iff_getElem?.mp w
      have hl := (List.getElem?_eq_some_iff.mp hi).1
      have hv : i < valss.length := by rw [← hR.len]; exact hl
      rw [hR.row i r _ hi (List.getElem?_eq_getElem hv)] at h0
      cases h0
  obtain ⟨hm39, _⟩ := okSet_m hok
  have hvl : ∀ i, (((sv (freshV m t r ms b sta) valss i).ss.length : Nat) : Int) = m := fun i => by rw [sv_len]; exact fresh_len hok
  have hml : ((B.as.length : Nat) : Int) = m := by rw [hB.len]; exact hvl 0
  refine q_asgL (el_lst ea_nil (by decide)) fun fd H3 nfd e3 h3 => ?_
  have nfdB : fd ∉ B.all := fun z => hB.old _ z nfd
  have hfd0 : H fd = none := fresh_back e02 nfd
  refine q_asgL (el_rep (el_lst (ea_cons ev_c ea_nil) (by show 1 ≤ 100000; decide)) (ev_op (ev_var rfl) ev_c (rv_ixT (ex_t (e02.trans e3) hT) (atI_nat (j := 0) rfl))) (by omega) (by omega)) fun bf H4 nbf e4 h4 => ?_
  have nbfB : bf ∉ B.all := fun z => (hB.ext e3).old _ z nbf
  have nbf_fd : bf ≠ fd := fun z => by rw [z, h3] at nbf; cases nbf
  have ebf : List.replicate m.toNat (V.bl false) = (sv (freshV m t r ms b sta) valss 0).ss.map fun s => V.bl s.1 := by
    show _ = (List.replicate m.toNat S0).map fun s => V.bl s.1
    rw [List.map_replicate]
  rw [ebf] at h4
  refine q_forE (p := S) (xs := rows.map V.ref) (ea_cons (ev_var rfl) ea_nil) (sq_of ((hR.ext (e02.trans (e3.trans e4))).at_))
    (fun i σ H' => ∃ (bf : Addr) (y6 y7 y8 y9 y10 : Option V) (rs : List Addr), σ = [some (.ref st), some (.int sta), some (.ref S), some (.ref B.p), some (.ref fd), some (.ref bf), y6, y7, y8, y9, y10] ∧ Ex H H' ∧ VAt A H' B.p B.l B.as (sv (freshV m t r ms b sta) valss i) ∧ H' bf = some (.lst ((sv (freshV m t r ms b sta) valss i).ss.map fun s => V.bl s.1)) ∧ bf ∉ B.all ∧ bf ≠ fd ∧ H' fd = some (.lst (rs.map V.ref)) ∧ TupsAt H' rs (outsV (freshV m t r ms b sta) valss i))
    (fun H5 e5 => ⟨bf, _, _, _, _, _, [], rfl, ((e02.trans e3).trans e4).trans e5, ((hB.ext e3).ext e4).ext e5, e5 _ _ h4, nbfB, nbf_fd, e5 _ _ (e4 _ _ h3), TupsAt.nil⟩)
    (fun i σ H5 _ ⟨bf, y6, y7, y8, y9, y10, rs, es, e5, _⟩ => sq_of (e5 _ _ hR.at_)) (fun i x σ H5 hx ⟨bf, y6, y7, y8, y9, y10, rs, es, e5, hv, hbf, nb, nbf, hfd, ht⟩ H6 e6 => ?_) (fun σ H5 ⟨bf, y6, y7, y8, y9, y10, rs, es, e5, hv, hbf, nb, nbf, hfd, ht⟩ => ?_)
  · subst es
    have hi : i < valss.length := by rw [← hrl]; exact (List.getElem?_eq_some_iff.mp hx).1
    obtain ⟨row, vals, g1, g2, g3, g4, g5, _⟩ := hR.get hi
    have exx : x = .ref row := by rw [List.getElem?_map, g1] at hx; exact (Option.some.inj hx).symm
    subst exx
    have e06 := e5.trans e6
    have hv6 := hv.ext e6
    obtain ⟨dx, hown⟩ := hv6.own
    refine q_dropM (a := B.p) (ev_var rfl) hown (by rfl) (ea_cons (ev_var rfl) ea_nil) fun H7 e7 => ⟨B.p, B.l, B.as, _, row, vals, rfl, hv6.ext e7, sq_of ((e06.trans e7) _ _ g3), hzs _ g5, fun z => hSB row (by simp [g4]) (own_sub z), fun _ H8 p b8 np hp hv8 => ?_, fun z => absurd ((by rw [hml]; exact hall _ g5 : okStep vals ((B.as.length : Nat) : Int) = true).symm.trans z) (by decide)⟩
    rw [← sv_succ (v0 := freshV m t r ms b sta) g2] at hv8
    have b8' : Buts B.all H7 H8 := b8.mono fun x hx => own_sub hx
    have e08 : Ex H H8 := buts_ex (e06.trans e7) b8' hf0
    have h8bf := b8' _ _ nb ((e6.trans e7) _ _ hbf)
    have h8fd := b8' _ _ nfdB ((e6.trans e7) _ _ hfd)
    have ht8 := (ht.ext (e6.trans e7)).keep b8' fun x hx => (hv6.ext e7).not_tup x hx
    -- after
    refine q_asgL (xs := (sv (freshV m t r ms b sta) valss (i + 1)).ss.map fun s => V.bl s.1) (el_is (el_lcR1 (fun _ => true) (fun j => V.bl ((sv (freshV m t r ms b sta) valss (i + 1)).ss.getD j S0).1) (n := m) (ea_cons (ev_op (ev_var rfl) ev_c (rv_ixT (ex_t e08 hT) (atI_nat (j := 0) rfl))) ea_nil) (by omega) (fun _ => rfl) (fun j H9 e9 _ => fun H10 _ Q' q' => q' H10 (Ex.refl H10)) (fun j H9 e9 hj _ => ?_)) ?_) fun af H9 naf e9 h9 => ?_
    · have hv9 := hv8.ext e9
      obtain ⟨dx9, hown9⟩ := hv9.own
      have hja : 0 ≤ (j : Int) ∧ (j : Int) < (B.as.length : Int) := by omega
      refine ev_is (ev_op (ev_meth (ev_var rfl) hown9 (by rfl) (ea_cons (ev_var rfl) ea_nil) (fun H11 e11 Q' q' E' => ⟨_, _, _, _, _, rfl, hv9.ext e11, fun _ => q', fun hn => absurd hja hn⟩ : SpV (sp_Voter_state K A) [.ref B.p, .int (j : Int)] H9 (.str (stateW ((sv (freshV m t r ms b sta) valss (i + 1)).ss.getD j S0))))) ev_c rv_eqS) ?_
      rw [state_out]
    · rw [← flags_given, show m.toNat = (sv (freshV m t r ms b sta) valss (i + 1)).ss.length by have := hvl (i + 1); omega]
    have hv9 := hv8.ext e9
    have nafB : af ∉ B.all := fun z => hv8.old _ z naf
    have naf_fd : af ≠ fd := fun z => by rw [z, h8fd] at naf; cases naf
    have h9bf := e9 _ _ h8bf
    have h9fd := e9 _ _ h8fd
    have ht9 := ht8.ext e9
    have nbaf : bf ≠ af := fun z => by rw [← z, h8bf] at naf; cases naf
    have hl1 : ((sv (freshV m t r ms b sta) valss (i + 1)).ss.map fun s => V.bl s.1).length = (sv (freshV m t r ms b sta) valss i).ss.length := by rw [List.length_map, sv_len, sv_len]
    -- who is told
    refine q_forE (p := af) (ea_cons (ev_var rfl) ea_nil) (sq_of h9)
      (fun j σ H' => ∃ (y9 y10 : Option V) (rs : List Addr), σ = [some (.ref st), some (.int sta), some (.ref S), some (.ref B.p), some (.ref fd), some (.ref bf), some (.int (i : Nat)), some (.ref row), some (.ref af), y9, y10] ∧ Ex H H' ∧ Buts [fd] H9 H' ∧ H' fd = some (.lst (rs.map V.ref)) ∧ TupsAt H' rs (outsV (freshV m t r ms b sta) valss i ++ dueN i (sv (freshV m t r ms b sta) valss i).ss (sv (freshV m t r ms b sta) valss (i + 1)).ss j))
      (fun H10 e10 => ⟨_, _, rs, rfl, (e08.trans e9).trans e10, Buts.of e10, e10 _ _ h9fd, by
        have : dueN i (sv (freshV m t r ms b sta) valss i).ss (sv (freshV m t r ms b sta) valss (i + 1)).ss 0 = [] := rfl
        rw [this, List.append_nil]
        exact ht9.ext e10⟩)
      (fun j σ H10 _ ⟨y9, y10, rs, es, e10, b10, _⟩ => sq_of (b10 _ _ (by simpa using naf_fd) h9)) (fun j x σ H10 hx ⟨y9, y10, rs, es, e10, b10, hfd, ht⟩ H11 e11 => ?_) (fun σ H10 ⟨y9, y10, rs, es, e10, b10, hfd, ht⟩ => ?_)
    · subst es
      have hj : j < (sv (freshV m t r ms b sta) valss i).ss.length := by rw [← hl1]; exact (List.getElem?_eq_some_iff.mp hx).1
      have hj1 : j < (sv (freshV m t r ms b sta) valss (i + 1)).ss.length := by rw [sv_len]; rw [sv_len] at hj; exact hj
      have exx : x = .bl ((sv (freshV m t r ms b sta) valss (i + 1)).ss.getD j S0).1 := by
        rw [List.getElem?_map, List.getElem?_eq_getElem hj1] at hx
        rw [List.getD_eq_getElem?_getD, List.getElem?_eq_getElem hj1]
        exact (Option.some.inj hx).symm
      subst exx
      have b11 := b10.trans (Buts.of e11)
      have h11bf := b11 _ _ (by simpa using nbf) h9bf
      refine s_when (b := !decide (((sv (freshV m t r ms b sta) valss (i + 1)).ss.getD j S0).1 = ((sv (freshV m t r ms b sta) valss i).ss.getD j S0).1)) (et_test (ev_op (ev_var rfl) (ev_op (ev_var rfl) (ev_var rfl) (rv_ixL (sq_of h11bf) (flags_at hj))) rv_neB)) (fun hb H12 e12 => ?_) (fun hb H12 e12 => ?_)
      · have hne : ¬ ((sv (freshV m t r ms b sta) valss (i + 1)).ss.getD j S0).1 = ((sv (freshV m t r ms b sta) valss i).ss.getD j S0).1 := by simpa using hb
        have h12fd := (e11.trans e12) _ _ hfd
        have hlr : (rs.map V.ref).length < 100000 := by
          rw [List.length_map, ht.len, List.length_append]
          have h1 := outsV_len (v0 := freshV m t r ms b sta) (valss := valss) i
          have h2 := dueN_len (k := i) (ss := (sv (freshV m t r ms b sta) valss i).ss) (ss' := (sv (freshV m t r ms b sta) valss (i + 1)).ss) j
          have h3 : (freshV m t r ms b sta).ss.length ≤ 9 := by have := hvl 0; rw [sv_len] at this; omega
          have h4 : i * (freshV m t r ms b sta).ss.length ≤ 1000 * 9 := Nat.mul_le_mul (by omega) h3
          have h5 := hvl i
          omega
        refine s_appU h12fd (ev_var rfl) (eu_tup (ea_cons (ev_var rfl) (ea_cons (ev_var rfl) (ea_cons (ev_var rfl) ea_nil))) (by show 3 ≤ 100000; decide)) hlr fun p H13 np e13 h13 => ?_
        refine ⟨_, _, rs ++ [p], rfl, ((e10.trans e11).trans (e12.trans e13)).mut hfd0, (b11.trans (Buts.of (e12.trans e13))).trans (Buts.but (by simp) (But.upd (Ex.refl _))), by rw [upd_same, List.map_append]; rfl, ?_⟩
        rw [dueN_yes hne, ← List.append_assoc]
        exact ((ht.ext (e11.trans e12)).push e13 h13).upd (e13 _ _ h12fd)
      · have hne : ((sv (freshV m t r ms b sta) valss (i + 1)).ss.getD j S0).1 = ((sv (freshV m t r ms b sta) valss i).ss.getD j S0).1 := by simpa using hb
        refine ⟨_, _, rs, rfl, (e10.trans e11).trans e12, b11.trans (Buts.of e12), (e11.trans e12) _ _ hfd, ?_⟩
        rw [dueN_no hne]
        exact ht.ext (e11.trans e12)
    · subst es
      rw [hl1] at ht
      have hf1 : ∀ x ∈ B.all, x ∉ [fd] := fun x hx z => nfdB (by rw [← List.mem_singleton.mp z]; exact hx)
      refine s_asg (v := .ref af) (ev_var rfl) fun H11 e11 => ⟨af, _, _, _, _, _, rs, rfl, e10.trans e11, (VAt.keep (b := B) hv9 b10 hf1).ext e11, e11 _ _ (b10 _ _ (by simpa using naf_fd) h9), nafB, naf_fd, e11 _ _ hfd, ht.ext e11⟩
  · subst es
    rw [hrl] at ht
    exact s_ret (v := .ref fd) (ev_var rfl) fun H6 e6 => q hok hall H6 fd rs (e5.trans e6) hfd0 (e6 _ _ hfd) (ht.ext e6)
end
end MV
namespace MV
open PySem PySem.Spec PyProof.Rows L2 Evl MVH LamX
/-! ### the word of a caught one -/
def wordE (A : Ads) (C : Addr) (w : Str) : Prop := (C = A.c_BadSettings ∧ w = "BadSettings") ∨ (C = A.c_BadStep ∧ w = "BadStep") ∨ (C = A.c_NoSensor ∧ w = "NoSensor") ∨ (C = A.c_BadRow ∧ w = "BadRow")
theorem sc_l_word : FnScope ["_law_e", "_law_flags", "_law_flag"] ["_law_e"] (defScope s_l_word) := ⟨rfl, rfl, rfl, by decide +kernel, rfl, by decide +kernel, by decide +kernel⟩
def t_l_word (K : PySem.W.Frag) (A : Ads) (E : XK) (C a : Addr) : TS :=
      (tSeq (tAsg (tLst (tCons (tCB (rIsP K C a) (tCons (tVar 0) (tCons (tC (.ref A.c_BadSettings)) tNil))) (tCons (tCB (rIsP K C a) (tCons (tVar 0) (tCons (tC (.ref A.c_BadStep)) tNil))) (tCons (tCB (rIsP K C a) (tCons (tVar 0) (tCons (tC (.ref A.c_NoSensor)) tNil))) (tCons (tCB (rIsP K C a) (tCons (tVar 0) (tCons (tC (.ref A.c_BadRow)) tNil))) tNil))))) (gName 1))
      (tSeq (tIfS (tOr (tTest (tOp rNe (tCB (rSum K) (tCons (tHotInts 1) tNil)) (tC (.int 1)))) (tNot (tB (tCB (rIsP K C a) (tCons (tVar 0) (tCons (tC (.ty "ValueError")) tNil)))))) (tRet (tC (.str "other"))) tNext)
      (tRet (tOp (rIxL K) (tLst (tCons (tC (.str "BadSettings")) (tCons (tC (.str "BadStep")) (tCons (tC (.str "NoSensor")) (tCons (tC (.str "BadRow")) tNil))))) (tBM K "list" (rIndex K) (tVar 1) (tCons (tC (.bl true)) tNil))))))theorem sc_l_told : FnScope ["_law_deed", "_law_e"] ["_law_deed"] (defScope s_l_told) := ⟨rfl, rfl, rfl, by decide +kernel, rfl, by decide +kernel, by decide +kernel⟩

end MV
namespace MV
open PySem PySem.Spec PyProof.Rows L2 Evl MVH
section
variable {K : PySem.W.Frag} {mg : Str → Option Value} {A : Ads}
theorem ev_index {σ : L2.St} {H : Hp} {to te : TE} {p : Addr} {ys : List V} {y z : V} {j : Nat} (ho : Ev to σ H (.ref p)) (hs : H p = some (.lst ys)) (h : Ev te σ H y) (fy : flatV y = true) (fys : ys.all flatV = true) (hz : ys[j]? = some z) (he : eqV z y = true) (hn : ∀ (m : Nat) (z' : V), m < j → ys[m]? = some z' → eqV z' y = false) : Ev (tBM K "list" (rIndex K) to (tCons te tNil)) σ H (.int (j : Int)) := fun H1 e Q q =>
  ho H1 e _ fun H2 e2 => ⟨.inl ⟨rfl, ys, sq_of ((e.trans e2) _ _ hs)⟩, h H2 (e.trans e2) _ fun H3 e3 => ⟨p, ys, y, j, z, rfl, rfl, sq_of (((e.trans e2).trans e3) _ _ hs), fy, fys, hz, he, hn, q H3 (e2.trans e3)⟩⟩
theorem word_core (Q : VK) (E : XK) {H : Hp} {a C : Addr} {b1 b2 b3 b4 : Bool} {j : Nat} {w : Str}
    (h1 : PySem.W.kitOne K (.ref C) (.ref A.c_BadSettings) = some b1) (h2 : PySem.W.kitOne K (.ref C) (.ref A.c_BadStep) = some b2) (h3 : PySem.W.kitOne K (.ref C) (.ref A.c_NoSensor) = some b3) (h4 : PySem.W.kitOne K (.ref C) (.ref A.c_BadRow) = some b4) (hv : PySem.W.kitOne K (.ref C) (.type "ValueError") = some true)
    (hs : bInt b1 + (bInt b2 + (bInt b3 + (bInt b4 + 0))) = 1) (hj : j < 4) (hjz : ([V.bl b1, .bl b2, .bl b3, .bl b4] : List V)[j]? = some (.bl true)) (hjn : ∀ (m : Nat) (z' : V), m < j → ([V.bl b1, .bl b2, .bl b3, .bl b4] : List V)[m]? = some z' → eqV z' (.bl true) = false)
    (hw : ([V.str "BadSettings", .str "BadStep", .str "NoSensor", .str "BadRow"] : List V)[j]? = some (.str w)) (q : ∀ H', Ex H H' → Q (.str w) H') : t_l_word K A E C a { nx := fun _ H' => Q .non H', rt := Q } [some (.ref a), none, none] H := by
  have fl : ([V.bl b1, .bl b2, .bl b3, .bl b4] : List V).all flatV = true := rfl
  refine q_asgL (xs := [b1, b2, b3, b4].map V.bl) (el_lst (ea_cons (ev_cb (ea_cons (ev_var rfl) (ea_cons ev_c ea_nil)) (rc_isP (.own _) h1)) (ea_cons (ev_cb (ea_cons (ev_var rfl) (ea_cons ev_c ea_nil)) (rc_isP (.own _) h2)) (ea_cons (ev_cb (ea_cons (ev_var rfl) (ea_cons ev_c ea_nil)) (rc_isP (.own _) h3)) (ea_cons (ev_cb (ea_cons (ev_var rfl) (ea_cons ev_c ea_nil)) (rc_isP (.own _) h4)) ea_nil)))) (by show 4 ≤ 100000; decide)) fun p H1 np e1 hp => ?_
  have hI : ([b1, b2, b3, b4].map fun b => V.int (bInt b)) = ([bInt b1, bInt b2, bInt b3, bInt b4]).map V.int := rfl
  have hsum : ([bInt b1, bInt b2, bInt b3, bInt b4] : List Int).sum = 1 := hs
  refine q_when (b := false) (et_is (et_orB (et_test (ev_op (ev_cbN (el_is (el_hotInts rfl hp) hI) fun p2 H2 e2 h2 => rc_sum (sq_of h2)) ev_c rv_neI)) (et_not (et_B (ev_cb (ea_cons (ev_var rfl) (ea_cons ev_c ea_nil)) (rc_isP (.ty _) hv))))) (by rw [hsum]; rfl)) (fun hb => absurd hb (by decide)) fun _ H2 e2 => ?_
  have hwj : ([V.str "BadSettings", .str "BadStep", .str "NoSensor", .str "BadRow"] : List V).getD ((j : Int)).toNat .non = .str w := by rw [Int.toNat_natCast, List.getD_eq_getElem?_getD, hw]; rfl
  refine s_ret (ev_is (ev_menuV (el_lst (ea_cons ev_c (ea_cons ev_c (ea_cons ev_c (ea_cons ev_c ea_nil)))) (by show 4 ≤ 100000; decide)) (ev_index (ev_var rfl) (e2 _ _ hp) ev_c rfl fl hjz rfl hjn) (by omega) (by show (j : Int) < ((4 : Nat) : Int); omega)) hwj) fun H3 e3 => q H3 ((e1.trans e2).trans e3)
theorem pure_l_word (T : Txt K mg A) {Q : VK} {E : XK} {H : Hp} {a C : Addr} {w : Str} (hw : wordE A C w) (q : ∀ H', Ex H H' → Q (.str w) H') : t_l_word K A E C a { nx := fun _ H' => Q .non H', rt := Q } (start ["_law_e", "_law_flags", "_law_flag"] [.ref a]) H := by
  show t_l_word K A E C a _ [some (.ref a), none, none] H
  rcases hw with ⟨rfl, rfl⟩ | ⟨rfl, rfl⟩ | ⟨rfl, rfl⟩ | ⟨rfl, rfl⟩
  · exact word_core Q E (j := 0) T.ki_BadSettings_BadSettings T.ki_BadSettings_BadStep T.ki_BadSettings_NoSensor T.ki_BadSettings_BadRow T.kv_BadSettings rfl (by decide) rfl (fun m z hm => absurd hm (by omega)) rfl q
  · exact word_core Q E (j := 1) T.ki_BadStep_BadSettings T.ki_BadStep_BadStep T.ki_BadStep_NoSensor T.ki_BadStep_BadRow T.kv_BadStep rfl (by decide) rfl (fun m z hm hz => by
      obtain rfl : m = 0 := by omega
      cases hz
      rfl) rfl q
  · exact word_core Q E (j := 2) T.ki_NoSensor_BadSettings T.ki_NoSensor_BadStep T.ki_NoSensor_NoSensor T.ki_NoSensor_BadRow T.kv_NoSensor rfl (by decide) rfl (fun m z hm hz => by
      have : m = 0 ∨ m = 1 := by omega
      rcases this with rfl | rfl <;> cases hz <;> rfl) rfl q
  · exact word_core Q E (j := 3) T.ki_BadRow_BadSettings T.ki_BadRow_BadStep T.ki_BadRow_NoSensor T.ki_BadRow_BadRow T.kv_BadRow rfl (by decide) rfl (fun m z hm hz => by
      have : m = 0 ∨ m = 1 ∨ m = 2 := by omega
      rcases this with rfl | rfl | rfl <;> cases hz <;> rfl) rfl q
theorem exc_of (T : Txt K mg A) {C : Addr} {w : Str} (hw : wordE A C w) : ExcC K C := by
  rcases hw with ⟨rfl, _⟩ | ⟨rfl, _⟩ | ⟨rfl, _⟩ | ⟨rfl, _⟩
  · exact T.ec_BadSettings
  · exact T.ec_BadStep
  · exact T.ec_NoSensor
  · exact T.ec_BadRow
/-- the word that comes out of the clause -/
theorem word_out (T : Txt K mg A) {i n : Nat} {D : Ends} {H : Hp} {C : Addr} {w : Str} (hi : i < n) (hw : wordE A C w) (k : ∀ H', Ex H H' → D.rt (.str w) H') : EL n (wAs K (.ref A.c_VoteError) i (tsW (wordE A) i) (fun _ _ _ _ => False) D) (.ref C) none H := fun σ hσ => by
  have hx : PySem.W.exmOne K (.ref C) (.ref A.c_VoteError) = some true := by
    rcases hw with ⟨rfl, _⟩ | ⟨rfl, _⟩ | ⟨rfl, _⟩ | ⟨rfl, _⟩
    · exact PySem.W.exm_ref T.xb_VoteError T.xd_VoteError T.xt_VoteError T.xs_BadSettings_VoteError
    · exact PySem.W.exm_ref T.xb_VoteError T.xd_VoteError T.xt_VoteError T.xs_BadStep_VoteError
    · exact PySem.W.exm_ref T.xb_VoteError T.xd_VoteError T.xt_VoteError T.xs_NoSensor_VoteError
    · exact PySem.W.exm_ref T.xb_VoteError T.xd_VoteError T.xt_VoteError T.xs_BadRow_VoteError
  exact ⟨true, hx, fun _ a ha => ⟨C, w, rfl, rfl, hw, by rw [List.getElem?_set_self (by omega)], k⟩, fun z => nomatch z⟩
end
end MV
namespace MV
open PySem PySem.Spec PyProof.Rows L2 Evl MVH LamX
theorem ok_l_word {P : Program} {w : World} {K : PySem.W.Frag} {mg : Str → Option Value} {base : Heap} {A : Ads} (T : Txt K mg A) {A0 : Around} {outer : List Env} {s : Shared} {H : Hp} {args : Args} {us : List Value} {Q : VK} {E : XK} {p : Addr × Obj} {C : Addr} {wd : Str} (hr : L2H.RoomH 2 A0) (h1 : L2H.Hot1 A0 p) (hpin : L2H.PinOk outer H s p) (e0 : Env0 P w K mg base A0 outer s H) (hb : BindsTo s A.d_l_word args ((["_law_e"] : List Str).zip us)) (r : Vals [.ref p.1] us) (hz : Zc (.ref C) none p.2) (hf : ∃ vs, p.2.data = .fields vs) (hw : wordE A C wd) (q : ∀ H', Ex H H' → Q (.str wd) H') : codeAny (model P w) A0 (.call (.ref A.f_l_word) args) (CR CX0 outer P w H s Q E) s := by
  refine fn_pin T.F_l_word sc_l_word hr h1 hpin e0 hb r rfl fun cdv => ?_
  have hC : ExcC K C := exc_of T hw
  refine ⟨t_l_word K A E C p.1, ?_, pure_l_word T hw q⟩
  have hot : L2H.HotC (L2H.cxH CX0 P w K mg base ["_law_e", "_law_flags", "_law_flag"] "_law_word" (defScope s_l_word) A.f_l_word cdv A0 outer s H E p) := ⟨p, h1, List.mem_singleton.mpr rfl⟩
  have hp : p ∈ (L2H.cxH CX0 P w K mg base ["_law_e", "_law_flags", "_law_flag"] "_law_word" (defScope s_l_word) A.f_l_word cdv A0 outer s H E p).pn := List.mem_singleton.mpr rfl
  exact (pss_cons (ps_asg (pe_lst (pa_cons (pe_callB (call_isP hp hz hf hC) (by rfl) T.n_isinstance PyProof.Rows.boot_isinstance (pa_cons (pv 0) (pa_cons (pe_glob rfl T.g_BadSettings rfl) pa_nil))) (pa_cons (pe_callB (call_isP hp hz hf hC) (by rfl) T.n_isinstance PyProof.Rows.boot_isinstance (pa_cons (pv 0) (pa_cons (pe_glob rfl T.g_BadStep rfl) pa_nil))) (pa_cons (pe_callB (call_isP hp hz hf hC) (by rfl) T.n_isinstance PyProof.Rows.boot_isinstance (pa_cons (pv 0) (pa_cons (pe_glob rfl T.g_NoSensor rfl) pa_nil))) (pa_cons (pe_callB (call_isP hp hz hf hC) (by rfl) T.n_isinstance PyProof.Rows.boot_isinstance (pa_cons (pv 0) (pa_cons (pe_glob rfl T.g_BadRow rfl) pa_nil))) pa_nil))))) (pg_name (i := 1) sc_l_word.nd rfl (by first | exact Or.inl rfl | exact Or.inr rfl)))
      (pss_cons (ps_if (PW.pt (pw_or (pt_cmpR op_ne (pe_callB (cr_sumH hot) (by rfl) T.n_sum PyProof.Rows.boot_sum (pa_cons (pe_hotInts rfl hot sc_l_word.nd (blkOk_by (own := [("_law_flag", 2)]) (N := ["_law_e", "_law_flags", "_law_flag"]) (sc := defScope s_l_word) (by decide +kernel)) (by decide +kernel) (pv 1) (fun _ _ _ _ _ => (pg_name (i := 2) sc_l_word.nd rfl (by first | exact Or.inl rfl | exact Or.inr rfl))) (fun _ _ _ _ _ => (pe_callTy call_int1 (by rfl) T.n_int PyProof.Rows.boot_int (pa_cons (pv 2) pa_nil)))) pa_nil)) pe_int (nomark _)) (pw_or1 (pt_not (pt_val (pe_callB (call_isP hp hz hf hC) (by rfl) T.n_isinstance PyProof.Rows.boot_isinstance (pa_cons (pv 0) (pa_cons (pe_bltn (v := .ty "ValueError") (by rfl) T.n_ValueError (by decide +kernel) rfl) pa_nil)))))))) (pss_one (ps_ret pe_str)) pss_nil)
      (pss_one (ps_ret (pe_ix ix_list (pe_lst (pa_cons pe_str (pa_cons pe_str (pa_cons pe_str (pa_cons pe_str pa_nil))))) (pe_bm PySem.F.plainAttrs_list PySem.F.slot_list_index PySem.F.type_list_index mt_index (pv 1) (pa_cons pe_bl pa_nil)) (fun _ _ => rfl))))))
end MV
namespace MV
open PySem PySem.Spec PyProof.Rows L2 Evl MVH LamX
/-! ### _law_told(lambda: ..) -/
def TToldN (A : Ads) : (XK → Hp → VK → Prop) → Hp → VK → Prop := fun tl H Q => tl (fun cls d H' => d = none ∧ ∃ C w, cls = .ref C ∧ wordE A C w ∧ ∀ H'', Ex H' H'' → Q (.str w) H'') H Q
theorem told_givesN {X : Cx} {A : Ads} (T : Txt X.K X.mg A) {k : Nat} (hk : 1 ≤ k) {x q : Str} {g : Addr} {cdg : Value} : GivesToN k X ["_law_deed", "_law_e"] x (defScope s_l_told) g cdg (defBody s_l_told) "_law_deed" q (TToldN A) := by
  intro f c' s H Q tl hr act hc h
  refine ⟨_, pss_one (L2N.ps_try_as (X := (cxOf CX0 X.prog X.w X.K X.mg X.base ["_law_deed", "_law_e"] x (defScope s_l_told) g cdg X.A X.stack s H E0).nox) (c := .ref A.c_VoteError) (i := 1) (Wout := fun _ _ _ _ => False)
      (tb := fun W D σ H => ∃ Ech : XK, (∀ cls d σ' H', σ'.length = 2 → Ech cls d H' → W cls d σ' H') ∧ σ[0]? = some (some (.ref f)) ∧ H c' = some (CodeO c' q) ∧ tl Ech H D.rt) (ts := tsW (wordE A) 1)
      rfl rfl (show (["_law_deed", "_law_e"] : List Str).Nodup by decide) rfl rfl ⟨rfl, by decide, .inl T.g_VoteError⟩ takesN0 (fun W pn xe tkW _ => ?_) (fun a oe cls d pn hz hf => pss_retW fun C w h1 h2 h3 => by subst h1 h2; exact (pe_callP (k := 2) hz hf (fun A0 outer s H args us Q q1 q2 q3 q4 q5 q6 q7 => ok_l_word T q1 q2 q3 q4 q5 q6 hz.zc hf h3 q7) (hr.mono (by omega)) rfl T.g_l_word T.F_l_word.kp T.b_l_word rfl (pv 1)))), ?_⟩
  · refine ⟨fun pins s' σ H' D I h' => ?_⟩
    obtain ⟨Ech, hW, h1, h2, h3⟩ := h'
    have hp := fun p1 p2 => act _ pn xe Ech p1 p2 (takesN_len tkW) (fun cls d σ' H' e hl => hW cls d σ' H' hl e)
    exact (pss_one (ps_ret (hp _ _))).run pins s' σ H' D I ⟨h1, h2, h3⟩
  · exact ⟨fun cls d H' => d = none ∧ ∃ C w, cls = .ref C ∧ wordE A C w ∧ ∀ H'', Ex H' H'' → Q (.str w) H'', fun cls d σ' H' hl ⟨e1, C, w, e2, e3, e4⟩ => by subst e1 e2; exact word_out T (by decide) e3 e4 σ' hl, rfl, hc, h⟩
theorem pe_told {X : Cx} {A : Ads} (T : Txt X.K X.mg A) {k : Nat} {params : Arguments} {body : Expr} {scope : Scope} {t : XK → TE} {p lpos pos : Pos} (hg : Gl X "_law_told") (TB : TabB X.base X.mg A.cd_law A.P_law) (hcode : X.env.code = .ref A.cd_law) (hr : Room (k + 2) X.A) (L : LamS X.env.scope scope) (hdef : defaultsOf params X.env = ([], []))
    (hbind : ∀ (q : Str) (cl : List (Str × Addr)) (pm cv ctv : Value), bindArgs (PySem.W.kla_fn "<lambda>" q params body scope cl pm cv ctv) ⟨[], []⟩ = pure [])
    (hbody : ∀ (A : Around) (outer : List Env) (s : Shared) (H : Hp) (E : XK) (f c' : Addr), Room k (A.deeper (lamEnv X scope s.heap.objs.size f c')) → PE (lamCxN X A outer s H E scope f c') body (t E)) (hk : 1 ≤ k := by decide) :
    PE X (.Call (.Name "_law_told" p) [.Lambda params body scope lpos] [] pos) (tLam [(A.P_law, X.env.qual ++ "<lambda>")] (TToldN A) t) := by
  obtain ⟨oc, od, kV, doc, pm, an, cdv, ct, osl, hfd, lk, hcd⟩ := T.F_l_told.ex
  have hb := T.b_l_told
  rw [hfd] at lk hb
  exact pe_lamcallN hg T.g_l_told T.F_l_told.kp lk hcd hb sc_l_told rfl (.inl rfl) (told_givesN T hk) TB hcode (List.mem_singleton.mpr rfl) (fun p hp _ => by rw [List.mem_singleton.mp hp]) hr L hdef hbind hbody
section
variable {A : Ads} {σ : L2.St} {H : Hp} {D : Ends} {tz : TS}
theorem q_told {P C : Addr} {q w : Str} {t : XK → TE} (hw : wordE A C w) (hT : TabS H P q) (h : ∀ H1, ExtN H H1 → ∀ (E : XK) (Q : VK), (∀ H2, Ex H1 H2 → E (.ref C) none H2) → t E σ H1 Q) (k : ∀ H2, ExtN H H2 → TabS H2 P q → tz D σ H2) :
    tSeq (tIfS (tTest (tOp rNe (tLam [(P, q)] (TToldN A) t) (tC (.str w)))) (tRet (tC (.bl false))) tNext) tz D σ H := by
  refine ⟨fun p hp => by rw [List.mem_singleton.mp hp]; exact hT, fun H1 e1 t1 => ?_⟩
  have t1 := t1 _ (List.mem_singleton.mpr rfl)
  refine h H1 e1 _ _ fun H2 e2 => ⟨rfl, C, w, rfl, hw, fun H3 e3 => ?_⟩
  refine ⟨rfl, _, rfl, ?_⟩
  rw [decide_eq_true (rfl : V.str w = V.str w)]
  exact k H3 (e1.trans (ExtN.of (e2.trans e3))) (t1.ext (e2.trans e3))
theorem s_told {P C : Addr} {q w : Str} {t : XK → TE} (hw : wordE A C w) (hT : TabS H P q) (h : ∀ H1, ExtN H H1 → ∀ (E : XK) (Q : VK), (∀ H2, Ex H1 H2 → E (.ref C) none H2) → t E σ H1 Q) (k : ∀ H2, ExtN H H2 → TabS H2 P q → D.nx σ H2) :
    tIfS (tTest (tOp rNe (tLam [(P, q)] (TToldN A) t) (tC (.str w)))) (tRet (tC (.bl false))) tNext D σ H := q_told (tz := tNext) hw hT h k
end
end MV
namespace MV
open PySem PySem.Spec PyProof.Rows L2 Evl MVH LamX
/-! ### settings at and beyond their bounds; all that a voter tells -/
abbrev SetK (K : PySem.W.Frag) (H : Hp) (Q : VK) (g : Bool) : Prop := ∀ (m t r ms b : Int) (p : Addr) (H' : Hp), okSet m t r ms b = g → H p = none → Ex H H' → H' p = some (.tup [.int m, .int t, .int r, .int ms, .int b]) → Q (.ref p) H'
def sp_l_good (K : PySem.W.Frag) (A : Ads) : Sp := fun vs H Q _ => ∃ more : Int, vs = [.int more] ∧ SetK K H Q true
def sp_l_bad (K : PySem.W.Frag) (A : Ads) : Sp := fun vs H Q _ => ∃ (more : Int) (st : Addr) (m t r ms b : Int), vs = [.int more, .ref st] ∧ SqT K H st [.int m, .int t, .int r, .int ms, .int b] ∧ SetK K H Q false
def allV (v : Vst) : List (List V) := (List.range v.ss.length).map fun i => [.str (stateW (v.ss.getD i S0)), .int (v.ss.getD i S0).2]
/-- all that a voter tells, at p -/
def AllAt (H : Hp) (p : Addr) (v : Vst) : Prop := ∃ rs : List Addr, H p = some (.lst (.int v.last :: rs.map V.ref)) ∧ TupsAt H rs (allV v)
def sp_l_all (K : PySem.W.Frag) (A : Ads) : Sp := fun vs H Q _ => ∃ (p l : Addr) (as : List Addr) (v : Vst), vs = [.ref p, .int (v.ss.length : Nat)] ∧ VAt A H p l as v ∧ ∀ (q : Addr) (H' : Hp), Ex H H' → AllAt H' q v → Q (.ref q) H'
section
variable {K : PySem.W.Frag} {A : Ads} {vs : List V} {H : Hp} {Q : VK} {E : XK}
theorem len_l_good (h : sp_l_good K A vs H Q E) : vs.length = 1 := by obtain ⟨_, rfl, _⟩ := h; rfl
theorem len_l_bad (h : sp_l_bad K A vs H Q E) : vs.length = 2 := by obtain ⟨_, _, _, _, _, _, _, rfl, _⟩ := h; rfl
theorem len_l_all (h : sp_l_all K A vs H Q E) : vs.length = 2 := by obtain ⟨_, _, _, _, rfl, _⟩ := h; rfl
end
theorem sc_l_all : FnScope ["_law_voter", "_law_many", "_law_place"] ["_law_voter", "_law_many"] (defScope s_l_all) := ⟨rfl, rfl, rfl, by decide +kernel, rfl, by decide +kernel, by decide +kernel⟩
def t_l_all (K : PySem.W.Frag) (A : Ads) (E : XK) : TS :=
      (tRet (tOp rCat (tLst (tCons (tMeth A.c_Voter "given" (sp_Voter_given K A) [] E0 (tVar 0) tNil) tNil)) (tLc (iRng1 (tCons (tVar 1) tNil)) (gName 2) tYes (tTup (tCons (tMeth A.c_Voter "state" (sp_Voter_state K A) [] E0 (tVar 0) (tCons (tVar 2) tNil)) (tCons (tMeth A.c_Voter "count" (sp_Voter_count K A) [] E0 (tVar 0) (tCons (tVar 2) tNil)) tNil))) [2])))
theorem sc_l_bad : FnScope ["_law_more", "_law_settings_here", "_law_at", "_law_some"] ["_law_more", "_law_settings_here"] (defScope s_l_bad) := ⟨rfl, rfl, rfl, by decide +kernel, rfl, by decide +kernel, by decide +kernel⟩
def t_l_bad (K : PySem.W.Frag) (A : Ads) (E : XK) : TS :=
      (tSeq (tAsg (tOp oMod (tVar 0) (tC (.int 5))) (gName 2))
      (tSeq (tAsg (tOp (rIxL K) (tOp (rIxL K) (tLst (tCons (tLst (tCons (tC (.int 2)) (tCons (tC (.int 10)) (tCons (tC (.int 0)) tNil)))) (tCons (tLst (tCons (tUn oNeg (tC (.int 1))) (tCons (tC (.int 1000001)) (tCons (tUn oNeg (tC (.int 5))) tNil)))) (tCons (tLst (tCons (tC (.int 0)) (tCons (tC (.int 1000001)) (tCons (tUn oNeg (tC (.int 1))) tNil)))) (tCons (tLst (tCons (tC (.int 0)) (tCons (tC (.int 1001)) (tCons (tUn oNeg (tC (.int 1))) tNil)))) (tCons (tLst (tCons (tC (.int 0)) (tCons (tC (.int 1001)) (tCons (tUn oNeg (tC (.int 1))) tNil)))) tNil)))))) (tVar 2)) (tOp oMod (tOp oDivW (tVar 0) (tC (.int 8))) (tC (.int 3)))) (gName 3))
      (tRet (tOp (rCatA K) (tOp (rCatA K) (tSl (rSlT K) (tVar 1) tNoPart (tPart (tVar 2))) (tTup (tCons (tVar 3) tNil))) (tSl (rSlT K) (tVar 1) (tPart (tOp oAdd (tVar 2) (tC (.int 1)))) tNoPart)))))
theorem sc_l_good : FnScope ["_law_more"] ["_law_more"] (defScope s_l_good) := ⟨rfl, rfl, rfl, by decide +kernel, rfl, by decide +kernel, by decide +kernel⟩
def t_l_good (K : PySem.W.Frag) (A : Ads) (E : XK) : TS :=
      (tRet (tTup (tCons (tOp (rIxL K) (tLst (tCons (tC (.int 3)) (tCons (tC (.int 9)) tNil))) (tOp oMod (tVar 0) (tC (.int 2)))) (tCons (tOp (rIxL K) (tLst (tCons (tC (.int 0)) (tCons (tC (.int 1000000)) tNil))) (tOp oMod (tOp oDivW (tVar 0) (tC (.int 2))) (tC (.int 2)))) (tCons (tOp (rIxL K) (tLst (tCons (tC (.int 1)) (tCons (tC (.int 1000000)) tNil))) (tOp oMod (tOp oDivW (tVar 0) (tC (.int 4))) (tC (.int 2)))) (tCons (tOp (rIxL K) (tLst (tCons (tC (.int 1)) (tCons (tC (.int 1000)) tNil))) (tOp oMod (tOp oDivW (tVar 0) (tC (.int 8))) (tC (.int 2)))) (tCons (tOp (rIxL K) (tLst (tCons (tC (.int 1)) (tCons (tC (.int 1000)) tNil))) (tOp oMod (tOp oDivW (tVar 0) (tC (.int 16))) (tC (.int 2)))) tNil)))))))
end MV
namespace MV
open PySem PySem.Spec PyProof.Rows L2 Evl MVH LamX
section
variable {K : PySem.W.Frag} {mg : Str → Option Value} {A : Ads} {σ : L2.St} {H : Hp} {D : Ends} {tz : TS}
theorem t_five {t0 t1 t2 t3 t4 : TE} {x0 x1 x2 x3 x4 : List V} {Q : VK} (h0 : EvL t0 σ H x0) (h1 : EvL t1 σ H x1) (h2 : EvL t2 σ H x2) (h3 : EvL t3 σ H x3) (h4 : EvL t4 σ H x4)
    (k : ∀ (p a0 a1 a2 a3 a4 : Addr) (H' : Hp), Ex H H' → H' p = some (.lst [.ref a0, .ref a1, .ref a2, .ref a3, .ref a4]) → H' a0 = some (.lst x0) → H' a1 = some (.lst x1) → H' a2 = some (.lst x2) → H' a3 = some (.lst x3) → H' a4 = some (.lst x4) → Q (.ref p) H') :
    tLst (tCons t0 (tCons t1 (tCons t2 (tCons t3 (tCons t4 tNil))))) σ H Q := by
  refine h0 H (Ex.refl H) _ fun a0 H1 n0 e1 g0 => ?_
  refine h1 H1 e1 _ fun a1 H2 n1 e2 g1 => ?_
  refine h2 H2 (e1.trans e2) _ fun a2 H3 n2 e3 g2 => ?_
  refine h3 H3 ((e1.trans e2).trans e3) _ fun a3 H4 n3 e4 g3 => ?_
  refine h4 H4 (((e1.trans e2).trans e3).trans e4) _ fun a4 H5 n4 e5 g4 => ?_
  refine ⟨sz_of (by show 5 ≤ 100000; decide), fun p np => ?_⟩
  have e6 : Ex H5 (upd H5 p (.lst [.ref a0, .ref a1, .ref a2, .ref a3, .ref a4])) := Ex.new np
  exact k p a0 a1 a2 a3 a4 _ (((((e1.trans e2).trans e3).trans e4).trans e5).trans e6) upd_same ((((e2.trans e3).trans e4).trans e5).trans e6 _ _ g0) (((e3.trans e4).trans e5).trans e6 _ _ g1) ((e4.trans e5).trans e6 _ _ g2) (e5.trans e6 _ _ g3) (e6 _ _ g4)
theorem eu_slT {te : TE} {tl th : TO} {a : Addr} {xs : List V} {lo hi : Option Int} (h : Ev te σ H (.ref a)) (h1 : EvO tl σ H lo) (h2 : EvO th σ H hi) (hs : SqT K H a xs) (hn : ¬ (HT.sIx xs.length 0 lo = 0 ∧ HT.sIx xs.length xs.length hi = xs.length)) : EvU (tSl (rSlT K) te tl th) σ H (cutV xs lo hi) := fun H1 e _ q =>
  h H1 e _ fun H2 e2 => h1 H2 (e.trans e2) _ fun H3 e3 => h2 H3 ((e.trans e2).trans e3) _ fun H4 e4 => ⟨a, xs, rfl, ex_t (((e.trans e2).trans e3).trans e4) hs, hn, fun p hp => q p _ (fresh_back ((e2.trans e3).trans e4) hp) (((e2.trans e3).trans e4).trans (Ex.new hp)) upd_same⟩
theorem eu_catA {ta tb : TE} {xs ys : List V} (ha : EvU ta σ H xs) (hb : EvU tb σ H ys) (hz : xs.length + ys.length ≤ 100000) : EvU (tOp (rCatA K) ta tb) σ H (xs ++ ys) := fun H1 e Q q =>
  ha H1 e _ fun p H2 np e2 hp => hb H2 (e.trans e2) _ fun r H3 nr e3 hr => ⟨p, r, xs, ys, rfl, rfl, st_of (e3 _ _ hp), st_of hr, sz_of hz, fun z => q r H3 (fresh_back e2 nr) (e2.trans e3) (by rw [z, List.nil_append]; exact hr), fun _ z => q p H3 np (e2.trans e3) (by rw [z, List.append_nil]; exact e3 _ _ hp), fun _ _ l hl => q l _ (fresh_back (e2.trans e3) hl) ((e2.trans e3).trans (Ex.new hl)) upd_same⟩
theorem eu_is {te : TE} {xs ys : List V} (h : EvU te σ H xs) (e : xs = ys) : EvU te σ H ys := e ▸ h
theorem in2 {i : Int} (h0 : 0 ≤ i) (h1 : i < 2) : i = 0 ∨ i = 1 := by omega
theorem ev_pick {i : Nat} {n x y : Int} {tb : TE} {j : Int} (hj : Ev tb σ H (.int j)) (h0 : 0 ≤ j) (h1 : j < 2) : Ev (tOp (rIxL K) (tLst (tCons (tC (.int x)) (tCons (tC (.int y)) tNil))) tb) σ H (.int (if j = 0 then x else y)) := by
  refine ev_is (ev_menuV (el_lst (ea_cons ev_c (ea_cons ev_c ea_nil)) (by show 2 ≤ 100000; decide)) hj h0 (by show j < ((2 : Nat) : Int); omega)) ?_
  rcases in2 h0 h1 with rfl | rfl <;> rfl
theorem ev_dm {n c : Int} (h : σ[0]? = some (some (.int n))) (h1 : 0 < c) (h2 : c < 18446744073709551616) (d : Int) (hd : 0 < d) : Ev (tOp oMod (tOp oDivW (tVar 0) (tC (.int c))) (tC (.int d))) σ H (.int (n / c % d)) :=
  ev_op (ev_op (ev_var h) ev_c (Evl.rv_I (cdiv_s h1 h2))) ev_c (Evl.rv_I hd)
theorem ok_good {m t r ms b : Int} (h1 : m = 3 ∨ m = 9) (h2 : t = 0 ∨ t = 1000000) (h3 : r = 1 ∨ r = 1000000) (h4 : ms = 1 ∨ ms = 1000) (h5 : b = 1 ∨ b = 1000) : okSet m t r ms b = true := by
  unfold okSet
  simp only [Bool.and_eq_true, decide_eq_true_eq]
  omega
theorem if_or {p : Prop} [Decidable p] {x y : Int} : (if p then x else y) = x ∨ (if p then x else y) = y := by split <;> simp
theorem pure_l_good (T : Txt K mg A) (vs : List V) (H : Hp) (Q : VK) (E : XK) (h : sp_l_good K A vs H Q E) : t_l_good K A E { nx := fun _ H' => Q .non H', rt := Q } (start ["_law_more"] vs) H := by
  obtain ⟨n, rfl, q⟩ := h
  show t_l_good K A E _ [some (.int n)] H
  have hm : ∀ c : Int, 0 ≤ n / c % 2 ∧ n / c % 2 < 2 := fun c => ⟨Int.emod_nonneg _ (by decide), Int.emod_lt_of_pos _ (by decide)⟩
  have hm1 : 0 ≤ n % 2 ∧ n % 2 < 2 := ⟨Int.emod_nonneg _ (by decide), Int.emod_lt_of_pos _ (by decide)⟩
  refine s_retU (xs := [.int (if n % 2 = 0 then 3 else 9), .int (if n / 2 % 2 = 0 then 0 else 1000000), .int (if n / 4 % 2 = 0 then 1 else 1000000), .int (if n / 8 % 2 = 0 then 1 else 1000), .int (if n / 16 % 2 = 0 then 1 else 1000)]) (eu_tup (ea_cons (ev_pick (i := 0) (n := n) (ev_op (ev_var rfl) ev_c (Evl.rv_I (by decide))) hm1.1 hm1.2) (ea_cons (ev_pick (i := 0) (n := n) (ev_dm rfl (by decide) (by decide) 2 (by decide)) (hm 2).1 (hm 2).2) (ea_cons (ev_pick (i := 0) (n := n) (ev_dm rfl (by decide) (by decide) 2 (by decide)) (hm 4).1 (hm 4).2) (ea_cons (ev_pick (i := 0) (n := n) (ev_dm rfl (by decide) (by decide) 2 (by decide)) (hm 8).1 (hm 8).2) (ea_cons (ev_pick (i := 0) (n := n) (ev_dm rfl (by decide) (by decide) 2 (by decide)) (hm 16).1 (hm 16).2) ea_nil))))) (by show 5 ≤ 100000; decide)) fun p H1 np e1 hp => ?_
  refine q _ _ _ _ _ p H1 ?_ np e1 hp
  exact ok_good if_or if_or if_or if_or if_or
theorem l3 (x y z : Int) {ta tb tc : TE} (ha : Ev ta σ H (.int x)) (hb : Ev tb σ H (.int y)) (hc : Ev tc σ H (.int z)) : EvL (tLst (tCons ta (tCons tb (tCons tc tNil)))) σ H [.int x, .int y, .int z] := el_lst (ea_cons ha (ea_cons hb (ea_cons hc ea_nil))) (by show 3 ≤ 100000; decide)
theorem t_op {r : R2} {ta tb : TE} {Q : VK} (h : ta σ H fun x H1 => tb σ H1 fun y H2 => r x y H2 Q) : tOp r ta tb σ H Q := h
/-- the tuple with one exchanged -/
theorem bad_tup {st : Addr} {m t r ms b v : Int} {Q : VK} {j : Nat} (hj : j < 5) (h1 : σ[1]? = some (some (.ref st))) (h2 : σ[2]? = some (some (.int (j : Int)))) (h3 : σ[3]? = some (some (.int v))) (hT : SqT K H st [.int m, .int t, .int r, .int ms, .int b])
    (k : ∀ p H', H p = none → Ex H H' → H' p = some (.tup (([V.int m, .int t, .int r, .int ms, .int b] : List V).set j (.int v))) → Q (.ref p) H') :
    tOp (rCatA K) (tOp (rCatA K) (tSl (rSlT K) (tVar 1) tNoPart (tPart (tVar 2))) (tTup (tCons (tVar 3) tNil))) (tSl (rSlT K) (tVar 1) (tPart (tOp oAdd (tVar 2) (tC (.int 1)))) tNoPart) σ H Q := by
  have hs1 : HT.sIx 5 5 (some (j : Int)) = j := by rw [HT.sIx_nat]; omega
  have hs2 : HT.sIx 5 0 (some ((j : Int) + 1)) = j + 1 := by rw [show (j : Int) + 1 = ((j + 1 : Nat) : Int) by omega, HT.sIx_nat]; omega
  have u1 : EvU (tSl (rSlT K) (tVar 1) tNoPart (tPart (tVar 2))) σ H (cutV [V.int m, .int t, .int r, .int ms, .int b] none (some (j : Int))) := eu_slT (ev_var h1) eo_none (eo_some (ev_var h2)) hT (fun z => by
    have := z.2
    rw [show [V.int m, .int t, .int r, .int ms, .int b].length = 5 from rfl, hs1] at this
    omega)
  have u2 : EvU (tSl (rSlT K) (tVar 1) (tPart (tOp oAdd (tVar 2) (tC (.int 1)))) tNoPart) σ H (cutV [V.int m, .int t, .int r, .int ms, .int b] (some ((j : Int) + 1)) none) := eu_slT (ev_var h1) (eo_some (ev_op (ev_var h2) ev_c rv_I0)) eo_none hT (fun z => by
    have := z.1
    rw [show [V.int m, .int t, .int r, .int ms, .int b].length = 5 from rfl, hs2] at this
    omega)
  have e1 : cutV [V.int m, .int t, .int r, .int ms, .int b] none (some (j : Int)) = [V.int m, .int t, .int r, .int ms, .int b].take j := by
    show (List.drop 0 [V.int m, .int t, .int r, .int ms, .int b]).take (HT.sIx 5 5 (some (j : Int)) - 0) = _
    rw [hs1]; rfl
  have e2 : cutV [V.int m, .int t, .int r, .int ms, .int b] (some ((j : Int) + 1)) none = [V.int m, .int t, .int r, .int ms, .int b].drop (j + 1) := by
    show ([V.int m, .int t, .int r, .int ms, .int b].drop (HT.sIx 5 0 (some ((j : Int) + 1)))).take (5 - HT.sIx 5 0 (some ((j : Int) + 1))) = _
    rw [hs2]
    exact List.take_of_length_le (by rw [List.length_drop]; exact Nat.le_refl _)
  rw [e1] at u1
  rw [e2] at u2
  refine (eu_catA (eu_catA u1 (eu_tup (ea_cons (ev_var h3) ea_nil) (by show 1 ≤ 100000; decide)) (by rw [List.length_take]; show min j 5 + 1 ≤ 100000; omega)) u2 (by rw [List.length_append, List.length_take, List.length_drop]; show min j 5 + 1 + (5 - (j + 1)) ≤ 100000; omega)) H (Ex.refl H) _ fun p H' np e hp => k p H' np e ?_
  rw [hp]
  congr 2
  have : j = 0 ∨ j = 1 ∨ j = 2 ∨ j = 3 ∨ j = 4 := by omega
  rcases this with rfl | rfl | rfl | rfl | rfl <;> rfl
theorem bad_vals {j : Nat} {ix : Int} (hj : j < 5) (hi : 0 ≤ ix ∧ ix < 3) {m t r ms b : Int} : ∃ v : Int, (([[2, 10, 0], [-1, 1000001, -5], [0, 1000001, -1], [0, 1001, -1], [0, 1001, -1]] : List (List Int)).getD j []).getD ix.toNat 0 = v ∧ ∃ m' t' r' ms' b', ([V.int m, .int t, .int r, .int ms, .int b] : List V).set j (.int v) = [.int m', .int t', .int r', .int ms', .int b'] ∧ okSet m' t' r' ms' b' = false := by
  have hi3 : ix = 0 ∨ ix = 1 ∨ ix = 2 := by omega
  have hj5 : j = 0 ∨ j = 1 ∨ j = 2 ∨ j = 3 ∨ j = 4 := by omega
  have key : ∀ {m t r ms b : Int}, ¬ ((3 ≤ m ∧ m ≤ 9) ∧ (0 ≤ t ∧ t ≤ 1000000) ∧ (1 ≤ r ∧ r ≤ 1000000) ∧ (1 ≤ ms ∧ ms ≤ 1000) ∧ 1 ≤ b ∧ b ≤ 1000) → okSet m t r ms b = false := fun h => by
    cases hb : okSet _ _ _ _ _ with
    | false => rfl
    | true => exact absurd (okSet_m hb) h
  rcases hj5 with rfl | rfl | rfl | rfl | rfl <;> rcases hi3 with rfl | rfl | rfl <;> first | exact ⟨2, rfl, _, _, _, _, _, rfl, key (by omega)⟩ | exact ⟨10, rfl, _, _, _, _, _, rfl, key (by omega)⟩ | exact ⟨0, rfl, _, _, _, _, _, rfl, key (by omega)⟩ | exact ⟨-1, rfl, _, _, _, _, _, rfl, key (by omega)⟩ | exact ⟨1000001, rfl, _, _, _, _, _, rfl, key (by omega)⟩ | exact ⟨-5, rfl, _, _, _, _, _, rfl, key (by omega)⟩ | exact ⟨1001, rfl, _, _, _, _, _, rfl, key (by omega)⟩
theorem pure_l_bad (T : Txt K mg A) (vs : List V) (H : Hp) (Q : VK) (E : XK) (h : sp_l_bad K A vs H Q E) : t_l_bad K A E { nx := fun _ H' => Q .non H', rt := Q } (start ["_law_more", "_law_settings_here", "_law_at", "_law_some"] vs) H := by
  obtain ⟨n, st, m, t, r, ms, b, rfl, hT, q⟩ := h
  show t_l_bad K A E _ [some (.int n), some (.ref st), none, none] H
  refine q_asg (v := .int (n % 5)) (ev_op (ev_var rfl) ev_c (Evl.rv_I (by decide))) fun H1 e1 => ?_
  have h0 : 0 ≤ n % 5 := Int.emod_nonneg _ (by decide)
  have h1 : n % 5 < 5 := Int.emod_lt_of_pos _ (by decide)
  have i0 : 0 ≤ n / 8 % 3 := Int.emod_nonneg _ (by decide)
  have i1 : n / 8 % 3 < 3 := Int.emod_lt_of_pos _ (by decide)
  have hT1 := ex_t e1 hT
  obtain ⟨j, hj⟩ : ∃ j : Nat, n % 5 = (j : Int) := ⟨_, (Int.toNat_of_nonneg h0).symm⟩
  have hj5 : j < 5 := by omega
  refine q_asgR ?_
  refine t_op (t_op ?_)
  refine t_five (l3 2 10 0 ev_c ev_c ev_c) (l3 (-1) 1000001 (-5) (ev_un ev_c ru_neg) ev_c (ev_un ev_c ru_neg)) (l3 0 1000001 (-1) ev_c ev_c (ev_un ev_c ru_neg)) (l3 0 1001 (-1) ev_c ev_c (ev_un ev_c ru_neg)) (l3 0 1001 (-1) ev_c ev_c (ev_un ev_c ru_neg)) fun p a0 a1 a2 a3 a4 H2 e2 hp g0 g1 g2 g3 g4 => ?_
  obtain ⟨v, hv, m', t', r', ms', b', hset, hbad⟩ := bad_vals (m := m) (t := t) (r := r) (ms := ms) (b := b) hj5 ⟨i0, i1⟩
  obtain ⟨aj, xs, hat, hxs, hlen, hval⟩ : ∃ (aj : Addr) (xs : List Int), [V.ref a0, .ref a1, .ref a2, .ref a3, .ref a4][j]? = some (.ref aj) ∧ H2 aj = some (.lst (xs.map V.int)) ∧ xs.length = 3 ∧ xs.getD (n / 8 % 3).toNat 0 = v := by
    have : j = 0 ∨ j = 1 ∨ j = 2 ∨ j = 3 ∨ j = 4 := by omega
    rcases this with rfl | rfl | rfl | rfl | rfl
    · exact ⟨a0, [2, 10, 0], rfl, g0, rfl, hv⟩
    · exact ⟨a1, [-1, 1000001, -5], rfl, g1, rfl, hv⟩
    · exact ⟨a2, [0, 1000001, -1], rfl, g2, rfl, hv⟩
    · exact ⟨a3, [0, 1001, -1], rfl, g3, rfl, hv⟩
    · exact ⟨a4, [0, 1001, -1], rfl, g4, rfl, hv⟩
  rw [hj]
  refine ⟨.int (j : Int), rfl, ?_⟩
  refine rv_ixL (sq_of hp) (atI_nat hat) H2 (Ex.refl H2) _ fun H3 e3 => ?_
  refine ev_dm (n := n) rfl (by decide) (by decide) 3 (by decide) H3 (Ex.refl H3) _ fun H4 e4 => ?_
  obtain ⟨ix, hix⟩ : ∃ ix : Nat, n / 8 % 3 = (ix : Int) := ⟨_, (Int.toNat_of_nonneg i0).symm⟩
  rw [hix] at hval i1 ⊢
  have hxv : (xs.map V.int)[ix]? = some (.int v) := by
    rw [List.getElem?_map]
    have hl : ix < xs.length := by omega
    rw [List.getElem?_eq_getElem hl]
    rw [Int.toNat_natCast, List.getD_eq_getElem?_getD, List.getElem?_eq_getElem hl] at hval
    show some (V.int xs[ix]) = _
    rw [show xs[ix] = v from hval]
  refine rv_ixL (sq_of (e4 _ _ (e3 _ _ hxs))) (atI_nat hxv) H4 (Ex.refl H4) _ fun H5 e5 => ?_
  have e15 := (((e2.trans e3).trans e4).trans e5)
  show tRet _ _ _ H5
  refine bad_tup (j := j) (m := m) (t := t) (r := r) (ms := ms) (b := b) (v := v) hj5 rfl rfl rfl (ex_t e15 hT1) fun p5 H6 n6 e6 h6 => ?_
  exact q m' t' r' ms' b' p5 H6 hbad (fresh_back (e1.trans e15) n6) ((e1.trans e15).trans e6) (by rw [h6, hset])
theorem all_flat4 (v : Vst) : ∀ c ∈ allV v, c.all flat4 = true := fun c hc => by
  obtain ⟨i, _, rfl⟩ := List.mem_map.mp hc
  have h1 : flat4 (.str (stateW (v.ss.getD i S0))) = true := by
    unfold stateW
    (repeat' split) <;> decide +kernel
  show (flat4 (.str (stateW (v.ss.getD i S0))) && (flat4 (.int (v.ss.getD i S0).2) && true)) = true
  rw [h1]
  rfl
theorem AllAt.extN {H H' : Hp} {p : Addr} {v : Vst} (h : AllAt H p v) (e : ExtN H H') : AllAt H' p v := by
  obtain ⟨rs, h1, h2⟩ := h
  exact ⟨rs, exn_lst e h1, h2.len, fun i r c a b => exn_tup e (h2.row i r c a b)⟩
theorem pure_l_all (T : Txt K mg A) (vs : List V) (H : Hp) (Q : VK) (E : XK) (h : sp_l_all K A vs H Q E) : t_l_all K A E { nx := fun _ H' => Q .non H', rt := Q } (start ["_law_voter", "_law_many", "_law_place"] vs) H := by
  obtain ⟨p, l, as, v, rfl, hv, q⟩ := h
  show t_l_all K A E _ [some (.ref p), some (.int (v.ss.length : Nat)), none] H
  obtain ⟨dv, hown⟩ := hv.own
  have hsm := hv.small
  have hal := hv.len
  have hgiv : Ev (tMeth A.c_Voter "given" (sp_Voter_given K A) [] E0 (tVar 0) tNil) [some (.ref p), some (.int (v.ss.length : Nat)), none] H (.int v.last) := ev_meth (ev_var rfl) hown (by rfl) ea_nil (fun H1 e1 Q' q' E' => ⟨_, _, _, _, rfl, hv.ext e1, q'⟩ : SpV (sp_Voter_given K A) [.ref p] H (.int v.last))
  show tOp rCat (tLst (tCons (tMeth A.c_Voter "given" (sp_Voter_given K A) [] E0 (tVar 0) tNil) tNil)) (tLc (iRng1 (tCons (tVar 1) tNil)) (gName 2) tYes _ [2]) _ H Q
  refine (el_lst (ea_cons hgiv ea_nil) (by show 1 ≤ 100000; decide)) H (Ex.refl H) _ fun p1 H1 n1 e1 hp1 => ?_
  have hv1 := hv.ext e1
  refine lc_R1 (n := ((v.ss.length : Nat) : Int)) (ea_cons (ev_var rfl) ea_nil) (by omega) (fun _ => rfl) (fun i acc Dl H' => Ex H1 H' ∧ H1 Dl = none ∧ ∃ rs : List Addr, acc = rs.map V.ref ∧ TupsAt H' rs ((List.range i).map fun i => [V.str (stateW (v.ss.getD i S0)), .int (v.ss.getD i S0).2])) (fun H2 Dl e2 hD => ⟨e2.trans (Ex.new hD), fresh_back e2 hD, [], rfl, TupsAt.nil⟩) ?hs ?hk
  case hs =>
    intro i acc Dl H2 hi hacc hDl ⟨e2, nD, rs, ea, ht⟩ Q' k
    have hv2 := hv1.ext e2
    obtain ⟨dv2, hown2⟩ := hv2.own
    have hia : 0 ≤ (i : Int) ∧ (i : Int) < (as.length : Int) := by omega
    have hst : Ev (tMeth A.c_Voter "state" (sp_Voter_state K A) [] E0 (tVar 0) (tCons (tVar 2) tNil)) [some (.ref p), some (.int (v.ss.length : Nat)), some (.int (i : Int))] H2 (.str (stateW (v.ss.getD i S0))) := ev_meth (ev_var rfl) hown2 (by rfl) (ea_cons (ev_var rfl) ea_nil) (fun H3 e3 Q' q' E' => ⟨_, _, _, _, _, rfl, hv2.ext e3, fun _ => q', fun hn => absurd hia hn⟩ : SpV (sp_Voter_state K A) [.ref p, .int (i : Int)] H2 (.str (stateW (v.ss.getD i S0))))
    have hct : Ev (tMeth A.c_Voter "count" (sp_Voter_count K A) [] E0 (tVar 0) (tCons (tVar 2) tNil)) [some (.ref p), some (.int (v.ss.length : Nat)), some (.int (i : Int))] H2 (.int (v.ss.getD i S0).2) := ev_meth (ev_var rfl) hown2 (by rfl) (ea_cons (ev_var rfl) ea_nil) (fun H3 e3 Q' q' E' => ⟨_, _, _, _, _, rfl, hv2.ext e3, fun _ => q', fun hn => absurd hia hn⟩ : SpV (sp_Voter_count K A) [.ref p, .int (i : Int)] H2 (.int (v.ss.getD i S0).2))
    refine (eu_tup (ea_cons hst (ea_cons hct ea_nil)) (by show 2 ≤ 100000; decide)) H2 (Ex.refl H2) _ fun pt H3 npt e3 hpt => ?_
    refine k _ H3 (e3 _ _ hDl) ⟨(e2.trans e3).mut nD, nD, rs ++ [pt], by rw [ea, List.map_append]; rfl, ?_⟩
    rw [List.range_succ, List.map_append]
    exact (ht.push e3 hpt).upd (e3 _ _ hDl)
  case hk =>
    intro acc Dl H2 hacc hDl ⟨e2, nD, rs, ea, ht⟩
    subst ea
    rw [Int.toNat_natCast] at ht
    refine ⟨p1, Dl, _, _, rfl, rfl, e2 _ _ hp1, hDl, sz_of ?_, fun r hr => ?_⟩
    · rw [List.length_map, ht.len, List.length_map, List.length_range]
      show 1 + v.ss.length ≤ 100000
      omega
    · exact q r _ ((e1.trans e2).trans (Ex.new hr)) ⟨rs, upd_same, ht.ext (Ex.new hr)⟩
theorem shaped_all {n : Int} {cs : List (List V)} (hf : ∀ c ∈ cs, c.all flat4 = true) : SeqAt.shaped (.list (vD (.int n) :: cs.map fun c => PyData.tuple (c.map vD))) = true := by
  obtain ⟨h1, h2⟩ := lay_tups hf
  have e1 : (vD (V.int n)).canLay0 = true := by simp [vD, PyData.canLay0]
  have e2 : (vD (V.int n)).depth = 0 := by simp [vD, PyData.depth]
  show ((PyData.list _).canLay0 && decide ((PyData.list _).depth ≤ 64)) = true
  rw [PyData.canLay0, PyData.depth, PyData.canLayAll0, PyData.depthAll, h1, e1, e2, Bool.true_and, Bool.true_and, decide_eq_true_eq]
  omega
theorem dp_all {H : Hp} {n : Int} {rs : List Addr} {cs : List (List V)} (h : TupsAt H rs cs) (hf : ∀ c ∈ cs, c.all flat4 = true) : DpAll K H (.int n :: rs.map V.ref) (vD (.int n) :: cs.map fun c => PyData.tuple (c.map vD)) := by
  have z : DpAll K H [V.int n] [vD (V.int n)] := dpAll_flat (xs := [V.int n]) rfl
  cases z with
  | cons a _ => exact .cons a (dpAll_tups h hf)
theorem rv_neAll {p q : Addr} {v : Vst} (hp : AllAt H p v) (hq : AllAt H q v) : RV (rNeD K) (.ref p) (.ref q) H (.bl false) := fun H1 e Q k => by
  obtain ⟨rs, h1, h2⟩ := hp
  obtain ⟨rs', h3, h4⟩ := hq
  have hf := all_flat4 v
  refine ⟨_, _, .lst (sq_of (e _ _ h1)) (dp_all (h2.ext e) hf), .lst (sq_of (e _ _ h3)) (dp_all (h4.ext e) hf), shaped_all hf, shaped_all hf, ?_⟩
  rw [PySem.SeqAt.eqv_refl _ (SeqAt.canLay_of_shaped (shaped_all hf))]
  exact k H1 (Ex.refl H1)
end
end MV
namespace MV
open PySem PySem.Spec PyProof.Rows L2 Evl MVH LamX
theorem sc_law : FnScope ["_law_script", "_law_k", "_law_more", "_law_settings_here", "_law_many", "_law_bad_here", "_law_steps_here", "_law_voter", "_law_values_here", "_law_before", "_law_good_here", "_law_at", "_law_wrong", "_law_both", "_law_place"] ["_law_script"] (defScope s_law) := ⟨rfl, rfl, rfl, by decide +kernel, rfl, by decide +kernel, by decide +kernel⟩
def t_law (K : PySem.W.Frag) (A : Ads) (E : XK) : TS :=
      (tSeq (tFor (iRng1 (tCons (tCB rMax2 (tCons (tC (.int 1)) (tCons (tCB rMin2 (tCons (tC (.int 5)) (tCons (tCB (rLenS K) (tCons (tVar 0) tNil)) tNil))) tNil))) tNil)) (gName 1) (tSeq (tAsg (tCall (sp_l_drawn K A) [] E0 (tCons (tCall (sp_l_cell K A) [] E0 (tCons (tVar 0) (tCons (tVar 1) tNil))) (tCons (tVar 1) tNil))) (gName 2))
      (tSeq (tAsg (tOp (rIxL K) (tLst (tCons (tCall (sp_l_settings K A) [] E0 (tCons (tOp oDivW (tVar 2) (tC (.int 64))) tNil)) (tCons (tCall (sp_l_good K A) [] E0 (tCons (tOp oDivW (tVar 2) (tC (.int 64))) tNil)) tNil))) (tOp oMod (tVar 2) (tC (.int 2)))) (gName 3))
      (tSeq (tAsg (tOp (rIxT K) (tVar 3) (tC (.int 0))) (gName 4))
      (tSeq (tAsg (tCall (sp_l_bad K A) [] E0 (tCons (tOp oDivW (tVar 2) (tOp oPow (tC (.int 2)) (tC (.int 50)))) (tCons (tVar 3) tNil))) (gName 5))
      (tSeq (tAsg (tCall (sp_l_steps K A) [] E0 (tCons (tVar 0) (tCons (tVar 3) (tCons (tOp oMod (tOp oDivW (tVar 2) (tOp oPow (tC (.int 2)) (tC (.int 40)))) (tC (.int 6))) tNil)))) (gName 6))
      (tSeq (tIfS (tTest (tOp rNe (tLam [(A.P_law, lamQ "law")] (TToldN A) (fun E => (tMake A.c_Voter (sp_Voter_init K A) [] E (tCons (tVar 5) (tCons (tC (.int 5)) tNil))))) (tC (.str "BadSettings")))) (tRet (tC (.bl false))) tNext)
      (tSeq (tIfS (tTest (tOp rNe (tLam [(A.P_law, lamQ "law")] (TToldN A) (fun E => (tCall (sp_run K A) [] E (tCons (tVar 5) (tCons (tC (.int 5)) (tCons (tVar 6) tNil)))))) (tC (.str "BadSettings")))) (tRet (tC (.bl false))) tNext)
      (tSeq (tAsg (tMake A.c_Voter (sp_Voter_init K A) [] E0 (tCons (tVar 3) (tCons (tOp oSub (tOp oMod (tOp oDivW (tVar 2) (tOp oPow (tC (.int 2)) (tC (.int 45)))) (tC (.int 2001))) (tC (.int 1000))) tNil))) (gName 7))
      (tSeq (tFor (iList K (tVar 6)) (gName 8) (tDrop (tMeth A.c_Voter "step" (sp_Voter_step K A) [] E0 (tVar 7) (tCons (tCB (rListS K) (tCons (tVar 8) tNil)) tNil))))
      (tSeq (tAsg (tCall (sp_l_all K A) [] E0 (tCons (tVar 7) (tCons (tVar 4) tNil))) (gName 9))
      (tSeq (tAsg (tOp rRep (tLst (tCons (tC (.int 0)) tNil)) (tVar 4)) (gName 10))
      (tSeq (tAsg (tOp oMod (tOp oDivW (tVar 2) (tOp oPow (tC (.int 2)) (tC (.int 33)))) (tVar 4)) (gName 11))
      (tSeq (tAsg (tLst (tCons (tSl (rSlL K) (tVar 10) tNoPart (tPart (tUn oNeg (tC (.int 1))))) (tCons (tOp rCat (tVar 10) (tLst (tCons (tC (.int 0)) tNil))) (tCons (tLst tNil) tNil)))) (gName 12))
      (tSeq (tDrop (tBM K "list" rAppend (tVar 12) (tCons (tOp rCat (tOp rCat (tSl (rSlL K) (tVar 10) tNoPart (tPart (tVar 11))) (tLst (tCons (tOp oAdd (tOp oPow (tC (.int 10)) (tC (.int 9))) (tC (.int 1))) tNil))) (tSl (rSlL K) (tVar 10) (tPart (tOp oAdd (tVar 11) (tC (.int 1)))) tNoPart)) tNil)))
      (tSeq (tDrop (tBM K "list" rAppend (tVar 12) (tCons (tOp rCat (tOp rCat (tSl (rSlL K) (tVar 10) tNoPart (tPart (tVar 11))) (tLst (tCons (tOp oSub (tUn oNeg (tOp oPow (tC (.int 10)) (tC (.int 9)))) (tC (.int 1))) tNil))) (tSl (rSlL K) (tVar 10) (tPart (tOp oAdd (tVar 11) (tC (.int 1)))) tNoPart)) tNil)))
      (tSeq (tAsg (tOp (rIxL K) (tVar 12) (tOp oMod (tOp oDivW (tVar 2) (tOp oPow (tC (.int 2)) (tC (.int 36)))) (tC (.int 5)))) (gName 12))
      (tSeq (tIfS (tTest (tOp rNe (tLam [(A.P_law, lamQ "law")] (TToldN A) (fun E => (tMeth A.c_Voter "step" (sp_Voter_step K A) [] E (tVar 7) (tCons (tVar 12) tNil)))) (tC (.str "BadStep")))) (tRet (tC (.bl false))) tNext)
      (tSeq (tAsg (tLst (tCons (tVar 10) (tCons (tVar 12) tNil))) (gName 13))
      (tSeq (tIfS (tTest (tOp rNe (tLam [(A.P_law, lamQ "law")] (TToldN A) (fun E => (tCall (sp_run K A) [] E (tCons (tVar 3) (tCons (tC (.int 5)) (tCons (tVar 13) tNil)))))) (tC (.str "BadStep")))) (tRet (tC (.bl false))) tNext)
      (tSeq (tIfS (tTest (tOp rNe (tLam [(A.P_law, lamQ "law")] (TToldN A) (fun E => (tCall (sp_outs K A) [] E (tCons (tVar 5) (tCons (tC (.int 5)) (tCons (tLst (tCons (tVar 12) tNil)) tNil)))))) (tC (.str "BadSettings")))) (tRet (tC (.bl false))) tNext)
      (tSeq (tIfS (tTest (tOp rNe (tLam [(A.P_law, lamQ "law")] (TToldN A) (fun E => (tCall (sp_outs K A) [] E (tCons (tVar 3) (tCons (tC (.int 5)) (tCons (tLst (tCons (tVar 12) tNil)) tNil)))))) (tC (.str "BadStep")))) (tRet (tC (.bl false))) tNext)
      (tSeq (tFor (iList K (tLst (tCons (tVar 4) (tCons (tUn oNeg (tC (.int 1))) (tCons (tOp oPow (tC (.int 10)) (tC (.int 9))) tNil))))) (gName 14) (tSeq (tIfS (tTest (tOp rNe (tLam [(A.P_law, lamQ "law")] (TToldN A) (fun E => (tMeth A.c_Voter "state" (sp_Voter_state K A) [] E (tVar 7) (tCons (tVar 14) tNil)))) (tC (.str "NoSensor")))) (tRet (tC (.bl false))) tNext)
      (tIfS (tTest (tOp rNe (tLam [(A.P_law, lamQ "law")] (TToldN A) (fun E => (tMeth A.c_Voter "count" (sp_Voter_count K A) [] E (tVar 7) (tCons (tVar 14) tNil)))) (tC (.str "NoSensor")))) (tRet (tC (.bl false))) tNext)))
      (tIfS (tTest (tOp (rNeD K) (tCall (sp_l_all K A) [] E0 (tCons (tVar 7) (tCons (tVar 4) tNil))) (tVar 9))) (tRet (tC (.bl false))) tNext))))))))))))))))))))))))
      (tRet (tC (.bl true))))
end MV
namespace MV
open PySem PySem.Spec PyProof.Rows L2 Evl MVH LamX
section
variable {K : PySem.W.Frag} {mg : Str → Option Value} {A : Ads} {σ : L2.St} {H H' : Hp} {D : Ends} {tz : TS}
theorem RowsAt.extN {p : Addr} {rows : List Addr} {valss : List (List (Option Int))} (h : RowsAt H p rows valss) (e : ExtN H H') : RowsAt H' p rows valss := ⟨exn_lst e h.at_, h.len, fun i r c a b => exn_lst e (h.row i r c a b)⟩
theorem ok_len {vals : List (Option Int)} {m : Int} (h : (vals.length : Int) ≠ m) : okStep vals m = false := by
  unfold okStep
  rw [decide_eq_false h, Bool.false_and]
theorem ok_mem {vals : List (Option Int)} {m : Int} {x : Option Int} (h : x ∈ vals) (hx : okOne x = false) : okStep vals m = false := by
  cases hb : okStep vals m with
  | false => rfl
  | true =>
    unfold okStep at hb
    rw [Bool.and_eq_true, List.all_eq_true] at hb
    exact absurd ((hb.2 x h).symm.trans hx) (by decide)
/-- what a step may not be told -/
def BadL (m : Int) (xs : List V) : Prop := ∃ vals : List (Option Int), xs = vals.map oV ∧ okStep vals m = false ∧ vals.length ≤ 40000
theorem bad_cut {n : Nat} {m : Int} (hm : m = (n : Int)) (h3 : 3 ≤ n) (h9 : n ≤ 9) : BadL m (cutV (List.replicate n (V.int 0)) none (some (-1))) := by
  have hl : (List.replicate n (V.int 0)).length = n := List.length_replicate
  have hs : HT.sIx n n (some (-1)) = n - 1 := by
    show (if (-1 : Int) < 0 then ((-1 : Int) + (n : Int)).toNat else min (-1 : Int).toNat n) = n - 1
    rw [if_pos (by decide)]
    omega
  refine ⟨List.replicate (n - 1) (some 0), ?_, ok_len (by rw [List.length_replicate]; omega), by rw [List.length_replicate]; omega⟩
  show ((List.replicate n (V.int 0)).drop 0).take (HT.sIx (List.replicate n (V.int 0)).length (List.replicate n (V.int 0)).length (some (-1)) - 0) = _
  rw [hl, hs, List.drop_zero, List.take_replicate, List.map_replicate, Nat.sub_zero, Nat.min_eq_left (by omega)]
  rfl
theorem bad_more {n : Nat} {m : Int} (hm : m = (n : Int)) (h9 : n ≤ 9) : BadL m (List.replicate n (V.int 0) ++ [.int 0]) :=
  ⟨List.replicate n (some 0) ++ [some 0], by rw [List.map_append, List.map_replicate]; rfl, ok_len (by rw [List.length_append, List.length_replicate]; show ((n + 1 : Nat) : Int) ≠ m; omega), by rw [List.length_append, List.length_replicate]; show n + 1 ≤ 40000; omega⟩
theorem bad_none {m : Int} (h3 : 3 ≤ m) : BadL m [] := ⟨[], rfl, ok_len (by show ((0 : Nat) : Int) ≠ m; omega), Nat.zero_le _⟩
theorem cut_lo {xs : List V} {j : Nat} (h : j ≤ xs.length) : cutV xs none (some (j : Int)) = xs.take j := by
  show (xs.drop 0).take (HT.sIx xs.length xs.length (some (j : Int)) - 0) = xs.take j
  rw [HT.sIx_nat, List.drop_zero, Nat.sub_zero, Nat.min_eq_left h]
theorem cut_hi {xs : List V} {j : Nat} (h : j ≤ xs.length) : cutV xs (some (j : Int)) none = xs.drop j := by
  show (xs.drop (HT.sIx xs.length 0 (some (j : Int)))).take (xs.length - HT.sIx xs.length 0 (some (j : Int))) = xs.drop j
  rw [HT.sIx_nat, Nat.min_eq_left h]
  exact List.take_of_length_le (by rw [List.length_drop]; exact Nat.le_refl _)
theorem bad_one {n j : Nat} {m x : Int} (h9 : n ≤ 9) (hj : j < n) (hx : okOne (some x) = false) : BadL m ((cutV (List.replicate n (V.int 0)) none (some (j : Int)) ++ [.int x]) ++ cutV (List.replicate n (V.int 0)) (some ((j : Int) + 1)) none) := by
  have hl : (List.replicate n (V.int 0)).length = n := List.length_replicate
  rw [cut_lo (by omega), show (j : Int) + 1 = ((j + 1 : Nat) : Int) by omega, cut_hi (by omega), List.take_replicate, List.drop_replicate]
  refine ⟨(List.replicate (min j n) (some 0) ++ [some x]) ++ List.replicate (n - (j + 1)) (some 0), ?_, ok_mem (x := some x) (by simp) hx, ?_⟩
  · rw [List.map_append, List.map_append, List.map_replicate, List.map_replicate]
    rfl
  · rw [List.length_append, List.length_append, List.length_replicate, List.length_replicate]
    show min j n + 1 + (n - (j + 1)) ≤ 40000
    omega
theorem el_catV {i : Nat} {p : Addr} {tb : TE} {xs ys : List V} (hi : σ[i]? = some (some (.ref p))) (hp : SqL K H p xs) (hp' : H p = some (.lst xs)) (hb : EvL tb σ H ys) (hz : xs.length + ys.length ≤ 100000) : EvL (tOp rCat (tVar i) tb) σ H (xs ++ ys) := fun H1 e Q q =>
  ⟨.ref p, hi, hb H1 e _ fun r H3 nr e3 hr => ⟨p, r, xs, ys, rfl, rfl, e3 _ _ (e _ _ hp'), hr, sz_of hz, fun l hl => q l _ (fresh_back e3 hl) (e3.trans (Ex.new hl)) upd_same⟩⟩
theorem el_cat {ta tb : TE} {xs ys : List V} (ha : EvL ta σ H xs) (hb : EvL tb σ H ys) (hz : xs.length + ys.length ≤ 100000) : EvL (tOp rCat ta tb) σ H (xs ++ ys) := fun H1 e Q q =>
  ha H1 e _ fun p H2 np e2 hp => hb H2 (e.trans e2) _ fun r H3 nr e3 hr => ⟨p, r, xs, ys, rfl, rfl, e3 _ _ hp, hr, sz_of hz, fun l hl => q l _ (fresh_back (e2.trans e3) hl) ((e2.trans e3).trans (Ex.new hl)) upd_same⟩
theorem q_three {i : Nat} {t0 t1 t2 : TE} {x0 x1 x2 : List V} (h0 : EvL t0 σ H x0) (h1 : EvL t1 σ H x1) (h2 : EvL t2 σ H x2)
    (k : ∀ (p a0 a1 a2 : Addr) (H' : Hp), Ex H H' → H' p = some (.lst [.ref a0, .ref a1, .ref a2]) → H' a0 = some (.lst x0) → H' a1 = some (.lst x1) → H' a2 = some (.lst x2) → H p = none → p ≠ a0 ∧ p ≠ a1 ∧ p ≠ a2 → tz D (σ.set i (some (.ref p))) H') :
    tSeq (tAsg (tLst (tCons t0 (tCons t1 (tCons t2 tNil)))) (gName i)) tz D σ H := by
  refine q_asgR ?_
  refine h0 H (Ex.refl H) _ fun a0 H1 n0 e1 g0 => ?_
  refine h1 H1 e1 _ fun a1 H2 n1 e2 g1 => ?_
  refine h2 H2 (e1.trans e2) _ fun a2 H3 n2 e3 g2 => ?_
  refine ⟨sz_of (by show 3 ≤ 100000; decide), fun p np => ?_⟩
  have e6 : Ex H3 (upd H3 p (.lst [.ref a0, .ref a1, .ref a2])) := Ex.new np
  exact k p a0 a1 a2 _ (((e1.trans e2).trans e3).trans e6) upd_same (((e2.trans e3).trans e6) _ _ g0) ((e3.trans e6) _ _ g1) (e6 _ _ g2) (fresh_back ((e1.trans e2).trans e3) np) ⟨fun z => (by rw [z, (e2.trans e3) _ _ g0] at np; cases np), fun z => (by rw [z, e3 _ _ g1] at np; cases np), fun z => (by rw [z, g2] at np; cases np)⟩
theorem VAt.not_lst {p l x : Addr} {as : List Addr} {v : Vst} {xs : List V} (h : VAt A H p l as v) (hx : H x = some (.lst xs)) : x ∉ p :: as := fun hm => by
  rcases List.mem_cons.mp hm with z | z
  · obtain ⟨dx, ho⟩ := h.own
    rw [← z, hx] at ho
    cases ho
  · obtain ⟨i, hi⟩ := List.mem_iff_getElem?.mp z
    obtain ⟨dy, ho⟩ := h.sens i x hi
    rw [hx] at ho
    cases ho
theorem t_lst2 {t0 t1 : TE} {Q : VK} (h : t0 σ H fun v0 H1 => t1 σ H1 fun v1 H2 => 2 ≤ sizeLine ∧ ∀ p, H2 p = none → Q (.ref p) (upd H2 p (.lst [v0, v1]))) : tLst (tCons t0 (tCons t1 tNil)) σ H Q := h
theorem t_call {sp : Sp} {ta : TA} {vs : List V} {E : XK} {Q : VK} (ha : EvA ta σ H vs) (e : Ex H H') (k : ∀ H1, Ex H' H1 → sp vs H1 Q E) : tCall sp [] E ta σ H' Q := ha H' e _ fun H1 e1 => by
  rw [List.append_nil]
  exact k H1 e1
theorem t_call3L {i : Nat} {x n : V} {sp : Sp} {E : XK} {Q : VK} {tl : TE} {xs : List V} (hi : σ[i]? = some (some x)) (hl : EvL tl σ H xs) (k : ∀ p H1, H p = none → Ex H H1 → H1 p = some (.lst xs) → sp [x, n, .ref p] H1 Q E) : tCall sp [] E (tCons (tVar i) (tCons (tC n) (tCons tl tNil))) σ H Q :=
  ⟨x, hi, hl H (Ex.refl H) _ fun p H1 np e1 hp => k p H1 np e1 hp⟩
theorem pick2 {st st2 : Addr} {m t r ms b m2 t2 r2 ms2 b2 n : Int} {H : Hp} (h1 : H st = some (.tup [.int m, .int t, .int r, .int ms, .int b])) (o1 : okSet m t r ms b = true) (h2 : H st2 = some (.tup [.int m2, .int t2, .int r2, .int ms2, .int b2])) (o2 : okSet m2 t2 r2 ms2 b2 = true) :
    ∃ (s : Addr) (m t r ms b : Int), atI [V.ref st, .ref st2] (n % 2) = some (.ref s) ∧ H s = some (.tup [.int m, .int t, .int r, .int ms, .int b]) ∧ okSet m t r ms b = true := by
  have hz : n % 2 = 0 ∨ n % 2 = 1 := by omega
  rcases hz with z | z
  · rw [z]; exact ⟨st, m, t, r, ms, b, rfl, h1, o1⟩
  · rw [z]; exact ⟨st2, m2, t2, r2, ms2, b2, rfl, h2, o2⟩
theorem pure_law (T : Txt K mg A) (vs : List V) (H : Hp) (Q : VK) (E : XK) (h : sp_law K A vs H Q E) : t_law K A E { nx := fun _ H' => Q .non H', rt := Q } (start ["_law_script", "_law_k", "_law_more", "_law_settings_here", "_law_many", "_law_bad_here", "_law_steps_here", "_law_voter", "_law_values_here", "_law_before", "_law_good_here", "_law_at", "_law_wrong", "_law_both", "_law_place"] vs) H := by
  obtain ⟨a, ns, rfl, hS, hl, hP, q⟩ := h
  show t_law K A E _ [some (.ref a), none, none, none, none, none, none, none, none, none, none, none, none, none, none] H
  have hT0 : TabS H A.P_law (lamQ "law") := TabS.nil hP
  refine q_forR1 (n := (if (if ((ns.map V.int).length : Int) < 5 then ((ns.map V.int).length : Int) else 5) > 1 then (if ((ns.map V.int).length : Int) < 5 then ((ns.map V.int).length : Int) else 5) else 1)) (by walk_at "ev") (by (repeat' split) <;> omega)
    (fun k σ H' => ∃ y1 y2 y3 y4 y5 y6 y7 y8 y9 y10 y11 y12 y13 y14, σ = [some (.ref a), y1, y2, y3, y4, y5, y6, y7, y8, y9, y10, y11, y12, y13, y14] ∧ SqL K H' a (ns.map V.int) ∧ TabS H' A.P_law (lamQ "law"))
    (fun H1 e1 => ⟨_, _, _, _, _, _, _, _, _, _, _, _, _, _, rfl, ex_l e1 hS, hT0.ext e1⟩)
    (fun k σ H1 hk ⟨y1, y2, y3, y4, y5, y6, y7, y8, y9, y10, y11, y12, y13, y14, es, hS1, hT1⟩ => ?_) (fun σ H1 ⟨y1, y2, y3, y4, y5, y6, y7, y8, y9, y10, y11, y12, y13, y14, es, _, _⟩ => s_ret ev_c fun H2 e2 => q H2)
  subst es
  refine q_asgX (P := IsI) ⟨_, (by walk_at "ev"), _, rfl⟩ fun v H2 ⟨more, ev⟩ e2 => ?_
  subst ev
  have hS2 := ex_l e2 hS1
  have hT2 := hT1.ext e2
  -- settings
  have hdiv : Ev (tOp oDivW (tVar 2) (tC (.int 64))) [some (.ref a), some (.int (k : Nat)), some (.int more), y3, y4, y5, y6, y7, y8, y9, y10, y11, y12, y13, y14] H2 (.int (more / 64)) := by walk_at "ev"
  refine q_asgR ?_
  refine t_op (t_lst2 ?_)
  refine t_call (ea_cons hdiv ea_nil) (Ex.refl H2) fun H3 e3 => ⟨_, rfl, fun m1 t1 r1 ms1 b1 st1 H4 ok1 _ _ n1 e4 hst1 => ?_⟩
  refine t_call (ea_cons hdiv ea_nil) (e3.trans e4) fun H5 e5 => ⟨_, rfl, fun m2 t2 r2 ms2 b2 st2 H6 ok2 n2 e6 hst2 => ?_⟩
  refine ⟨sz_of (by show 2 ≤ 100000; decide), fun sp nsp => ?_⟩
  have e67 : Ex H6 (upd H6 sp (.lst [.ref st1, .ref st2])) := Ex.new nsp
  have hsp : (upd H6 sp (.lst [.ref st1, .ref st2])) sp = some (.lst [.ref st1, .ref st2]) := upd_same
  generalize upd H6 sp (.lst [.ref st1, .ref st2]) = H7 at e67 hsp ⊢
  have hst17 := (e5.trans (e6.trans e67)) _ _ hst1
  have hst27 := e67 _ _ hst2
  obtain ⟨st, m, t, r, ms, b, hat, hst, hok⟩ := pick2 (n := more) hst17 ok1 hst27 ok2
  have hidx : Ev (tOp oMod (tVar 2) (tC (.int 2))) [some (.ref a), some (.int (k : Nat)), some (.int more), y3, y4, y5, y6, y7, y8, y9, y10, y11, y12, y13, y14] H7 (.int (more % 2)) := by walk_at "ev"
  refine hidx H7 (Ex.refl H7) _ fun H8 e8 => ?_
  refine rv_ixL (sq_of (e8 _ _ hsp)) hat H8 (Ex.refl H8) _ fun H9 e9 => ?_
  show tSeq _ _ _ _ H9
  have e29 := ((e3.trans e4).trans (e5.trans (e6.trans e67))).trans (e8.trans e9)
  have hst9 := (e8.trans e9) _ _ hst
  have hS9 := ex_l e29 hS2
  have hT9 := hT2.ext e29
  clear hst17 hst27 hst1 hst2 hsp hdiv hidx hat
  obtain ⟨hm39, _⟩ := okSet_m hok
  refine q_asg (v := .int m) (ev_op (ev_var rfl) ev_c (rv_ixT (st_of hst9) (atI_nat (j := 0) rfl))) fun H10 e10 => ?_
  have hst10 := e10 _ _ hst9
  have hS10 := ex_l e10 hS9
  -- settings beyond their bounds
  refine q_asgC (vs := [.int (more / 2 ^ (50 : Int).toNat), .ref st]) (by walk_at "ev") fun H11 e11 => ⟨_, _, m, t, r, ms, b, rfl, ex_t e11 (st_of hst10), fun mb tb rb msb bb bd H12 hbad nbd e12 hbd => ?_⟩
  have hst12 := (e11.trans e12) _ _ hst10
  have hS12 := ex_l (e11.trans e12) hS10
  have j0 := Int.emod_nonneg (more / 2 ^ (40 : Int).toNat) (show (6 : Int) ≠ 0 by decide)
  have j1 := Int.emod_lt_of_pos (more / 2 ^ (40 : Int).toNat) (show (0 : Int) < 6 by decide)
  -- the steps
  refine q_asgC (vs := [.ref a, .ref st, .int (more / 2 ^ (40 : Int).toNat % 6)]) (by walk_at "ev") fun H13 e13 => ⟨a, ns, st, m, t, r, ms, b, _, rfl, ex_l e13 hS12, hl, ex_t e13 (st_of hst12), hok, j0, by omega, fun rows valss S H14 hvl hval nS hrf e14 hRow => ?_⟩
  have hvlen : valss.length ≤ 6 := by omega
  have hvs : ∀ vals ∈ valss, vals.length ≤ 40000 := fun vals hv => by
    have h := hval vals hv
    unfold okStep at h
    rw [Bool.and_eq_true, decide_eq_true_eq] at h
    omega
  have e914 := ((e10.trans (e11.trans e12)).trans e13).trans e14
  have hT14 := hT9.ext e914
  have hst14 := (e13.trans e14) _ _ hst12
  have hbd14 := (e13.trans e14) _ _ hbd
  have hS14 := ex_l (e13.trans e14) hS12
  -- refused settings
  refine q_told (C := A.c_BadSettings) (.inl ⟨rfl, rfl⟩) hT14 (fun H15 e15 E' Q' hE => ?_) fun H15 e15 hT15 => ?_
  · refine ⟨.ref bd, rfl, ?_⟩
    intro x dx hx0 hdx hne
    have ex0 : Ex H15 (upd (upd H15 dx (.own x)) x (.ins A.c_Voter dx [])) := fun c o hc => by
      rw [upd_ne (ne_of_none hc hx0), upd_ne (ne_of_none hc hdx)]
      exact hc
    exact ⟨x, dx, bd, mb, tb, rb, msb, bb, 5, rfl, upd_same, ex_t ex0 (st_of (exn_tup e15 hbd14)), fun z => absurd (hbad.symm.trans z) (by decide), fun _ H' e' => hE H' (ex0.trans e')⟩
  have hbd15 := exn_tup e15 hbd14
  have hst15 := exn_tup e15 hst14
  have hR15 := hRow.extN e15
  have hS15 := exn_l e15 hS14
  refine q_told (C := A.c_BadSettings) (.inl ⟨rfl, rfl⟩) hT15 (fun H16 e16 E' Q' hE => ?_) fun H16 e16 hT16 => ?_
  · refine t_call (ea_cons (ev_var rfl) (ea_cons ev_c (ea_cons (ev_var rfl) ea_nil))) (Ex.refl H16) fun H17 e17 => ?_
    exact ⟨mb, tb, rb, msb, bb, 5, valss, ⟨bd, S, rows, rfl, st_of (e17 _ _ (exn_tup e16 hbd15)), (hR15.extN e16).ext e17, by omega, hvs⟩, ⟨fun _ H' e' => hE H' (e17.trans e'), fun z => absurd (hbad.symm.trans z) (by decide)⟩, fun z => absurd (hbad.symm.trans z) (by decide)⟩
  have hbd16 := exn_tup e16 hbd15
  have hst16 := exn_tup e16 hst15
  have hR16 := hR15.extN e16
  have hS16 := exn_l e16 hS15
  -- the voter, its steps
  refine q_voterE (P := IsI) rfl ⟨_, (by walk_at "ev"), _, rfl⟩ (fun v z => z) (st_of hst16) hok fun sta H17 B _ e17 hfB hvB => ?_
  have hR17 := hR16.ext e17
  have nSB : ∀ x ∈ S :: rows, x ∉ B.all := fun x hx z => by
    have := hfB x z
    rcases List.mem_cons.mp hx with w | w
    · rw [w, hR16.at_] at this; cases this
    · obtain ⟨i, hi⟩ := List.mem_iff_getElem?.mp w
      obtain ⟨c, hc⟩ : ∃ c, valss[i]? = some c := ⟨_, List.getElem?_eq_getElem (by rw [← hR16.len]; exact (List.getElem?_eq_some_iff.mp hi).1)⟩
      rw [hR16.row i x c hi hc] at this
      cases this
  have hst17 := e17 _ _ hst16
  have hbd17 := e17 _ _ hbd16
  have hS17 := ex_l e17 hS16
  have hT17 := hT16.ext e17
  generalize hv0 : freshV m t r ms b sta = v0 at hvB
  have hml : ((v0.ss.length : Nat) : Int) = m := by rw [← hv0]; exact fresh_len hok
  refine q_forLn (a := S) (xs := rows.map V.ref) (ev_var rfl) (sq_of hR17.at_)
    (fun i σ' H' => ∃ y8, σ' = [some (.ref a), some (.int (k : Nat)), some (.int more), some (.ref st), some (.int m), some (.ref bd), some (.ref S), some (.ref B.p), y8, y9, y10, y11, y12, y13, y14] ∧ Buts B.all H17 H' ∧ VAt A H' B.p B.l B.as (sv v0 valss i) ∧ TabS H' A.P_law (lamQ "law"))
    (fun H18 e18 => ⟨y8, rfl, Buts.of e18, hvB.ext e18, hT17.ext e18⟩) (fun i σ' H' _ ⟨_, _, bt, _⟩ => sq_of (bt _ _ (nSB S (by simp)) hR17.at_))
    (fun i x σ' H18 hx ⟨y, es, bt, hv, ht⟩ => ?_) fun σ' H18 ⟨y8', es, bt18, hv18, hT18⟩ => ?_
  · subst es
    have hi : i < valss.length := by
      have := (List.getElem?_eq_some_iff.mp hx).1
      rw [List.length_map, hR17.len] at this
      exact this
    obtain ⟨row, vals, g1, g2, g3, g4, g5, _⟩ := hR17.get hi
    have exx : x = .ref row := by rw [List.getElem?_map, g1] at hx; exact (Option.some.inj hx).symm
    subst exx
    have hrow18 := bt _ _ (nSB row (by simp [g4])) g3
    obtain ⟨dx, hown⟩ := hv.own
    have hml2 : ((B.as.length : Nat) : Int) = m := by rw [hv.len, sv_len, hml]
    refine ⟨.ref B.p, rfl, B.p, dx, _, rfl, hown, by rfl, ?_⟩
    refine el_list (ev_var rfl) (sq_of hrow18) H18 (Ex.refl H18) _ fun cp H19 ncp e19 hcp => ?_
    refine ⟨B.p, B.l, B.as, _, cp, vals, rfl, hv.ext e19, sq_of hcp, hvs _ g5, fun z => hv.old _ (own_sub z) ncp, fun _ H20 p b20 np hp hv20 => ?_, fun z => absurd ((by rw [hml2]; exact hval _ g5 : okStep vals ((B.as.length : Nat) : Int) = true).symm.trans z) (by decide)⟩
    exact ⟨_, rfl, (bt.trans (Buts.of e19)).trans (b20.mono fun x hx => own_sub hx), by rw [sv_succ g2]; exact hv20, tabS_voter (ht.ext e19) (hv.ext e19) b20⟩
  subst es
  rw [List.length_map, hR17.len] at hv18
  have keepN : ∀ {x : Addr} {o : HO}, H16 x = some o → H17 x = some o → H18 x = some o := fun {x o} h16 h17 => bt18 x o (fun z => by have := hfB x z; rw [h16] at this; cases this) h17
  have hst18 := keepN hst16 hst17
  have hbd18 := keepN hbd16 hbd17
  have hS18 : SqL K H18 a (ns.map V.int) := ((Scr.of hS16 hfB e17).buts bt18).seq
  generalize hv1 : sv v0 valss valss.length = v1 at hv18
  have hml1 : ((v1.ss.length : Nat) : Int) = m := by rw [← hv1, sv_len, hml]
  -- all that it tells
  refine q_asgC (vs := [.ref B.p, .int m]) (ea_cons (ev_var rfl) (ea_cons (ev_var rfl) ea_nil)) fun H19 e19 => ⟨B.p, B.l, B.as, v1, by rw [hml1], hv18.ext e19, fun bq H20 e20 hall => ?_⟩
  have e1820 := e19.trans e20
  have hv20 := hv18.ext e1820
  have hst20 := e1820 _ _ hst18
  have hbd20 := e1820 _ _ hbd18
  have hS20 := ex_l e1820 hS18
  have hT20 := hT18.ext e1820
  obtain ⟨n, hn⟩ : ∃ n : Nat, m = (n : Int) := ⟨_, hml1.symm⟩
  have hn3 : 3 ≤ n := by omega
  have hn9 : n ≤ 9 := by omega
  refine q_asgL (xs := List.replicate n (.int 0)) (el_is (el_rep (el_lst (ea_cons ev_c ea_nil) (by show 1 ≤ 100000; decide)) (ev_var rfl) (by omega) (by omega)) (by rw [hn, Int.toNat_natCast])) fun gp H21 ngp e21 hgp => ?_
  have at0 := Int.emod_nonneg (more / 2 ^ (33 : Int).toNat) (show m ≠ 0 by omega)
  have at1 := Int.emod_lt_of_pos (more / 2 ^ (33 : Int).toNat) (show 0 < m by omega)
  obtain ⟨j, hj⟩ : ∃ j : Nat, more / 2 ^ (33 : Int).toNat % m = (j : Int) := ⟨_, (Int.toNat_of_nonneg at0).symm⟩
  have hjn : j < n := by omega
  refine q_asg (v := .int (j : Int)) (ev_is (by walk_at "ev") (congrArg V.int hj)) fun H22 e22 => ?_
  have hgp22 := e22 _ _ hgp
  have hgs22 : SqL K H22 gp (List.replicate n (.int 0)) := sq_of hgp22
  have hgl : (List.replicate n (V.int 0)).length = n := List.length_replicate
  refine q_three (x0 := cutV (List.replicate n (.int 0)) none (some (-1))) (x1 := List.replicate n (.int 0) ++ [.int 0]) (x2 := []) (el_sl (ev_var rfl) eo_none (eo_some (ev_un ev_c ru_neg)) hgs22) (el_catV rfl hgs22 hgp22 (el_lst (ea_cons ev_c ea_nil) (by show 1 ≤ 100000; decide)) (by rw [hgl]; show n + 1 ≤ 100000; omega)) (el_lst ea_nil (Nat.zero_le _)) fun wp a0 a1 a2 H23 e23 hwp g0 g1 g2 nwp ⟨w0, w1, w2⟩ => ?_
  have hgp23 := e23 _ _ hgp22
  have hgs23 : SqL K H23 gp (List.replicate n (.int 0)) := sq_of hgp23
  have npg : wp ≠ gp := fun z => by rw [z, hgp22] at nwp; cases nwp
  -- one too great, one too small
  have hL : ∀ {H' : Hp} {tx : TE} {x : Int} {σ : L2.St}, σ[10]? = some (some (.ref gp)) → σ[11]? = some (some (.int (j : Int))) → SqL K H' gp (List.replicate n (.int 0)) → Ev tx σ H' (.int x) → EvL (tOp rCat (tOp rCat (tSl (rSlL K) (tVar 10) tNoPart (tPart (tVar 11))) (tLst (tCons tx tNil))) (tSl (rSlL K) (tVar 10) (tPart (tOp oAdd (tVar 11) (tC (.int 1)))) tNoPart)) σ H' ((cutV (List.replicate n (V.int 0)) none (some (j : Int)) ++ [.int x]) ++ cutV (List.replicate n (V.int 0)) (some ((j : Int) + 1)) none) := fun {H' tx x σ} s1 s2 hs hx =>
    have hc1 : (cutV (List.replicate n (V.int 0)) none (some (j : Int))).length ≤ n := by rw [cut_lo (by rw [hgl]; omega), List.length_take]; rw [hgl]; exact Nat.min_le_right _ _
    have hc2 : (cutV (List.replicate n (V.int 0)) (some ((j : Int) + 1)) none).length ≤ n := by rw [show (j : Int) + 1 = ((j + 1 : Nat) : Int) by omega, cut_hi (by rw [hgl]; omega), List.length_drop, hgl]; omega
    el_cat (el_cat (el_sl (ev_var s1) eo_none (eo_some (ev_var s2)) hs) (el_lst (ea_cons hx ea_nil) (by show 1 ≤ 100000; decide)) (by show _ + 1 ≤ 100000; omega)) (el_sl (ev_var s1) (eo_some (ev_op (ev_var s2) ev_c rv_I0)) eo_none hs) (by rw [List.length_append]; show _ + 1 + _ ≤ 100000; omega)
  refine q_appL hwp (ev_var rfl) (hL (x := 1000000001) rfl rfl hgs23 (ev_op (x := .int 1000000000) (ev_op ev_c ev_c (Evl.rv_I (MV.cpow_c (by decide) (by decide) (by decide)))) ev_c rv_I0)) (by show 3 < 100000; decide) fun a3 H24 n3 e24 g3 => ?_
  have ex25 : Ex H22 (upd H24 wp (.lst ([.ref a0, .ref a1, .ref a2] ++ [.ref a3]))) := (e23.trans e24).mut nwp
  have hwp25 : (upd H24 wp (.lst ([.ref a0, .ref a1, .ref a2] ++ [.ref a3]))) wp = some (.lst [.ref a0, .ref a1, .ref a2, .ref a3]) := upd_same
  have w3 : wp ≠ a3 := fun z => by rw [← z, hwp] at n3; cases n3
  have k25 : ∀ {x : Addr} {u : HO}, wp ≠ x → H24 x = some u → (upd H24 wp (.lst ([.ref a0, .ref a1, .ref a2] ++ [.ref a3]))) x = some u := fun {x u} h1 h2 => by rw [upd_ne h1.symm]; exact h2
  have g0' := k25 w0 (e24 _ _ g0)
  have g1' := k25 w1 (e24 _ _ g1)
  have g2' := k25 w2 (e24 _ _ g2)
  have g3' := k25 w3 g3
  have hgp25 := k25 npg (e24 _ _ hgp23)
  generalize upd H24 wp (.lst ([.ref a0, .ref a1, .ref a2] ++ [.ref a3])) = H25 at ex25 hwp25 g0' g1' g2' g3' hgp25 ⊢
  refine q_appL hwp25 (ev_var rfl) (hL (x := -1000000001) rfl rfl (sq_of hgp25) (ev_op (x := .int (-1000000000)) (ev_un (ev_op ev_c ev_c (Evl.rv_I (MV.cpow_c (by decide) (by decide) (by decide)))) ru_neg) ev_c rv_I0)) (by show 4 < 100000; decide) fun a4 H26 n4 e26 g4 => ?_
  have w4 : wp ≠ a4 := fun z => by rw [← z, hwp25] at n4; cases n4
  have ex27 : Ex H22 (upd H26 wp (.lst ([.ref a0, .ref a1, .ref a2, .ref a3] ++ [.ref a4]))) := (ex25.trans e26).mut nwp
  have hwp27 : (upd H26 wp (.lst ([.ref a0, .ref a1, .ref a2, .ref a3] ++ [.ref a4]))) wp = some (.lst [.ref a0, .ref a1, .ref a2, .ref a3, .ref a4]) := upd_same
  have k27 : ∀ {x : Addr} {u : HO}, wp ≠ x → H26 x = some u → (upd H26 wp (.lst ([.ref a0, .ref a1, .ref a2, .ref a3] ++ [.ref a4]))) x = some u := fun {x u} h1 h2 => by rw [upd_ne h1.symm]; exact h2
  have g0'' := k27 w0 (e26 _ _ g0')
  have g1'' := k27 w1 (e26 _ _ g1')
  have g2'' := k27 w2 (e26 _ _ g2')
  have g3'' := k27 w3 (e26 _ _ g3')
  have g4'' := k27 w4 g4
  have hgp27 := k27 npg (e26 _ _ hgp25)
  generalize upd H26 wp (.lst ([.ref a0, .ref a1, .ref a2, .ref a3] ++ [.ref a4])) = H27 at ex27 hwp27 g0'' g1'' g2'' g3'' g4'' hgp27 ⊢
  have i0 := Int.emod_nonneg (more / 2 ^ (36 : Int).toNat) (show (5 : Int) ≠ 0 by decide)
  have i1 := Int.emod_lt_of_pos (more / 2 ^ (36 : Int).toNat) (show (0 : Int) < 5 by decide)
  obtain ⟨wa, wxs, hwat, hwa, hwbad⟩ : ∃ (wa : Addr) (xs : List V), atI [V.ref a0, .ref a1, .ref a2, .ref a3, .ref a4] (more / 2 ^ (36 : Int).toNat % 5) = some (.ref wa) ∧ H27 wa = some (.lst xs) ∧ BadL m xs := by
    have hz : more / 2 ^ (36 : Int).toNat % 5 = 0 ∨ more / 2 ^ (36 : Int).toNat % 5 = 1 ∨ more / 2 ^ (36 : Int).toNat % 5 = 2 ∨ more / 2 ^ (36 : Int).toNat % 5 = 3 ∨ more / 2 ^ (36 : Int).toNat % 5 = 4 := by omega
    rcases hz with z | z | z | z | z <;> rw [z]
    · exact ⟨a0, _, rfl, g0'', bad_cut hn hn3 hn9⟩
    · exact ⟨a1, _, rfl, g1'', bad_more hn hn9⟩
    · exact ⟨a2, _, rfl, g2'', bad_none (by omega)⟩
    · exact ⟨a3, _, rfl, g3'', bad_one hn9 hjn (by decide)⟩
    · exact ⟨a4, _, rfl, g4'', bad_one hn9 hjn (by decide)⟩
  clear g0 g1 g2 g3 g4 g0' g1' g2' g3' g0'' g1'' g2'' g3'' g4'' hL
  refine q_asg (v := .ref wa) (ev_op (ev_var rfl) (by walk_at "ev") (rv_ixL (sq_of hwp27) hwat)) fun H28 e28 => ?_
  obtain ⟨wvals, rfl, hwok, hwl⟩ := hwbad
  have e2028 := ((e21.trans e22).trans ex27).trans e28
  have hv28 := hv20.ext e2028
  have hwa28 := e28 _ _ hwa
  have hgp28 : H28 gp = some (.lst ((List.replicate n (some (0 : Int))).map oV)) := by rw [List.map_replicate]; exact e28 _ _ hgp27
  have hst28 := e2028 _ _ hst20
  have hbd28 := e2028 _ _ hbd20
  have hS28 := ex_l e2028 hS20
  have hT28 := hT20.ext e2028
  have hall28 : AllAt H28 bq v1 := hall.extN (ExtN.of e2028)
  -- a step that may not be told
  have hml3 : ((B.as.length : Nat) : Int) = m := by rw [hv28.len, hml1]
  refine q_told (C := A.c_BadStep) (.inr (.inl ⟨rfl, rfl⟩)) hT28 (fun H29 e29 E' Q' hE => ?_) fun H29 e29 hT29 => ?_
  · have hv29 := VAt.extN hv28 e29
    obtain ⟨dx, hown⟩ := hv29.own
    refine ⟨.ref B.p, rfl, B.p, dx, _, rfl, hown, by rfl, ?_⟩
    refine (ea_cons (ev_var rfl) ea_nil) H29 (Ex.refl H29) _ fun H30 e30 => ?_
    exact ⟨B.p, B.l, B.as, v1, wa, wvals, rfl, hv29.ext e30, sq_of (e30 _ _ (exn_lst e29 hwa28)), hwl, VAt.not_lst (hv29.ext e30) (e30 _ _ (exn_lst e29 hwa28)), fun z => absurd ((by rw [hml3]; exact hwok : okStep wvals ((B.as.length : Nat) : Int) = false).symm.trans z) (by decide), fun _ H' e' => hE H' (e30.trans e')⟩
  have hv29 := VAt.extN hv28 e29
  have hwa29 := exn_lst e29 hwa28
  have hgp29 := exn_lst e29 hgp28
  have hst29 := exn_tup e29 hst28
  have hbd29 := exn_tup e29 hbd28
  have hS29 := exn_l e29 hS28
  have hall29 := hall28.extN e29
  refine q_asgL (xs := [.ref gp, .ref wa]) (el_lst (ea_cons (ev_var rfl) (ea_cons (ev_var rfl) ea_nil)) (by show 2 ≤ 100000; decide)) fun op H30 nop e30 hop => ?_
  have hv30 := hv29.ext e30
  have hwa30 := e30 _ _ hwa29
  have hst30 := e30 _ _ hst29
  have hbd30 := e30 _ _ hbd29
  have hS30 := ex_l e30 hS29
  have hT30 := hT29.ext e30
  have hall30 := hall29.extN (ExtN.of e30)
  have hB30 : RowsAt H30 op [gp, wa] [List.replicate n (some 0), wvals] := ⟨hop, rfl, fun i r c h1 h2 => by
    match i, h1, h2 with
    | 0, h1, h2 => cases h1; cases h2; exact e30 _ _ hgp29
    | 1, h1, h2 => cases h1; cases h2; exact hwa30⟩
  have hrepl : (List.replicate n (some (0 : Int))).length ≤ 40000 := by rw [List.length_replicate]; omega
  refine q_told (C := A.c_BadStep) (.inr (.inl ⟨rfl, rfl⟩)) hT30 (fun H31 e31 E' Q' hE => ?_) fun H31 e31 hT31 => ?_
  · refine t_call (ea_cons (ev_var rfl) (ea_cons ev_c (ea_cons (ev_var rfl) ea_nil))) (Ex.refl H31) fun H32 e32 => ?_
    refine ⟨m, t, r, ms, b, 5, [List.replicate n (some 0), wvals], ⟨st, op, [gp, wa], rfl, st_of (e32 _ _ (exn_tup e31 hst30)), (hB30.extN e31).ext e32, by show 2 ≤ 1000; decide, fun vals hv => ?_⟩, ⟨fun z => absurd (hok.symm.trans z) (by decide), fun _ _ H' e' => hE H' (e32.trans e')⟩, fun _ z => absurd ((z wvals (by simp)).symm.trans hwok) (by decide)⟩
    simp only [List.mem_cons, List.not_mem_nil, or_false] at hv
    rcases hv with rfl | rfl
    · exact hrepl
    · exact hwl
  have hv31 := VAt.extN hv30 e31
  have hwa31 := exn_lst e31 hwa30
  have hst31 := exn_tup e31 hst30
  have hbd31 := exn_tup e31 hbd30
  have hS31 := exn_l e31 hS30
  have hall31 := hall30.extN e31
  have one : ∀ {H' : Hp} {wl : Addr}, H' wl = some (.lst [.ref wa]) → H' wa = some (.lst (wvals.map oV)) → RowsAt H' wl [wa] [wvals] := fun {H' wl} h1 h2 => ⟨h1, rfl, fun i r c g1 g2 => by
    match i, g1, g2 with
    | 0, g1, g2 => cases g1; cases g2; exact h2⟩
  have ones : ∀ vals ∈ [wvals], vals.length ≤ 40000 := fun vals hv => by rw [List.mem_singleton.mp hv]; exact hwl
  refine q_told (C := A.c_BadSettings) (.inl ⟨rfl, rfl⟩) hT31 (fun H32 e32 E' Q' hE => ?_) fun H32 e32 hT32 => ?_
  · refine t_call3L (x := .ref bd) rfl (el_lst (ea_cons (ev_var rfl) ea_nil) (by show 1 ≤ 100000; decide)) fun wl H33 nwl e33 hwl' => ?_
    exact ⟨mb, tb, rb, msb, bb, 5, [wvals], ⟨bd, wl, [wa], rfl, st_of (e33 _ _ (exn_tup e32 hbd31)), one hwl' (e33 _ _ (exn_lst e32 hwa31)), by show 1 ≤ 1000; decide, ones⟩, ⟨fun _ H' e' => hE H' (e33.trans e'), fun z => absurd (hbad.symm.trans z) (by decide)⟩, fun z => absurd (hbad.symm.trans z) (by decide)⟩
  have hv32 := VAt.extN hv31 e32
  have hwa32 := exn_lst e32 hwa31
  have hst32 := exn_tup e32 hst31
  have hS32 := exn_l e32 hS31
  have hall32 := hall31.extN e32
  refine q_told (C := A.c_BadStep) (.inr (.inl ⟨rfl, rfl⟩)) hT32 (fun H33 e33 E' Q' hE => ?_) fun H33 e33 hT33 => ?_
  · refine t_call3L (x := .ref st) rfl (el_lst (ea_cons (ev_var rfl) ea_nil) (by show 1 ≤ 100000; decide)) fun wl H34 nwl e34 hwl' => ?_
    exact ⟨m, t, r, ms, b, 5, [wvals], ⟨st, wl, [wa], rfl, st_of (e34 _ _ (exn_tup e33 hst32)), one hwl' (e34 _ _ (exn_lst e33 hwa32)), by show 1 ≤ 1000; decide, ones⟩, ⟨fun z => absurd (hok.symm.trans z) (by decide), fun _ _ H' e' => hE H' (e34.trans e')⟩, fun _ z => absurd ((z wvals (by simp)).symm.trans hwok) (by decide)⟩
  have hv33 := VAt.extN hv32 e33
  have hS33 := exn_l e33 hS32
  have hall33 := hall32.extN e33
  -- places beyond their bounds
  have hsum := hml1
  refine q_forNLn (xs := [.int m, .int (-1), .int 1000000000]) (el_lst (ea_cons (ev_var rfl) (ea_cons (ev_un ev_c ru_neg) (ea_cons (ev_op ev_c ev_c (Evl.rv_I (MV.cpow_c (by decide) (by decide) (by decide)))) ea_nil))) (by show 3 ≤ 100000; decide))
    (fun p i σ' H' => ∃ y14, σ' = [some (.ref a), some (.int (k : Nat)), some (.int more), some (.ref st), some (.int m), some (.ref bd), some (.ref S), some (.ref B.p), y8', some (.ref bq), some (.ref gp), some (.int (j : Int)), some (.ref wa), some (.ref op), y14] ∧ ExtN H33 H' ∧ H' p = some (.lst [.int m, .int (-1), .int 1000000000]) ∧ TabS H' A.P_law (lamQ "law"))
    (fun p H34 np e34 hp => ⟨y14, rfl, ExtN.of e34, hp, hT33.ext e34⟩) (fun p i σ' H' _ ⟨_, _, _, hp, _⟩ => sq_of hp)
    (fun p i x σ' H34 hx ⟨y, es, e34, hp34, hT34⟩ => ?_) fun p σ' H34 ⟨y14', es, e34, hp34, hT34⟩ => ?_
  · subst es
    obtain ⟨pl, rfl, hpl⟩ : ∃ pl : Int, x = .int pl ∧ ¬ (0 ≤ pl ∧ pl < m) := by
      match i, hx with
      | 0, hx => cases hx; exact ⟨_, rfl, by omega⟩
      | 1, hx => cases hx; exact ⟨_, rfl, by omega⟩
      | 2, hx => cases hx; exact ⟨_, rfl, by omega⟩
    have out : ∀ {H' : Hp}, VAt A H' B.p B.l B.as v1 → ¬ (0 ≤ pl ∧ pl < (B.as.length : Int)) := fun hv z => hpl (by rw [hv.len, hml1] at z; exact z)
    have hv34 := VAt.extN hv33 e34
    refine q_told (C := A.c_NoSensor) (.inr (.inr (.inl ⟨rfl, rfl⟩))) hT34 (fun H35 e35 E' Q' hE => ?_) fun H35 e35 hT35 => ?_
    · have hv35 := VAt.extN hv34 e35
      obtain ⟨dx, hown⟩ := hv35.own
      refine ⟨.ref B.p, rfl, B.p, dx, _, rfl, hown, by rfl, ?_⟩
      refine (ea_cons (ev_var rfl) ea_nil) H35 (Ex.refl H35) _ fun H36 e36 => ?_
      exact ⟨B.p, B.l, B.as, v1, pl, rfl, hv35.ext e36, fun z => absurd z (out hv35), fun _ H' e' => hE H' (e36.trans e')⟩
    have hv35 := VAt.extN hv34 e35
    refine s_told (C := A.c_NoSensor) (.inr (.inr (.inl ⟨rfl, rfl⟩))) hT35 (fun H36 e36 E' Q' hE => ?_) fun H36 e36 hT36 => ?_
    · have hv36 := VAt.extN hv35 e36
      obtain ⟨dx, hown⟩ := hv36.own
      refine ⟨.ref B.p, rfl, B.p, dx, _, rfl, hown, by rfl, ?_⟩
      refine (ea_cons (ev_var rfl) ea_nil) H36 (Ex.refl H36) _ fun H37 e37 => ?_
      exact ⟨B.p, B.l, B.as, v1, pl, rfl, hv36.ext e37, fun z => absurd z (out hv36), fun _ H' e' => hE H' (e37.trans e')⟩
    exact ⟨_, rfl, (e34.trans e35).trans e36, exn_lst e36 (exn_lst e35 hp34), hT36⟩
  subst es
  have hv34 := VAt.extN hv33 e34
  have hS34 := exn_l e34 hS33
  have hall34 := hall33.extN e34
  refine t_call (ea_cons (ev_var rfl) (ea_cons (ev_var rfl) ea_nil)) (Ex.refl H34) fun H35 e35 => ⟨B.p, B.l, B.as, v1, by rw [hml1], hv34.ext e35, fun bq2 H36 e36 hall36 => ?_⟩
  refine ⟨.ref bq, rfl, ?_⟩
  refine rv_neAll hall36 (hall34.extN (ExtN.of (e35.trans e36))) H36 (Ex.refl H36) _ fun H37 e37 => ⟨false, rfl, ?_⟩
  have e3437 := (e35.trans e36).trans e37
  exact ⟨_, _, _, _, _, _, _, _, _, _, _, _, _, _, rfl, ex_l e3437 hS34, hT34.ext e3437⟩
end
end MV
namespace MV
open PySem PySem.Spec PyProof.Rows L2 Evl MVH LamX
theorem ok_middle {P : Program} {w : World} {K : PySem.W.Frag} {mg : Str → Option Value} {base : Heap} {A : Ads} (T : Txt K mg A) :
    FnOk P w K mg base CX0 1 A.f_middle A.d_middle ["numbers", "near"] (sp_middle K A) := by
  refine T.F_middle.ok sc_middle (fun vs H Q E h => len_middle h) (fun cdv _ outer s H vs Q E hr h => ⟨t_middle K A E, ?_, pure_middle T vs H Q E h⟩)
  exact (pss_cons (ps_asg (pe_callB cr_sorted (by rfl) T.n_sorted PyProof.Rows.boot_sorted (pa_cons (pv 0) pa_nil)) (pg_name (i := 2) sc_middle.nd rfl (by first | exact Or.inl rfl | exact Or.inr rfl)))
      (pss_cons (ps_asg (pe_op op_fdivW (pe_callB call_len_seq (by rfl) T.n_len PySem.boot_len (pa_cons (pv 2) pa_nil)) pe_int) (pg_name (i := 3) sc_middle.nd rfl (by first | exact Or.inl rfl | exact Or.inr rfl)))
      (pss_cons (ps_if (pt_cmpR op_eq (pe_op op_mod (pe_callB call_len_seq (by rfl) T.n_len PySem.boot_len (pa_cons (pv 2) pa_nil)) pe_int) pe_int (nomark _)) (pss_one (ps_ret (pe_ix ix_list (pv 2) (pv 3) (fun _ _ => rfl)))) pss_nil)
      (pss_cons (ps_if (pt_cmpR op_lt (pe_callB call_abs (by rfl) T.n_abs PyProof.Rows.boot_abs (pa_cons (pe_op op_sub (pe_ix ix_list (pv 2) (pv 3) (fun _ _ => rfl)) (pv 1)) pa_nil)) (pe_callB call_abs (by rfl) T.n_abs PyProof.Rows.boot_abs (pa_cons (pe_op op_sub (pe_ix ix_list (pv 2) (pe_op op_sub (pv 3) pe_int) (fun _ _ => rfl)) (pv 1)) pa_nil)) (nomark _)) (pss_one (ps_ret (pe_ix ix_list (pv 2) (pv 3) (fun _ _ => rfl)))) pss_nil)
      (pss_one (ps_ret (pe_ix ix_list (pv 2) (pe_op op_sub (pv 3) pe_int) (fun _ _ => rfl))))))))
theorem ok_moved {P : Program} {w : World} {K : PySem.W.Frag} {mg : Str → Option Value} {base : Heap} {A : Ads} (T : Txt K mg A) :
    FnOk P w K mg base CX0 1 A.f_moved A.d_moved ["one", "goal", "most"] (sp_moved K A) := by
  refine T.F_moved.ok sc_moved (fun vs H Q E h => len_moved h) (fun cdv _ outer s H vs Q E hr h => ⟨t_moved K A E, ?_, pure_moved T vs H Q E h⟩)
  exact (pss_cons (ps_if (pt_cmpR op_gt (pv 1) (pv 0) (nomark _)) (pss_one (ps_ret (pe_callB (call_min2 rfl) (by rfl) T.n_min PyProof.Rows.boot_min (pa_cons (pv 1) (pa_cons (pe_op op_add (pv 0) (pv 2)) pa_nil))))) pss_nil)
      (pss_one (ps_ret (pe_callB (call_max2 rfl) (by rfl) T.n_max PyProof.Rows.boot_max (pa_cons (pv 1) (pa_cons (pe_op op_sub (pv 0) (pv 2)) pa_nil))))))
theorem ok_agree {P : Program} {w : World} {K : PySem.W.Frag} {mg : Str → Option Value} {base : Heap} {A : Ads} (T : Txt K mg A) :
    FnOk P w K mg base CX0 1 A.f_agree A.d_agree ["numbers", "value", "threshold"] (sp_agree K A) := by
  refine T.F_agree.ok sc_agree (fun vs H Q E h => len_agree h) (fun cdv _ outer s H vs Q E hr h => ⟨t_agree K A E, ?_, pure_agree T vs H Q E h⟩)
  exact (pss_one (ps_ret (pe_lc (own := [("place", 3), ("number", 4)]) rfl sc_agree.nd (pi_enum (by rfl) T.n_enumerate (pa_cons (pv 0) pa_nil)) (blkOk_by (own := [("place", 3), ("number", 4)]) (N := ["numbers", "value", "threshold", "place", "number"]) (sc := defScope s_agree) (by decide +kernel)) (fun _ _ _ _ _ => (pg_tup (by rfl) (pgs_cons (pg_name (i := 3) sc_agree.nd rfl (by first | exact Or.inl rfl | exact Or.inr rfl)) (pgs_cons (pg_name (i := 4) sc_agree.nd rfl (by first | exact Or.inl rfl | exact Or.inr rfl)) pgs_nil)))) (fun _ _ _ _ _ => (pts_one (pt_cmpR op_le (pe_callB call_abs (by rfl) T.n_abs PyProof.Rows.boot_abs (pa_cons (pe_op op_sub (pv 4) (pv 1)) pa_nil)) (pv 2) (nomark _)))) (fun _ _ _ _ _ => (pv 3)))))
theorem ok_need_settings {P : Program} {w : World} {K : PySem.W.Frag} {mg : Str → Option Value} {base : Heap} {A : Ads} (T : Txt K mg A) :
    FnOk P w K mg base (L2N.CX P w) 1 A.f_need_settings A.d_need_settings ["settings"] (sp_need_settings K A) := by
  refine okN T.F_need_settings sc_need_settings (fun vs H Q E h => len_need_settings h) (fun cdv _ outer s H vs Q E hr h => ⟨t_need_settings K A E, ?_, pure_need_settings T vs H Q E h⟩)
  exact (pss_cons (ps_asg (pv 0) (pg_tup (by rfl) (pgs_cons (pg_name (i := 1) sc_need_settings.nd rfl (by first | exact Or.inl rfl | exact Or.inr rfl)) (pgs_cons (pg_name (i := 2) sc_need_settings.nd rfl (by first | exact Or.inl rfl | exact Or.inr rfl)) (pgs_cons (pg_name (i := 3) sc_need_settings.nd rfl (by first | exact Or.inl rfl | exact Or.inr rfl)) (pgs_cons (pg_name (i := 4) sc_need_settings.nd rfl (by first | exact Or.inl rfl | exact Or.inr rfl)) (pgs_cons (pg_name (i := 5) sc_need_settings.nd rfl (by first | exact Or.inl rfl | exact Or.inr rfl)) pgs_nil)))))))
      (pss_cons (ps_if (PW.pt (pw_or (pt_not (pt_chain op_le op_le (pe_glob rfl T.c_LEAST.choose_spec ⟨_, rfl⟩) (pv 1) (pe_glob rfl T.c_MOST.choose_spec ⟨_, rfl⟩))) (pw_or (pt_not (pt_chain op_le op_le pe_int (pv 2) (pe_glob rfl T.c_MOST_THRESHOLD.choose_spec ⟨_, rfl⟩))) (pw_or1 (pt_not (pt_chain op_le op_le pe_int (pv 3) (pe_glob rfl T.c_MOST_THRESHOLD.choose_spec ⟨_, rfl⟩))))))) (pss_one (L2N.ps_raise rfl (L2N.takes_of rfl rfl rfl rfl) (L2N.pmk_own PySem.F.excBase_ValueError T.x_BadSettings T.g_BadSettings T.k_BadSettings (raises_own T.xb_BadSettings T.xt_BadSettings) (by exact rfl)))) pss_nil)
      (pss_one (ps_if (PW.pt (pw_or (pt_not (pt_chain op_le op_le pe_int (pv 4) (pe_glob rfl T.c_MOST_COUNT.choose_spec ⟨_, rfl⟩))) (pw_or1 (pt_not (pt_chain op_le op_le pe_int (pv 5) (pe_glob rfl T.c_MOST_COUNT.choose_spec ⟨_, rfl⟩)))))) (pss_one (L2N.ps_raise rfl (L2N.takes_of rfl rfl rfl rfl) (L2N.pmk_own PySem.F.excBase_ValueError T.x_BadSettings T.g_BadSettings T.k_BadSettings (raises_own T.xb_BadSettings T.xt_BadSettings) (by exact rfl)))) pss_nil))))
theorem ok_need_step {P : Program} {w : World} {K : PySem.W.Frag} {mg : Str → Option Value} {base : Heap} {A : Ads} (T : Txt K mg A) :
    FnOk P w K mg base (L2N.CX P w) 1 A.f_need_step A.d_need_step ["values", "many"] (sp_need_step K A) := by
  refine okN T.F_need_step sc_need_step (fun vs H Q E h => len_need_step h) (fun cdv _ outer s H vs Q E hr h => ⟨t_need_step K A E, ?_, pure_need_step T vs H Q E h⟩)
  exact (pss_cons (ps_if (pt_cmpR op_ne (pe_callB call_len_seq (by rfl) T.n_len PySem.boot_len (pa_cons (pv 0) pa_nil)) (pv 1) (nomark _)) (pss_one (L2N.ps_raise rfl (L2N.takes_of rfl rfl rfl rfl) (L2N.pmk_own PySem.F.excBase_ValueError T.x_BadStep T.g_BadStep T.k_BadStep (raises_own T.xb_BadStep T.xt_BadStep) (by exact rfl)))) pss_nil)
      (pss_one (ps_if (pt_not (pt_val (pe_callB (cr_all rfl) (by rfl) T.n_all PyProof.Rows.boot_all (pa_cons (pe_lc (own := [("value", 2)]) rfl sc_need_step.nd (pi_list (pv 0)) (blkOk_by (own := [("value", 2)]) (N := ["values", "many", "value"]) (sc := defScope s_need_step) (by decide +kernel)) (fun _ _ _ _ _ => (pg_name (i := 2) sc_need_step.nd rfl (by first | exact Or.inl rfl | exact Or.inr rfl))) (fun _ _ _ _ _ => (pts_one (pt_cmpR op_notN (pv 2) pe_non (nomark _)))) (fun _ _ _ _ _ => (pe_cmpR op_le (pe_callB call_abs (by rfl) T.n_abs PyProof.Rows.boot_abs (pa_cons (pv 2) pa_nil)) (pe_glob rfl T.c_MOST_VALUE.choose_spec ⟨_, rfl⟩) (nomark _)))) pa_nil)))) (pss_one (L2N.ps_raise rfl (L2N.takes_of rfl rfl rfl rfl) (L2N.pmk_own PySem.F.excBase_ValueError T.x_BadStep T.g_BadStep T.k_BadStep (raises_own T.xb_BadStep T.xt_BadStep) (by exact rfl)))) pss_nil)))
theorem ok_Sensor_init {P : Program} {w : World} {K : PySem.W.Frag} {mg : Str → Option Value} {base : Heap} {A : Ads} (T : Txt K mg A) :
    FnOk P w K mg base CX0 1 A.f_Sensor_init A.d_Sensor_init ["self"] (sp_Sensor_init K A) := by
  refine T.F_Sensor_init.ok sc_Sensor_init (fun vs H Q E h => len_Sensor_init h) (fun cdv _ outer s H vs Q E hr h => ⟨t_Sensor_init K A E, ?_, pure_Sensor_init T vs H Q E h⟩)
  exact (pss_cons (ps_fld (pv 0) pe_bl rfl)
      (pss_one (ps_fld (pv 0) pe_int rfl)))
theorem ok_Voter_given {P : Program} {w : World} {K : PySem.W.Frag} {mg : Str → Option Value} {base : Heap} {A : Ads} (T : Txt K mg A) :
    FnOk P w K mg base CX0 1 A.f_Voter_given A.d_Voter_given ["self"] (sp_Voter_given K A) := by
  refine T.F_Voter_given.ok sc_Voter_given (fun vs H Q E h => len_Voter_given h) (fun cdv _ outer s H vs Q E hr h => ⟨t_Voter_given K A E, ?_, pure_Voter_given T vs H Q E h⟩)
  exact (pss_one (ps_ret (pe_fld (pv 0) rfl)))
theorem ok_Voter_sensor {P : Program} {w : World} {K : PySem.W.Frag} {mg : Str → Option Value} {base : Heap} {A : Ads} (T : Txt K mg A) :
    FnOk P w K mg base (L2N.CX P w) 1 A.f_Voter_sensor A.d_Voter_sensor ["self", "place"] (sp_Voter_sensor K A) := by
  refine okN T.F_Voter_sensor sc_Voter_sensor (fun vs H Q E h => len_Voter_sensor h) (fun cdv _ outer s H vs Q E hr h => ⟨t_Voter_sensor K A E, ?_, pure_Voter_sensor T vs H Q E h⟩)
  exact (pss_cons (ps_if (pt_not (pt_chain op_le op_lt pe_int (pv 1) (pe_callB call_len_seq (by rfl) T.n_len PySem.boot_len (pa_cons (pe_fld (pv 0) rfl) pa_nil)))) (pss_one (L2N.ps_raise rfl (L2N.takes_of rfl rfl rfl rfl) (L2N.pmk_own PySem.F.excBase_ValueError T.x_NoSensor T.g_NoSensor T.k_NoSensor (raises_own T.xb_NoSensor T.xt_NoSensor) (by exact rfl)))) pss_nil)
      (pss_one (ps_ret (pe_ix ix_list (pe_fld (pv 0) rfl) (pv 1) (fun _ _ => rfl)))))
theorem ok_Voter_is_close {P : Program} {w : World} {K : PySem.W.Frag} {mg : Str → Option Value} {base : Heap} {A : Ads} (T : Txt K mg A) :
    FnOk P w K mg base CX0 1 A.f_Voter_is_close A.d_Voter_is_close ["self", "thing", "value"] (sp_Voter_is_close K A) := by
  refine T.F_Voter_is_close.ok sc_Voter_is_close (fun vs H Q E h => len_Voter_is_close h) (fun cdv _ outer s H vs Q E hr h => ⟨t_Voter_is_close K A E, ?_, pure_Voter_is_close T vs H Q E h⟩)
  exact (pss_one (ps_ret (pe_and (pe_cmpR op_notN (pv 1) pe_non (nomark _)) (pe_one (pe_cmpR op_le (pe_callB call_abs (by rfl) T.n_abs PyProof.Rows.boot_abs (pa_cons (pe_op op_sub (pv 1) (pv 2)) pa_nil)) (pe_fld (pv 0) rfl) (nomark _))))))
theorem ok_Voter_watch {P : Program} {w : World} {K : PySem.W.Frag} {mg : Str → Option Value} {base : Heap} {A : Ads} (T : Txt K mg A) :
    FnOk P w K mg base CX0 1 A.f_Voter_watch A.d_Voter_watch ["self", "one", "is_close"] (sp_Voter_watch K A) := by
  refine T.F_Voter_watch.ok sc_Voter_watch (fun vs H Q E h => len_Voter_watch h) (fun cdv _ outer s H vs Q E hr h => ⟨t_Voter_watch K A E, ?_, pure_Voter_watch T vs H Q E h⟩)
  exact (pss_cons (ps_if (pt_val (pv 2)) (pss_cons (ps_fld (pv 1) (pe_callB (call_max2 rfl) (by rfl) T.n_max PyProof.Rows.boot_max (pa_cons pe_int (pa_cons (pe_op op_sub (pe_fld (pv 1) rfl) pe_int) pa_nil))) rfl)
      (pss_one ps_retN)) pss_nil)
      (pss_cons (ps_fld (pv 1) (pe_op op_add (pe_fld (pv 1) rfl) pe_int) rfl)
      (pss_cons (ps_setLc (i := 3) (own := [("other", 4)]) rfl sc_Voter_watch.nd rfl rfl (sw_true rfl rfl rfl (by decide +kernel)) (pi_list (pe_fld (pv 0) rfl)) (blkOk_by (own := [("other", 4)]) (N := ["self", "one", "is_close", "others", "other"]) (sc := defScope s_Voter_watch) (by decide +kernel)) (fun _ _ _ _ _ => (pg_name (i := 4) sc_Voter_watch.nd rfl (by first | exact Or.inl rfl | exact Or.inr rfl))) (fun _ _ _ _ _ => (pts_one (pt_not (pt_val (pe_fld (pv 4) rfl))))) (fun _ _ _ _ _ => (pv 4)))
      (pss_one (ps_if (PW.pt (pw_and (pt_cmpR op_ge (pe_fld (pv 1) rfl) (pe_fld (pv 0) rfl) (nomark _)) (pw_and1 (pt_cmpR op_gt (pe_callB call_len_seq (by rfl) T.n_len PySem.boot_len (pa_cons (pv 3) pa_nil)) pe_int (nomark _))))) (pss_cons (ps_fld (pv 1) pe_bl rfl)
      (pss_one (ps_fld (pv 1) pe_int rfl))) pss_nil)))))
theorem ok_Voter_wait {P : Program} {w : World} {K : PySem.W.Frag} {mg : Str → Option Value} {base : Heap} {A : Ads} (T : Txt K mg A) :
    FnOk P w K mg base CX0 1 A.f_Voter_wait A.d_Voter_wait ["self", "one", "is_close"] (sp_Voter_wait K A) := by
  refine T.F_Voter_wait.ok sc_Voter_wait (fun vs H Q E h => len_Voter_wait h) (fun cdv _ outer s H vs Q E hr h => ⟨t_Voter_wait K A E, ?_, pure_Voter_wait T vs H Q E h⟩)
  exact (pss_cons (ps_fld (pv 1) (pe_op op_mul (pe_op op_add (pe_fld (pv 1) rfl) pe_int) (pe_callTy call_int1 (by rfl) T.n_int PyProof.Rows.boot_int (pa_cons (pv 2) pa_nil))) rfl)
      (pss_one (ps_if (pt_cmpR op_eq (pe_fld (pv 1) rfl) (pe_fld (pv 0) rfl) (nomark _)) (pss_cons (ps_fld (pv 1) pe_bl rfl)
      (pss_one (ps_fld (pv 1) pe_int rfl))) pss_nil)))
theorem ok_l_cell {P : Program} {w : World} {K : PySem.W.Frag} {mg : Str → Option Value} {base : Heap} {A : Ads} (T : Txt K mg A) :
    FnOk P w K mg base CX0 1 A.f_l_cell A.d_l_cell ["_law_script", "_law_k"] (sp_l_cell K A) := by
  refine T.F_l_cell.ok sc_l_cell (fun vs H Q E h => len_l_cell h) (fun cdv _ outer s H vs Q E hr h => ⟨t_l_cell K A E, ?_, pure_l_cell T vs H Q E h⟩)
  exact (pss_cons (ps_if (pt_cmpR (op_eqD hr.units) (pv 0) (pe_lst pa_nil) (nomark _)) (pss_one (ps_ret (pe_op op_mul (pv 1) pe_int))) pss_nil)
      (pss_one (ps_ret (pe_op op_add (pe_ix ix_list (pv 0) (pe_op op_mod (pv 1) (pe_callB call_len_seq (by rfl) T.n_len PySem.boot_len (pa_cons (pv 0) pa_nil))) (fun _ _ => rfl)) (pe_op op_mul (pe_op op_fdivW (pv 1) (pe_callB call_len_seq (by rfl) T.n_len PySem.boot_len (pa_cons (pv 0) pa_nil))) pe_int)))))
theorem ok_l_drawn {P : Program} {w : World} {K : PySem.W.Frag} {mg : Str → Option Value} {base : Heap} {A : Ads} (T : Txt K mg A) :
    FnOk P w K mg base CX0 1 A.f_l_drawn A.d_l_drawn ["_law_cell_here", "_law_k"] (sp_l_drawn K A) := by
  refine T.F_l_drawn.ok sc_l_drawn (fun vs H Q E h => len_l_drawn h) (fun cdv _ outer s H vs Q E hr h => ⟨t_l_drawn K A E, ?_, pure_l_drawn T vs H Q E h⟩)
  exact (pss_cons (ps_asg (pe_op op_mod (pe_op op_add (pe_op op_mul (pv 0) pe_int) (pe_op op_mul (pe_op op_add (pv 1) pe_int) pe_int)) pe_int) (pg_name (i := 2) sc_l_drawn.nd rfl (by first | exact Or.inl rfl | exact Or.inr rfl)))
      (pss_one (ps_ret (pe_op op_mod (pe_op op_mulW (pv 2) (pv 2)) pe_int))))
theorem ok_l_settings {P : Program} {w : World} {K : PySem.W.Frag} {mg : Str → Option Value} {base : Heap} {A : Ads} (T : Txt K mg A) :
    FnOk P w K mg base CX0 1 A.f_l_settings A.d_l_settings ["_law_more"] (sp_l_settings K A) := by
  refine T.F_l_settings.ok sc_l_settings (fun vs H Q E h => len_l_settings h) (fun cdv _ outer s H vs Q E hr h => ⟨t_l_settings K A E, ?_, pure_l_settings T vs H Q E h⟩)
  exact (pss_cons (ps_asg (pe_ix ix_list (pe_lst (pa_cons pe_int (pa_cons pe_int (pa_cons pe_int (pa_cons pe_int (pa_cons pe_int (pa_cons (pe_op op_mod (pe_op op_fdivW (pv 0) pe_int) pe_int) pa_nil))))))) (pe_op op_mod (pv 0) pe_int) (fun _ _ => rfl)) (pg_name (i := 1) sc_l_settings.nd rfl (by first | exact Or.inl rfl | exact Or.inr rfl)))
      (pss_cons (ps_asg (pe_ix ix_list (pe_lst (pa_cons pe_int (pa_cons pe_int (pa_cons pe_int (pa_cons (pe_op op_add pe_int (pe_op op_mod (pe_op op_fdivW (pv 0) (pe_op op_pow pe_int pe_int)) pe_int)) pa_nil))))) (pe_op op_mod (pe_op op_fdivW (pv 0) (pe_op op_pow pe_int pe_int)) pe_int) (fun _ _ => rfl)) (pg_name (i := 2) sc_l_settings.nd rfl (by first | exact Or.inl rfl | exact Or.inr rfl)))
      (pss_cons (ps_asg (pe_ix ix_list (pe_lst (pa_cons pe_int (pa_cons pe_int (pa_cons pe_int (pa_cons (pe_op op_add pe_int (pe_op op_mod (pe_op op_fdivW (pv 0) (pe_op op_pow pe_int pe_int)) pe_int)) pa_nil))))) (pe_op op_mod (pe_op op_fdivW (pv 0) (pe_op op_pow pe_int pe_int)) pe_int) (fun _ _ => rfl)) (pg_name (i := 3) sc_l_settings.nd rfl (by first | exact Or.inl rfl | exact Or.inr rfl)))
      (pss_cons (ps_asg (pe_ix ix_list (pe_lst (pa_cons pe_int (pa_cons pe_int (pa_cons pe_int (pa_cons (pe_op op_add pe_int (pe_op op_mod (pe_op op_fdivW (pv 0) (pe_op op_pow pe_int pe_int)) pe_int)) pa_nil))))) (pe_op op_mod (pe_op op_fdivW (pv 0) (pe_op op_pow pe_int pe_int)) pe_int) (fun _ _ => rfl)) (pg_name (i := 4) sc_l_settings.nd rfl (by first | exact Or.inl rfl | exact Or.inr rfl)))
      (pss_one (ps_ret (pe_tup (pa_cons (pe_op op_add pe_int (pe_op op_mod (pe_op op_fdivW (pv 0) (pe_op op_pow pe_int pe_int)) pe_int)) (pa_cons (pv 1) (pa_cons (pv 2) (pa_cons (pv 3) (pa_cons (pv 4) pa_nil))))))))))))
theorem ok_l_bad {P : Program} {w : World} {K : PySem.W.Frag} {mg : Str → Option Value} {base : Heap} {A : Ads} (T : Txt K mg A) :
    FnOk P w K mg base CX0 1 A.f_l_bad A.d_l_bad ["_law_more", "_law_settings_here"] (sp_l_bad K A) := by
  refine T.F_l_bad.ok sc_l_bad (fun vs H Q E h => len_l_bad h) (fun cdv _ outer s H vs Q E hr h => ⟨t_l_bad K A E, ?_, pure_l_bad T vs H Q E h⟩)
  exact (pss_cons (ps_asg (pe_op op_mod (pv 0) pe_int) (pg_name (i := 2) sc_l_bad.nd rfl (by first | exact Or.inl rfl | exact Or.inr rfl)))
      (pss_cons (ps_asg (pe_ix ix_list (pe_ix ix_list (pe_lst (pa_cons (pe_lst (pa_cons pe_int (pa_cons pe_int (pa_cons pe_int pa_nil)))) (pa_cons (pe_lst (pa_cons (pe_un un_neg pe_int) (pa_cons pe_int (pa_cons (pe_un un_neg pe_int) pa_nil)))) (pa_cons (pe_lst (pa_cons pe_int (pa_cons pe_int (pa_cons (pe_un un_neg pe_int) pa_nil)))) (pa_cons (pe_lst (pa_cons pe_int (pa_cons pe_int (pa_cons (pe_un un_neg pe_int) pa_nil)))) (pa_cons (pe_lst (pa_cons pe_int (pa_cons pe_int (pa_cons (pe_un un_neg pe_int) pa_nil)))) pa_nil)))))) (pv 2) (fun _ _ => rfl)) (pe_op op_mod (pe_op op_fdivW (pv 0) pe_int) pe_int) (fun _ _ => rfl)) (pg_name (i := 3) sc_l_bad.nd rfl (by first | exact Or.inl rfl | exact Or.inr rfl)))
      (pss_one (ps_ret (pe_op op_catA (pe_op op_catA (pe_slice sl_tup (pv 1) po_none (po_some (pv 2))) (pe_tup (pa_cons (pv 3) pa_nil))) (pe_slice sl_tup (pv 1) (po_some (pe_op op_add (pv 2) pe_int)) po_none))))))
theorem ok_l_good {P : Program} {w : World} {K : PySem.W.Frag} {mg : Str → Option Value} {base : Heap} {A : Ads} (T : Txt K mg A) :
    FnOk P w K mg base CX0 1 A.f_l_good A.d_l_good ["_law_more"] (sp_l_good K A) := by
  refine T.F_l_good.ok sc_l_good (fun vs H Q E h => len_l_good h) (fun cdv _ outer s H vs Q E hr h => ⟨t_l_good K A E, ?_, pure_l_good T vs H Q E h⟩)
  exact (pss_one (ps_ret (pe_tup (pa_cons (pe_ix ix_list (pe_lst (pa_cons pe_int (pa_cons pe_int pa_nil))) (pe_op op_mod (pv 0) pe_int) (fun _ _ => rfl)) (pa_cons (pe_ix ix_list (pe_lst (pa_cons pe_int (pa_cons pe_int pa_nil))) (pe_op op_mod (pe_op op_fdivW (pv 0) pe_int) pe_int) (fun _ _ => rfl)) (pa_cons (pe_ix ix_list (pe_lst (pa_cons pe_int (pa_cons pe_int pa_nil))) (pe_op op_mod (pe_op op_fdivW (pv 0) pe_int) pe_int) (fun _ _ => rfl)) (pa_cons (pe_ix ix_list (pe_lst (pa_cons pe_int (pa_cons pe_int pa_nil))) (pe_op op_mod (pe_op op_fdivW (pv 0) pe_int) pe_int) (fun _ _ => rfl)) (pa_cons (pe_ix ix_list (pe_lst (pa_cons pe_int (pa_cons pe_int pa_nil))) (pe_op op_mod (pe_op op_fdivW (pv 0) pe_int) pe_int) (fun _ _ => rfl)) pa_nil))))))))
theorem ok_Voter_state {P : Program} {w : World} {K : PySem.W.Frag} {mg : Str → Option Value} {base : Heap} {A : Ads} (T : Txt K mg A) (G_Voter_sensor : FnOk P w K mg base (L2N.CX P w) 1 A.f_Voter_sensor A.d_Voter_sensor ["self", "place"] (sp_Voter_sensor K A)) :
    FnOk P w K mg base (L2N.CX P w) 2 A.f_Voter_state A.d_Voter_state ["self", "place"] (sp_Voter_state K A) := by
  refine okN T.F_Voter_state sc_Voter_state (fun vs H Q E h => len_Voter_state h) (fun cdv _ outer s H vs Q E hr h => ⟨t_Voter_state K A E, ?_, pure_Voter_state T vs H Q E h⟩)
  exact (pss_cons (ps_asg (pe_meth (pv 0) T.cl_Voter T.m_Voter_sensor G_Voter_sensor (hr.mono (by decide)) T.b_Voter_sensor .nil (L2N.passes_call (L2N.takes_of rfl rfl rfl rfl) (fun _ _ _ _ h => h)) (pa_cons (pv 1) pa_nil)) (pg_name (i := 2) sc_Voter_state.nd rfl (by first | exact Or.inl rfl | exact Or.inr rfl)))
      (pss_cons (ps_if (pt_val (pe_fld (pv 2) rfl)) (pss_one (ps_ret pe_str)) pss_nil)
      (pss_one (ps_ret (pe_ifExp (pt_cmpR op_eq (pe_fld (pv 2) rfl) pe_int (nomark _)) pe_str pe_str)))))
theorem ok_Voter_count {P : Program} {w : World} {K : PySem.W.Frag} {mg : Str → Option Value} {base : Heap} {A : Ads} (T : Txt K mg A) (G_Voter_sensor : FnOk P w K mg base (L2N.CX P w) 1 A.f_Voter_sensor A.d_Voter_sensor ["self", "place"] (sp_Voter_sensor K A)) :
    FnOk P w K mg base (L2N.CX P w) 2 A.f_Voter_count A.d_Voter_count ["self", "place"] (sp_Voter_count K A) := by
  refine okN T.F_Voter_count sc_Voter_count (fun vs H Q E h => len_Voter_count h) (fun cdv _ outer s H vs Q E hr h => ⟨t_Voter_count K A E, ?_, pure_Voter_count T vs H Q E h⟩)
  exact (pss_one (ps_ret (pe_fld (pe_meth (pv 0) T.cl_Voter T.m_Voter_sensor G_Voter_sensor (hr.mono (by decide)) T.b_Voter_sensor .nil (L2N.passes_call (L2N.takes_of rfl rfl rfl rfl) (fun _ _ _ _ h => h)) (pa_cons (pv 1) pa_nil)) rfl)))
theorem ok_Voter_word {P : Program} {w : World} {K : PySem.W.Frag} {mg : Str → Option Value} {base : Heap} {A : Ads} (T : Txt K mg A) (G_agree : FnOk P w K mg base CX0 1 A.f_agree A.d_agree ["numbers", "value", "threshold"] (sp_agree K A)) :
    FnOk P w K mg base CX0 2 A.f_Voter_word A.d_Voter_word ["self", "numbers", "value"] (sp_Voter_word K A) := by
  refine T.F_Voter_word.ok sc_Voter_word (fun vs H Q E h => len_Voter_word h) (fun cdv _ outer s H vs Q E hr h => ⟨t_Voter_word K A E, ?_, pure_Voter_word T vs H Q E h⟩)
  exact (pss_cons (ps_if (pt_cmpR (op_eqD hr.units) (pv 1) (pe_lst pa_nil) (nomark _)) (pss_one (ps_ret pe_str)) pss_nil)
      (pss_cons (ps_if (pt_cmpR op_eq (pe_callB call_len_seq (by rfl) T.n_len PySem.boot_len (pa_cons (pv 1) pa_nil)) pe_int (nomark _)) (pss_one (ps_ret pe_str)) pss_nil)
      (pss_cons (ps_asg (pe_callB call_len_seq (by rfl) T.n_len PySem.boot_len (pa_cons (pe_call G_agree (hr.mono (by decide)) rfl T.g_agree T.F_agree.kp T.b_agree .nil pass0 (pa_cons (pv 1) (pa_cons (pv 2) (pa_cons (pe_fld (pv 0) rfl) pa_nil)))) pa_nil)) (pg_name (i := 3) sc_Voter_word.nd rfl (by first | exact Or.inl rfl | exact Or.inr rfl)))
      (pss_cons (ps_if (pt_cmpR op_le (pe_op op_mul pe_int (pv 3)) (pe_callB call_len_seq (by rfl) T.n_len PySem.boot_len (pa_cons (pv 1) pa_nil)) (nomark _)) (pss_one (ps_ret pe_str)) pss_nil)
      (pss_one (ps_ret (pe_ifExp (pt_cmpR op_eq (pv 3) (pe_callB call_len_seq (by rfl) T.n_len PySem.boot_len (pa_cons (pe_fld (pv 0) rfl) pa_nil)) (nomark _)) pe_str pe_str)))))))
theorem ok_l_values {P : Program} {w : World} {K : PySem.W.Frag} {mg : Str → Option Value} {base : Heap} {A : Ads} (T : Txt K mg A) (G_l_drawn : FnOk P w K mg base CX0 1 A.f_l_drawn A.d_l_drawn ["_law_cell_here", "_law_k"] (sp_l_drawn K A)) (G_l_cell : FnOk P w K mg base CX0 1 A.f_l_cell A.d_l_cell ["_law_script", "_law_k"] (sp_l_cell K A)) :
    FnOk P w K mg base CX0 2 A.f_l_values A.d_l_values ["_law_script", "_law_k", "_law_settings_here", "_law_base"] (sp_l_values K A) := by
  refine T.F_l_values.ok sc_l_values (fun vs H Q E h => len_l_values h) (fun cdv _ outer s H vs Q E hr h => ⟨t_l_values K A E, ?_, pure_l_values T vs H Q E h⟩)
  exact (pss_cons (ps_asg (pe_lst pa_nil) (pg_name (i := 4) sc_l_values.nd rfl (by first | exact Or.inl rfl | exact Or.inr rfl)))
      (pss_cons (ps_asg (pe_ix ix_tup (pv 2) pe_int (fun _ _ => rfl)) (pg_name (i := 5) sc_l_values.nd rfl (by first | exact Or.inl rfl | exact Or.inr rfl)))
      (pss_cons (ps_for PassesOwn.never rfl (pi_range1 (by rfl) T.n_range (pa_cons (pe_ix ix_tup (pv 2) pe_int (fun _ _ => rfl)) pa_nil)) (pg_name (i := 6) sc_l_values.nd rfl (by first | exact Or.inl rfl | exact Or.inr rfl)) (pss_cons (ps_asg (pe_call G_l_drawn (hr.mono (by decide)) rfl T.g_l_drawn T.F_l_drawn.kp T.b_l_drawn .nil pass0 (pa_cons (pe_call G_l_cell (hr.mono (by decide)) rfl T.g_l_cell T.F_l_cell.kp T.b_l_cell .nil pass0 (pa_cons (pv 0) (pa_cons (pv 1) pa_nil))) (pa_cons (pe_op op_add (pe_op op_add (pe_op op_mul pe_int (pv 1)) (pv 6)) pe_int) pa_nil))) (pg_name (i := 7) sc_l_values.nd rfl (by first | exact Or.inl rfl | exact Or.inr rfl)))
      (pss_cons (ps_asg (pe_ix ix_list (pe_lst (pa_cons (pe_op op_mod (pe_op op_fdivW (pv 7) pe_int) pe_int) (pa_cons (pe_op op_mod (pe_op op_add (pe_op op_mul (pv 6) pe_int) (pe_call G_l_drawn (hr.mono (by decide)) rfl T.g_l_drawn T.F_l_drawn.kp T.b_l_drawn .nil pass0 (pa_cons (pe_call G_l_cell (hr.mono (by decide)) rfl T.g_l_cell T.F_l_cell.kp T.b_l_cell .nil pass0 (pa_cons (pv 0) (pa_cons pe_int pa_nil))) (pa_cons pe_int pa_nil)))) pe_int) pa_nil))) (pe_op op_mod (pv 7) pe_int) (fun _ _ => rfl)) (pg_name (i := 8) sc_l_values.nd rfl (by first | exact Or.inl rfl | exact Or.inr rfl)))
      (pss_cons (ps_asg (pe_op op_fdivW (pv 7) (pe_op op_pow pe_int pe_int)) (pg_name (i := 7) sc_l_values.nd rfl (by first | exact Or.inl rfl | exact Or.inr rfl)))
      (pss_one (ps_if (pt_cmpR op_lt (pv 8) pe_int (nomark _)) (pss_one (ps_expr (pe_bm PySem.F.plainAttrs_list PySem.F.slot_list_append PySem.F.type_list_append mt_append (pv 4) (pa_cons (pe_op op_add (pv 3) (pe_ix ix_list (pe_lst (pa_cons pe_int (pa_cons (pe_op op_sub (pe_op op_mod (pv 7) pe_int) pe_int) (pa_cons (pe_op op_sub (pe_op op_sub (pe_op op_mod (pv 7) (pe_op op_add (pe_op op_mul pe_int (pv 5)) pe_int)) (pv 5)) pe_int) pa_nil)))) (pe_op op_mod (pe_op op_fdivW (pv 7) (pe_op op_pow pe_int pe_int)) pe_int) (fun _ _ => rfl))) pa_nil)))) (pss_one (ps_if (pt_cmpR op_lt (pv 8) pe_int (nomark _)) (pss_one (ps_expr (pe_bm PySem.F.plainAttrs_list PySem.F.slot_list_append PySem.F.type_list_append mt_append (pv 4) (pa_cons (pe_op op_add (pv 3) (pe_op op_mul (pe_op op_sub (pe_op op_mod (pv 7) pe_int) pe_int) (pe_op op_add (pv 5) (pe_op op_mod (pe_op op_fdivW (pv 7) pe_int) pe_int)))) pa_nil)))) (pss_one (ps_if (pt_cmpR op_eq (pv 8) pe_int (nomark _)) (pss_one (ps_expr (pe_bm PySem.F.plainAttrs_list PySem.F.slot_list_append PySem.F.type_list_append mt_append (pv 4) (pa_cons (pe_ix ix_list (pe_lst (pa_cons pe_int (pa_cons (pe_un un_neg pe_int) (pa_cons (pe_op op_sub (pe_op op_mod (pv 7) pe_int) pe_int) pa_nil)))) (pe_op op_mod (pe_op op_fdivW (pv 7) (pe_op op_pow pe_int pe_int)) pe_int) (fun _ _ => rfl)) pa_nil)))) (pss_one (ps_expr (pe_bm PySem.F.plainAttrs_list PySem.F.slot_list_append PySem.F.type_list_append mt_append (pv 4) (pa_cons pe_non pa_nil))))))))))))))
      (pss_one (ps_ret (pe_lc (own := [("_law_value", 9)]) rfl sc_l_values.nd (pi_list (pv 4)) (blkOk_by (own := [("_law_value", 9)]) (N := ["_law_script", "_law_k", "_law_settings_here", "_law_base", "_law_values_here", "_law_threshold", "_law_j", "_law_more", "_law_way", "_law_value"]) (sc := defScope s_l_values) (by decide +kernel)) (fun _ _ _ _ _ => (pg_name (i := 9) sc_l_values.nd rfl (by first | exact Or.inl rfl | exact Or.inr rfl))) (fun _ _ _ _ _ => pts_nil) (fun _ _ _ _ _ => (pe_ifExp (pt_cmpR op_isN (pv 9) pe_non (nomark _)) pe_non (pe_callB (call_max2 rfl) (by rfl) T.n_max PyProof.Rows.boot_max (pa_cons (pe_un un_neg (pe_op op_pow pe_int pe_int)) (pa_cons (pe_callB (call_min2 rfl) (by rfl) T.n_min PyProof.Rows.boot_min (pa_cons (pe_op op_pow pe_int pe_int) (pa_cons (pv 9) pa_nil))) pa_nil)))))))))))
theorem ok_Voter_init {P : Program} {w : World} {K : PySem.W.Frag} {mg : Str → Option Value} {base : Heap} {A : Ads} (T : Txt K mg A) (G_Sensor_init : FnOk P w K mg base CX0 1 A.f_Sensor_init A.d_Sensor_init ["self"] (sp_Sensor_init K A)) (G_need_settings : FnOk P w K mg base (L2N.CX P w) 1 A.f_need_settings A.d_need_settings ["settings"] (sp_need_settings K A)) :
    FnOk P w K mg base (L2N.CX P w) 3 A.f_Voter_init A.d_Voter_init ["self", "settings", "start"] (sp_Voter_init K A) := by
  refine okN T.F_Voter_init sc_Voter_init (fun vs H Q E h => len_Voter_init h) (fun cdv _ outer s H vs Q E hr h => ⟨t_Voter_init K A E, ?_, pure_Voter_init T vs H Q E h⟩)
  exact (pss_cons (ps_expr (pe_call G_need_settings (hr.mono (by decide)) rfl T.g_need_settings T.F_need_settings.kp T.b_need_settings .nil (L2N.passes_call (L2N.takes_of rfl rfl rfl rfl) (fun _ _ _ _ h => h)) (pa_cons (pv 1) pa_nil)))
      (pss_cons (ps_asg (pv 1) (pg_tup (by rfl) (pgs_cons (pg_name (i := 3) sc_Voter_init.nd rfl (by first | exact Or.inl rfl | exact Or.inr rfl)) (pgs_cons (pg_name (i := 4) sc_Voter_init.nd rfl (by first | exact Or.inl rfl | exact Or.inr rfl)) (pgs_cons (pg_name (i := 5) sc_Voter_init.nd rfl (by first | exact Or.inl rfl | exact Or.inr rfl)) (pgs_cons (pg_name (i := 6) sc_Voter_init.nd rfl (by first | exact Or.inl rfl | exact Or.inr rfl)) (pgs_cons (pg_name (i := 7) sc_Voter_init.nd rfl (by first | exact Or.inl rfl | exact Or.inr rfl)) pgs_nil)))))))
      (pss_cons (ps_fld (pv 0) (pv 4) rfl)
      (pss_cons (ps_fld (pv 0) (pv 5) rfl)
      (pss_cons (ps_fld (pv 0) (pv 6) rfl)
      (pss_cons (ps_fld (pv 0) (pv 7) rfl)
      (pss_cons (ps_fld (pv 0) (pe_lc (own := [("k", 8)]) rfl sc_Voter_init.nd (pi_range1 (by rfl) T.n_range (pa_cons (pv 3) pa_nil)) (blkOk_by (own := [("k", 8)]) (N := ["self", "settings", "start", "many", "threshold", "rate", "misses", "backs", "k"]) (sc := defScope s_Voter_init) (by decide +kernel)) (fun _ _ _ _ _ => (pg_name (i := 8) sc_Voter_init.nd rfl (by first | exact Or.inl rfl | exact Or.inr rfl))) (fun _ _ _ _ _ => pts_nil) (fun _ _ _ _ _ => (pe_make0 T.mk_Sensor G_Sensor_init (hr.mono (by decide)) rfl T.g_Sensor T.b_Sensor_init .nil pass0))) rfl)
      (pss_one (ps_fld (pv 0) (pv 2) rfl)))))))))
theorem ok_Voter_step {P : Program} {w : World} {K : PySem.W.Frag} {mg : Str → Option Value} {base : Heap} {A : Ads} (T : Txt K mg A) (G_moved : FnOk P w K mg base CX0 1 A.f_moved A.d_moved ["one", "goal", "most"] (sp_moved K A)) (G_Voter_wait : FnOk P w K mg base CX0 1 A.f_Voter_wait A.d_Voter_wait ["self", "one", "is_close"] (sp_Voter_wait K A)) (G_Voter_watch : FnOk P w K mg base CX0 1 A.f_Voter_watch A.d_Voter_watch ["self", "one", "is_close"] (sp_Voter_watch K A)) (G_Voter_is_close : FnOk P w K mg base CX0 1 A.f_Voter_is_close A.d_Voter_is_close ["self", "thing", "value"] (sp_Voter_is_close K A)) (G_Voter_word : FnOk P w K mg base CX0 2 A.f_Voter_word A.d_Voter_word ["self", "numbers", "value"] (sp_Voter_word K A)) (G_middle : FnOk P w K mg base CX0 1 A.f_middle A.d_middle ["numbers", "near"] (sp_middle K A)) (G_need_step : FnOk P w K mg base (L2N.CX P w) 1 A.f_need_step A.d_need_step ["values", "many"] (sp_need_step K A)) :
    FnOk P w K mg base (L2N.CX P w) 3 A.f_Voter_step A.d_Voter_step ["self", "values"] (sp_Voter_step K A) := by
  refine okN T.F_Voter_step sc_Voter_step (fun vs H Q E h => len_Voter_step h) (fun cdv _ outer s H vs Q E hr h => ⟨t_Voter_step K A E, ?_, pure_Voter_step T vs H Q E h⟩)
  exact (pss_cons (ps_expr (pe_call G_need_step (hr.mono (by decide)) rfl T.g_need_step T.F_need_step.kp T.b_need_step .nil (L2N.passes_call (L2N.takes_of rfl rfl rfl rfl) (fun _ _ _ _ h => h)) (pa_cons (pv 1) (pa_cons (pe_callB call_len_seq (by rfl) T.n_len PySem.boot_len (pa_cons (pe_fld (pv 0) rfl) pa_nil)) pa_nil))))
      (pss_cons (ps_setLc (i := 2) (own := [("place", 3), ("one", 4)]) rfl sc_Voter_step.nd rfl rfl (sw_true rfl rfl rfl (by decide +kernel)) (pi_enum (by rfl) T.n_enumerate (pa_cons (pe_fld (pv 0) rfl) pa_nil)) (blkOk_by (own := [("place", 3), ("one", 4)]) (N := ["self", "values", "numbers", "place", "one", "value", "word", "is_close"]) (sc := defScope s_Voter_step) (by decide +kernel)) (fun _ _ _ _ _ => (pg_tup (by rfl) (pgs_cons (pg_name (i := 3) sc_Voter_step.nd rfl (by first | exact Or.inl rfl | exact Or.inr rfl)) (pgs_cons (pg_name (i := 4) sc_Voter_step.nd rfl (by first | exact Or.inl rfl | exact Or.inr rfl)) pgs_nil)))) (fun _ _ _ _ _ => (pts_one (PW.pt (pw_and (pt_not (pt_val (pe_fld (pv 4) rfl))) (pw_and1 (pt_cmpR op_notN (pe_ix ix_list (pv 1) (pv 3) (fun _ _ => rfl)) pe_non (nomark _))))))) (fun _ _ _ _ _ => (pe_ix ix_list (pv 1) (pv 3) (fun _ _ => rfl))))
      (pss_cons (ps_asg (pe_fld (pv 0) rfl) (pg_name (i := 5) sc_Voter_step.nd rfl (by first | exact Or.inl rfl | exact Or.inr rfl)))
      (pss_cons (ps_if (pt_cmpR (op_neD hr.units) (pv 2) (pe_lst pa_nil) (nomark _)) (pss_one (ps_asg (pe_call G_middle (hr.mono (by decide)) rfl T.g_middle T.F_middle.kp T.b_middle .nil pass0 (pa_cons (pv 2) (pa_cons (pe_fld (pv 0) rfl) pa_nil))) (pg_name (i := 5) sc_Voter_step.nd rfl (by first | exact Or.inl rfl | exact Or.inr rfl)))) pss_nil)
      (pss_cons (ps_asg (pe_meth (pv 0) T.cl_Voter T.m_Voter_word G_Voter_word (hr.mono (by decide)) T.b_Voter_word .nil pass0 (pa_cons (pv 2) (pa_cons (pv 5) pa_nil))) (pg_name (i := 6) sc_Voter_step.nd rfl (by first | exact Or.inl rfl | exact Or.inr rfl)))
      (pss_cons (ps_for (passes_of rfl) rfl (pi_enum (by rfl) T.n_enumerate (pa_cons (pe_fld (pv 0) rfl) pa_nil)) (pg_tup (by rfl) (pgs_cons (pg_name (i := 3) sc_Voter_step.nd rfl (by first | exact Or.inl rfl | exact Or.inr rfl)) (pgs_cons (pg_name (i := 4) sc_Voter_step.nd rfl (by first | exact Or.inl rfl | exact Or.inr rfl)) pgs_nil))) (pss_cons (ps_asg (pe_meth (pv 0) T.cl_Voter T.m_Voter_is_close G_Voter_is_close (hr.mono (by decide)) T.b_Voter_is_close .nil pass0 (pa_cons (pe_ix ix_list (pv 1) (pv 3) (fun _ _ => rfl)) (pa_cons (pv 5) pa_nil))) (pg_name (i := 7) sc_Voter_step.nd rfl (by first | exact Or.inl rfl | exact Or.inr rfl)))
      (pss_one (ps_if (pt_val (pe_fld (pv 4) rfl)) (pss_one (ps_expr (pe_meth (pv 0) T.cl_Voter T.m_Voter_wait G_Voter_wait (hr.mono (by decide)) T.b_Voter_wait .nil pass0 (pa_cons (pv 4) (pa_cons (pe_and (pv 7) (pe_one (pe_cmpR (op_neD hr.units) (pv 2) (pe_lst pa_nil) (nomark _)))) pa_nil))))) (pss_one (ps_expr (pe_meth (pv 0) T.cl_Voter T.m_Voter_watch G_Voter_watch (hr.mono (by decide)) T.b_Voter_watch .nil pass0 (pa_cons (pv 4) (pa_cons (pv 7) pa_nil)))))))))
      (pss_cons (ps_fld (pv 0) (pe_call G_moved (hr.mono (by decide)) rfl T.g_moved T.F_moved.kp T.b_moved .nil pass0 (pa_cons (pe_fld (pv 0) rfl) (pa_cons (pv 5) (pa_cons (pe_fld (pv 0) rfl) pa_nil)))) rfl)
      (pss_one (ps_ret (pe_tup (pa_cons (pe_fld (pv 0) rfl) (pa_cons (pv 6) pa_nil))))))))))))
theorem ok_l_steps {P : Program} {w : World} {K : PySem.W.Frag} {mg : Str → Option Value} {base : Heap} {A : Ads} (T : Txt K mg A) (G_l_values : FnOk P w K mg base CX0 2 A.f_l_values A.d_l_values ["_law_script", "_law_k", "_law_settings_here", "_law_base"] (sp_l_values K A)) (G_l_drawn : FnOk P w K mg base CX0 1 A.f_l_drawn A.d_l_drawn ["_law_cell_here", "_law_k"] (sp_l_drawn K A)) (G_l_cell : FnOk P w K mg base CX0 1 A.f_l_cell A.d_l_cell ["_law_script", "_law_k"] (sp_l_cell K A)) :
    FnOk P w K mg base CX0 3 A.f_l_steps A.d_l_steps ["_law_script", "_law_settings_here", "_law_many"] (sp_l_steps K A) := by
  refine T.F_l_steps.ok sc_l_steps (fun vs H Q E h => len_l_steps h) (fun cdv _ outer s H vs Q E hr h => ⟨t_l_steps K A E, ?_, pure_l_steps T vs H Q E h⟩)
  exact (pss_cons (ps_asg (pe_op op_sub (pe_op op_mod (pe_call G_l_drawn (hr.mono (by decide)) rfl T.g_l_drawn T.F_l_drawn.kp T.b_l_drawn .nil pass0 (pa_cons (pe_call G_l_cell (hr.mono (by decide)) rfl T.g_l_cell T.F_l_cell.kp T.b_l_cell .nil pass0 (pa_cons (pv 0) (pa_cons pe_int pa_nil))) (pa_cons pe_int pa_nil))) pe_int) pe_int) (pg_name (i := 3) sc_l_steps.nd rfl (by first | exact Or.inl rfl | exact Or.inr rfl)))
      (pss_cons (ps_asg (pe_lst pa_nil) (pg_name (i := 4) sc_l_steps.nd rfl (by first | exact Or.inl rfl | exact Or.inr rfl)))
      (pss_cons (ps_for PassesOwn.never rfl (pi_range1 (by rfl) T.n_range (pa_cons (pv 2) pa_nil)) (pg_name (i := 5) sc_l_steps.nd rfl (by first | exact Or.inl rfl | exact Or.inr rfl)) (pss_cons (ps_asg (pe_call G_l_drawn (hr.mono (by decide)) rfl T.g_l_drawn T.F_l_drawn.kp T.b_l_drawn .nil pass0 (pa_cons (pe_call G_l_cell (hr.mono (by decide)) rfl T.g_l_cell T.F_l_cell.kp T.b_l_cell .nil pass0 (pa_cons (pv 0) (pa_cons (pv 5) pa_nil))) (pa_cons (pe_op op_add (pv 5) pe_int) pa_nil))) (pg_name (i := 6) sc_l_steps.nd rfl (by first | exact Or.inl rfl | exact Or.inr rfl)))
      (pss_cons (ps_asg (pe_op op_add (pv 3) (pe_ix ix_list (pe_lst (pa_cons pe_int (pa_cons pe_int (pa_cons (pe_op op_sub (pe_op op_mod (pe_op op_fdivW (pv 6) pe_int) pe_int) pe_int) (pa_cons (pe_op op_sub (pe_op op_mod (pe_op op_fdivW (pv 6) pe_int) pe_int) pe_int) pa_nil))))) (pe_op op_mod (pv 6) pe_int) (fun _ _ => rfl))) (pg_name (i := 3) sc_l_steps.nd rfl (by first | exact Or.inl rfl | exact Or.inr rfl)))
      (pss_one (ps_expr (pe_bm PySem.F.plainAttrs_list PySem.F.slot_list_append PySem.F.type_list_append mt_append (pv 4) (pa_cons (pe_call G_l_values (hr.mono (by decide)) rfl T.g_l_values T.F_l_values.kp T.b_l_values .nil pass0 (pa_cons (pv 0) (pa_cons (pv 5) (pa_cons (pv 1) (pa_cons (pv 3) pa_nil))))) pa_nil)))))))
      (pss_one (ps_ret (pv 4))))))
theorem ok_l_all {P : Program} {w : World} {K : PySem.W.Frag} {mg : Str → Option Value} {base : Heap} {A : Ads} (T : Txt K mg A) (G_Voter_given : FnOk P w K mg base CX0 1 A.f_Voter_given A.d_Voter_given ["self"] (sp_Voter_given K A)) (G_Voter_count : FnOk P w K mg base (L2N.CX P w) 2 A.f_Voter_count A.d_Voter_count ["self", "place"] (sp_Voter_count K A)) (G_Voter_state : FnOk P w K mg base (L2N.CX P w) 2 A.f_Voter_state A.d_Voter_state ["self", "place"] (sp_Voter_state K A)) :
    FnOk P w K mg base CX0 3 A.f_l_all A.d_l_all ["_law_voter", "_law_many"] (sp_l_all K A) := by
  refine T.F_l_all.ok sc_l_all (fun vs H Q E h => len_l_all h) (fun cdv _ outer s H vs Q E hr h => ⟨t_l_all K A E, ?_, pure_l_all T vs H Q E h⟩)
  exact (pss_one (ps_ret (pe_op op_cat (pe_lst (pa_cons (pe_meth0 (pv 0) T.cl_Voter T.m_Voter_given G_Voter_given (hr.mono (by decide)) T.b_Voter_given .nil pass0) pa_nil)) (pe_lc (own := [("_law_place", 2)]) rfl sc_l_all.nd (pi_range1 (by rfl) T.n_range (pa_cons (pv 1) pa_nil)) (blkOk_by (own := [("_law_place", 2)]) (N := ["_law_voter", "_law_many", "_law_place"]) (sc := defScope s_l_all) (by decide +kernel)) (fun _ _ _ _ _ => (pg_name (i := 2) sc_l_all.nd rfl (by first | exact Or.inl rfl | exact Or.inr rfl))) (fun _ _ _ _ _ => pts_nil) (fun _ _ _ _ _ => (pe_tup (pa_cons (pe_meth (pv 0) T.cl_Voter T.m_Voter_state G_Voter_state (hr.mono (by decide)) T.b_Voter_state .nil passLN (pa_cons (pv 2) pa_nil)) (pa_cons (pe_meth (pv 0) T.cl_Voter T.m_Voter_count G_Voter_count (hr.mono (by decide)) T.b_Voter_count .nil passLN (pa_cons (pv 2) pa_nil)) pa_nil))))))))
theorem ok_fresh {P : Program} {w : World} {K : PySem.W.Frag} {mg : Str → Option Value} {base : Heap} {A : Ads} (T : Txt K mg A) (G_need_step : FnOk P w K mg base (L2N.CX P w) 1 A.f_need_step A.d_need_step ["values", "many"] (sp_need_step K A)) (G_Voter_init : FnOk P w K mg base (L2N.CX P w) 3 A.f_Voter_init A.d_Voter_init ["self", "settings", "start"] (sp_Voter_init K A)) :
    FnOk P w K mg base (L2N.CX P w) 5 A.f_fresh A.d_fresh ["settings", "start", "steps"] (sp_fresh K A) := by
  refine okN T.F_fresh sc_fresh (fun vs H Q E h => len_fresh h) (fun cdv _ outer s H vs Q E hr h => ⟨t_fresh K A E, ?_, pure_fresh T vs H Q E h⟩)
  exact (pss_cons (ps_asg (pe_make T.mk_Voter G_Voter_init (hr.mono (by decide)) rfl T.g_Voter T.b_Voter_init .nil (L2N.passes_call (L2N.takes_of rfl rfl rfl rfl) (fun _ _ _ _ h => h)) (pa_cons (pv 0) (pa_cons (pv 1) pa_nil))) (pg_name (i := 3) sc_fresh.nd rfl (by first | exact Or.inl rfl | exact Or.inr rfl)))
      (pss_cons (ps_for (passes_of rfl) rfl (pi_list (pv 2)) (pg_name (i := 4) sc_fresh.nd rfl (by first | exact Or.inl rfl | exact Or.inr rfl)) (pss_one (ps_expr (pe_call G_need_step (hr.mono (by decide)) rfl T.g_need_step T.F_need_step.kp T.b_need_step .nil (L2N.passes_call (L2N.takes_of rfl rfl rfl rfl) (fun _ _ _ _ h => h)) (pa_cons (pv 4) (pa_cons (pe_ix ix_tup (pv 0) pe_int (fun _ _ => rfl)) pa_nil))))))
      (pss_one (ps_ret (pv 3)))))
theorem ok_run {P : Program} {w : World} {K : PySem.W.Frag} {mg : Str → Option Value} {base : Heap} {A : Ads} (T : Txt K mg A) (G_Voter_step : FnOk P w K mg base (L2N.CX P w) 3 A.f_Voter_step A.d_Voter_step ["self", "values"] (sp_Voter_step K A)) (G_fresh : FnOk P w K mg base (L2N.CX P w) 5 A.f_fresh A.d_fresh ["settings", "start", "steps"] (sp_fresh K A)) :
    FnOk P w K mg base (L2N.CX P w) 6 A.f_run A.d_run ["settings", "start", "steps"] (sp_run K A) := by
  refine okN T.F_run sc_run (fun vs H Q E h => len_run h) (fun cdv _ outer s H vs Q E hr h => ⟨t_run K A E, ?_, pure_run T vs H Q E h⟩)
  exact (pss_cons (ps_asg (pe_call G_fresh (hr.mono (by decide)) rfl T.g_fresh T.F_fresh.kp T.b_fresh .nil (L2N.passes_call (L2N.takes_of rfl rfl rfl rfl) (fun _ _ _ _ h => h)) (pa_cons (pv 0) (pa_cons (pv 1) (pa_cons (pv 2) pa_nil)))) (pg_name (i := 3) sc_run.nd rfl (by first | exact Or.inl rfl | exact Or.inr rfl)))
      (pss_one (ps_ret (pe_lc (own := [("values", 4)]) rfl sc_run.nd (pi_list (pv 2)) (blkOk_by (own := [("values", 4)]) (N := ["settings", "start", "steps", "voter", "values"]) (sc := defScope s_run) (by decide +kernel)) (fun _ _ _ _ _ => (pg_name (i := 4) sc_run.nd rfl (by first | exact Or.inl rfl | exact Or.inr rfl))) (fun _ _ _ _ _ => pts_nil) (fun _ _ _ _ _ => (pe_meth (pv 3) T.cl_Voter T.m_Voter_step G_Voter_step (hr.mono (by decide)) T.b_Voter_step .nil passLN (pa_cons (pv 4) pa_nil)))))))
theorem ok_outs {P : Program} {w : World} {K : PySem.W.Frag} {mg : Str → Option Value} {base : Heap} {A : Ads} (T : Txt K mg A) (G_Voter_state : FnOk P w K mg base (L2N.CX P w) 2 A.f_Voter_state A.d_Voter_state ["self", "place"] (sp_Voter_state K A)) (G_Voter_step : FnOk P w K mg base (L2N.CX P w) 3 A.f_Voter_step A.d_Voter_step ["self", "values"] (sp_Voter_step K A)) (G_fresh : FnOk P w K mg base (L2N.CX P w) 5 A.f_fresh A.d_fresh ["settings", "start", "steps"] (sp_fresh K A)) :
    FnOk P w K mg base (L2N.CX P w) 6 A.f_outs A.d_outs ["settings", "start", "steps"] (sp_outs K A) := by
  refine okN T.F_outs sc_outs (fun vs H Q E h => len_outs h) (fun cdv _ outer s H vs Q E hr h => ⟨t_outs K A E, ?_, pure_outs T vs H Q E h⟩)
  exact (pss_cons (ps_asg (pe_call G_fresh (hr.mono (by decide)) rfl T.g_fresh T.F_fresh.kp T.b_fresh .nil (L2N.passes_call (L2N.takes_of rfl rfl rfl rfl) (fun _ _ _ _ h => h)) (pa_cons (pv 0) (pa_cons (pv 1) (pa_cons (pv 2) pa_nil)))) (pg_name (i := 3) sc_outs.nd rfl (by first | exact Or.inl rfl | exact Or.inr rfl)))
      (pss_cons (ps_asg (pe_lst pa_nil) (pg_name (i := 4) sc_outs.nd rfl (by first | exact Or.inl rfl | exact Or.inr rfl)))
      (pss_cons (ps_asg (pe_op op_rep (pe_lst (pa_cons pe_bl pa_nil)) (pe_ix ix_tup (pv 0) pe_int (fun _ _ => rfl))) (pg_name (i := 5) sc_outs.nd rfl (by first | exact Or.inl rfl | exact Or.inr rfl)))
      (pss_cons (ps_for (passes_of rfl) rfl (pi_enum (by rfl) T.n_enumerate (pa_cons (pv 2) pa_nil)) (pg_tup (by rfl) (pgs_cons (pg_name (i := 6) sc_outs.nd rfl (by first | exact Or.inl rfl | exact Or.inr rfl)) (pgs_cons (pg_name (i := 7) sc_outs.nd rfl (by first | exact Or.inl rfl | exact Or.inr rfl)) pgs_nil))) (pss_cons (ps_expr (pe_meth (pv 3) T.cl_Voter T.m_Voter_step G_Voter_step (hr.mono (by decide)) T.b_Voter_step .nil (L2N.passes_call (L2N.takes_of rfl rfl rfl rfl) (fun _ _ _ _ h => h)) (pa_cons (pv 7) pa_nil)))
      (pss_cons (ps_setLc (i := 8) (own := [("place", 9)]) rfl sc_outs.nd rfl rfl (sw_true rfl rfl rfl (by decide +kernel)) (pi_range1 (by rfl) T.n_range (pa_cons (pe_ix ix_tup (pv 0) pe_int (fun _ _ => rfl)) pa_nil)) (blkOk_by (own := [("place", 9)]) (N := ["settings", "start", "steps", "voter", "found", "before", "turn", "values", "after", "place", "is_out"]) (sc := defScope s_outs) (by decide +kernel)) (fun _ _ _ _ _ => (pg_name (i := 9) sc_outs.nd rfl (by first | exact Or.inl rfl | exact Or.inr rfl))) (fun _ _ _ _ _ => pts_nil) (fun _ _ _ _ _ => (pe_cmpR op_eq (pe_meth (pv 3) T.cl_Voter T.m_Voter_state G_Voter_state (hr.mono (by decide)) T.b_Voter_state .nil passLN (pa_cons (pv 9) pa_nil)) pe_str (nomark _))))
      (pss_cons (ps_for (passes_of rfl) rfl (pi_enum (by rfl) T.n_enumerate (pa_cons (pv 8) pa_nil)) (pg_tup (by rfl) (pgs_cons (pg_name (i := 9) sc_outs.nd rfl (by first | exact Or.inl rfl | exact Or.inr rfl)) (pgs_cons (pg_name (i := 10) sc_outs.nd rfl (by first | exact Or.inl rfl | exact Or.inr rfl)) pgs_nil))) (pss_one (ps_if (pt_cmpR op_ne (pv 10) (pe_ix ix_list (pv 5) (pv 9) (fun _ _ => rfl)) (nomark _)) (pss_one (ps_expr (pe_bm PySem.F.plainAttrs_list PySem.F.slot_list_append PySem.F.type_list_append mt_append (pv 4) (pa_cons (pe_tup (pa_cons (pv 6) (pa_cons (pv 9) (pa_cons (pv 10) pa_nil)))) pa_nil)))) pss_nil)))
      (pss_one (ps_asg (pv 8) (pg_name (i := 5) sc_outs.nd rfl (by first | exact Or.inl rfl | exact Or.inr rfl))))))))
      (pss_one (ps_ret (pv 4)))))))
theorem ok_law {P : Program} {w : World} {K : PySem.W.Frag} {mg : Str → Option Value} {base : Heap} {A : Ads} (T : Txt K mg A) (TB : TabB base mg A.cd_law A.P_law) (G_l_all : FnOk P w K mg base CX0 3 A.f_l_all A.d_l_all ["_law_voter", "_law_many"] (sp_l_all K A)) (G_Voter_count : FnOk P w K mg base (L2N.CX P w) 2 A.f_Voter_count A.d_Voter_count ["self", "place"] (sp_Voter_count K A)) (G_Voter_state : FnOk P w K mg base (L2N.CX P w) 2 A.f_Voter_state A.d_Voter_state ["self", "place"] (sp_Voter_state K A)) (G_outs : FnOk P w K mg base (L2N.CX P w) 6 A.f_outs A.d_outs ["settings", "start", "steps"] (sp_outs K A)) (G_run : FnOk P w K mg base (L2N.CX P w) 6 A.f_run A.d_run ["settings", "start", "steps"] (sp_run K A)) (G_Voter_step : FnOk P w K mg base (L2N.CX P w) 3 A.f_Voter_step A.d_Voter_step ["self", "values"] (sp_Voter_step K A)) (G_Voter_init : FnOk P w K mg base (L2N.CX P w) 3 A.f_Voter_init A.d_Voter_init ["self", "settings", "start"] (sp_Voter_init K A)) (G_l_steps : FnOk P w K mg base CX0 3 A.f_l_steps A.d_l_steps ["_law_script", "_law_settings_here", "_law_many"] (sp_l_steps K A)) (G_l_bad : FnOk P w K mg base CX0 1 A.f_l_bad A.d_l_bad ["_law_more", "_law_settings_here"] (sp_l_bad K A)) (G_l_good : FnOk P w K mg base CX0 1 A.f_l_good A.d_l_good ["_law_more"] (sp_l_good K A)) (G_l_settings : FnOk P w K mg base CX0 1 A.f_l_settings A.d_l_settings ["_law_more"] (sp_l_settings K A)) (G_l_drawn : FnOk P w K mg base CX0 1 A.f_l_drawn A.d_l_drawn ["_law_cell_here", "_law_k"] (sp_l_drawn K A)) (G_l_cell : FnOk P w K mg base CX0 1 A.f_l_cell A.d_l_cell ["_law_script", "_law_k"] (sp_l_cell K A)) :
    FnOk P w K mg base CX0 10 A.f_law A.d_law ["_law_script"] (sp_law K A) := by
  refine okC T.FC_law sc_law (fun vs H Q E h => len_law h) (fun _ outer s H vs Q E hr h => ⟨t_law K A E, ?_, pure_law T vs H Q E h⟩)
  exact (pss_cons (ps_for PassesOwn.never rfl (pi_range1 (by rfl) T.n_range (pa_cons (pe_callB (call_max2 rfl) (by rfl) T.n_max PyProof.Rows.boot_max (pa_cons pe_int (pa_cons (pe_callB (call_min2 rfl) (by rfl) T.n_min PyProof.Rows.boot_min (pa_cons pe_int (pa_cons (pe_callB call_len_seq (by rfl) T.n_len PySem.boot_len (pa_cons (pv 0) pa_nil)) pa_nil))) pa_nil))) pa_nil)) (pg_name (i := 1) sc_law.nd rfl (by first | exact Or.inl rfl | exact Or.inr rfl)) (pss_cons (ps_asg (pe_call G_l_drawn (hr.mono (by decide)) rfl T.g_l_drawn T.F_l_drawn.kp T.b_l_drawn .nil pass0 (pa_cons (pe_call G_l_cell (hr.mono (by decide)) rfl T.g_l_cell T.F_l_cell.kp T.b_l_cell .nil pass0 (pa_cons (pv 0) (pa_cons (pv 1) pa_nil))) (pa_cons (pv 1) pa_nil))) (pg_name (i := 2) sc_law.nd rfl (by first | exact Or.inl rfl | exact Or.inr rfl)))
      (pss_cons (ps_asg (pe_ix ix_list (pe_lst (pa_cons (pe_call G_l_settings (hr.mono (by decide)) rfl T.g_l_settings T.F_l_settings.kp T.b_l_settings .nil pass0 (pa_cons (pe_op op_fdivW (pv 2) pe_int) pa_nil)) (pa_cons (pe_call G_l_good (hr.mono (by decide)) rfl T.g_l_good T.F_l_good.kp T.b_l_good .nil pass0 (pa_cons (pe_op op_fdivW (pv 2) pe_int) pa_nil)) pa_nil))) (pe_op op_mod (pv 2) pe_int) (fun _ _ => rfl)) (pg_name (i := 3) sc_law.nd rfl (by first | exact Or.inl rfl | exact Or.inr rfl)))
      (pss_cons (ps_asg (pe_ix ix_tup (pv 3) pe_int (fun _ _ => rfl)) (pg_name (i := 4) sc_law.nd rfl (by first | exact Or.inl rfl | exact Or.inr rfl)))
      (pss_cons (ps_asg (pe_call G_l_bad (hr.mono (by decide)) rfl T.g_l_bad T.F_l_bad.kp T.b_l_bad .nil pass0 (pa_cons (pe_op op_fdivW (pv 2) (pe_op op_pow pe_int pe_int)) (pa_cons (pv 3) pa_nil))) (pg_name (i := 5) sc_law.nd rfl (by first | exact Or.inl rfl | exact Or.inr rfl)))
      (pss_cons (ps_asg (pe_call G_l_steps (hr.mono (by decide)) rfl T.g_l_steps T.F_l_steps.kp T.b_l_steps .nil pass0 (pa_cons (pv 0) (pa_cons (pv 3) (pa_cons (pe_op op_mod (pe_op op_fdivW (pv 2) (pe_op op_pow pe_int pe_int)) pe_int) pa_nil)))) (pg_name (i := 6) sc_law.nd rfl (by first | exact Or.inl rfl | exact Or.inr rfl)))
      (pss_cons (ps_if (pt_cmpR op_ne (pe_told T (k := 4) rfl TB rfl (hr.mono (by decide)) (lamS_by (sc := defScope s_law) (by decide +kernel)) rfl (fun _ _ _ _ _ => rfl) (fun _ _ _ _ E _ _ hr => (pe_make T.mk_Voter G_Voter_init (hr.mono (by decide)) rfl T.g_Voter T.b_Voter_init .nil (L2N.passes_call (L2N.takes_of rfl rfl rfl rfl) (fun _ _ _ _ h => h)) (pa_cons (pv 5) (pa_cons pe_int pa_nil))))) pe_str (nomark _)) (pss_one (ps_ret pe_bl)) pss_nil)
      (pss_cons (ps_if (pt_cmpR op_ne (pe_told T (k := 6) rfl TB rfl (hr.mono (by decide)) (lamS_by (sc := defScope s_law) (by decide +kernel)) rfl (fun _ _ _ _ _ => rfl) (fun _ _ _ _ E _ _ hr => (pe_call G_run (hr.mono (by decide)) rfl T.g_run T.F_run.kp T.b_run .nil (L2N.passes_call (L2N.takes_of rfl rfl rfl rfl) (fun _ _ _ _ h => h)) (pa_cons (pv 5) (pa_cons pe_int (pa_cons (pv 6) pa_nil)))))) pe_str (nomark _)) (pss_one (ps_ret pe_bl)) pss_nil)
      (pss_cons (ps_asg (pe_make T.mk_Voter G_Voter_init (hr.mono (by decide)) rfl T.g_Voter T.b_Voter_init .nil passLN (pa_cons (pv 3) (pa_cons (pe_op op_sub (pe_op op_mod (pe_op op_fdivW (pv 2) (pe_op op_pow pe_int pe_int)) pe_int) pe_int) pa_nil))) (pg_name (i := 7) sc_law.nd rfl (by first | exact Or.inl rfl | exact Or.inr rfl)))
      (pss_cons (ps_for PassesOwn.never rfl (pi_list (pv 6)) (pg_name (i := 8) sc_law.nd rfl (by first | exact Or.inl rfl | exact Or.inr rfl)) (pss_one (ps_expr (pe_meth (pv 7) T.cl_Voter T.m_Voter_step G_Voter_step (hr.mono (by decide)) T.b_Voter_step .nil passLN (pa_cons (pe_callTy call_list_of (by rfl) T.n_list PyProof.Rows.boot_list (pa_cons (pv 8) pa_nil)) pa_nil)))))
      (pss_cons (ps_asg (pe_call G_l_all (hr.mono (by decide)) rfl T.g_l_all T.F_l_all.kp T.b_l_all .nil pass0 (pa_cons (pv 7) (pa_cons (pv 4) pa_nil))) (pg_name (i := 9) sc_law.nd rfl (by first | exact Or.inl rfl | exact Or.inr rfl)))
      (pss_cons (ps_asg (pe_op op_rep (pe_lst (pa_cons pe_int pa_nil)) (pv 4)) (pg_name (i := 10) sc_law.nd rfl (by first | exact Or.inl rfl | exact Or.inr rfl)))
      (pss_cons (ps_asg (pe_op op_mod (pe_op op_fdivW (pv 2) (pe_op op_pow pe_int pe_int)) (pv 4)) (pg_name (i := 11) sc_law.nd rfl (by first | exact Or.inl rfl | exact Or.inr rfl)))
      (pss_cons (ps_asg (pe_lst (pa_cons (pe_slice sl_list (pv 10) po_none (po_some (pe_un un_neg pe_int))) (pa_cons (pe_op op_cat (pv 10) (pe_lst (pa_cons pe_int pa_nil))) (pa_cons (pe_lst pa_nil) pa_nil)))) (pg_name (i := 12) sc_law.nd rfl (by first | exact Or.inl rfl | exact Or.inr rfl)))
      (pss_cons (ps_expr (pe_bm PySem.F.plainAttrs_list PySem.F.slot_list_append PySem.F.type_list_append mt_append (pv 12) (pa_cons (pe_op op_cat (pe_op op_cat (pe_slice sl_list (pv 10) po_none (po_some (pv 11))) (pe_lst (pa_cons (pe_op op_add (pe_op op_pow pe_int pe_int) pe_int) pa_nil))) (pe_slice sl_list (pv 10) (po_some (pe_op op_add (pv 11) pe_int)) po_none)) pa_nil)))
      (pss_cons (ps_expr (pe_bm PySem.F.plainAttrs_list PySem.F.slot_list_append PySem.F.type_list_append mt_append (pv 12) (pa_cons (pe_op op_cat (pe_op op_cat (pe_slice sl_list (pv 10) po_none (po_some (pv 11))) (pe_lst (pa_cons (pe_op op_sub (pe_un un_neg (pe_op op_pow pe_int pe_int)) pe_int) pa_nil))) (pe_slice sl_list (pv 10) (po_some (pe_op op_add (pv 11) pe_int)) po_none)) pa_nil)))
      (pss_cons (ps_asg (pe_ix ix_list (pv 12) (pe_op op_mod (pe_op op_fdivW (pv 2) (pe_op op_pow pe_int pe_int)) pe_int) (fun _ _ => rfl)) (pg_name (i := 12) sc_law.nd rfl (by first | exact Or.inl rfl | exact Or.inr rfl)))
      (pss_cons (ps_if (pt_cmpR op_ne (pe_told T (k := 3) rfl TB rfl (hr.mono (by decide)) (lamS_by (sc := defScope s_law) (by decide +kernel)) rfl (fun _ _ _ _ _ => rfl) (fun _ _ _ _ E _ _ hr => (pe_meth (pv 7) T.cl_Voter T.m_Voter_step G_Voter_step (hr.mono (by decide)) T.b_Voter_step .nil (L2N.passes_call (L2N.takes_of rfl rfl rfl rfl) (fun _ _ _ _ h => h)) (pa_cons (pv 12) pa_nil)))) pe_str (nomark _)) (pss_one (ps_ret pe_bl)) pss_nil)
      (pss_cons (ps_asg (pe_lst (pa_cons (pv 10) (pa_cons (pv 12) pa_nil))) (pg_name (i := 13) sc_law.nd rfl (by first | exact Or.inl rfl | exact Or.inr rfl)))
      (pss_cons (ps_if (pt_cmpR op_ne (pe_told T (k := 6) rfl TB rfl (hr.mono (by decide)) (lamS_by (sc := defScope s_law) (by decide +kernel)) rfl (fun _ _ _ _ _ => rfl) (fun _ _ _ _ E _ _ hr => (pe_call G_run (hr.mono (by decide)) rfl T.g_run T.F_run.kp T.b_run .nil (L2N.passes_call (L2N.takes_of rfl rfl rfl rfl) (fun _ _ _ _ h => h)) (pa_cons (pv 3) (pa_cons pe_int (pa_cons (pv 13) pa_nil)))))) pe_str (nomark _)) (pss_one (ps_ret pe_bl)) pss_nil)
      (pss_cons (ps_if (pt_cmpR op_ne (pe_told T (k := 6) rfl TB rfl (hr.mono (by decide)) (lamS_by (sc := defScope s_law) (by decide +kernel)) rfl (fun _ _ _ _ _ => rfl) (fun _ _ _ _ E _ _ hr => (pe_call G_outs (hr.mono (by decide)) rfl T.g_outs T.F_outs.kp T.b_outs .nil (L2N.passes_call (L2N.takes_of rfl rfl rfl rfl) (fun _ _ _ _ h => h)) (pa_cons (pv 5) (pa_cons pe_int (pa_cons (pe_lst (pa_cons (pv 12) pa_nil)) pa_nil)))))) pe_str (nomark _)) (pss_one (ps_ret pe_bl)) pss_nil)
      (pss_cons (ps_if (pt_cmpR op_ne (pe_told T (k := 6) rfl TB rfl (hr.mono (by decide)) (lamS_by (sc := defScope s_law) (by decide +kernel)) rfl (fun _ _ _ _ _ => rfl) (fun _ _ _ _ E _ _ hr => (pe_call G_outs (hr.mono (by decide)) rfl T.g_outs T.F_outs.kp T.b_outs .nil (L2N.passes_call (L2N.takes_of rfl rfl rfl rfl) (fun _ _ _ _ h => h)) (pa_cons (pv 3) (pa_cons pe_int (pa_cons (pe_lst (pa_cons (pv 12) pa_nil)) pa_nil)))))) pe_str (nomark _)) (pss_one (ps_ret pe_bl)) pss_nil)
      (pss_cons (ps_for PassesOwn.never rfl (pi_list (pe_lst (pa_cons (pv 4) (pa_cons (pe_un un_neg pe_int) (pa_cons (pe_op op_pow pe_int pe_int) pa_nil))))) (pg_name (i := 14) sc_law.nd rfl (by first | exact Or.inl rfl | exact Or.inr rfl)) (pss_cons (ps_if (pt_cmpR op_ne (pe_told T (k := 2) rfl TB rfl (hr.mono (by decide)) (lamS_by (sc := defScope s_law) (by decide +kernel)) rfl (fun _ _ _ _ _ => rfl) (fun _ _ _ _ E _ _ hr => (pe_meth (pv 7) T.cl_Voter T.m_Voter_state G_Voter_state (hr.mono (by decide)) T.b_Voter_state .nil (L2N.passes_call (L2N.takes_of rfl rfl rfl rfl) (fun _ _ _ _ h => h)) (pa_cons (pv 14) pa_nil)))) pe_str (nomark _)) (pss_one (ps_ret pe_bl)) pss_nil)
      (pss_one (ps_if (pt_cmpR op_ne (pe_told T (k := 2) rfl TB rfl (hr.mono (by decide)) (lamS_by (sc := defScope s_law) (by decide +kernel)) rfl (fun _ _ _ _ _ => rfl) (fun _ _ _ _ E _ _ hr => (pe_meth (pv 7) T.cl_Voter T.m_Voter_count G_Voter_count (hr.mono (by decide)) T.b_Voter_count .nil (L2N.passes_call (L2N.takes_of rfl rfl rfl rfl) (fun _ _ _ _ h => h)) (pa_cons (pv 14) pa_nil)))) pe_str (nomark _)) (pss_one (ps_ret pe_bl)) pss_nil))))
      (pss_one (ps_if (pt_cmpR (op_neD hr.units) (pe_call G_l_all (hr.mono (by decide)) rfl T.g_l_all T.F_l_all.kp T.b_l_all .nil pass0 (pa_cons (pv 7) (pa_cons (pv 4) pa_nil))) (pv 9) (nomark _)) (pss_one (ps_ret pe_bl)) pss_nil)))))))))))))))))))))))))
      (pss_one (ps_ret pe_bl)))
theorem ok_all {P : Program} {w : World} {K : PySem.W.Frag} {mg : Str → Option Value} {base : Heap} {A : Ads} (T : Txt K mg A) (TB : TabB base mg A.cd_law A.P_law) : FnOk P w K mg base CX0 10 A.f_law A.d_law ["_law_script"] (spLT K A.P_law) := by
  have G_middle := ok_middle (P := P) (w := w) (base := base) T 
  have G_moved := ok_moved (P := P) (w := w) (base := base) T 
  have G_agree := ok_agree (P := P) (w := w) (base := base) T 
  have G_need_settings := ok_need_settings (P := P) (w := w) (base := base) T 
  have G_need_step := ok_need_step (P := P) (w := w) (base := base) T 
  have G_Sensor_init := ok_Sensor_init (P := P) (w := w) (base := base) T 
  have G_Voter_given := ok_Voter_given (P := P) (w := w) (base := base) T 
  have G_Voter_sensor := ok_Voter_sensor (P := P) (w := w) (base := base) T 
  have G_Voter_is_close := ok_Voter_is_close (P := P) (w := w) (base := base) T 
  have G_Voter_watch := ok_Voter_watch (P := P) (w := w) (base := base) T 
  have G_Voter_wait := ok_Voter_wait (P := P) (w := w) (base := base) T 
  have G_l_cell := ok_l_cell (P := P) (w := w) (base := base) T 
  have G_l_drawn := ok_l_drawn (P := P) (w := w) (base := base) T 
  have G_l_settings := ok_l_settings (P := P) (w := w) (base := base) T 
  have G_l_bad := ok_l_bad (P := P) (w := w) (base := base) T 
  have G_l_good := ok_l_good (P := P) (w := w) (base := base) T 
  have G_Voter_state := ok_Voter_state (P := P) (w := w) (base := base) T G_Voter_sensor
  have G_Voter_count := ok_Voter_count (P := P) (w := w) (base := base) T G_Voter_sensor
  have G_Voter_word := ok_Voter_word (P := P) (w := w) (base := base) T G_agree
  have G_l_values := ok_l_values (P := P) (w := w) (base := base) T G_l_drawn G_l_cell
  have G_Voter_init := ok_Voter_init (P := P) (w := w) (base := base) T G_Sensor_init G_need_settings
  have G_Voter_step := ok_Voter_step (P := P) (w := w) (base := base) T G_moved G_Voter_wait G_Voter_watch G_Voter_is_close G_Voter_word G_middle G_need_step
  have G_l_steps := ok_l_steps (P := P) (w := w) (base := base) T G_l_values G_l_drawn G_l_cell
  have G_l_all := ok_l_all (P := P) (w := w) (base := base) T G_Voter_given G_Voter_count G_Voter_state
  have G_fresh := ok_fresh (P := P) (w := w) (base := base) T G_need_step G_Voter_init
  have G_run := ok_run (P := P) (w := w) (base := base) T G_Voter_step G_fresh
  have G_outs := ok_outs (P := P) (w := w) (base := base) T G_Voter_state G_Voter_step G_fresh
  have G_law := ok_law (P := P) (w := w) (base := base) T TB G_l_all G_Voter_count G_Voter_state G_outs G_run G_Voter_step G_Voter_init G_l_steps G_l_bad G_l_good G_l_settings G_l_drawn G_l_cell
  exact G_law
open LamX in
theorem fin_mk {l : PySem.W.OpenLaw} {w : World} {K : PySem.W.Frag} {h : Heap} {mg : Str → Option Value} {fa tP : Addr}
    {u_LEAST : Tok}
    {u_MOST : Tok}
    {u_MOST_THRESHOLD : Tok}
    {u_MOST_COUNT : Tok}
    {u_MOST_VALUE : Tok}
    {C_VoteError : Addr}
    {C_BadSettings : Addr}
    {C_BadStep : Addr}
    {C_NoSensor : Addr}
    {C_BadRow : Addr}
    {C_Sensor : Addr}
    {C_Voter : Addr}
    {f_middle : Addr} {od_middle an_middle : Option Addr} {sl_middle : Array (Option Value)} {oc_middle kV_middle dc_middle pm_middle ct_middle : Value} {cd_middle : Value}
    {f_moved : Addr} {od_moved an_moved : Option Addr} {sl_moved : Array (Option Value)} {oc_moved kV_moved dc_moved pm_moved ct_moved : Value} {cd_moved : Value}
    {f_agree : Addr} {od_agree an_agree : Option Addr} {sl_agree : Array (Option Value)} {oc_agree kV_agree dc_agree pm_agree ct_agree : Value} {cd_agree : Value}
    {f_need_settings : Addr} {od_need_settings an_need_settings : Option Addr} {sl_need_settings : Array (Option Value)} {oc_need_settings kV_need_settings dc_need_settings pm_need_settings ct_need_settings : Value} {cd_need_settings : Value}
    {f_need_step : Addr} {od_need_step an_need_step : Option Addr} {sl_need_step : Array (Option Value)} {oc_need_step kV_need_step dc_need_step pm_need_step ct_need_step : Value} {cd_need_step : Value}
    {f_Sensor_init : Addr} {od_Sensor_init an_Sensor_init : Option Addr} {sl_Sensor_init : Array (Option Value)} {oc_Sensor_init kV_Sensor_init dc_Sensor_init pm_Sensor_init ct_Sensor_init : Value} {cd_Sensor_init : Value}
    {f_Voter_init : Addr} {od_Voter_init an_Voter_init : Option Addr} {sl_Voter_init : Array (Option Value)} {oc_Voter_init kV_Voter_init dc_Voter_init pm_Voter_init ct_Voter_init : Value} {cd_Voter_init : Value}
    {f_Voter_given : Addr} {od_Voter_given an_Voter_given : Option Addr} {sl_Voter_given : Array (Option Value)} {oc_Voter_given kV_Voter_given dc_Voter_given pm_Voter_given ct_Voter_given : Value} {cd_Voter_given : Value}
    {f_Voter_sensor : Addr} {od_Voter_sensor an_Voter_sensor : Option Addr} {sl_Voter_sensor : Array (Option Value)} {oc_Voter_sensor kV_Voter_sensor dc_Voter_sensor pm_Voter_sensor ct_Voter_sensor : Value} {cd_Voter_sensor : Value}
    {f_Voter_state : Addr} {od_Voter_state an_Voter_state : Option Addr} {sl_Voter_state : Array (Option Value)} {oc_Voter_state kV_Voter_state dc_Voter_state pm_Voter_state ct_Voter_state : Value} {cd_Voter_state : Value}
    {f_Voter_count : Addr} {od_Voter_count an_Voter_count : Option Addr} {sl_Voter_count : Array (Option Value)} {oc_Voter_count kV_Voter_count dc_Voter_count pm_Voter_count ct_Voter_count : Value} {cd_Voter_count : Value}
    {f_Voter_word : Addr} {od_Voter_word an_Voter_word : Option Addr} {sl_Voter_word : Array (Option Value)} {oc_Voter_word kV_Voter_word dc_Voter_word pm_Voter_word ct_Voter_word : Value} {cd_Voter_word : Value}
    {f_Voter_is_close : Addr} {od_Voter_is_close an_Voter_is_close : Option Addr} {sl_Voter_is_close : Array (Option Value)} {oc_Voter_is_close kV_Voter_is_close dc_Voter_is_close pm_Voter_is_close ct_Voter_is_close : Value} {cd_Voter_is_close : Value}
    {f_Voter_watch : Addr} {od_Voter_watch an_Voter_watch : Option Addr} {sl_Voter_watch : Array (Option Value)} {oc_Voter_watch kV_Voter_watch dc_Voter_watch pm_Voter_watch ct_Voter_watch : Value} {cd_Voter_watch : Value}
    {f_Voter_wait : Addr} {od_Voter_wait an_Voter_wait : Option Addr} {sl_Voter_wait : Array (Option Value)} {oc_Voter_wait kV_Voter_wait dc_Voter_wait pm_Voter_wait ct_Voter_wait : Value} {cd_Voter_wait : Value}
    {f_Voter_step : Addr} {od_Voter_step an_Voter_step : Option Addr} {sl_Voter_step : Array (Option Value)} {oc_Voter_step kV_Voter_step dc_Voter_step pm_Voter_step ct_Voter_step : Value} {cd_Voter_step : Value}
    {f_fresh : Addr} {od_fresh an_fresh : Option Addr} {sl_fresh : Array (Option Value)} {oc_fresh kV_fresh dc_fresh pm_fresh ct_fresh : Value} {cd_fresh : Value}
    {f_run : Addr} {od_run an_run : Option Addr} {sl_run : Array (Option Value)} {oc_run kV_run dc_run pm_run ct_run : Value} {cd_run : Value}
    {f_outs : Addr} {od_outs an_outs : Option Addr} {sl_outs : Array (Option Value)} {oc_outs kV_outs dc_outs pm_outs ct_outs : Value} {cd_outs : Value}
    {f_l_cell : Addr} {od_l_cell an_l_cell : Option Addr} {sl_l_cell : Array (Option Value)} {oc_l_cell kV_l_cell dc_l_cell pm_l_cell ct_l_cell : Value} {cd_l_cell : Value}
    {f_l_drawn : Addr} {od_l_drawn an_l_drawn : Option Addr} {sl_l_drawn : Array (Option Value)} {oc_l_drawn kV_l_drawn dc_l_drawn pm_l_drawn ct_l_drawn : Value} {cd_l_drawn : Value}
    {f_l_word : Addr} {od_l_word an_l_word : Option Addr} {sl_l_word : Array (Option Value)} {oc_l_word kV_l_word dc_l_word pm_l_word ct_l_word : Value} {cd_l_word : Value}
    {f_l_settings : Addr} {od_l_settings an_l_settings : Option Addr} {sl_l_settings : Array (Option Value)} {oc_l_settings kV_l_settings dc_l_settings pm_l_settings ct_l_settings : Value} {cd_l_settings : Value}
    {f_l_values : Addr} {od_l_values an_l_values : Option Addr} {sl_l_values : Array (Option Value)} {oc_l_values kV_l_values dc_l_values pm_l_values ct_l_values : Value} {cd_l_values : Value}
    {f_l_steps : Addr} {od_l_steps an_l_steps : Option Addr} {sl_l_steps : Array (Option Value)} {oc_l_steps kV_l_steps dc_l_steps pm_l_steps ct_l_steps : Value} {cd_l_steps : Value}
    {f_l_told : Addr} {od_l_told an_l_told : Option Addr} {sl_l_told : Array (Option Value)} {oc_l_told kV_l_told dc_l_told pm_l_told ct_l_told : Value} {cd_l_told : Value}
    {f_l_all : Addr} {od_l_all an_l_all : Option Addr} {sl_l_all : Array (Option Value)} {oc_l_all kV_l_all dc_l_all pm_l_all ct_l_all : Value} {cd_l_all : Value}
    {f_l_bad : Addr} {od_l_bad an_l_bad : Option Addr} {sl_l_bad : Array (Option Value)} {oc_l_bad kV_l_bad dc_l_bad pm_l_bad ct_l_bad : Value} {cd_l_bad : Value}
    {f_l_good : Addr} {od_l_good an_l_good : Option Addr} {sl_l_good : Array (Option Value)} {oc_l_good kV_l_good dc_l_good pm_l_good ct_l_good : Value} {cd_l_good : Value}
    {f_law : Addr} {od_law an_law : Option Addr} {sl_law : Array (Option Value)} {oc_law kV_law dc_law pm_law ct_law : Value} {cd_law : Addr}
    (X : K.In h) (G : h.Ns mainGlobals mg) (hfa : mg "law" = some (.ref fa)) (htab : h.get? tP = some { cls := .none, data := .fields #[] })
    (n_ValueError : PySem.W.nsIn K mainGlobals "ValueError" = some none)
    (n_abs : PySem.W.nsIn K mainGlobals "abs" = some none)
    (n_all : PySem.W.nsIn K mainGlobals "all" = some none)
    (n_enumerate : PySem.W.nsIn K mainGlobals "enumerate" = some none)
    (n_int : PySem.W.nsIn K mainGlobals "int" = some none)
    (n_isinstance : PySem.W.nsIn K mainGlobals "isinstance" = some none)
    (n_len : PySem.W.nsIn K mainGlobals "len" = some none)
    (n_list : PySem.W.nsIn K mainGlobals "list" = some none)
    (n_max : PySem.W.nsIn K mainGlobals "max" = some none)
    (n_min : PySem.W.nsIn K mainGlobals "min" = some none)
    (n_range : PySem.W.nsIn K mainGlobals "range" = some none)
    (n_sorted : PySem.W.nsIn K mainGlobals "sorted" = some none)
    (n_sum : PySem.W.nsIn K mainGlobals "sum" = some none)
    (c_LEAST : PySem.W.nsIn K mainGlobals "LEAST" = some (some (.int 3 u_LEAST)))
    (c_MOST : PySem.W.nsIn K mainGlobals "MOST" = some (some (.int 9 u_MOST)))
    (c_MOST_THRESHOLD : PySem.W.nsIn K mainGlobals "MOST_THRESHOLD" = some (some (.int 1000000 u_MOST_THRESHOLD)))
    (c_MOST_COUNT : PySem.W.nsIn K mainGlobals "MOST_COUNT" = some (some (.int 1000 u_MOST_COUNT)))
    (c_MOST_VALUE : PySem.W.nsIn K mainGlobals "MOST_VALUE" = some (some (.int 1000000000 u_MOST_VALUE)))
    (g_VoteError : PySem.W.nsIn K mainGlobals "VoteError" = some (some (.ref C_VoteError)))
    (g_BadSettings : PySem.W.nsIn K mainGlobals "BadSettings" = some (some (.ref C_BadSettings)))
    (g_BadStep : PySem.W.nsIn K mainGlobals "BadStep" = some (some (.ref C_BadStep)))
    (g_NoSensor : PySem.W.nsIn K mainGlobals "NoSensor" = some (some (.ref C_NoSensor)))
    (g_BadRow : PySem.W.nsIn K mainGlobals "BadRow" = some (some (.ref C_BadRow)))
    (g_Sensor : PySem.W.nsIn K mainGlobals "Sensor" = some (some (.ref C_Sensor)))
    (g_Voter : PySem.W.nsIn K mainGlobals "Voter" = some (some (.ref C_Voter)))
    (x_VoteError : PySem.W.excIn K C_VoteError [.type "ValueError", .type "Exception", .type "BaseException", .type "object"] "ValueError.__new__" = true)
    (k_VoteError : PySem.W.keepIn K (.ref C_VoteError) = true)
    (xb_VoteError : PySem.W.subIn K (.ref C_VoteError) (.type "BaseException") = some true)
    (xt_VoteError : PySem.W.typeIn K (.ref C_VoteError) = some (.type "type"))
    (xi_VoteError : PySem.W.isClsIn K C_VoteError = true)
    (xd_VoteError : PySem.W.hasDictIn K C_VoteError = true)
    (xs_VoteError_VoteError : PySem.W.subIn K (.ref C_VoteError) (.ref C_VoteError) = some true)
    (xs_VoteError_BadSettings : PySem.W.subIn K (.ref C_VoteError) (.ref C_BadSettings) = some false)
    (xs_VoteError_BadStep : PySem.W.subIn K (.ref C_VoteError) (.ref C_BadStep) = some false)
    (xs_VoteError_NoSensor : PySem.W.subIn K (.ref C_VoteError) (.ref C_NoSensor) = some false)
    (xs_VoteError_BadRow : PySem.W.subIn K (.ref C_VoteError) (.ref C_BadRow) = some false)
    (x_BadSettings : PySem.W.excIn K C_BadSettings [.type "ValueError", .type "Exception", .type "BaseException", .type "object"] "ValueError.__new__" = true)
    (k_BadSettings : PySem.W.keepIn K (.ref C_BadSettings) = true)
    (xb_BadSettings : PySem.W.subIn K (.ref C_BadSettings) (.type "BaseException") = some true)
    (xt_BadSettings : PySem.W.typeIn K (.ref C_BadSettings) = some (.type "type"))
    (xi_BadSettings : PySem.W.isClsIn K C_BadSettings = true)
    (xd_BadSettings : PySem.W.hasDictIn K C_BadSettings = true)
    (eg_BadSettings : PySem.W.findIn K (.ref C_BadSettings) "__getattribute__" = some (some (.builtin "BaseException.__getattribute__")))
    (ek_BadSettings : PySem.W.findIn K (.ref C_BadSettings) "__getattr__" = some none)
    (ea_BadSettings : PySem.W.findIn K (.ref C_BadSettings) "__class__" = some (some (.builtin "object.__class__")))
    (em_BadSettings : PySem.W.mroIn K C_BadSettings (.type "object") = some true)
    (en_ : PySem.W.specialIn K (.builtin "object.__class__") "__get__" = some (some (.builtin "getset_descriptor.__get__")))
    (et_ : PySem.W.takesIn K (.builtin "object.__class__") = some true)
    (kv_BadSettings : PySem.W.kitOne K (.ref C_BadSettings) (.type "ValueError") = some true)
    (ki_BadSettings_BadSettings : PySem.W.kitOne K (.ref C_BadSettings) (.ref C_BadSettings) = some true)
    (ki_BadSettings_BadStep : PySem.W.kitOne K (.ref C_BadSettings) (.ref C_BadStep) = some false)
    (ki_BadSettings_NoSensor : PySem.W.kitOne K (.ref C_BadSettings) (.ref C_NoSensor) = some false)
    (ki_BadSettings_BadRow : PySem.W.kitOne K (.ref C_BadSettings) (.ref C_BadRow) = some false)
    (xs_BadSettings_VoteError : PySem.W.subIn K (.ref C_BadSettings) (.ref C_VoteError) = some true)
    (xs_BadSettings_BadSettings : PySem.W.subIn K (.ref C_BadSettings) (.ref C_BadSettings) = some true)
    (xs_BadSettings_BadStep : PySem.W.subIn K (.ref C_BadSettings) (.ref C_BadStep) = some false)
    (xs_BadSettings_NoSensor : PySem.W.subIn K (.ref C_BadSettings) (.ref C_NoSensor) = some false)
    (xs_BadSettings_BadRow : PySem.W.subIn K (.ref C_BadSettings) (.ref C_BadRow) = some false)
    (x_BadStep : PySem.W.excIn K C_BadStep [.type "ValueError", .type "Exception", .type "BaseException", .type "object"] "ValueError.__new__" = true)
    (k_BadStep : PySem.W.keepIn K (.ref C_BadStep) = true)
    (xb_BadStep : PySem.W.subIn K (.ref C_BadStep) (.type "BaseException") = some true)
    (xt_BadStep : PySem.W.typeIn K (.ref C_BadStep) = some (.type "type"))
    (xi_BadStep : PySem.W.isClsIn K C_BadStep = true)
    (xd_BadStep : PySem.W.hasDictIn K C_BadStep = true)
    (eg_BadStep : PySem.W.findIn K (.ref C_BadStep) "__getattribute__" = some (some (.builtin "BaseException.__getattribute__")))
    (ek_BadStep : PySem.W.findIn K (.ref C_BadStep) "__getattr__" = some none)
    (ea_BadStep : PySem.W.findIn K (.ref C_BadStep) "__class__" = some (some (.builtin "object.__class__")))
    (em_BadStep : PySem.W.mroIn K C_BadStep (.type "object") = some true)
    (kv_BadStep : PySem.W.kitOne K (.ref C_BadStep) (.type "ValueError") = some true)
    (ki_BadStep_BadSettings : PySem.W.kitOne K (.ref C_BadStep) (.ref C_BadSettings) = some false)
    (ki_BadStep_BadStep : PySem.W.kitOne K (.ref C_BadStep) (.ref C_BadStep) = some true)
    (ki_BadStep_NoSensor : PySem.W.kitOne K (.ref C_BadStep) (.ref C_NoSensor) = some false)
    (ki_BadStep_BadRow : PySem.W.kitOne K (.ref C_BadStep) (.ref C_BadRow) = some false)
    (xs_BadStep_VoteError : PySem.W.subIn K (.ref C_BadStep) (.ref C_VoteError) = some true)
    (xs_BadStep_BadSettings : PySem.W.subIn K (.ref C_BadStep) (.ref C_BadSettings) = some false)
    (xs_BadStep_BadStep : PySem.W.subIn K (.ref C_BadStep) (.ref C_BadStep) = some true)
    (xs_BadStep_NoSensor : PySem.W.subIn K (.ref C_BadStep) (.ref C_NoSensor) = some false)
    (xs_BadStep_BadRow : PySem.W.subIn K (.ref C_BadStep) (.ref C_BadRow) = some false)
    (x_NoSensor : PySem.W.excIn K C_NoSensor [.type "ValueError", .type "Exception", .type "BaseException", .type "object"] "ValueError.__new__" = true)
    (k_NoSensor : PySem.W.keepIn K (.ref C_NoSensor) = true)
    (xb_NoSensor : PySem.W.subIn K (.ref C_NoSensor) (.type "BaseException") = some true)
    (xt_NoSensor : PySem.W.typeIn K (.ref C_NoSensor) = some (.type "type"))
    (xi_NoSensor : PySem.W.isClsIn K C_NoSensor = true)
    (xd_NoSensor : PySem.W.hasDictIn K C_NoSensor = true)
    (eg_NoSensor : PySem.W.findIn K (.ref C_NoSensor) "__getattribute__" = some (some (.builtin "BaseException.__getattribute__")))
    (ek_NoSensor : PySem.W.findIn K (.ref C_NoSensor) "__getattr__" = some none)
    (ea_NoSensor : PySem.W.findIn K (.ref C_NoSensor) "__class__" = some (some (.builtin "object.__class__")))
    (em_NoSensor : PySem.W.mroIn K C_NoSensor (.type "object") = some true)
    (kv_NoSensor : PySem.W.kitOne K (.ref C_NoSensor) (.type "ValueError") = some true)
    (ki_NoSensor_BadSettings : PySem.W.kitOne K (.ref C_NoSensor) (.ref C_BadSettings) = some false)
    (ki_NoSensor_BadStep : PySem.W.kitOne K (.ref C_NoSensor) (.ref C_BadStep) = some false)
    (ki_NoSensor_NoSensor : PySem.W.kitOne K (.ref C_NoSensor) (.ref C_NoSensor) = some true)
    (ki_NoSensor_BadRow : PySem.W.kitOne K (.ref C_NoSensor) (.ref C_BadRow) = some false)
    (xs_NoSensor_VoteError : PySem.W.subIn K (.ref C_NoSensor) (.ref C_VoteError) = some true)
    (xs_NoSensor_BadSettings : PySem.W.subIn K (.ref C_NoSensor) (.ref C_BadSettings) = some false)
    (xs_NoSensor_BadStep : PySem.W.subIn K (.ref C_NoSensor) (.ref C_BadStep) = some false)
    (xs_NoSensor_NoSensor : PySem.W.subIn K (.ref C_NoSensor) (.ref C_NoSensor) = some true)
    (xs_NoSensor_BadRow : PySem.W.subIn K (.ref C_NoSensor) (.ref C_BadRow) = some false)
    (x_BadRow : PySem.W.excIn K C_BadRow [.type "ValueError", .type "Exception", .type "BaseException", .type "object"] "ValueError.__new__" = true)
    (k_BadRow : PySem.W.keepIn K (.ref C_BadRow) = true)
    (xb_BadRow : PySem.W.subIn K (.ref C_BadRow) (.type "BaseException") = some true)
    (xt_BadRow : PySem.W.typeIn K (.ref C_BadRow) = some (.type "type"))
    (xi_BadRow : PySem.W.isClsIn K C_BadRow = true)
    (xd_BadRow : PySem.W.hasDictIn K C_BadRow = true)
    (eg_BadRow : PySem.W.findIn K (.ref C_BadRow) "__getattribute__" = some (some (.builtin "BaseException.__getattribute__")))
    (ek_BadRow : PySem.W.findIn K (.ref C_BadRow) "__getattr__" = some none)
    (ea_BadRow : PySem.W.findIn K (.ref C_BadRow) "__class__" = some (some (.builtin "object.__class__")))
    (em_BadRow : PySem.W.mroIn K C_BadRow (.type "object") = some true)
    (kv_BadRow : PySem.W.kitOne K (.ref C_BadRow) (.type "ValueError") = some true)
    (ki_BadRow_BadSettings : PySem.W.kitOne K (.ref C_BadRow) (.ref C_BadSettings) = some false)
    (ki_BadRow_BadStep : PySem.W.kitOne K (.ref C_BadRow) (.ref C_BadStep) = some false)
    (ki_BadRow_NoSensor : PySem.W.kitOne K (.ref C_BadRow) (.ref C_NoSensor) = some false)
    (ki_BadRow_BadRow : PySem.W.kitOne K (.ref C_BadRow) (.ref C_BadRow) = some true)
    (xs_BadRow_VoteError : PySem.W.subIn K (.ref C_BadRow) (.ref C_VoteError) = some true)
    (xs_BadRow_BadSettings : PySem.W.subIn K (.ref C_BadRow) (.ref C_BadSettings) = some false)
    (xs_BadRow_BadStep : PySem.W.subIn K (.ref C_BadRow) (.ref C_BadStep) = some false)
    (xs_BadRow_NoSensor : PySem.W.subIn K (.ref C_BadRow) (.ref C_NoSensor) = some false)
    (xs_BadRow_BadRow : PySem.W.subIn K (.ref C_BadRow) (.ref C_BadRow) = some true)
    (pg_Sensor : PySem.W.plainGet K C_Sensor Str.empty = true)
    (hd_Sensor : PySem.W.hasDictIn K C_Sensor = true)
    (po_Sensor : PySem.W.plainOver K C_Sensor = true)
    (sa_Sensor : PySem.W.findIn K (.ref C_Sensor) "__setattr__" = some (some (.builtin "object.__setattr__")))
    (mk_Sensor : PySem.W.makesIn K C_Sensor = true)
    (kc_Sensor : PySem.W.keepIn K (.ref C_Sensor) = true)
    (na_Sensor_is_out : PySem.W.findIn K (.ref C_Sensor) "is_out" = some none)
    (na_Sensor_many : PySem.W.findIn K (.ref C_Sensor) "many" = some none)
    (pg_Voter : PySem.W.plainGet K C_Voter Str.empty = true)
    (hd_Voter : PySem.W.hasDictIn K C_Voter = true)
    (po_Voter : PySem.W.plainOver K C_Voter = true)
    (sa_Voter : PySem.W.findIn K (.ref C_Voter) "__setattr__" = some (some (.builtin "object.__setattr__")))
    (mk_Voter : PySem.W.makesIn K C_Voter = true)
    (kc_Voter : PySem.W.keepIn K (.ref C_Voter) = true)
    (na_Voter_threshold : PySem.W.findIn K (.ref C_Voter) "threshold" = some none)
    (na_Voter_rate : PySem.W.findIn K (.ref C_Voter) "rate" = some none)
    (na_Voter_misses : PySem.W.findIn K (.ref C_Voter) "misses" = some none)
    (na_Voter_backs : PySem.W.findIn K (.ref C_Voter) "backs" = some none)
    (na_Voter_sensors : PySem.W.findIn K (.ref C_Voter) "sensors" = some none)
    (na_Voter_last : PySem.W.findIn K (.ref C_Voter) "last" = some none)
    (a_middle : PySem.W.nsIn K mainGlobals "middle" = some (some (.ref f_middle)))
    (l_middle : K.lookup f_middle = some ⟨oc_middle, od_middle, .func (PySem.W.fnOf "middle" "middle" (defArgs s_middle) (defBody s_middle) (defScope s_middle) .none kV_middle dc_middle pm_middle an_middle cd_middle ct_middle), sl_middle⟩)
    (o_middle : PySem.W.codeIn K cd_middle "middle" = true)
    (k_middle : PySem.W.keepIn K (.ref f_middle) = true)
    (a_moved : PySem.W.nsIn K mainGlobals "moved" = some (some (.ref f_moved)))
    (l_moved : K.lookup f_moved = some ⟨oc_moved, od_moved, .func (PySem.W.fnOf "moved" "moved" (defArgs s_moved) (defBody s_moved) (defScope s_moved) .none kV_moved dc_moved pm_moved an_moved cd_moved ct_moved), sl_moved⟩)
    (o_moved : PySem.W.codeIn K cd_moved "moved" = true)
    (k_moved : PySem.W.keepIn K (.ref f_moved) = true)
    (a_agree : PySem.W.nsIn K mainGlobals "agree" = some (some (.ref f_agree)))
    (l_agree : K.lookup f_agree = some ⟨oc_agree, od_agree, .func (PySem.W.fnOf "agree" "agree" (defArgs s_agree) (defBody s_agree) (defScope s_agree) .none kV_agree dc_agree pm_agree an_agree cd_agree ct_agree), sl_agree⟩)
    (o_agree : PySem.W.codeIn K cd_agree "agree" = true)
    (k_agree : PySem.W.keepIn K (.ref f_agree) = true)
    (a_need_settings : PySem.W.nsIn K mainGlobals "need_settings" = some (some (.ref f_need_settings)))
    (l_need_settings : K.lookup f_need_settings = some ⟨oc_need_settings, od_need_settings, .func (PySem.W.fnOf "need_settings" "need_settings" (defArgs s_need_settings) (defBody s_need_settings) (defScope s_need_settings) .none kV_need_settings dc_need_settings pm_need_settings an_need_settings cd_need_settings ct_need_settings), sl_need_settings⟩)
    (o_need_settings : PySem.W.codeIn K cd_need_settings "need_settings" = true)
    (k_need_settings : PySem.W.keepIn K (.ref f_need_settings) = true)
    (a_need_step : PySem.W.nsIn K mainGlobals "need_step" = some (some (.ref f_need_step)))
    (l_need_step : K.lookup f_need_step = some ⟨oc_need_step, od_need_step, .func (PySem.W.fnOf "need_step" "need_step" (defArgs s_need_step) (defBody s_need_step) (defScope s_need_step) .none kV_need_step dc_need_step pm_need_step an_need_step cd_need_step ct_need_step), sl_need_step⟩)
    (o_need_step : PySem.W.codeIn K cd_need_step "need_step" = true)
    (k_need_step : PySem.W.keepIn K (.ref f_need_step) = true)
    (a_Sensor_init : PySem.W.findIn K (.ref C_Sensor) "__init__" = some (some (.ref f_Sensor_init)))
    (i_Sensor_init : PySem.W.isFn K (.ref f_Sensor_init) = true)
    (l_Sensor_init : K.lookup f_Sensor_init = some ⟨oc_Sensor_init, od_Sensor_init, .func (PySem.W.fnOf "__init__" "Sensor.__init__" (defArgs s_Sensor_init) (defBody s_Sensor_init) (defScope s_Sensor_init) .none kV_Sensor_init dc_Sensor_init pm_Sensor_init an_Sensor_init cd_Sensor_init ct_Sensor_init), sl_Sensor_init⟩)
    (o_Sensor_init : PySem.W.codeIn K cd_Sensor_init "Sensor.__init__" = true)
    (k_Sensor_init : PySem.W.keepIn K (.ref f_Sensor_init) = true)
    (a_Voter_init : PySem.W.findIn K (.ref C_Voter) "__init__" = some (some (.ref f_Voter_init)))
    (i_Voter_init : PySem.W.isFn K (.ref f_Voter_init) = true)
    (l_Voter_init : K.lookup f_Voter_init = some ⟨oc_Voter_init, od_Voter_init, .func (PySem.W.fnOf "__init__" "Voter.__init__" (defArgs s_Voter_init) (defBody s_Voter_init) (defScope s_Voter_init) .none kV_Voter_init dc_Voter_init pm_Voter_init an_Voter_init cd_Voter_init ct_Voter_init), sl_Voter_init⟩)
    (o_Voter_init : PySem.W.codeIn K cd_Voter_init "Voter.__init__" = true)
    (k_Voter_init : PySem.W.keepIn K (.ref f_Voter_init) = true)
    (a_Voter_given : PySem.W.findIn K (.ref C_Voter) "given" = some (some (.ref f_Voter_given)))
    (i_Voter_given : PySem.W.isFn K (.ref f_Voter_given) = true)
    (l_Voter_given : K.lookup f_Voter_given = some ⟨oc_Voter_given, od_Voter_given, .func (PySem.W.fnOf "given" "Voter.given" (defArgs s_Voter_given) (defBody s_Voter_given) (defScope s_Voter_given) .none kV_Voter_given dc_Voter_given pm_Voter_given an_Voter_given cd_Voter_given ct_Voter_given), sl_Voter_given⟩)
    (o_Voter_given : PySem.W.codeIn K cd_Voter_given "Voter.given" = true)
    (k_Voter_given : PySem.W.keepIn K (.ref f_Voter_given) = true)
    (a_Voter_sensor : PySem.W.findIn K (.ref C_Voter) "sensor" = some (some (.ref f_Voter_sensor)))
    (i_Voter_sensor : PySem.W.isFn K (.ref f_Voter_sensor) = true)
    (l_Voter_sensor : K.lookup f_Voter_sensor = some ⟨oc_Voter_sensor, od_Voter_sensor, .func (PySem.W.fnOf "sensor" "Voter.sensor" (defArgs s_Voter_sensor) (defBody s_Voter_sensor) (defScope s_Voter_sensor) .none kV_Voter_sensor dc_Voter_sensor pm_Voter_sensor an_Voter_sensor cd_Voter_sensor ct_Voter_sensor), sl_Voter_sensor⟩)
    (o_Voter_sensor : PySem.W.codeIn K cd_Voter_sensor "Voter.sensor" = true)
    (k_Voter_sensor : PySem.W.keepIn K (.ref f_Voter_sensor) = true)
    (a_Voter_state : PySem.W.findIn K (.ref C_Voter) "state" = some (some (.ref f_Voter_state)))
    (i_Voter_state : PySem.W.isFn K (.ref f_Voter_state) = true)
    (l_Voter_state : K.lookup f_Voter_state = some ⟨oc_Voter_state, od_Voter_state, .func (PySem.W.fnOf "state" "Voter.state" (defArgs s_Voter_state) (defBody s_Voter_state) (defScope s_Voter_state) .none kV_Voter_state dc_Voter_state pm_Voter_state an_Voter_state cd_Voter_state ct_Voter_state), sl_Voter_state⟩)
    (o_Voter_state : PySem.W.codeIn K cd_Voter_state "Voter.state" = true)
    (k_Voter_state : PySem.W.keepIn K (.ref f_Voter_state) = true)
    (a_Voter_count : PySem.W.findIn K (.ref C_Voter) "count" = some (some (.ref f_Voter_count)))
    (i_Voter_count : PySem.W.isFn K (.ref f_Voter_count) = true)
    (l_Voter_count : K.lookup f_Voter_count = some ⟨oc_Voter_count, od_Voter_count, .func (PySem.W.fnOf "count" "Voter.count" (defArgs s_Voter_count) (defBody s_Voter_count) (defScope s_Voter_count) .none kV_Voter_count dc_Voter_count pm_Voter_count an_Voter_count cd_Voter_count ct_Voter_count), sl_Voter_count⟩)
    (o_Voter_count : PySem.W.codeIn K cd_Voter_count "Voter.count" = true)
    (k_Voter_count : PySem.W.keepIn K (.ref f_Voter_count) = true)
    (a_Voter_word : PySem.W.findIn K (.ref C_Voter) "word" = some (some (.ref f_Voter_word)))
    (i_Voter_word : PySem.W.isFn K (.ref f_Voter_word) = true)
    (l_Voter_word : K.lookup f_Voter_word = some ⟨oc_Voter_word, od_Voter_word, .func (PySem.W.fnOf "word" "Voter.word" (defArgs s_Voter_word) (defBody s_Voter_word) (defScope s_Voter_word) .none kV_Voter_word dc_Voter_word pm_Voter_word an_Voter_word cd_Voter_word ct_Voter_word), sl_Voter_word⟩)
    (o_Voter_word : PySem.W.codeIn K cd_Voter_word "Voter.word" = true)
    (k_Voter_word : PySem.W.keepIn K (.ref f_Voter_word) = true)
    (a_Voter_is_close : PySem.W.findIn K (.ref C_Voter) "is_close" = some (some (.ref f_Voter_is_close)))
    (i_Voter_is_close : PySem.W.isFn K (.ref f_Voter_is_close) = true)
    (l_Voter_is_close : K.lookup f_Voter_is_close = some ⟨oc_Voter_is_close, od_Voter_is_close, .func (PySem.W.fnOf "is_close" "Voter.is_close" (defArgs s_Voter_is_close) (defBody s_Voter_is_close) (defScope s_Voter_is_close) .none kV_Voter_is_close dc_Voter_is_close pm_Voter_is_close an_Voter_is_close cd_Voter_is_close ct_Voter_is_close), sl_Voter_is_close⟩)
    (o_Voter_is_close : PySem.W.codeIn K cd_Voter_is_close "Voter.is_close" = true)
    (k_Voter_is_close : PySem.W.keepIn K (.ref f_Voter_is_close) = true)
    (a_Voter_watch : PySem.W.findIn K (.ref C_Voter) "watch" = some (some (.ref f_Voter_watch)))
    (i_Voter_watch : PySem.W.isFn K (.ref f_Voter_watch) = true)
    (l_Voter_watch : K.lookup f_Voter_watch = some ⟨oc_Voter_watch, od_Voter_watch, .func (PySem.W.fnOf "watch" "Voter.watch" (defArgs s_Voter_watch) (defBody s_Voter_watch) (defScope s_Voter_watch) .none kV_Voter_watch dc_Voter_watch pm_Voter_watch an_Voter_watch cd_Voter_watch ct_Voter_watch), sl_Voter_watch⟩)
    (o_Voter_watch : PySem.W.codeIn K cd_Voter_watch "Voter.watch" = true)
    (k_Voter_watch : PySem.W.keepIn K (.ref f_Voter_watch) = true)
    (a_Voter_wait : PySem.W.findIn K (.ref C_Voter) "wait" = some (some (.ref f_Voter_wait)))
    (i_Voter_wait : PySem.W.isFn K (.ref f_Voter_wait) = true)
    (l_Voter_wait : K.lookup f_Voter_wait = some ⟨oc_Voter_wait, od_Voter_wait, .func (PySem.W.fnOf "wait" "Voter.wait" (defArgs s_Voter_wait) (defBody s_Voter_wait) (defScope s_Voter_wait) .none kV_Voter_wait dc_Voter_wait pm_Voter_wait an_Voter_wait cd_Voter_wait ct_Voter_wait), sl_Voter_wait⟩)
    (o_Voter_wait : PySem.W.codeIn K cd_Voter_wait "Voter.wait" = true)
    (k_Voter_wait : PySem.W.keepIn K (.ref f_Voter_wait) = true)
    (a_Voter_step : PySem.W.findIn K (.ref C_Voter) "step" = some (some (.ref f_Voter_step)))
    (i_Voter_step : PySem.W.isFn K (.ref f_Voter_step) = true)
    (l_Voter_step : K.lookup f_Voter_step = some ⟨oc_Voter_step, od_Voter_step, .func (PySem.W.fnOf "step" "Voter.step" (defArgs s_Voter_step) (defBody s_Voter_step) (defScope s_Voter_step) .none kV_Voter_step dc_Voter_step pm_Voter_step an_Voter_step cd_Voter_step ct_Voter_step), sl_Voter_step⟩)
    (o_Voter_step : PySem.W.codeIn K cd_Voter_step "Voter.step" = true)
    (k_Voter_step : PySem.W.keepIn K (.ref f_Voter_step) = true)
    (a_fresh : PySem.W.nsIn K mainGlobals "fresh" = some (some (.ref f_fresh)))
    (l_fresh : K.lookup f_fresh = some ⟨oc_fresh, od_fresh, .func (PySem.W.fnOf "fresh" "fresh" (defArgs s_fresh) (defBody s_fresh) (defScope s_fresh) .none kV_fresh dc_fresh pm_fresh an_fresh cd_fresh ct_fresh), sl_fresh⟩)
    (o_fresh : PySem.W.codeIn K cd_fresh "fresh" = true)
    (k_fresh : PySem.W.keepIn K (.ref f_fresh) = true)
    (a_run : PySem.W.nsIn K mainGlobals "run" = some (some (.ref f_run)))
    (l_run : K.lookup f_run = some ⟨oc_run, od_run, .func (PySem.W.fnOf "run" "run" (defArgs s_run) (defBody s_run) (defScope s_run) .none kV_run dc_run pm_run an_run cd_run ct_run), sl_run⟩)
    (o_run : PySem.W.codeIn K cd_run "run" = true)
    (k_run : PySem.W.keepIn K (.ref f_run) = true)
    (a_outs : PySem.W.nsIn K mainGlobals "outs" = some (some (.ref f_outs)))
    (l_outs : K.lookup f_outs = some ⟨oc_outs, od_outs, .func (PySem.W.fnOf "outs" "outs" (defArgs s_outs) (defBody s_outs) (defScope s_outs) .none kV_outs dc_outs pm_outs an_outs cd_outs ct_outs), sl_outs⟩)
    (o_outs : PySem.W.codeIn K cd_outs "outs" = true)
    (k_outs : PySem.W.keepIn K (.ref f_outs) = true)
    (a_l_cell : PySem.W.nsIn K mainGlobals "_law_cell" = some (some (.ref f_l_cell)))
    (l_l_cell : K.lookup f_l_cell = some ⟨oc_l_cell, od_l_cell, .func (PySem.W.fnOf "_law_cell" "_law_cell" (defArgs s_l_cell) (defBody s_l_cell) (defScope s_l_cell) .none kV_l_cell dc_l_cell pm_l_cell an_l_cell cd_l_cell ct_l_cell), sl_l_cell⟩)
    (o_l_cell : PySem.W.codeIn K cd_l_cell "_law_cell" = true)
    (k_l_cell : PySem.W.keepIn K (.ref f_l_cell) = true)
    (a_l_drawn : PySem.W.nsIn K mainGlobals "_law_drawn" = some (some (.ref f_l_drawn)))
    (l_l_drawn : K.lookup f_l_drawn = some ⟨oc_l_drawn, od_l_drawn, .func (PySem.W.fnOf "_law_drawn" "_law_drawn" (defArgs s_l_drawn) (defBody s_l_drawn) (defScope s_l_drawn) .none kV_l_drawn dc_l_drawn pm_l_drawn an_l_drawn cd_l_drawn ct_l_drawn), sl_l_drawn⟩)
    (o_l_drawn : PySem.W.codeIn K cd_l_drawn "_law_drawn" = true)
    (k_l_drawn : PySem.W.keepIn K (.ref f_l_drawn) = true)
    (a_l_word : PySem.W.nsIn K mainGlobals "_law_word" = some (some (.ref f_l_word)))
    (l_l_word : K.lookup f_l_word = some ⟨oc_l_word, od_l_word, .func (PySem.W.fnOf "_law_word" "_law_word" (defArgs s_l_word) (defBody s_l_word) (defScope s_l_word) .none kV_l_word dc_l_word pm_l_word an_l_word cd_l_word ct_l_word), sl_l_word⟩)
    (o_l_word : PySem.W.codeIn K cd_l_word "_law_word" = true)
    (k_l_word : PySem.W.keepIn K (.ref f_l_word) = true)
    (a_l_settings : PySem.W.nsIn K mainGlobals "_law_settings" = some (some (.ref f_l_settings)))
    (l_l_settings : K.lookup f_l_settings = some ⟨oc_l_settings, od_l_settings, .func (PySem.W.fnOf "_law_settings" "_law_settings" (defArgs s_l_settings) (defBody s_l_settings) (defScope s_l_settings) .none kV_l_settings dc_l_settings pm_l_settings an_l_settings cd_l_settings ct_l_settings), sl_l_settings⟩)
    (o_l_settings : PySem.W.codeIn K cd_l_settings "_law_settings" = true)
    (k_l_settings : PySem.W.keepIn K (.ref f_l_settings) = true)
    (a_l_values : PySem.W.nsIn K mainGlobals "_law_values" = some (some (.ref f_l_values)))
    (l_l_values : K.lookup f_l_values = some ⟨oc_l_values, od_l_values, .func (PySem.W.fnOf "_law_values" "_law_values" (defArgs s_l_values) (defBody s_l_values) (defScope s_l_values) .none kV_l_values dc_l_values pm_l_values an_l_values cd_l_values ct_l_values), sl_l_values⟩)
    (o_l_values : PySem.W.codeIn K cd_l_values "_law_values" = true)
    (k_l_values : PySem.W.keepIn K (.ref f_l_values) = true)
    (a_l_steps : PySem.W.nsIn K mainGlobals "_law_steps" = some (some (.ref f_l_steps)))
    (l_l_steps : K.lookup f_l_steps = some ⟨oc_l_steps, od_l_steps, .func (PySem.W.fnOf "_law_steps" "_law_steps" (defArgs s_l_steps) (defBody s_l_steps) (defScope s_l_steps) .none kV_l_steps dc_l_steps pm_l_steps an_l_steps cd_l_steps ct_l_steps), sl_l_steps⟩)
    (o_l_steps : PySem.W.codeIn K cd_l_steps "_law_steps" = true)
    (k_l_steps : PySem.W.keepIn K (.ref f_l_steps) = true)
    (a_l_told : PySem.W.nsIn K mainGlobals "_law_told" = some (some (.ref f_l_told)))
    (l_l_told : K.lookup f_l_told = some ⟨oc_l_told, od_l_told, .func (PySem.W.fnOf "_law_told" "_law_told" (defArgs s_l_told) (defBody s_l_told) (defScope s_l_told) .none kV_l_told dc_l_told pm_l_told an_l_told cd_l_told ct_l_told), sl_l_told⟩)
    (o_l_told : PySem.W.codeIn K cd_l_told "_law_told" = true)
    (k_l_told : PySem.W.keepIn K (.ref f_l_told) = true)
    (a_l_all : PySem.W.nsIn K mainGlobals "_law_all" = some (some (.ref f_l_all)))
    (l_l_all : K.lookup f_l_all = some ⟨oc_l_all, od_l_all, .func (PySem.W.fnOf "_law_all" "_law_all" (defArgs s_l_all) (defBody s_l_all) (defScope s_l_all) .none kV_l_all dc_l_all pm_l_all an_l_all cd_l_all ct_l_all), sl_l_all⟩)
    (o_l_all : PySem.W.codeIn K cd_l_all "_law_all" = true)
    (k_l_all : PySem.W.keepIn K (.ref f_l_all) = true)
    (a_l_bad : PySem.W.nsIn K mainGlobals "_law_bad" = some (some (.ref f_l_bad)))
    (l_l_bad : K.lookup f_l_bad = some ⟨oc_l_bad, od_l_bad, .func (PySem.W.fnOf "_law_bad" "_law_bad" (defArgs s_l_bad) (defBody s_l_bad) (defScope s_l_bad) .none kV_l_bad dc_l_bad pm_l_bad an_l_bad cd_l_bad ct_l_bad), sl_l_bad⟩)
    (o_l_bad : PySem.W.codeIn K cd_l_bad "_law_bad" = true)
    (k_l_bad : PySem.W.keepIn K (.ref f_l_bad) = true)
    (a_l_good : PySem.W.nsIn K mainGlobals "_law_good" = some (some (.ref f_l_good)))
    (l_l_good : K.lookup f_l_good = some ⟨oc_l_good, od_l_good, .func (PySem.W.fnOf "_law_good" "_law_good" (defArgs s_l_good) (defBody s_l_good) (defScope s_l_good) .none kV_l_good dc_l_good pm_l_good an_l_good cd_l_good ct_l_good), sl_l_good⟩)
    (o_l_good : PySem.W.codeIn K cd_l_good "_law_good" = true)
    (k_l_good : PySem.W.keepIn K (.ref f_l_good) = true)
    (a_law : PySem.W.nsIn K mainGlobals "law" = some (some (.ref f_law)))
    (l_law : K.lookup f_law = some ⟨oc_law, od_law, .func (PySem.W.fnOf "law" "law" (defArgs s_law) (defBody s_law) (defScope s_law) .none kV_law dc_law pm_law an_law (.ref cd_law) ct_law), sl_law⟩)
    (o_law : PySem.W.codeIn K (.ref cd_law) "law" = true)
    (ch_law : PySem.W.codeHdIn K cd_law tP = true)
    (nt_law : K.lookup tP = none)
    (k_law : PySem.W.keepIn K (.ref f_law) = true) :
    LawAtS l w K CX0 10 63 "_law_script" mg fa h := by
  have e := hfa.symm.trans (PySem.W.mg_of X G a_law)
  cases e
  have F_middle := fun_mk (st := s_middle) l_middle o_middle k_middle
  have b_middle := F_middle.binds (ps := ["numbers", "near"]) fun _ _ _ _ _ _ us hl => match us, hl with | [_, _], _ => rfl
  have F_moved := fun_mk (st := s_moved) l_moved o_moved k_moved
  have b_moved := F_moved.binds (ps := ["one", "goal", "most"]) fun _ _ _ _ _ _ us hl => match us, hl with | [_, _, _], _ => rfl
  have F_agree := fun_mk (st := s_agree) l_agree o_agree k_agree
  have b_agree := F_agree.binds (ps := ["numbers", "value", "threshold"]) fun _ _ _ _ _ _ us hl => match us, hl with | [_, _, _], _ => rfl
  have F_need_settings := fun_mk (st := s_need_settings) l_need_settings o_need_settings k_need_settings
  have b_need_settings := F_need_settings.binds (ps := ["settings"]) fun _ _ _ _ _ _ us hl => match us, hl with | [_], _ => rfl
  have F_need_step := fun_mk (st := s_need_step) l_need_step o_need_step k_need_step
  have b_need_step := F_need_step.binds (ps := ["values", "many"]) fun _ _ _ _ _ _ us hl => match us, hl with | [_, _], _ => rfl
  have F_Sensor_init := fun_mk (st := s_Sensor_init) l_Sensor_init o_Sensor_init k_Sensor_init
  have b_Sensor_init := F_Sensor_init.binds (ps := ["self"]) fun _ _ _ _ _ _ us hl => match us, hl with | [_], _ => rfl
  have F_Voter_init := fun_mk (st := s_Voter_init) l_Voter_init o_Voter_init k_Voter_init
  have b_Voter_init := F_Voter_init.binds (ps := ["self", "settings", "start"]) fun _ _ _ _ _ _ us hl => match us, hl with | [_, _, _], _ => rfl
  have F_Voter_given := fun_mk (st := s_Voter_given) l_Voter_given o_Voter_given k_Voter_given
  have b_Voter_given := F_Voter_given.binds (ps := ["self"]) fun _ _ _ _ _ _ us hl => match us, hl with | [_], _ => rfl
  have F_Voter_sensor := fun_mk (st := s_Voter_sensor) l_Voter_sensor o_Voter_sensor k_Voter_sensor
  have b_Voter_sensor := F_Voter_sensor.binds (ps := ["self", "place"]) fun _ _ _ _ _ _ us hl => match us, hl with | [_, _], _ => rfl
  have F_Voter_state := fun_mk (st := s_Voter_state) l_Voter_state o_Voter_state k_Voter_state
  have b_Voter_state := F_Voter_state.binds (ps := ["self", "place"]) fun _ _ _ _ _ _ us hl => match us, hl with | [_, _], _ => rfl
  have F_Voter_count := fun_mk (st := s_Voter_count) l_Voter_count o_Voter_count k_Voter_count
  have b_Voter_count := F_Voter_count.binds (ps := ["self", "place"]) fun _ _ _ _ _ _ us hl => match us, hl with | [_, _], _ => rfl
  have F_Voter_word := fun_mk (st := s_Voter_word) l_Voter_word o_Voter_word k_Voter_word
  have b_Voter_word := F_Voter_word.binds (ps := ["self", "numbers", "value"]) fun _ _ _ _ _ _ us hl => match us, hl with | [_, _, _], _ => rfl
  have F_Voter_is_close := fun_mk (st := s_Voter_is_close) l_Voter_is_close o_Voter_is_close k_Voter_is_close
  have b_Voter_is_close := F_Voter_is_close.binds (ps := ["self", "thing", "value"]) fun _ _ _ _ _ _ us hl => match us, hl with | [_, _, _], _ => rfl
  have F_Voter_watch := fun_mk (st := s_Voter_watch) l_Voter_watch o_Voter_watch k_Voter_watch
  have b_Voter_watch := F_Voter_watch.binds (ps := ["self", "one", "is_close"]) fun _ _ _ _ _ _ us hl => match us, hl with | [_, _, _], _ => rfl
  have F_Voter_wait := fun_mk (st := s_Voter_wait) l_Voter_wait o_Voter_wait k_Voter_wait
  have b_Voter_wait := F_Voter_wait.binds (ps := ["self", "one", "is_close"]) fun _ _ _ _ _ _ us hl => match us, hl with | [_, _, _], _ => rfl
  have F_Voter_step := fun_mk (st := s_Voter_step) l_Voter_step o_Voter_step k_Voter_step
  have b_Voter_step := F_Voter_step.binds (ps := ["self", "values"]) fun _ _ _ _ _ _ us hl => match us, hl with | [_, _], _ => rfl
  have F_fresh := fun_mk (st := s_fresh) l_fresh o_fresh k_fresh
  have b_fresh := F_fresh.binds (ps := ["settings", "start", "steps"]) fun _ _ _ _ _ _ us hl => match us, hl with | [_, _, _], _ => rfl
  have F_run := fun_mk (st := s_run) l_run o_run k_run
  have b_run := F_run.binds (ps := ["settings", "start", "steps"]) fun _ _ _ _ _ _ us hl => match us, hl with | [_, _, _], _ => rfl
  have F_outs := fun_mk (st := s_outs) l_outs o_outs k_outs
  have b_outs := F_outs.binds (ps := ["settings", "start", "steps"]) fun _ _ _ _ _ _ us hl => match us, hl with | [_, _, _], _ => rfl
  have F_l_cell := fun_mk (st := s_l_cell) l_l_cell o_l_cell k_l_cell
  have b_l_cell := F_l_cell.binds (ps := ["_law_script", "_law_k"]) fun _ _ _ _ _ _ us hl => match us, hl with | [_, _], _ => rfl
  have F_l_drawn := fun_mk (st := s_l_drawn) l_l_drawn o_l_drawn k_l_drawn
  have b_l_drawn := F_l_drawn.binds (ps := ["_law_cell_here", "_law_k"]) fun _ _ _ _ _ _ us hl => match us, hl with | [_, _], _ => rfl
  have F_l_word := fun_mk (st := s_l_word) l_l_word o_l_word k_l_word
  have b_l_word := F_l_word.binds (ps := ["_law_e"]) fun _ _ _ _ _ _ us hl => match us, hl with | [_], _ => rfl
  have F_l_settings := fun_mk (st := s_l_settings) l_l_settings o_l_settings k_l_settings
  have b_l_settings := F_l_settings.binds (ps := ["_law_more"]) fun _ _ _ _ _ _ us hl => match us, hl with | [_], _ => rfl
  have F_l_values := fun_mk (st := s_l_values) l_l_values o_l_values k_l_values
  have b_l_values := F_l_values.binds (ps := ["_law_script", "_law_k", "_law_settings_here", "_law_base"]) fun _ _ _ _ _ _ us hl => match us, hl with | [_, _, _, _], _ => rfl
  have F_l_steps := fun_mk (st := s_l_steps) l_l_steps o_l_steps k_l_steps
  have b_l_steps := F_l_steps.binds (ps := ["_law_script", "_law_settings_here", "_law_many"]) fun _ _ _ _ _ _ us hl => match us, hl with | [_, _, _], _ => rfl
  have F_l_told := fun_mk (st := s_l_told) l_l_told o_l_told k_l_told
  have b_l_told := F_l_told.binds (ps := ["_law_deed"]) fun _ _ _ _ _ _ us hl => match us, hl with | [_], _ => rfl
  have F_l_all := fun_mk (st := s_l_all) l_l_all o_l_all k_l_all
  have b_l_all := F_l_all.binds (ps := ["_law_voter", "_law_many"]) fun _ _ _ _ _ _ us hl => match us, hl with | [_, _], _ => rfl
  have F_l_bad := fun_mk (st := s_l_bad) l_l_bad o_l_bad k_l_bad
  have b_l_bad := F_l_bad.binds (ps := ["_law_more", "_law_settings_here"]) fun _ _ _ _ _ _ us hl => match us, hl with | [_, _], _ => rfl
  have F_l_good := fun_mk (st := s_l_good) l_l_good o_l_good k_l_good
  have b_l_good := F_l_good.binds (ps := ["_law_more"]) fun _ _ _ _ _ _ us hl => match us, hl with | [_], _ => rfl
  have F_law := fun_mk (st := s_law) l_law o_law k_law
  have b_law := F_law.binds (ps := ["_law_script"]) fun _ _ _ _ _ _ us hl => match us, hl with | [_], _ => rfl
  have T : Txt K mg { cd_law := cd_law, P_law := tP, c_VoteError := C_VoteError, c_BadSettings := C_BadSettings, c_BadStep := C_BadStep, c_NoSensor := C_NoSensor, c_BadRow := C_BadRow, c_Sensor := C_Sensor, c_Voter := C_Voter, f_middle := f_middle, d_middle := _, f_moved := f_moved, d_moved := _, f_agree := f_agree, d_agree := _, f_need_settings := f_need_settings, d_need_settings := _, f_need_step := f_need_step, d_need_step := _, f_Sensor_init := f_Sensor_init, d_Sensor_init := _, f_Voter_init := f_Voter_init, d_Voter_init := _, f_Voter_given := f_Voter_given, d_Voter_given := _, f_Voter_sensor := f_Voter_sensor, d_Voter_sensor := _, f_Voter_state := f_Voter_state, d_Voter_state := _, f_Voter_count := f_Voter_count, d_Voter_count := _, f_Voter_word := f_Voter_word, d_Voter_word := _, f_Voter_is_close := f_Voter_is_close, d_Voter_is_close := _, f_Voter_watch := f_Voter_watch, d_Voter_watch := _, f_Voter_wait := f_Voter_wait, d_Voter_wait := _, f_Voter_step := f_Voter_step, d_Voter_step := _, f_fresh := f_fresh, d_fresh := _, f_run := f_run, d_run := _, f_outs := f_outs, d_outs := _, f_l_cell := f_l_cell, d_l_cell := _, f_l_drawn := f_l_drawn, d_l_drawn := _, f_l_word := f_l_word, d_l_word := _, f_l_settings := f_l_settings, d_l_settings := _, f_l_values := f_l_values, d_l_values := _, f_l_steps := f_l_steps, d_l_steps := _, f_l_told := f_l_told, d_l_told := _, f_l_all := f_l_all, d_l_all := _, f_l_bad := f_l_bad, d_l_bad := _, f_l_good := f_l_good, d_l_good := _, f_law := fa, d_law := _ } :=
    { n_ValueError := PySem.W.mg_none_of X G n_ValueError,
      n_abs := PySem.W.mg_none_of X G n_abs,
      n_all := PySem.W.mg_none_of X G n_all,
      n_enumerate := PySem.W.mg_none_of X G n_enumerate,
      n_int := PySem.W.mg_none_of X G n_int,
      n_isinstance := PySem.W.mg_none_of X G n_isinstance,
      n_len := PySem.W.mg_none_of X G n_len,
      n_list := PySem.W.mg_none_of X G n_list,
      n_max := PySem.W.mg_none_of X G n_max,
      n_min := PySem.W.mg_none_of X G n_min,
      n_range := PySem.W.mg_none_of X G n_range,
      n_sorted := PySem.W.mg_none_of X G n_sorted,
      n_sum := PySem.W.mg_none_of X G n_sum,
      c_LEAST := ⟨_, PySem.W.mg_of X G c_LEAST⟩,
      c_MOST := ⟨_, PySem.W.mg_of X G c_MOST⟩,
      c_MOST_THRESHOLD := ⟨_, PySem.W.mg_of X G c_MOST_THRESHOLD⟩,
      c_MOST_COUNT := ⟨_, PySem.W.mg_of X G c_MOST_COUNT⟩,
      c_MOST_VALUE := ⟨_, PySem.W.mg_of X G c_MOST_VALUE⟩,
      g_VoteError := PySem.W.mg_of X G g_VoteError,
      xd_VoteError := xd_VoteError,
      x_VoteError := x_VoteError, k_VoteError := k_VoteError, xb_VoteError := xb_VoteError, xt_VoteError := xt_VoteError, xi_VoteError := xi_VoteError,
      xs_VoteError_VoteError := xs_VoteError_VoteError,
      xs_VoteError_BadSettings := xs_VoteError_BadSettings,
      xs_VoteError_BadStep := xs_VoteError_BadStep,
      xs_VoteError_NoSensor := xs_VoteError_NoSensor,
      xs_VoteError_BadRow := xs_VoteError_BadRow,
      g_BadSettings := PySem.W.mg_of X G g_BadSettings,
      xd_BadSettings := xd_BadSettings,
      ec_BadSettings := ⟨eg_BadSettings, ek_BadSettings, xb_BadSettings, xd_BadSettings, ea_BadSettings, en_, et_, em_BadSettings⟩,
      kv_BadSettings := kv_BadSettings,
      ki_BadSettings_BadSettings := ki_BadSettings_BadSettings,
      ki_BadSettings_BadStep := ki_BadSettings_BadStep,
      ki_BadSettings_NoSensor := ki_BadSettings_NoSensor,
      ki_BadSettings_BadRow := ki_BadSettings_BadRow,
      x_BadSettings := x_BadSettings, k_BadSettings := k_BadSettings, xb_BadSettings := xb_BadSettings, xt_BadSettings := xt_BadSettings, xi_BadSettings := xi_BadSettings,
      xs_BadSettings_VoteError := xs_BadSettings_VoteError,
      xs_BadSettings_BadSettings := xs_BadSettings_BadSettings,
      xs_BadSettings_BadStep := xs_BadSettings_BadStep,
      xs_BadSettings_NoSensor := xs_BadSettings_NoSensor,
      xs_BadSettings_BadRow := xs_BadSettings_BadRow,
      g_BadStep := PySem.W.mg_of X G g_BadStep,
      xd_BadStep := xd_BadStep,
      ec_BadStep := ⟨eg_BadStep, ek_BadStep, xb_BadStep, xd_BadStep, ea_BadStep, en_, et_, em_BadStep⟩,
      kv_BadStep := kv_BadStep,
      ki_BadStep_BadSettings := ki_BadStep_BadSettings,
      ki_BadStep_BadStep := ki_BadStep_BadStep,
      ki_BadStep_NoSensor := ki_BadStep_NoSensor,
      ki_BadStep_BadRow := ki_BadStep_BadRow,
      x_BadStep := x_BadStep, k_BadStep := k_BadStep, xb_BadStep := xb_BadStep, xt_BadStep := xt_BadStep, xi_BadStep := xi_BadStep,
      xs_BadStep_VoteError := xs_BadStep_VoteError,
      xs_BadStep_BadSettings := xs_BadStep_BadSettings,
      xs_BadStep_BadStep := xs_BadStep_BadStep,
      xs_BadStep_NoSensor := xs_BadStep_NoSensor,
      xs_BadStep_BadRow := xs_BadStep_BadRow,
      g_NoSensor := PySem.W.mg_of X G g_NoSensor,
      xd_NoSensor := xd_NoSensor,
      ec_NoSensor := ⟨eg_NoSensor, ek_NoSensor, xb_NoSensor, xd_NoSensor, ea_NoSensor, en_, et_, em_NoSensor⟩,
      kv_NoSensor := kv_NoSensor,
      ki_NoSensor_BadSettings := ki_NoSensor_BadSettings,
      ki_NoSensor_BadStep := ki_NoSensor_BadStep,
      ki_NoSensor_NoSensor := ki_NoSensor_NoSensor,
      ki_NoSensor_BadRow := ki_NoSensor_BadRow,
      x_NoSensor := x_NoSensor, k_NoSensor := k_NoSensor, xb_NoSensor := xb_NoSensor, xt_NoSensor := xt_NoSensor, xi_NoSensor := xi_NoSensor,
      xs_NoSensor_VoteError := xs_NoSensor_VoteError,
      xs_NoSensor_BadSettings := xs_NoSensor_BadSettings,
      xs_NoSensor_BadStep := xs_NoSensor_BadStep,
      xs_NoSensor_NoSensor := xs_NoSensor_NoSensor,
      xs_NoSensor_BadRow := xs_NoSensor_BadRow,
      g_BadRow := PySem.W.mg_of X G g_BadRow,
      xd_BadRow := xd_BadRow,
      ec_BadRow := ⟨eg_BadRow, ek_BadRow, xb_BadRow, xd_BadRow, ea_BadRow, en_, et_, em_BadRow⟩,
      kv_BadRow := kv_BadRow,
      ki_BadRow_BadSettings := ki_BadRow_BadSettings,
      ki_BadRow_BadStep := ki_BadRow_BadStep,
      ki_BadRow_NoSensor := ki_BadRow_NoSensor,
      ki_BadRow_BadRow := ki_BadRow_BadRow,
      x_BadRow := x_BadRow, k_BadRow := k_BadRow, xb_BadRow := xb_BadRow, xt_BadRow := xt_BadRow, xi_BadRow := xi_BadRow,
      xs_BadRow_VoteError := xs_BadRow_VoteError,
      xs_BadRow_BadSettings := xs_BadRow_BadSettings,
      xs_BadRow_BadStep := xs_BadRow_BadStep,
      xs_BadRow_NoSensor := xs_BadRow_NoSensor,
      xs_BadRow_BadRow := xs_BadRow_BadRow,
      g_Sensor := PySem.W.mg_of X G g_Sensor,
      cl_Sensor := ⟨pg_Sensor, hd_Sensor, po_Sensor, sa_Sensor⟩,
      mk_Sensor := ⟨mk_Sensor, a_Sensor_init, i_Sensor_init, kc_Sensor⟩,
      na_Sensor_is_out := na_Sensor_is_out,
      na_Sensor_many := na_Sensor_many,
      g_Voter := PySem.W.mg_of X G g_Voter,
      cl_Voter := ⟨pg_Voter, hd_Voter, po_Voter, sa_Voter⟩,
      mk_Voter := ⟨mk_Voter, a_Voter_init, i_Voter_init, kc_Voter⟩,
      na_Voter_threshold := na_Voter_threshold,
      na_Voter_rate := na_Voter_rate,
      na_Voter_misses := na_Voter_misses,
      na_Voter_backs := na_Voter_backs,
      na_Voter_sensors := na_Voter_sensors,
      na_Voter_last := na_Voter_last,
      F_middle := F_middle, b_middle := b_middle,
      g_middle := PySem.W.mg_of X G a_middle,
      F_moved := F_moved, b_moved := b_moved,
      g_moved := PySem.W.mg_of X G a_moved,
      F_agree := F_agree, b_agree := b_agree,
      g_agree := PySem.W.mg_of X G a_agree,
      F_need_settings := F_need_settings, b_need_settings := b_need_settings,
      g_need_settings := PySem.W.mg_of X G a_need_settings,
      F_need_step := F_need_step, b_need_step := b_need_step,
      g_need_step := PySem.W.mg_of X G a_need_step,
      F_Sensor_init := F_Sensor_init, b_Sensor_init := b_Sensor_init,
      F_Voter_init := F_Voter_init, b_Voter_init := b_Voter_init,
      F_Voter_given := F_Voter_given, b_Voter_given := b_Voter_given,
      m_Voter_given := ⟨a_Voter_given, i_Voter_given, k_Voter_given⟩,
      F_Voter_sensor := F_Voter_sensor, b_Voter_sensor := b_Voter_sensor,
      m_Voter_sensor := ⟨a_Voter_sensor, i_Voter_sensor, k_Voter_sensor⟩,
      F_Voter_state := F_Voter_state, b_Voter_state := b_Voter_state,
      m_Voter_state := ⟨a_Voter_state, i_Voter_state, k_Voter_state⟩,
      F_Voter_count := F_Voter_count, b_Voter_count := b_Voter_count,
      m_Voter_count := ⟨a_Voter_count, i_Voter_count, k_Voter_count⟩,
      F_Voter_word := F_Voter_word, b_Voter_word := b_Voter_word,
      m_Voter_word := ⟨a_Voter_word, i_Voter_word, k_Voter_word⟩,
      F_Voter_is_close := F_Voter_is_close, b_Voter_is_close := b_Voter_is_close,
      m_Voter_is_close := ⟨a_Voter_is_close, i_Voter_is_close, k_Voter_is_close⟩,
      F_Voter_watch := F_Voter_watch, b_Voter_watch := b_Voter_watch,
      m_Voter_watch := ⟨a_Voter_watch, i_Voter_watch, k_Voter_watch⟩,
      F_Voter_wait := F_Voter_wait, b_Voter_wait := b_Voter_wait,
      m_Voter_wait := ⟨a_Voter_wait, i_Voter_wait, k_Voter_wait⟩,
      F_Voter_step := F_Voter_step, b_Voter_step := b_Voter_step,
      m_Voter_step := ⟨a_Voter_step, i_Voter_step, k_Voter_step⟩,
      F_fresh := F_fresh, b_fresh := b_fresh,
      g_fresh := PySem.W.mg_of X G a_fresh,
      F_run := F_run, b_run := b_run,
      g_run := PySem.W.mg_of X G a_run,
      F_outs := F_outs, b_outs := b_outs,
      g_outs := PySem.W.mg_of X G a_outs,
      F_l_cell := F_l_cell, b_l_cell := b_l_cell,
      g_l_cell := PySem.W.mg_of X G a_l_cell,
      F_l_drawn := F_l_drawn, b_l_drawn := b_l_drawn,
      g_l_drawn := PySem.W.mg_of X G a_l_drawn,
      F_l_word := F_l_word, b_l_word := b_l_word,
      g_l_word := PySem.W.mg_of X G a_l_word,
      F_l_settings := F_l_settings, b_l_settings := b_l_settings,
      g_l_settings := PySem.W.mg_of X G a_l_settings,
      F_l_values := F_l_values, b_l_values := b_l_values,
      g_l_values := PySem.W.mg_of X G a_l_values,
      F_l_steps := F_l_steps, b_l_steps := b_l_steps,
      g_l_steps := PySem.W.mg_of X G a_l_steps,
      F_l_told := F_l_told, b_l_told := b_l_told,
      g_l_told := PySem.W.mg_of X G a_l_told,
      F_l_all := F_l_all, b_l_all := b_l_all,
      g_l_all := PySem.W.mg_of X G a_l_all,
      F_l_bad := F_l_bad, b_l_bad := b_l_bad,
      g_l_bad := PySem.W.mg_of X G a_l_bad,
      F_l_good := F_l_good, b_l_good := b_l_good,
      g_l_good := PySem.W.mg_of X G a_l_good,
      FC_law := ⟨⟨_, _, _, _, _, _, _, _, rfl, l_law, o_law⟩⟩,
      F_law := F_law, b_law := b_law,
      g_law := PySem.W.mg_of X G a_law }
  exact ⟨PySem.W.fnOf "law" "law" (defArgs s_law) (defBody s_law) (defScope s_law) .none kV_law dc_law pm_law an_law (.ref cd_law) ct_law, [(cd_law, tP)], spLT K tP, fun p hp => by rw [List.mem_singleton.mp hp]; exact htab, fun p hp => by rw [List.mem_singleton.mp hp]; exact nt_law, fun p hp => by rw [List.mem_singleton.mp hp]; exact PySem.W.codeHd_of_K X ch_law, fun s v => .of_eq rfl, fun H a ns hl _ hH hS => ⟨a, ns, rfl, hS, hl, hH _ (List.mem_singleton.mpr rfl), fun _ => rfl⟩, fun base _ _ TB => ok_all T (TB _ (List.mem_singleton.mpr rfl))⟩
end MV
open PySem PySem.W PyProof.Rows
set_option maxHeartbeats 0 in
theorem PySem.Challenge.cw_midvalue_k11_refused_holds : PySem.Challenge.rw_midvalue_k11_refused.Holds := by
  w_on; o_law; k_head; (case hw => w_witness2)
  k_fill
  refine LamX.walk_ofTs (l := PySem.Challenge.rw_midvalue_k11_refused) (n := 63) (k := 10) (x := "_law_script") (CX := fun _ => L2.CX0) rfl (by decide) rfl ⟨rfl, by decide, by decide⟩ (fun w h Y => PySem.W.km_in_of Y) ?F (fun _ _ _ _ _ h => h)
  case F =>
    intro w mg fa h Y KX G hmg
    refine' MV.fin_mk KX G hmg (PySem.W.km_tabs_of Y _ (List.mem_singleton.mpr rfl)) ?n_ValueError ?n_abs ?n_all ?n_enumerate ?n_int ?n_isinstance ?n_len ?n_list ?n_max ?n_min ?n_range ?n_sorted ?n_sum ?c_LEAST ?c_MOST ?c_MOST_THRESHOLD ?c_MOST_COUNT ?c_MOST_VALUE ?g_VoteError ?g_BadSettings ?g_BadStep ?g_NoSensor ?g_BadRow ?g_Sensor ?g_Voter ?x_VoteError ?k_VoteError ?xb_VoteError ?xt_VoteError ?xi_VoteError ?xd_VoteError ?xs_VoteError_VoteError ?xs_VoteError_BadSettings ?xs_VoteError_BadStep ?xs_VoteError_NoSensor ?xs_VoteError_BadRow ?x_BadSettings ?k_BadSettings ?xb_BadSettings ?xt_BadSettings ?xi_BadSettings ?xd_BadSettings ?eg_BadSettings ?ek_BadSettings ?ea_BadSettings ?em_BadSettings ?en_ ?et_ ?kv_BadSettings ?ki_BadSettings_BadSettings ?ki_BadSettings_BadStep ?ki_BadSettings_NoSensor ?ki_BadSettings_BadRow ?xs_BadSettings_VoteError ?xs_BadSettings_BadSettings ?xs_BadSettings_BadStep ?xs_BadSettings_NoSensor ?xs_BadSettings_BadRow ?x_BadStep ?k_BadStep ?xb_BadStep ?xt_BadStep ?xi_BadStep ?xd_BadStep ?eg_BadStep ?ek_BadStep ?ea_BadStep ?em_BadStep ?kv_BadStep ?ki_BadStep_BadSettings ?ki_BadStep_BadStep ?ki_BadStep_NoSensor ?ki_BadStep_BadRow ?xs_BadStep_VoteError ?xs_BadStep_BadSettings ?xs_BadStep_BadStep ?xs_BadStep_NoSensor ?xs_BadStep_BadRow ?x_NoSensor ?k_NoSensor ?xb_NoSensor ?xt_NoSensor ?xi_NoSensor ?xd_NoSensor ?eg_NoSensor ?ek_NoSensor ?ea_NoSensor ?em_NoSensor ?kv_NoSensor ?ki_NoSensor_BadSettings ?ki_NoSensor_BadStep ?ki_NoSensor_NoSensor ?ki_NoSensor_BadRow ?xs_NoSensor_VoteError ?xs_NoSensor_BadSettings ?xs_NoSensor_BadStep ?xs_NoSensor_NoSensor ?xs_NoSensor_BadRow ?x_BadRow ?k_BadRow ?xb_BadRow ?xt_BadRow ?xi_BadRow ?xd_BadRow ?eg_BadRow ?ek_BadRow ?ea_BadRow ?em_BadRow ?kv_BadRow ?ki_BadRow_BadSettings ?ki_BadRow_BadStep ?ki_BadRow_NoSensor ?ki_BadRow_BadRow ?xs_BadRow_VoteError ?xs_BadRow_BadSettings ?xs_BadRow_BadStep ?xs_BadRow_NoSensor ?xs_BadRow_BadRow ?pg_Sensor ?hd_Sensor ?po_Sensor ?sa_Sensor ?mk_Sensor ?kc_Sensor ?na_Sensor_is_out ?na_Sensor_many ?pg_Voter ?hd_Voter ?po_Voter ?sa_Voter ?mk_Voter ?kc_Voter ?na_Voter_threshold ?na_Voter_rate ?na_Voter_misses ?na_Voter_backs ?na_Voter_sensors ?na_Voter_last ?a_middle ?l_middle ?o_middle ?k_middle ?a_moved ?l_moved ?o_moved ?k_moved ?a_agree ?l_agree ?o_agree ?k_agree ?a_need_settings ?l_need_settings ?o_need_settings ?k_need_settings ?a_need_step ?l_need_step ?o_need_step ?k_need_step ?a_Sensor_init ?i_Sensor_init ?l_Sensor_init ?o_Sensor_init ?k_Sensor_init ?a_Voter_init ?i_Voter_init ?l_Voter_init ?o_Voter_init ?k_Voter_init ?a_Voter_given ?i_Voter_given ?l_Voter_given ?o_Voter_given ?k_Voter_given ?a_Voter_sensor ?i_Voter_sensor ?l_Voter_sensor ?o_Voter_sensor ?k_Voter_sensor ?a_Voter_state ?i_Voter_state ?l_Voter_state ?o_Voter_state ?k_Voter_state ?a_Voter_count ?i_Voter_count ?l_Voter_count ?o_Voter_count ?k_Voter_count ?a_Voter_word ?i_Voter_word ?l_Voter_word ?o_Voter_word ?k_Voter_word ?a_Voter_is_close ?i_Voter_is_close ?l_Voter_is_close ?o_Voter_is_close ?k_Voter_is_close ?a_Voter_watch ?i_Voter_watch ?l_Voter_watch ?o_Voter_watch ?k_Voter_watch ?a_Voter_wait ?i_Voter_wait ?l_Voter_wait ?o_Voter_wait ?k_Voter_wait ?a_Voter_step ?i_Voter_step ?l_Voter_step ?o_Voter_step ?k_Voter_step ?a_fresh ?l_fresh ?o_fresh ?k_fresh ?a_run ?l_run ?o_run ?k_run ?a_outs ?l_outs ?o_outs ?k_outs ?a_l_cell ?l_l_cell ?o_l_cell ?k_l_cell ?a_l_drawn ?l_l_drawn ?o_l_drawn ?k_l_drawn ?a_l_word ?l_l_word ?o_l_word ?k_l_word ?a_l_settings ?l_l_settings ?o_l_settings ?k_l_settings ?a_l_values ?l_l_values ?o_l_values ?k_l_values ?a_l_steps ?l_l_steps ?o_l_steps ?k_l_steps ?a_l_told ?l_l_told ?o_l_told ?k_l_told ?a_l_all ?l_l_all ?o_l_all ?k_l_all ?a_l_bad ?l_l_bad ?o_l_bad ?k_l_bad ?a_l_good ?l_l_good ?o_l_good ?k_l_good ?a_law ?l_law ?o_law ?ch_law ?nt_law ?k_law
    (case n_ValueError => k_is)
    (case n_abs => k_is)
    (case n_all => k_is)
    (case n_enumerate => k_is)
    (case n_int => k_is)
    (case n_isinstance => k_is)
    (case n_len => k_is)
    (case n_list => k_is)
    (case n_max => k_is)
    (case n_min => k_is)
    (case n_range => k_is)
    (case n_sorted => k_is)
    (case n_sum => k_is)
    (case c_LEAST => k_is)
    (case c_MOST => k_is)
    (case c_MOST_THRESHOLD => k_is)
    (case c_MOST_COUNT => k_is)
    (case c_MOST_VALUE => k_is)
    (case g_VoteError => k_is)
    (case g_BadSettings => k_is)
    (case g_BadStep => k_is)
    (case g_NoSensor => k_is)
    (case g_BadRow => k_is)
    (case g_Sensor => k_is)
    (case g_Voter => k_is)
    (case x_VoteError => k_exc)
    (case k_VoteError => k_is)
    (case xb_VoteError => k_is)
    (case xt_VoteError => k_is)
    (case xi_VoteError => k_is)
    (case xd_VoteError => k_is)
    (case xs_VoteError_VoteError => k_is)
    (case xs_VoteError_BadSettings => k_is)
    (case xs_VoteError_BadStep => k_is)
    (case xs_VoteError_NoSensor => k_is)
    (case xs_VoteError_BadRow => k_is)
    (case x_BadSettings => k_exc)
    (case k_BadSettings => k_is)
    (case xb_BadSettings => k_is)
    (case xt_BadSettings => k_is)
    (case xi_BadSettings => k_is)
    (case xd_BadSettings => k_is)
    (case eg_BadSettings => k_is)
    (case ek_BadSettings => k_is)
    (case ea_BadSettings => k_is)
    (case em_BadSettings => k_is)
    (case en_ => k_is)
    (case et_ => k_is)
    (case kv_BadSettings => kit_is)
    (case ki_BadSettings_BadSettings => kit_is)
    (case ki_BadSettings_BadStep => kit_is)
    (case ki_BadSettings_NoSensor => kit_is)
    (case ki_BadSettings_BadRow => kit_is)
    (case xs_BadSettings_VoteError => k_is)
    (case xs_BadSettings_BadSettings => k_is)
    (case xs_BadSettings_BadStep => k_is)
    (case xs_BadSettings_NoSensor => k_is)
    (case xs_BadSettings_BadRow => k_is)
    (case x_BadStep => k_exc)
    (case k_BadStep => k_is)
    (case xb_BadStep => k_is)
    (case xt_BadStep => k_is)
    (case xi_BadStep => k_is)
    (case xd_BadStep => k_is)
    (case eg_BadStep => k_is)
    (case ek_BadStep => k_is)
    (case ea_BadStep => k_is)
    (case em_BadStep => k_is)
    (case kv_BadStep => kit_is)
    (case ki_BadStep_BadSettings => kit_is)
    (case ki_BadStep_BadStep => kit_is)
    (case ki_BadStep_NoSensor => kit_is)
    (case ki_BadStep_BadRow => kit_is)
    (case xs_BadStep_VoteError => k_is)
    (case xs_BadStep_BadSettings => k_is)
    (case xs_BadStep_BadStep => k_is)
    (case xs_BadStep_NoSensor => k_is)
    (case xs_BadStep_BadRow => k_is)
    (case x_NoSensor => k_exc)
    (case k_NoSensor => k_is)
    (case xb_NoSensor => k_is)
    (case xt_NoSensor => k_is)
    (case xi_NoSensor => k_is)
    (case xd_NoSensor => k_is)
    (case eg_NoSensor => k_is)
    (case ek_NoSensor => k_is)
    (case ea_NoSensor => k_is)
    (case em_NoSensor => k_is)
    (case kv_NoSensor => kit_is)
    (case ki_NoSensor_BadSettings => kit_is)
    (case ki_NoSensor_BadStep => kit_is)
    (case ki_NoSensor_NoSensor => kit_is)
    (case ki_NoSensor_BadRow => kit_is)
    (case xs_NoSensor_VoteError => k_is)
    (case xs_NoSensor_BadSettings => k_is)
    (case xs_NoSensor_BadStep => k_is)
    (case xs_NoSensor_NoSensor => k_is)
    (case xs_NoSensor_BadRow => k_is)
    (case x_BadRow => k_exc)
    (case k_BadRow => k_is)
    (case xb_BadRow => k_is)
    (case xt_BadRow => k_is)
    (case xi_BadRow => k_is)
    (case xd_BadRow => k_is)
    (case eg_BadRow => k_is)
    (case ek_BadRow => k_is)
    (case ea_BadRow => k_is)
    (case em_BadRow => k_is)
    (case kv_BadRow => kit_is)
    (case ki_BadRow_BadSettings => kit_is)
    (case ki_BadRow_BadStep => kit_is)
    (case ki_BadRow_NoSensor => kit_is)
    (case ki_BadRow_BadRow => kit_is)
    (case xs_BadRow_VoteError => k_is)
    (case xs_BadRow_BadSettings => k_is)
    (case xs_BadRow_BadStep => k_is)
    (case xs_BadRow_NoSensor => k_is)
    (case xs_BadRow_BadRow => k_is)
    (case pg_Sensor => k_is)
    (case hd_Sensor => k_is)
    (case po_Sensor => k_is)
    (case sa_Sensor => k_is)
    (case mk_Sensor => k_is)
    (case kc_Sensor => k_is)
    (case na_Sensor_is_out => k_is)
    (case na_Sensor_many => k_is)
    (case pg_Voter => k_is)
    (case hd_Voter => k_is)
    (case po_Voter => k_is)
    (case sa_Voter => k_is)
    (case mk_Voter => k_is)
    (case kc_Voter => k_is)
    (case na_Voter_threshold => k_is)
    (case na_Voter_rate => k_is)
    (case na_Voter_misses => k_is)
    (case na_Voter_backs => k_is)
    (case na_Voter_sensors => k_is)
    (case na_Voter_last => k_is)
    (case a_middle => k_is)
    (case l_middle => k_is)
    (case o_middle => k_is)
    (case k_middle => k_is)
    (case a_moved => k_is)
    (case l_moved => k_is)
    (case o_moved => k_is)
    (case k_moved => k_is)
    (case a_agree => k_is)
    (case l_agree => k_is)
    (case o_agree => k_is)
    (case k_agree => k_is)
    (case a_need_settings => k_is)
    (case l_need_settings => k_is)
    (case o_need_settings => k_is)
    (case k_need_settings => k_is)
    (case a_need_step => k_is)
    (case l_need_step => k_is)
    (case o_need_step => k_is)
    (case k_need_step => k_is)
    (case a_Sensor_init => k_is)
    (case i_Sensor_init => k_is)
    (case l_Sensor_init => k_is)
    (case o_Sensor_init => k_is)
    (case k_Sensor_init => k_is)
    (case a_Voter_init => k_is)
    (case i_Voter_init => k_is)
    (case l_Voter_init => k_is)
    (case o_Voter_init => k_is)
    (case k_Voter_init => k_is)
    (case a_Voter_given => k_is)
    (case i_Voter_given => k_is)
    (case l_Voter_given => k_is)
    (case o_Voter_given => k_is)
    (case k_Voter_given => k_is)
    (case a_Voter_sensor => k_is)
    (case i_Voter_sensor => k_is)
    (case l_Voter_sensor => k_is)
    (case o_Voter_sensor => k_is)
    (case k_Voter_sensor => k_is)
    (case a_Voter_state => k_is)
    (case i_Voter_state => k_is)
    (case l_Voter_state => k_is)
    (case o_Voter_state => k_is)
    (case k_Voter_state => k_is)
    (case a_Voter_count => k_is)
    (case i_Voter_count => k_is)
    (case l_Voter_count => k_is)
    (case o_Voter_count => k_is)
    (case k_Voter_count => k_is)
    (case a_Voter_word => k_is)
    (case i_Voter_word => k_is)
    (case l_Voter_word => k_is)
    (case o_Voter_word => k_is)
    (case k_Voter_word => k_is)
    (case a_Voter_is_close => k_is)
    (case i_Voter_is_close => k_is)
    (case l_Voter_is_close => k_is)
    (case o_Voter_is_close => k_is)
    (case k_Voter_is_close => k_is)
    (case a_Voter_watch => k_is)
    (case i_Voter_watch => k_is)
    (case l_Voter_watch => k_is)
    (case o_Voter_watch => k_is)
    (case k_Voter_watch => k_is)
    (case a_Voter_wait => k_is)
    (case i_Voter_wait => k_is)
    (case l_Voter_wait => k_is)
    (case o_Voter_wait => k_is)
    (case k_Voter_wait => k_is)
    (case a_Voter_step => k_is)
    (case i_Voter_step => k_is)
    (case l_Voter_step => k_is)
    (case o_Voter_step => k_is)
    (case k_Voter_step => k_is)
    (case a_fresh => k_is)
    (case l_fresh => k_is)
    (case o_fresh => k_is)
    (case k_fresh => k_is)
    (case a_run => k_is)
    (case l_run => k_is)
    (case o_run => k_is)
    (case k_run => k_is)
    (case a_outs => k_is)
    (case l_outs => k_is)
    (case o_outs => k_is)
    (case k_outs => k_is)
    (case a_l_cell => k_is)
    (case l_l_cell => k_is)
    (case o_l_cell => k_is)
    (case k_l_cell => k_is)
    (case a_l_drawn => k_is)
    (case l_l_drawn => k_is)
    (case o_l_drawn => k_is)
    (case k_l_drawn => k_is)
    (case a_l_word => k_is)
    (case l_l_word => k_is)
    (case o_l_word => k_is)
    (case k_l_word => k_is)
    (case a_l_settings => k_is)
    (case l_l_settings => k_is)
    (case o_l_settings => k_is)
    (case k_l_settings => k_is)
    (case a_l_values => k_is)
    (case l_l_values => k_is)
    (case o_l_values => k_is)
    (case k_l_values => k_is)
    (case a_l_steps => k_is)
    (case l_l_steps => k_is)
    (case o_l_steps => k_is)
    (case k_l_steps => k_is)
    (case a_l_told => k_is)
    (case l_l_told => k_is)
    (case o_l_told => k_is)
    (case k_l_told => k_is)
    (case a_l_all => k_is)
    (case l_l_all => k_is)
    (case o_l_all => k_is)
    (case k_l_all => k_is)
    (case a_l_bad => k_is)
    (case l_l_bad => k_is)
    (case o_l_bad => k_is)
    (case k_l_bad => k_is)
    (case a_l_good => k_is)
    (case l_l_good => k_is)
    (case o_l_good => k_is)
    (case k_l_good => k_is)
    (case a_law => k_is)
    (case l_law => k_is)
    (case o_law => k_is)
    (case ch_law => kernel_rfl)
    (case nt_law => kernel_rfl)
    (case k_law => k_is)
