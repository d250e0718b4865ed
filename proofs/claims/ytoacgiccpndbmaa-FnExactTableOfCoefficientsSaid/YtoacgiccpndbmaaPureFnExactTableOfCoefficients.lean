/- What the law FnExactTableOfCoefficients comes to, over numbers and lists alone: at every input both sides tell the same. No conditions but the kinds of the numbers. -/
import Derived.Test.YtoacgiccpndbmaaMath
import Derived.Test.YtoacgiccpndbmaaCof
import Derived.Test.YtoacgiccpndbmaaPx1
import Derived.Test.YtoacgiccpndbmaaPx23
import Derived.Test.YtoacgiccpndbmaaPx26
import Derived.Test.YtoacgiccpndbmaaPx27
import Derived.Test.YtoacgiccpndbmaaPx28
import Derived.Test.YtoacgiccpndbmaaPx29
import Derived.Test.YtoacgiccpndbmaaPx4
import Derived.Test.YtoacgiccpndbmaaPx48
namespace Go.Proofs.Ytoacgiccpndbmaa.Pure
open Go.RowKit Go.Proofs.Ytoacgiccpndbmaa.P Go.Proofs.YtoacgiccpndbmaaW.PrintWords Go.Proofs.YtoacgiccpndbmaaW.PrintLast Go.Proofs.YtoacgiccpndbmaaW.PrintMore Go.Proofs.YtoacgiccpndbmaaMath
set_option linter.unusedVariables false
set_option linter.unusedSimpArgs false

theorem spec_l1In_eq (a b c : Int) : spec_l1In.f a b c = some (decide (b ≤ a ∧ a ≤ c)) := by
  unfold spec_l1In.f
  by_cases h : b ≤ a
  · rw [if_pos h]; simp [h]
  · rw [if_neg h]; simp [h]

theorem impl_bitsOf_yes {n : Nat} (hn : n ≤ 5) : Ev (fun k => impl_bitsOf.f k ((2 ^ n : Nat) : Int)) ((n : Int), true) := by
  unfold impl_bitsOf.f
  refine ev_for (fun k i => impl_bitsOf.l0 k ((2 ^ n : Nat) : Int) (i : Int)) n ?_ ?_
  · intro i hi h
    refine Ev.step (fun k => ?_) h
    have hlt := Nat.pow_lt_pow_right (show 1 < 2 by omega) hi
    simp only [impl_bitsOf.l0]
    rw [if_pos (by omega), if_pos (by omega), shl1 (by omega), if_neg (by omega), w64 (by omega) (by omega)]
    rfl
  · refine ev0 fun k => ?_
    simp only [impl_bitsOf.l0]
    rw [if_pos (by omega), if_pos (by omega), shl1 (by omega), if_pos rfl]
theorem impl_bitsOf_no {m : Nat} (h : ∀ n, n ≤ 5 → m ≠ 2 ^ n) : Ev (fun k => impl_bitsOf.f k (m : Int)) (0, false) := by
  unfold impl_bitsOf.f
  refine ev_for (fun k i => impl_bitsOf.l0 k (m : Int) (i : Int)) 6 ?_ ?_
  · intro i hi hh
    refine Ev.step (fun k => ?_) hh
    have := h i (by omega)
    simp only [impl_bitsOf.l0]
    rw [if_pos (by omega), if_pos (by omega), shl1 (by omega), if_neg (by omega), w64 (by omega) (by omega)]
    rfl
  · refine ev0 fun k => ?_
    simp only [impl_bitsOf.l0]
    rw [if_neg (by omega)]

theorem impl_isBit_eq (a : Int) : impl_isBit.f a = some (decide (0 ≤ a ∧ a ≤ 1)) := by
  unfold impl_isBit.f
  by_cases h : a = 0
  · rw [if_pos h, decide_eq_true (by omega)]
  · rw [if_neg h]
    congr 1
    rw [Bool.eq_iff_iff, beq_iff_eq, decide_eq_true_eq]
    omega

theorem impl_Table_size_eq {n : Nat} (h : n ≤ 62) (W : Int) : impl_Table_size.f n W = some ((2 ^ n : Nat) : Int) := by
  unfold impl_Table_size.f
  rw [if_pos (Int.natCast_nonneg _), shl1 h]

theorem tab_of (l : List Int) : tab l.length (fun i => rd l (i : Int)) = l := by
  apply List.ext_getElem?
  intro i
  unfold tab
  simp only [List.getElem?_map]
  by_cases h : i < l.length
  · simp [h, rd_nat]
  · simp [h]
theorem laws_toIntS_ev (l : List Int) (h : l.length ≤ 1048576) : Ev (fun k => laws_toIntS.f k l) l := by
  unfold laws_toIntS.f
  simp only [if_pos (Int.natCast_nonneg l.length), Int.toNat_natCast, if_pos (show l.length ≤ 35184372088832 by omega)]
  rw [← rwS_zero l.length (fun i => rd l (i : Int))]
  refine ev_for (fun k i => laws_toIntS.l0 k l (rwS l.length i (fun i => rd l (i : Int))) (i : Int)) l.length ?_ ?_
  · intro i hi hh
    refine Ev.step (fun k => ?_) hh
    simp only [laws_toIntS.l0]
    rw [if_pos (Int.ofNat_lt.mpr hi), if_pos (Int.natCast_nonneg _), rwS_len _ (by omega), if_pos (Int.ofNat_lt.mpr hi), Int.toNat_natCast, rwS_at _ hi, rwAt_set, rwAt_next _ hi, w64 (by omega) (by omega)]
    rfl
  · refine ev0 fun k => ?_
    simp only [laws_toIntS.l0]
    rw [if_neg (by omega), rwS_full, tab_of]

theorem laws_eqIntS_ev (l : List Int) (h : l.length ≤ 1048576) : Ev (fun k => laws_eqIntS.f k l l) true := by
  unfold laws_eqIntS.f
  simp only [if_true]
  refine ev_for (fun k i => laws_eqIntS.l0 k l l (i : Int)) l.length ?_ ?_
  · intro i hi hh
    refine Ev.step (fun k => ?_) hh
    simp only [laws_eqIntS.l0]
    rw [if_pos (by omega), if_pos (by omega), if_pos (by omega), if_pos trivial, w64 (by omega) (by omega)]
    rfl
  · refine ev0 fun k => ?_
    simp only [laws_eqIntS.l0]
    rw [if_neg (by omega)]

theorem laws_eqTable_same (b W : Int) : laws_eqTable.f b W b W = some true := by
  unfold laws_eqTable.f
  rw [if_pos rfl, if_pos rfl]

/-- A coefficient, where its set is a part of an input. -/
def cpt (l : List Int) (x m : Nat) : Int := if m &&& x = m then rd l (m : Int) else 0
def cval (l : List Int) (x : Nat) : Int := sumI (x + 1) (cpt l x)
def cwd (l : List Int) : Nat → Nat
  | 0 => 0
  | x + 1 => cwd l x ||| (cval l x).toNat * 2 ^ x
def inR (l : List Int) (m : Nat) : Prop := -1000 ≤ rd l (m : Int) ∧ rd l (m : Int) ≤ 1000
def isB (v : Int) : Prop := 0 ≤ v ∧ v ≤ 1
theorem cwd_lt (l : List Int) (x : Nat) (h : ∀ y, y < x → isB (cval l y)) : cwd l x < 2 ^ x := by
  induction x with
  | zero => simp [cwd]
  | succ x ih =>
    have h1 := ih fun y hy => h y (by omega)
    have h2 := h x (by omega)
    unfold isB at h2
    simp only [cwd]
    have e : 2 ^ (x + 1) = 2 ^ x + 2 ^ x := by rw [Nat.pow_succ]; omega
    refine Nat.or_lt_two_pow (by omega) ?_
    have : (cval l x).toNat ≤ 1 := by omega
    have := Nat.mul_le_mul_right (2 ^ x) this
    have := Nat.two_pow_pos x
    omega
theorem cpt_sum {l : List Int} {x M : Nat} (hM : M ≤ 32) (h : ∀ m, m < M → m &&& x = m → inR l m) : -32000 ≤ sumI M (cpt l x) ∧ sumI M (cpt l x) ≤ 32000 := by
  have := sumI_bound (n := M) (f := cpt l x) (a := -1000) (b := 1000) fun m hm => by
    unfold cpt
    by_cases e : m &&& x = m
    · rw [if_pos e]; exact h m hm e
    · rw [if_neg e]; omega
  omega
/-- The word with one value more. -/
theorem word_step {l : List Int} {x : Nat} (hx : x < 32) (h : ∀ y, y < x → isB (cval l y)) (hb : isB (cval l x)) : Go.bits .or .i64 ((cwd l x : Nat) : Int) (shl .i64 (cval l x) (x : Int)) = ((cwd l (x + 1) : Nat) : Int) := by
  have h1 := cwd_lt l x h
  have hp : 2 ^ x ≤ 2 ^ 31 := Nat.pow_le_pow_right (by omega) (by omega)
  obtain ⟨v, hv⟩ := Int.eq_ofNat_of_zero_le hb.1
  have hv1 : v ≤ 1 := by have := hb.2; omega
  have := Nat.mul_le_mul_right (2 ^ x) hv1
  rw [hv, shlN (by omega), borN (by omega) (by omega)]
  simp only [cwd]
  rw [hv, Int.toNat_natCast]
theorem spec_inner (l : List Int) (n : Int) (W : Int) {x : Nat} (hx : x < l.length) (hl : l.length ≤ 32) (M : Nat) (hM : M ≤ x + 1) (h : ∀ m, m < M → m &&& x = m → inR l m) {r : Int × Int × Bool}
    (hr : Ev (fun k => spec_TableOfCoefficients.l2 k l n W x (sumI M (cpt l x)) M) r) : Ev (fun k => spec_TableOfCoefficients.l2 k l n W x 0 0) r := by
  refine ev_for (fun k m => spec_TableOfCoefficients.l2 k l n W x (sumI m (cpt l x)) (m : Int)) M ?_ hr
  intro m hm hh
  refine Ev.step (fun k => ?_) hh
  have hs := cpt_sum (l := l) (x := x) (M := m) (by omega) fun i hi => h i (by omega)
  simp only [spec_TableOfCoefficients.l2]
  rw [if_pos (by omega), bandN (by omega) (by omega), w64 (x := (m : Int) + 1) (by omega) (by omega)]
  by_cases e : m &&& x = m
  · have hm2 := h m hm e
    have e2 : cpt l x m = rd l (m : Int) := by unfold cpt; rw [if_pos e]
    unfold inR at hm2
    rw [if_pos (by omega), if_pos (by omega), if_pos (by omega), spec_l1In_eq, Option.bind_some, if_pos (by rw [decide_eq_true]; exact hm2), w64 (by omega) (by omega)]
    simp only [sumI]
    rw [e2]
    rfl
  · have e2 : cpt l x m = 0 := by unfold cpt; rw [if_neg e]
    rw [if_neg (by omega)]
    simp only [sumI]
    rw [e2, Int.add_zero]
    rfl
/-- One value of the reference: on to the next, or a failure. -/
theorem spec_value {l : List Int} {n : Int} {x : Nat} (hx : x < l.length) (hl : l.length ≤ 32) (h : ∀ m, m ≤ x → m &&& x = m → inR l m) (hw : ∀ y, y < x → isB (cval l y)) {r : Int × Int × Bool}
    (hyes : isB (cval l x) → Ev (fun k => spec_TableOfCoefficients.l1 k l n ((cwd l (x + 1) : Nat) : Int) ((x + 1 : Nat) : Int)) r) (hno : ¬ isB (cval l x) → r = (0, 0, false)) :
    Ev (fun k => spec_TableOfCoefficients.l1 k l n ((cwd l x : Nat) : Int) (x : Int)) r := by
  refine Ev.step (f := fun k => spec_TableOfCoefficients.l2 k l n ((cwd l x : Nat) : Int) x 0 0) (fun k => ?_) ?_
  · simp only [spec_TableOfCoefficients.l1]
    rw [if_pos (Int.ofNat_lt.mpr hx)]
  refine spec_inner l n _ hx hl (x + 1) (by omega) (fun m hm => h m (by omega)) ?_
  show Ev (fun k => spec_TableOfCoefficients.l2 k l n ((cwd l x : Nat) : Int) x (cval l x) ((x + 1 : Nat) : Int)) r
  by_cases hb : isB (cval l x)
  · refine Ev.step (fun k => ?_) (hyes hb)
    simp only [spec_TableOfCoefficients.l2]
    rw [if_neg (by omega), spec_l1In_eq, Option.bind_some, if_pos (by rw [decide_eq_true]; exact hb), if_pos (Int.natCast_nonneg _), word_step (by omega) hw hb, w64 (by omega) (by omega)]
    rfl
  · rw [hno hb]
    refine ev0 fun k => ?_
    simp only [spec_TableOfCoefficients.l2]
    rw [if_neg (by omega), spec_l1In_eq, Option.bind_some, if_neg (by rw [decide_eq_false (show ¬ ((0 : Int) ≤ cval l x ∧ cval l x ≤ 1) from hb)]; decide)]
theorem spec_to {l : List Int} {n : Int} (hl : l.length ≤ 32) (X : Nat) (hX : X ≤ l.length) (h : ∀ m, m < X → inR l m) (hb : ∀ y, y < X → isB (cval l y)) {r : Int × Int × Bool}
    (hr : Ev (fun k => spec_TableOfCoefficients.l1 k l n ((cwd l X : Nat) : Int) (X : Int)) r) : Ev (fun k => spec_TableOfCoefficients.l1 k l n 0 0) r := by
  refine ev_for (fun k x => spec_TableOfCoefficients.l1 k l n ((cwd l x : Nat) : Int) (x : Int)) X ?_ hr
  intro x hx hh
  exact spec_value (by omega) hl (fun m hm _ => h m (by omega)) (fun y hy => hb y (by omega)) (fun _ => hh) fun hn => absurd (hb x hx) hn
theorem impl_inner (l : List Int) (n W : Int) {x : Nat} (hx : x < l.length) (hl : l.length ≤ 32) (h : ∀ m, m < l.length → inR l m) {r : Int × Int × Bool}
    (hr : Ev (fun k => impl_TableOfCoefficients.l2 k l x (cval l x) l.length x l l.length l.length n W) r) : Ev (fun k => impl_TableOfCoefficients.l2 k l x 0 l.length x l l.length 0 n W) r := by
  have e : cval l x = sumI l.length (cpt l x) := by
    unfold cval
    rw [show l.length = (x + 1) + (l.length - (x + 1)) by omega]
    refine (sumI_tail _ fun m hm => ?_).symm
    unfold cpt
    rw [if_neg]
    intro e
    have : m &&& x ≤ x := Nat.and_le_right
    omega
  rw [e] at hr
  refine ev_for (fun k m => impl_TableOfCoefficients.l2 k l x (sumI m (cpt l x)) l.length x l l.length (m : Int) n W) l.length ?_ hr
  intro m hm hh
  refine Ev.step (fun k => ?_) hh
  have hs := cpt_sum (l := l) (x := x) (M := m) (by omega) fun i hi _ => h i (by omega)
  have hm2 := h m hm
  unfold inR at hm2
  simp only [impl_TableOfCoefficients.l2]
  rw [if_pos (Int.ofNat_lt.mpr hm), if_pos (Int.natCast_nonneg _), if_pos (Int.ofNat_lt.mpr hm), bandnotN (by omega) (by omega), w64 (x := (m : Int) + 1) (by omega) (by omega)]
  by_cases e : m &&& x = m
  · have e2 : cpt l x m = rd l (m : Int) := by unfold cpt; rw [if_pos e]
    rw [if_pos (by rw [e, Nat.xor_self]; rfl), w64 (by omega) (by omega)]
    simp only [sumI]
    rw [e2]
    rfl
  · have e2 : cpt l x m = 0 := by unfold cpt; rw [if_neg e]
    rw [if_neg (fun h => e (xor_zero (by omega)).symm)]
    simp only [sumI]
    rw [e2, Int.add_zero]
    rfl
theorem impl_value {l : List Int} {n : Int} {x : Nat} (hx : x < l.length) (hl : l.length ≤ 32) (h : ∀ m, m < l.length → inR l m) (hw : ∀ y, y < x → isB (cval l y)) {r : Int × Int × Bool}
    (hyes : isB (cval l x) → Ev (fun k => impl_TableOfCoefficients.l1 k l l.length ((x + 1 : Nat) : Int) n ((cwd l (x + 1) : Nat) : Int)) r) (hno : ¬ isB (cval l x) → r = (0, 0, false)) :
    Ev (fun k => impl_TableOfCoefficients.l1 k l l.length (x : Int) n ((cwd l x : Nat) : Int)) r := by
  refine Ev.step (f := fun k => impl_TableOfCoefficients.l2 k l x 0 l.length x l l.length 0 n ((cwd l x : Nat) : Int)) (fun k => ?_) ?_
  · simp only [impl_TableOfCoefficients.l1]
    rw [if_pos (Int.ofNat_lt.mpr hx)]
  refine impl_inner l n _ hx hl h ?_
  by_cases hb : isB (cval l x)
  · refine Ev.step (fun k => ?_) (hyes hb)
    simp only [impl_TableOfCoefficients.l2]
    rw [if_neg (by omega), impl_isBit_eq, Option.bind_some, if_pos (by rw [decide_eq_true]; exact hb), if_pos (Int.natCast_nonneg _), word_step (by omega) hw hb, w64 (by omega) (by omega)]
    rfl
  · rw [hno hb]
    refine ev0 fun k => ?_
    simp only [impl_TableOfCoefficients.l2]
    rw [if_neg (by omega), impl_isBit_eq, Option.bind_some, if_neg (by rw [decide_eq_false (show ¬ ((0 : Int) ≤ cval l x ∧ cval l x ≤ 1) from hb)]; decide)]
theorem impl_to {l : List Int} {n : Int} (hl : l.length ≤ 32) (h : ∀ m, m < l.length → inR l m) (X : Nat) (hX : X ≤ l.length) (hb : ∀ y, y < X → isB (cval l y)) {r : Int × Int × Bool}
    (hr : Ev (fun k => impl_TableOfCoefficients.l1 k l l.length (X : Int) n ((cwd l X : Nat) : Int)) r) : Ev (fun k => impl_TableOfCoefficients.l1 k l l.length 0 n 0) r := by
  refine ev_for (fun k x => impl_TableOfCoefficients.l1 k l l.length (x : Int) n ((cwd l x : Nat) : Int)) X ?_ hr
  intro x hx hh
  exact impl_value (by omega) hl h (fun y hy => hb y (by omega)) (fun _ => hh) fun hn => absurd (hb x hx) hn
/-- The first place where something does not hold. -/
theorem first_not (P : Nat → Prop) (N : Nat) : (∀ i, i < N → P i) ∨ ∃ j, j < N ∧ ¬ P j ∧ ∀ i, i < j → P i := by
  induction N with
  | zero => exact .inl fun i hi => absurd hi (by omega)
  | succ N ih =>
    rcases ih with h | ⟨j, h1, h2, h3⟩
    · by_cases hN : P N
      · refine .inl fun i hi => ?_
        by_cases e : i = N
        · exact e ▸ hN
        · exact h i (by omega)
      · exact .inr ⟨N, by omega, hN, h⟩
    · exact .inr ⟨j, by omega, h2, h3⟩
theorem impl_check {l : List Int} {n : Nat} (hn : n ≤ 5) (hl : l.length = 2 ^ n) {r : Int × Int × Bool} (X : Nat) (hX : X ≤ l.length) (h : ∀ m, m < X → inR l m)
    (hr : Ev (fun k => impl_TableOfCoefficients.l0 k l n l l.length (X : Int)) r) : Ev (fun k => impl_TableOfCoefficients.f k l) r := by
  have hs := pow62 hn
  unfold impl_TableOfCoefficients.f
  have hb := impl_bitsOf_yes hn
  rw [← hl] at hb
  refine ev1 hb (G := fun k => impl_TableOfCoefficients.l0 k l n l l.length 0) (fun k hk => by rw [hk]; rfl) ?_
  refine ev_for (fun k m => impl_TableOfCoefficients.l0 k l n l l.length (m : Int)) X ?_ hr
  intro m hm hh
  refine Ev.step (fun k => ?_) hh
  have hm2 := h m hm
  unfold inR at hm2
  simp only [impl_TableOfCoefficients.l0]
  rw [if_pos (by omega), if_pos (by omega), if_pos (by omega), if_neg (by omega), if_neg (by omega), w64 (by omega) (by omega)]
  rfl
theorem spec_start {l : List Int} {n : Nat} (hn : n ≤ 5) (hl : l.length = 2 ^ n) {r : Int × Int × Bool} (hr : Ev (fun k => spec_TableOfCoefficients.l1 k l n 0 0) r) : Ev (fun k => spec_TableOfCoefficients.f k l) r := by
  unfold spec_TableOfCoefficients.f
  refine ev_for (fun k i => spec_TableOfCoefficients.l0 k l (i : Int)) n ?_ ?_
  · intro i hi h
    refine Ev.step (fun k => ?_) h
    have hlt := Nat.pow_lt_pow_right (show 1 < 2 by omega) hi
    simp only [spec_TableOfCoefficients.l0]
    rw [if_pos (by omega), if_pos (by omega), shl1 (by omega), if_neg (by omega), w64 (by omega) (by omega)]
    rfl
  · refine Ev.step (fun k => ?_) hr
    simp only [spec_TableOfCoefficients.l0]
    rw [if_pos (by omega), if_pos (by omega), shl1 (by omega), if_pos (by omega)]
theorem TableOfCoefficients_key (l : List Int) : ∃ r, Ev (fun k => spec_TableOfCoefficients.f k l) r ∧ Ev (fun k => impl_TableOfCoefficients.f k l) r := by
  by_cases hN : ∃ n, n ≤ 5 ∧ l.length = 2 ^ n
  · obtain ⟨n, hn, hl⟩ := hN
    have hs := pow62 hn
    have hs2 : l.length ≤ 32 := by omega
    rcases first_not (inR l) l.length with hall | ⟨j, hj, hnj, hlt⟩
    · rcases first_not (fun x => isB (cval l x)) l.length with hb | ⟨x, hx, hnx, hbx⟩
      · refine ⟨(n, ((cwd l l.length : Nat) : Int), true), spec_start hn hl (spec_to hs2 l.length (Nat.le_refl _) hall hb (ev0 fun k => ?_)), impl_check hn hl l.length (Nat.le_refl _) hall ?_⟩
        · simp only [spec_TableOfCoefficients.l1]
          rw [if_neg (by omega)]
        · refine Ev.step (f := fun k => impl_TableOfCoefficients.l1 k l l.length 0 n 0) (fun k => ?_) (impl_to hs2 hall l.length (Nat.le_refl _) hb (ev0 fun k => ?_))
          · simp only [impl_TableOfCoefficients.l0]
            rw [if_neg (by omega), show impl_Table_size.f n 0 = some ((2 ^ n : Nat) : Int) from impl_Table_size_eq (by omega) 0, Option.bind_some, hl]
          · simp only [impl_TableOfCoefficients.l1]
            rw [if_neg (by omega)]
      · refine ⟨(0, 0, false), spec_start hn hl (spec_to hs2 x (by omega) (fun m hm => hall m (by omega)) hbx (spec_value hx hs2 (fun m hm _ => hall m (by omega)) hbx (fun h => absurd h hnx) fun _ => rfl)), impl_check hn hl l.length (Nat.le_refl _) hall ?_⟩
        refine Ev.step (f := fun k => impl_TableOfCoefficients.l1 k l l.length 0 n 0) (fun k => ?_) (impl_to hs2 hall x (by omega) hbx (impl_value hx hs2 hall hbx (fun h => absurd h hnx) fun _ => rfl))
        simp only [impl_TableOfCoefficients.l0]
        rw [if_neg (by omega), show impl_Table_size.f n 0 = some ((2 ^ n : Nat) : Int) from impl_Table_size_eq (by omega) 0, Option.bind_some, hl]
    · refine ⟨(0, 0, false), spec_start hn hl ?_, impl_check hn hl j (by omega) hlt (ev0 fun k => ?_)⟩
      · have out : ∀ {W : Int}, Ev (fun k => spec_TableOfCoefficients.l1 k l n W (j : Int)) (0, 0, false) := by
          intro W
          refine Ev.step (f := fun k => spec_TableOfCoefficients.l2 k l n W j 0 0) (fun k => ?_) ?_
          · simp only [spec_TableOfCoefficients.l1]
            rw [if_pos (Int.ofNat_lt.mpr hj)]
          · refine spec_inner l n W hj hs2 j (by omega) (fun m hm _ => hlt m hm) (ev0 fun k => ?_)
            simp only [spec_TableOfCoefficients.l2]
            rw [if_pos (by omega), bandN (by omega) (by omega), if_pos (by rw [Nat.and_self]), if_pos (by omega), if_pos (by omega), spec_l1In_eq, Option.bind_some, if_neg (by rw [decide_eq_false (show ¬ ((-1000 : Int) ≤ rd l (j : Int) ∧ rd l (j : Int) ≤ 1000) from hnj)]; decide)]
        rcases first_not (fun x => isB (cval l x)) j with hb | ⟨x, hx, hnx, hbx⟩
        · exact spec_to hs2 j (by omega) hlt hb out
        · exact spec_to hs2 x (by omega) (fun m hm => hlt m (by omega)) hbx (spec_value (by omega) hs2 (fun m hm _ => hlt m (by omega)) hbx (fun h => absurd h hnx) fun _ => rfl)
      · simp only [impl_TableOfCoefficients.l0]
        unfold inR at hnj
        rw [if_pos (by omega), if_pos (by omega), if_pos (by omega)]
        by_cases e : rd l (j : Int) < -1000
        · rw [if_pos e]
        · rw [if_neg e, if_pos (by omega)]
  · have hno : ∀ n, n ≤ 5 → l.length ≠ 2 ^ n := fun n hn e => hN ⟨n, hn, e⟩
    refine ⟨(0, 0, false), ?_, ?_⟩
    · unfold spec_TableOfCoefficients.f
      refine ev_for (fun k i => spec_TableOfCoefficients.l0 k l (i : Int)) 6 ?_ ?_
      · intro i hi h
        refine Ev.step (fun k => ?_) h
        have := hno i (by omega)
        simp only [spec_TableOfCoefficients.l0]
        rw [if_pos (by omega), if_pos (by omega), shl1 (by omega), if_neg (by omega), w64 (by omega) (by omega)]
        rfl
      · refine ev0 fun k => ?_
        simp only [spec_TableOfCoefficients.l0]
        rw [if_neg (by omega)]
    · unfold impl_TableOfCoefficients.f
      exact ev1' (impl_bitsOf_no hno) fun k hk => by rw [hk]; rfl
theorem FnExactTableOfCoefficients (l : List Int) (hm : l.length ≤ maxLen) (hr : l.length * 8 ≤ 140737488351232) (hw : ∀ x ∈ l, (Lit.int .i64 x).wf = true) : ∃ k, laws_FnExactTableOfCoefficients.f k l = some true := by
  unfold laws_FnExactTableOfCoefficients.f
  by_cases h : (l.length : Int) > 1048576
  · exact ⟨0, by rw [if_pos h]⟩
  · simp only [if_neg h]
    obtain ⟨⟨a, b, c⟩, h1, h2⟩ := TableOfCoefficients_key l
    have ht := laws_toIntS_ev l (by omega)
    obtain ⟨k, e1, e2, e3, e4, _⟩ := ev_five ht h1 h2 (laws_eqIntS_ev l (by omega)) ht
    refine ⟨k + 1, ?_⟩
    have f1 := at_rounds (g := fun k => laws_toIntS.f k l) (fun k => laws_toIntS.mono _ k) (show k ≤ k + 1 by omega) e1
    have f2 := at_rounds (g := fun k => spec_TableOfCoefficients.f k l) (fun k => spec_TableOfCoefficients.mono _ k) (show k ≤ k + 1 by omega) e2
    have f3 := at_rounds (g := fun k => impl_TableOfCoefficients.f k l) (fun k => impl_TableOfCoefficients.mono _ k) (show k ≤ k + 1 by omega) e3
    simp only [f1, f2, f3, Option.bind_some, laws_eqTable_same, if_true, bne_self_eq_false]
    simp only [laws_FnExactTableOfCoefficients.j0, Bool.false_eq_true, if_false, e1, e4, Option.bind_some, if_true]

end Go.Proofs.Ytoacgiccpndbmaa.Pure
