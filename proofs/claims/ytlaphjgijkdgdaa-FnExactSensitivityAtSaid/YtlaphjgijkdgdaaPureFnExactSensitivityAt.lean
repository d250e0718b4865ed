/- What the law FnExactSensitivityAt comes to, over numbers and lists alone: at every input both sides tell the same. No conditions but the kinds of the numbers. -/
import Derived.Test.YtlaphjgijkdgdaaMath
import Derived.Test.YtlaphjgijkdgdaaPx1
import Derived.Test.YtlaphjgijkdgdaaPx10
import Derived.Test.YtlaphjgijkdgdaaPx3
import Derived.Test.YtlaphjgijkdgdaaPx4
import Derived.Test.YtlaphjgijkdgdaaPx5
import Derived.Test.YtlaphjgijkdgdaaPx9
namespace Go.Proofs.Ytlaphjgijkdgdaa.Pure
open Go.RowKit Go.Proofs.Ytlaphjgijkdgdaa.P Go.Proofs.YtlaphjgijkdgdaaW.PrintWords Go.Proofs.YtlaphjgijkdgdaaW.PrintLast Go.Proofs.YtlaphjgijkdgdaaW.PrintMore Go.Proofs.YtlaphjgijkdgdaaMath
set_option linter.unusedVariables false
set_option linter.unusedSimpArgs false

theorem spec_IsTable_eq (b W : Int) : spec_IsTable.f b W = some (isTab b W) := rfl

theorem spec_l1In_eq (a b c : Int) : spec_l1In.f a b c = some (decide (b ≤ a ∧ a ≤ c)) := by
  unfold spec_l1In.f
  by_cases h : b ≤ a
  · rw [if_pos h]; simp [h]
  · rw [if_neg h]; simp [h]

theorem spec_l9In_eq (b W x : Int) : spec_l9In.f b W x = some (isTab b W && isInp b x) := by
  unfold spec_l9In.f
  rw [spec_IsTable_eq, Option.bind_some]
  by_cases h : isTab b W = true
  · obtain ⟨n, w, rfl, rfl, t⟩ := isTab_yes h
    rw [if_pos h, if_pos (Int.natCast_nonneg _), spec_l1In_eq, Option.bind_some, h, Bool.true_and, shl1m (by have := t.hn; omega), isInp_le]
  · rw [if_neg h, Bool.eq_false_iff.mpr h, Bool.false_and]

theorem spec_l10At_ev {n w : Nat} (t : Tab n w) {x : Nat} (hx : x < 4294967296) : Ev (fun k => spec_l10At.f k n w x) (sens n w x) := by
  have hn := t.hn
  unfold spec_l10At.f
  refine ev_for (fun k i => spec_l10At.l0 k x (sumI i fun i => b2i (chg w x (2 ^ i))) (i : Int) n w) n ?_ ?_
  · intro i hi h
    refine Ev.step (fun k => ?_) h
    have hp : 2 ^ i ≤ 32 := pow62 (by omega)
    have hb := sum_b2i i fun i => chg w x (2 ^ i)
    have hc := b2i_range (chg w x (2 ^ i))
    simp only [spec_l10At.l0]
    rw [if_pos (by omega), if_pos (by omega), if_pos (by omega), shl1 (by omega), bxorN (by omega) (by omega), if_pos (Int.natCast_nonneg _), at3 t.w63]
    rw [w64 (by omega) (by omega), w64 (by omega) (by omega)]
    rfl
  · refine ev0 fun k => ?_
    simp only [spec_l10At.l0]
    rw [if_neg (by omega)]
    rfl

theorem impl_isBits_eq (b : Int) : impl_isBits.f b = some (decide (0 ≤ b ∧ b ≤ 5)) := by
  unfold impl_isBits.f
  by_cases h : b ≥ 0
  · rw [if_pos h]; simp [show 0 ≤ b from h]
  · rw [if_neg h]; simp [show ¬ 0 ≤ b from h]

theorem impl_Table_size_eq {n : Nat} (h : n ≤ 62) (W : Int) : impl_Table_size.f n W = some ((2 ^ n : Nat) : Int) := by
  unfold impl_Table_size.f
  rw [if_pos (Int.natCast_nonneg _), shl1 h]

theorem impl_IsTable_eq (b W : Int) : impl_IsTable.f b W = some (isTab b W) := by
  unfold impl_IsTable.f
  rw [impl_isBits_eq, Option.bind_some]
  by_cases h : 0 ≤ b ∧ b ≤ 5
  · obtain ⟨n, rfl⟩ := Int.eq_ofNat_of_zero_le h.1
    rw [if_pos (decide_eq_true h)]
    by_cases h2 : W ≥ 0
    · rw [if_pos h2]
      obtain ⟨w, rfl⟩ := Int.eq_ofNat_of_zero_le h2
      have hp : 2 ^ n ≤ 2 ^ 5 := Nat.pow_le_pow_right (by omega) (by omega)
      rw [impl_Table_size_eq (by omega), Option.bind_some, if_pos (Int.natCast_nonneg _), shrS (by omega)]
      congr 1
      unfold isTab
      rw [Bool.eq_iff_iff, decide_eq_true_iff, beq_iff_eq, Int.toNat_natCast]
      have e : ((2 : Int) ^ 2 ^ n) = ((2 ^ 2 ^ n : Nat) : Int) := by push_cast; rfl
      rw [e]
      have hd : w / 2 ^ 2 ^ n = 0 ↔ w < 2 ^ 2 ^ n := by rw [Nat.div_eq_zero_iff]; have := Nat.two_pow_pos (2 ^ n); omega
      constructor
      · intro h3
        have := hd.1 (by omega)
        omega
      · rintro ⟨_, _, _, h4⟩
        have := hd.2 (by omega)
        omega
    · rw [if_neg h2, show isTab n W = false from decide_eq_false fun h3 => h2 h3.2.2.1]
  · rw [if_neg (by rw [decide_eq_false h]; decide), show isTab b W = false from decide_eq_false fun h3 => h ⟨h3.1, h3.2.1⟩]

theorem impl_isInput_eq {n : Nat} (h : n ≤ 62) (x : Int) : impl_isInput.f n x = some (isInp n x) := by
  unfold impl_isInput.f
  by_cases h0 : x ≥ 0
  · rw [if_pos h0, if_pos (Int.natCast_nonneg _), shl1 h, isInp_lt h0]
  · rw [if_neg h0, show isInp n x = false from decide_eq_false fun h3 => h0 h3.1]

theorem impl_hasInput_eq (b W x : Int) : impl_hasInput.f b W x = some (isTab b W && isInp b x) := by
  unfold impl_hasInput.f
  rw [impl_IsTable_eq, Option.bind_some]
  by_cases h : isTab b W = true
  · obtain ⟨n, w, rfl, rfl, t⟩ := isTab_yes h
    rw [if_pos h, impl_isInput_eq (by have := t.hn; omega), Option.bind_some, h, Bool.true_and]
  · rw [if_neg h, Bool.eq_false_iff.mpr h, Bool.false_and]

theorem impl_Table_at_eq {n w : Nat} (t : Tab n w) (x : Nat) : impl_Table_at.f n w x = some (b2i (w.testBit x)) := by
  unfold impl_Table_at.f
  rw [if_pos (Int.natCast_nonneg _), at1 t.w63]

theorem impl_Table_changes_eq {n w : Nat} (t : Tab n w) {x y : Nat} (hx : x < 4294967296) (hy : y < 4294967296) : impl_Table_changes.f n w x y = some (chg w x y) := by
  unfold impl_Table_changes.f
  rw [impl_Table_at_eq t, Option.bind_some, bxorN (by omega) (by omega), impl_Table_at_eq t, Option.bind_some, b2i_ne]
  rfl

theorem impl_Table_sensitivity_ev {n w : Nat} (t : Tab n w) {x : Nat} (hx : x < 4294967296) : Ev (fun k => impl_Table_sensitivity.f k n w x) (sens n w x) := by
  have hn := t.hn
  unfold impl_Table_sensitivity.f
  refine ev_for (fun k i => impl_Table_sensitivity.l0 k x (sumI i fun i => b2i (chg w x (2 ^ i))) n (i : Int) n w) n ?_ ?_
  · intro i hi h
    refine Ev.step (fun k => ?_) h
    have hp : 2 ^ i ≤ 32 := pow62 (by omega)
    have hb := sum_b2i i fun i => chg w x (2 ^ i)
    simp only [impl_Table_sensitivity.l0]
    rw [if_pos (by omega), if_pos (by omega), shl1 (by omega), impl_Table_changes_eq t hx (by omega), Option.bind_some, w64 (x := (i : Int) + 1) (by omega) (by omega)]
    simp only [sumI]
    by_cases hc : chg w x (2 ^ i) = true
    · rw [if_pos hc, hc, w64 (by omega) (by omega)]
      rfl
    · rw [if_neg hc, Bool.eq_false_iff.mpr hc]
      simp only [b2i, Bool.false_eq_true, if_false, Int.add_zero]
      rfl
  · refine ev0 fun k => ?_
    simp only [impl_Table_sensitivity.l0]
    rw [if_neg (by omega)]
    rfl

theorem laws_toTable_eq (b W : Int) : laws_toTable.f b W = some (b, W) := rfl

theorem FnExactSensitivityAt (b W x : Int) (hb : (Lit.int .i64 b).wf = true) (hW : (Lit.int .i64 W).wf = true) (hx : (Lit.int .i64 x).wf = true) : ∃ k, laws_FnExactSensitivityAt.f k b W x = some true := by
  have key : ∃ r, Ev (fun k => spec_SensitivityAt.f k b W x) r ∧ Ev (fun k => impl_SensitivityAt.f k b W x) r := by
    unfold spec_SensitivityAt.f impl_SensitivityAt.f
    simp only [spec_l9In_eq, impl_hasInput_eq, Option.bind_some]
    by_cases h : (isTab b W && isInp b x) = true
    · simp only [if_pos h]
      rw [Bool.and_eq_true] at h
      obtain ⟨n, w, rfl, rfl, t⟩ := isTab_yes h.1
      obtain ⟨x, rfl, hx⟩ := isInp_yes h.2
      have hs := t.size
      exact ⟨sens n w x, ev1' (spec_l10At_ev t (x := x) (by omega)) fun k hk => by rw [hk]; rfl, ev1' (impl_Table_sensitivity_ev t (x := x) (by omega)) fun k hk => by rw [hk]; rfl⟩
    · simp only [if_neg h]
      exact ⟨_, Ev.now _, Ev.now _⟩
  obtain ⟨r, h1, h2⟩ := key
  refine Ev.rounds ?_
  unfold laws_FnExactSensitivityAt.f
  simp only [laws_toTable_eq, Option.bind_some]
  refine ev1 h1 (G := fun k => (impl_SensitivityAt.f k b W x).bind fun t => if t = r then some true else some false) (fun k hk => by rw [hk]; rfl) ?_
  exact ev1' h2 fun k hk => by rw [hk]; simp

end Go.Proofs.Ytlaphjgijkdgdaa.Pure
