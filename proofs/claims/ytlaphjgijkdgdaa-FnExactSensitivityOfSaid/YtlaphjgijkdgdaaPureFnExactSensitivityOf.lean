/- What the law FnExactSensitivityOf comes to, over numbers and lists alone: at every input both sides tell the same. No conditions but the kinds of the numbers. -/
import Derived.Test.YtlaphjgijkdgdaaMath
import Derived.Test.YtlaphjgijkdgdaaPx1
import Derived.Test.YtlaphjgijkdgdaaPx10
import Derived.Test.YtlaphjgijkdgdaaPx11
import Derived.Test.YtlaphjgijkdgdaaPx12
import Derived.Test.YtlaphjgijkdgdaaPx3
import Derived.Test.YtlaphjgijkdgdaaPx4
import Derived.Test.YtlaphjgijkdgdaaPx5
import Derived.Test.YtlaphjgijkdgdaaPx9
namespace Go.Proofs.Ytlaphjgijkdgdaa.Pure
open Go.RowKit Go.Proofs.Ytlaphjgijkdgdaa.P Go.Proofs.YtlaphjgijkdgdaaW.PrintWords Go.Proofs.YtlaphjgijkdgdaaW.PrintLast Go.Proofs.YtlaphjgijkdgdaaW.PrintMore Go.Proofs.YtlaphjgijkdgdaaMath
set_option linter.unusedVariables false
set_option linter.unusedSimpArgs false

theorem spec_IsTable_eq (b W : Int) : spec_IsTable.f b W = some (isTab b W) := rfl

theorem spec_l10At_ev {n w : Nat} (t : Tab n w) {x : Nat} (hx : x < 4294967296) : Ev (fun k => spec_l10At.f k n w x) (sens n w x) := by
  have hn := t.hn
  unfold spec_l10At.f
  refine ev_for (fun k i => spec_l10At.l0 k x (sumI i fun i => b2i (chg w x (2 ^ i))) (i : Int) n w) n ?_ ?_
  · intro i hi h
    refine Ev.step (fun k => ?_) h
    have hp : 2 ^ i ≤ 32 := pow62 (by omega)
    have hb := sum_b2i i fun i => chg w x (2 ^ i)
    have hc := b2i_range (chg w x (2 ^ i))
    simp only [spec_l10At.l0]
    rw [if_pos (by omega), if_pos (by omega), if_pos (by omega), shl1 (by omega), bxorN (by omega) (by omega), if_pos (Int.natCast_nonneg _), at3 t.w63]
    rw [w64 (by omega) (by omega), w64 (by omega) (by omega)]
    rfl
  · refine ev0 fun k => ?_
    simp only [spec_l10At.l0]
    rw [if_neg (by omega)]
    rfl

theorem impl_isBits_eq (b : Int) : impl_isBits.f b = some (decide (0 ≤ b ∧ b ≤ 5)) := by
  unfold impl_isBits.f
  by_cases h : b ≥ 0
  · rw [if_pos h]; simp [show 0 ≤ b from h]
  · rw [if_neg h]; simp [show ¬ 0 ≤ b from h]

theorem impl_Table_size_eq {n : Nat} (h : n ≤ 62) (W : Int) : impl_Table_size.f n W = some ((2 ^ n : Nat) : Int) := by
  unfold impl_Table_size.f
  rw [if_pos (Int.natCast_nonneg _), shl1 h]

theorem impl_IsTable_eq (b W : Int) : impl_IsTable.f b W = some (isTab b W) := by
  unfold impl_IsTable.f
  rw [impl_isBits_eq, Option.bind_some]
  by_cases h : 0 ≤ b ∧ b ≤ 5
  · obtain ⟨n, rfl⟩ := Int.eq_ofNat_of_zero_le h.1
    rw [if_pos (decide_eq_true h)]
    by_cases h2 : W ≥ 0
    · rw [if_pos h2]
      obtain ⟨w, rfl⟩ := Int.eq_ofNat_of_zero_le h2
      have hp : 2 ^ n ≤ 2 ^ 5 := Nat.pow_le_pow_right (by omega) (by omega)
      rw [impl_Table_size_eq (by omega), Option.bind_some, if_pos (Int.natCast_nonneg _), shrS (by omega)]
      congr 1
      unfold isTab
      rw [Bool.eq_iff_iff, decide_eq_true_iff, beq_iff_eq, Int.toNat_natCast]
      have e : ((2 : Int) ^ 2 ^ n) = ((2 ^ 2 ^ n : Nat) : Int) := by push_cast; rfl
      rw [e]
      have hd : w / 2 ^ 2 ^ n = 0 ↔ w < 2 ^ 2 ^ n := by rw [Nat.div_eq_zero_iff]; have := Nat.two_pow_pos (2 ^ n); omega
      constructor
      · intro h3
        have := hd.1 (by omega)
        omega
      · rintro ⟨_, _, _, h4⟩
        have := hd.2 (by omega)
        omega
    · rw [if_neg h2, show isTab n W = false from decide_eq_false fun h3 => h2 h3.2.2.1]
  · rw [if_neg (by rw [decide_eq_false h]; decide), show isTab b W = false from decide_eq_false fun h3 => h ⟨h3.1, h3.2.1⟩]

theorem impl_Table_at_eq {n w : Nat} (t : Tab n w) (x : Nat) : impl_Table_at.f n w x = some (b2i (w.testBit x)) := by
  unfold impl_Table_at.f
  rw [if_pos (Int.natCast_nonneg _), at1 t.w63]

theorem impl_Table_changes_eq {n w : Nat} (t : Tab n w) {x y : Nat} (hx : x < 4294967296) (hy : y < 4294967296) : impl_Table_changes.f n w x y = some (chg w x y) := by
  unfold impl_Table_changes.f
  rw [impl_Table_at_eq t, Option.bind_some, bxorN (by omega) (by omega), impl_Table_at_eq t, Option.bind_some, b2i_ne]
  rfl

theorem impl_Table_sensitivity_ev {n w : Nat} (t : Tab n w) {x : Nat} (hx : x < 4294967296) : Ev (fun k => impl_Table_sensitivity.f k n w x) (sens n w x) := by
  have hn := t.hn
  unfold impl_Table_sensitivity.f
  refine ev_for (fun k i => impl_Table_sensitivity.l0 k x (sumI i fun i => b2i (chg w x (2 ^ i))) n (i : Int) n w) n ?_ ?_
  · intro i hi h
    refine Ev.step (fun k => ?_) h
    have hp : 2 ^ i ≤ 32 := pow62 (by omega)
    have hb := sum_b2i i fun i => chg w x (2 ^ i)
    simp only [impl_Table_sensitivity.l0]
    rw [if_pos (by omega), if_pos (by omega), shl1 (by omega), impl_Table_changes_eq t hx (by omega), Option.bind_some, w64 (x := (i : Int) + 1) (by omega) (by omega)]
    simp only [sumI]
    by_cases hc : chg w x (2 ^ i) = true
    · rw [if_pos hc, hc, w64 (by omega) (by omega)]
      rfl
    · rw [if_neg hc, Bool.eq_false_iff.mpr hc]
      simp only [b2i, Bool.false_eq_true, if_false, Int.add_zero]
      rfl
  · refine ev0 fun k => ?_
    simp only [impl_Table_sensitivity.l0]
    rw [if_neg (by omega)]
    rfl

theorem laws_toTable_eq (b W : Int) : laws_toTable.f b W = some (b, W) := rfl

theorem spec_SensitivityOf_ev {n w : Nat} (t : Tab n w) : Ev (fun k => spec_SensitivityOf.f k n w) (maxI (2 ^ n) (fun x => sens n w x) 0) := by
  have hn := t.hn
  have hs := t.size
  unfold spec_SensitivityOf.f
  simp only [spec_IsTable_eq, isTab_mk t, Option.bind_some, if_true]
  refine ev_for (fun k x => spec_SensitivityOf.l0 k (maxI x (fun x => sens n w x) 0) (x : Int) n w) (2 ^ n) ?_ ?_
  · intro x hx h
    refine evs1 (spec_l10At_ev t (x := x) (by omega)) (fun k hk => ?_) h
    simp only [spec_SensitivityOf.l0]
    rw [if_pos (by omega), shl1 (by omega), if_pos (Int.ofNat_lt.mpr hx), hk, Option.bind_some, w64 (by omega) (by omega)]
    rfl
  · refine ev0 fun k => ?_
    simp only [spec_SensitivityOf.l0]
    rw [if_pos (by omega), shl1 (by omega), if_neg (by omega)]
theorem impl_SensitivityOf_ev {n w : Nat} (t : Tab n w) : Ev (fun k => impl_SensitivityOf.f k n w) (maxI (2 ^ n) (fun x => sens n w x) 0) := by
  have hn := t.hn
  have hs := t.size
  unfold impl_SensitivityOf.f
  simp only [impl_IsTable_eq, isTab_mk t, Option.bind_some, if_true, impl_Table_size_eq (show n ≤ 62 by omega)]
  refine ev_for (fun k x => impl_SensitivityOf.l0 k (maxI x (fun x => sens n w x) 0) ((2 ^ n : Nat) : Int) (x : Int) n w) (2 ^ n) ?_ ?_
  · intro x hx h
    refine evs1 (impl_Table_sensitivity_ev t (x := x) (by omega)) (fun k hk => ?_) h
    simp only [impl_SensitivityOf.l0]
    rw [if_pos (Int.ofNat_lt.mpr hx), hk, Option.bind_some, w64 (by omega) (by omega)]
    rfl
  · refine ev0 fun k => ?_
    simp only [impl_SensitivityOf.l0]
    rw [if_neg (by omega)]
theorem FnExactSensitivityOf (b W : Int) (hb : (Lit.int .i64 b).wf = true) (hW : (Lit.int .i64 W).wf = true) : ∃ k, laws_FnExactSensitivityOf.f k b W = some true := by
  have key : ∃ r, Ev (fun k => spec_SensitivityOf.f k b W) r ∧ Ev (fun k => impl_SensitivityOf.f k b W) r := by
    by_cases h : isTab b W = true
    · obtain ⟨n, w, rfl, rfl, t⟩ := isTab_yes h
      exact ⟨_, spec_SensitivityOf_ev t, impl_SensitivityOf_ev t⟩
    · unfold spec_SensitivityOf.f impl_SensitivityOf.f
      simp only [spec_IsTable_eq, impl_IsTable_eq, Option.bind_some, if_neg h]
      exact ⟨_, Ev.now _, Ev.now _⟩
  obtain ⟨r, h1, h2⟩ := key
  refine Ev.rounds ?_
  unfold laws_FnExactSensitivityOf.f
  simp only [laws_toTable_eq, Option.bind_some]
  refine ev1 h1 (G := fun k => (impl_SensitivityOf.f k b W).bind fun t => if t = r then some true else some false) (fun k hk => by rw [hk]; rfl) ?_
  exact ev1' h2 fun k hk => by rw [hk]; simp

end Go.Proofs.Ytlaphjgijkdgdaa.Pure
