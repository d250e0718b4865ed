/- What the law FnExactDistanceBetween comes to, over numbers and lists alone: at every input both sides tell the same. No conditions but the kinds of the numbers. -/
import Derived.Test.YtoacgiccpndbmaaMath
import Derived.Test.YtoacgiccpndbmaaPop
import Derived.Test.YtoacgiccpndbmaaPx1
import Derived.Test.YtoacgiccpndbmaaPx3
import Derived.Test.YtoacgiccpndbmaaPx4
import Derived.Test.YtoacgiccpndbmaaPx6
import Derived.Test.YtoacgiccpndbmaaPx7
import Derived.Test.YtoacgiccpndbmaaPx8
namespace Go.Proofs.Ytoacgiccpndbmaa.Pure
open Go.RowKit Go.Proofs.Ytoacgiccpndbmaa.P Go.Proofs.YtoacgiccpndbmaaW.PrintWords Go.Proofs.YtoacgiccpndbmaaW.PrintLast Go.Proofs.YtoacgiccpndbmaaW.PrintMore Go.Proofs.YtoacgiccpndbmaaMath
set_option linter.unusedVariables false
set_option linter.unusedSimpArgs false

theorem spec_IsTable_eq (b W : Int) : spec_IsTable.f b W = some (isTab b W) := rfl

theorem spec_l2Fit_eq (b W c V : Int) : spec_l2Fit.f b W c V = some (isTab b W && (isTab c V && b == c)) := by
  unfold spec_l2Fit.f
  rw [spec_IsTable_eq, Option.bind_some]
  by_cases h : isTab b W = true
  · rw [if_pos h, spec_IsTable_eq, Option.bind_some, h, Bool.true_and]
    by_cases h2 : isTab c V = true
    · rw [if_pos h2, h2, Bool.true_and]
    · rw [if_neg h2, Bool.eq_false_iff.mpr h2, Bool.false_and]
  · rw [if_neg h, Bool.eq_false_iff.mpr h, Bool.false_and]

theorem impl_isBits_eq (b : Int) : impl_isBits.f b = some (decide (0 ≤ b ∧ b ≤ 5)) := by
  unfold impl_isBits.f
  by_cases h : b ≥ 0
  · rw [if_pos h]; simp [show 0 ≤ b from h]
  · rw [if_neg h]; simp [show ¬ 0 ≤ b from h]

theorem impl_Table_size_eq {n : Nat} (h : n ≤ 62) (W : Int) : impl_Table_size.f n W = some ((2 ^ n : Nat) : Int) := by
  unfold impl_Table_size.f
  rw [if_pos (Int.natCast_nonneg _), shl1 h]

theorem impl_IsTable_eq (b W : Int) : impl_IsTable.f b W = some (isTab b W) := by
  unfold impl_IsTable.f
  rw [impl_isBits_eq, Option.bind_some]
  by_cases h : 0 ≤ b ∧ b ≤ 5
  · obtain ⟨n, rfl⟩ := Int.eq_ofNat_of_zero_le h.1
    rw [if_pos (decide_eq_true h)]
    by_cases h2 : W ≥ 0
    · rw [if_pos h2]
      obtain ⟨w, rfl⟩ := Int.eq_ofNat_of_zero_le h2
      have hp : 2 ^ n ≤ 2 ^ 5 := Nat.pow_le_pow_right (by omega) (by omega)
      rw [impl_Table_size_eq (by omega), Option.bind_some, if_pos (Int.natCast_nonneg _), shrS (by omega)]
      congr 1
      unfold isTab
      rw [Bool.eq_iff_iff, decide_eq_true_iff, beq_iff_eq, Int.toNat_natCast]
      have e : ((2 : Int) ^ 2 ^ n) = ((2 ^ 2 ^ n : Nat) : Int) := by push_cast; rfl
      rw [e]
      have hd : w / 2 ^ 2 ^ n = 0 ↔ w < 2 ^ 2 ^ n := by rw [Nat.div_eq_zero_iff]; have := Nat.two_pow_pos (2 ^ n); omega
      constructor
      · intro h3
        have := hd.1 (by omega)
        omega
      · rintro ⟨_, _, _, h4⟩
        have := hd.2 (by omega)
        omega
    · rw [if_neg h2, show isTab n W = false from decide_eq_false fun h3 => h2 h3.2.2.1]
  · rw [if_neg (by rw [decide_eq_false h]; decide), show isTab b W = false from decide_eq_false fun h3 => h ⟨h3.1, h3.2.1⟩]

theorem impl_areTables_eq (b W c V : Int) : impl_areTables.f b W c V = some (isTab b W && (isTab c V && b == c)) := by
  unfold impl_areTables.f
  rw [impl_IsTable_eq, Option.bind_some]
  by_cases h : isTab b W = true
  · rw [if_pos h, impl_IsTable_eq, Option.bind_some, h, Bool.true_and]
    by_cases h2 : isTab c V = true
    · rw [if_pos h2, h2, Bool.true_and]
    · rw [if_neg h2, Bool.eq_false_iff.mpr h2, Bool.false_and]
  · rw [if_neg h, Bool.eq_false_iff.mpr h, Bool.false_and]

theorem spec_l2Count_l (j : Nat) : ∀ (x : Nat) (s : Nat), j ≤ 32 → x < 2 ^ j → s + j ≤ 64 → Ev (fun k => spec_l2Count.l0 k s x) ((s + pcf j x : Nat) : Int) := by
  induction j with
  | zero =>
    intro x s _ h _
    obtain rfl : x = 0 := by simpa using h
    refine ev0 fun k => ?_
    simp only [spec_l2Count.l0]
    rw [if_neg (by omega)]
    rfl
  | succ j ih =>
    intro x s hj h hs
    have hp : 2 ^ (j + 1) ≤ 2 ^ 32 := Nat.pow_le_pow_right (by omega) hj
    by_cases hx : x = 0
    · subst hx
      refine ev0 fun k => ?_
      simp only [spec_l2Count.l0]
      rw [if_neg (by omega), pcf_zero]
      rfl
    · have := ih (x / 2) (s + x % 2) (by omega) (by rw [Nat.pow_succ] at h; omega) (by omega)
      simp only [pcf]
      rw [← Nat.add_assoc]
      refine Ev.step (fun k => ?_) this
      simp only [spec_l2Count.l0]
      rw [if_pos (by omega), show (1 : Int) = ((1 : Nat) : Int) from rfl, bandN (by omega) (by omega), Nat.and_one_is_mod, ← Int.natCast_add, w64 (by omega) (by omega)]
      rfl
theorem spec_l2Count_ev {x : Nat} (h : x < 4294967296) : Ev (fun k => spec_l2Count.f k x) ((pc x : Nat) : Int) := by
  have := spec_l2Count_l 32 x 0 (by omega) (by omega) (by omega)
  rw [Nat.zero_add] at this
  exact this

theorem bits_OnesCount64_eq {a : Nat} (h : a < 4294967296) : bits_OnesCount64.f a = some ((pc a : Nat) : Int) := by
  obtain ⟨c0, c1, c2, c3, g0, g1, g2, g3, hv, hp, l1, l2⟩ := n123 h
  have e1 : IntKind.u64.wrap ((Go.bits .and .u64 ((a : Int) / 2) 6148914691236517205) + (Go.bits .and .u64 (a : Int) 6148914691236517205)) = ((n1 a : Nat) : Int) := by
    rw [show (a : Int) / 2 = ((a / 2 : Nat) : Int) by omega, show (6148914691236517205 : Int) = ((6148914691236517205 : Nat) : Int) from rfl, uand (by omega) (by omega), uand (by omega) (by omega), ← Int.natCast_add]
    exact uwrap (by unfold n1 at l1; omega)
  have e2 : IntKind.u64.wrap ((Go.bits .and .u64 (((n1 a : Nat) : Int) / 4) 3689348814741910323) + (Go.bits .and .u64 ((n1 a : Nat) : Int) 3689348814741910323)) = ((n2 (n1 a) : Nat) : Int) := by
    rw [show ((n1 a : Nat) : Int) / 4 = ((n1 a / 4 : Nat) : Int) by omega, show (3689348814741910323 : Int) = ((3689348814741910323 : Nat) : Int) from rfl, uand (by omega) (by omega), uand (by omega) (by omega), ← Int.natCast_add]
    exact uwrap (by unfold n2 at l2; omega)
  have e3 : Go.bits .and .u64 (IntKind.u64.wrap ((((n2 (n1 a) : Nat) : Int) / 16) + ((n2 (n1 a) : Nat) : Int))) 1085102592571150095 = ((n3 (n2 (n1 a)) : Nat) : Int) := by
    rw [show ((n2 (n1 a) : Nat) : Int) / 16 = ((n2 (n1 a) / 16 : Nat) : Int) by omega, ← Int.natCast_add, uwrap (by omega), show (1085102592571150095 : Int) = ((1085102592571150095 : Nat) : Int) from rfl, uand (by omega) (by omega)]
    rfl
  unfold bits_OnesCount64.f
  rw [e1, e2, e3, hv]
  rw [fold4 g0 g1 g2 g3, fold5 g0 g1 g2 g3, fold6 g0 g1 g2 g3, fold7 g0 g1 g2 g3, hp]

theorem impl_ones_eq {a : Nat} (h : a < 4294967296) : impl_ones.f a = some ((pc a : Nat) : Int) := by
  unfold impl_ones.f
  rw [uwrap (by omega), bits_OnesCount64_eq h, Option.bind_some]

theorem laws_toTable_eq (b W : Int) : laws_toTable.f b W = some (b, W) := rfl

theorem FnExactDistanceBetween (b W c V : Int) (hb : (Lit.int .i64 b).wf = true) (hW : (Lit.int .i64 W).wf = true) (hc : (Lit.int .i64 c).wf = true) (hV : (Lit.int .i64 V).wf = true) : ∃ k, laws_FnExactDistanceBetween.f k b W c V = some true := by
  have key : ∃ r, Ev (fun k => spec_DistanceBetween.f k b W c V) r ∧ impl_DistanceBetween.f b W c V = some r := by
    unfold spec_DistanceBetween.f impl_DistanceBetween.f
    simp only [spec_l2Fit_eq, impl_areTables_eq, Option.bind_some]
    by_cases h : (isTab b W && (isTab c V && b == c)) = true
    · simp only [if_pos h]
      rw [Bool.and_eq_true, Bool.and_eq_true] at h
      obtain ⟨n, w, rfl, rfl, t⟩ := isTab_yes h.1
      obtain ⟨m, v, rfl, rfl, t2⟩ := isTab_yes h.2.1
      have h1 := t.w32
      have h2 := t2.w32
      have h3 : w ^^^ v < 2 ^ 32 := Nat.xor_lt_two_pow (by omega) (by omega)
      rw [bxorN (by omega) (by omega), impl_ones_eq (by omega), Option.bind_some]
      exact ⟨_, ev1' (spec_l2Count_ev (x := w ^^^ v) (by omega)) fun k hk => by rw [hk]; rfl, rfl⟩
    · simp only [if_neg h]
      exact ⟨_, Ev.now _, rfl⟩
  obtain ⟨r, h1, h2⟩ := key
  refine Ev.rounds ?_
  unfold laws_FnExactDistanceBetween.f
  simp only [laws_toTable_eq, Option.bind_some, h2]
  exact ev1' h1 fun k hk => by rw [hk]; simp

end Go.Proofs.Ytoacgiccpndbmaa.Pure
