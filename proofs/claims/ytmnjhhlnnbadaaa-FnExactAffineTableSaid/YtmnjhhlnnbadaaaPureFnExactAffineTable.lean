/- What the law FnExactAffineTable comes to, over numbers and lists alone: at every input both sides tell the same. No conditions but the kinds of the numbers. -/
import Derived.Test.YtmnjhhlnnbadaaaMath
import Derived.Test.YtmnjhhlnnbadaaaPop
import Derived.Test.YtmnjhhlnnbadaaaWrd
import Derived.Test.YtmnjhhlnnbadaaaPx1
import Derived.Test.YtmnjhhlnnbadaaaPx3
import Derived.Test.YtmnjhhlnnbadaaaPx36
import Derived.Test.YtmnjhhlnnbadaaaPx6
import Derived.Test.YtmnjhhlnnbadaaaPx7
import Derived.Test.YtmnjhhlnnbadaaaPx8
namespace Go.Proofs.Ytmnjhhlnnbadaaa.Pure
open Go.RowKit Go.Proofs.Ytmnjhhlnnbadaaa.P Go.Proofs.YtmnjhhlnnbadaaaW.PrintWords Go.Proofs.YtmnjhhlnnbadaaaW.PrintLast Go.Proofs.YtmnjhhlnnbadaaaW.PrintMore Go.Proofs.YtmnjhhlnnbadaaaMath
set_option linter.unusedVariables false
set_option linter.unusedSimpArgs false

theorem spec_l1In_eq (a b c : Int) : spec_l1In.f a b c = some (decide (b ≤ a ∧ a ≤ c)) := by
  unfold spec_l1In.f
  by_cases h : b ≤ a
  · rw [if_pos h]; simp [h]
  · rw [if_neg h]; simp [h]

theorem spec_l2Count_l (j : Nat) : ∀ (x : Nat) (s : Nat), j ≤ 32 → x < 2 ^ j → s + j ≤ 64 → Ev (fun k => spec_l2Count.l0 k s x) ((s + pcf j x : Nat) : Int) := by
  induction j with
  | zero =>
    intro x s _ h _
    obtain rfl : x = 0 := by simpa using h
    refine ev0 fun k => ?_
    simp only [spec_l2Count.l0]
    rw [if_neg (by omega)]
    rfl
  | succ j ih =>
    intro x s hj h hs
    have hp : 2 ^ (j + 1) ≤ 2 ^ 32 := Nat.pow_le_pow_right (by omega) hj
    by_cases hx : x = 0
    · subst hx
      refine ev0 fun k => ?_
      simp only [spec_l2Count.l0]
      rw [if_neg (by omega), pcf_zero]
      rfl
    · have := ih (x / 2) (s + x % 2) (by omega) (by rw [Nat.pow_succ] at h; omega) (by omega)
      simp only [pcf]
      rw [← Nat.add_assoc]
      refine Ev.step (fun k => ?_) this
      simp only [spec_l2Count.l0]
      rw [if_pos (by omega), show (1 : Int) = ((1 : Nat) : Int) from rfl, bandN (by omega) (by omega), Nat.and_one_is_mod, ← Int.natCast_add, w64 (by omega) (by omega)]
      rfl
theorem spec_l2Count_ev {x : Nat} (h : x < 4294967296) : Ev (fun k => spec_l2Count.f k x) ((pc x : Nat) : Int) := by
  have := spec_l2Count_l 32 x 0 (by omega) (by omega) (by omega)
  rw [Nat.zero_add] at this
  exact this

theorem impl_makeTable_word_eq (g : Nat → Bool) : ∀ N, N ≤ 32 → impl_makeTable.word g N = ((wordN g N : Nat) : Int) := by
  intro N
  induction N with
  | zero => intro _; rfl
  | succ N ih =>
    intro hN
    simp only [impl_makeTable.word]
    rw [ih (by omega)]
    by_cases hg : g N = true
    · rw [if_pos hg, wordN_or (by omega) hg]
    · rw [if_neg hg]
      simp only [wordN]
      rw [if_neg hg]

theorem bits_OnesCount64_eq {a : Nat} (h : a < 4294967296) : bits_OnesCount64.f a = some ((pc a : Nat) : Int) := by
  obtain ⟨c0, c1, c2, c3, g0, g1, g2, g3, hv, hp, l1, l2⟩ := n123 h
  have e1 : IntKind.u64.wrap ((Go.bits .and .u64 ((a : Int) / 2) 6148914691236517205) + (Go.bits .and .u64 (a : Int) 6148914691236517205)) = ((n1 a : Nat) : Int) := by
    rw [show (a : Int) / 2 = ((a / 2 : Nat) : Int) by omega, show (6148914691236517205 : Int) = ((6148914691236517205 : Nat) : Int) from rfl, uand (by omega) (by omega), uand (by omega) (by omega), ← Int.natCast_add]
    exact uwrap (by unfold n1 at l1; omega)
  have e2 : IntKind.u64.wrap ((Go.bits .and .u64 (((n1 a : Nat) : Int) / 4) 3689348814741910323) + (Go.bits .and .u64 ((n1 a : Nat) : Int) 3689348814741910323)) = ((n2 (n1 a) : Nat) : Int) := by
    rw [show ((n1 a : Nat) : Int) / 4 = ((n1 a / 4 : Nat) : Int) by omega, show (3689348814741910323 : Int) = ((3689348814741910323 : Nat) : Int) from rfl, uand (by omega) (by omega), uand (by omega) (by omega), ← Int.natCast_add]
    exact uwrap (by unfold n2 at l2; omega)
  have e3 : Go.bits .and .u64 (IntKind.u64.wrap ((((n2 (n1 a) : Nat) : Int) / 16) + ((n2 (n1 a) : Nat) : Int))) 1085102592571150095 = ((n3 (n2 (n1 a)) : Nat) : Int) := by
    rw [show ((n2 (n1 a) : Nat) : Int) / 16 = ((n2 (n1 a) / 16 : Nat) : Int) by omega, ← Int.natCast_add, uwrap (by omega), show (1085102592571150095 : Int) = ((1085102592571150095 : Nat) : Int) from rfl, uand (by omega) (by omega)]
    rfl
  unfold bits_OnesCount64.f
  rw [e1, e2, e3, hv]
  rw [fold4 g0 g1 g2 g3, fold5 g0 g1 g2 g3, fold6 g0 g1 g2 g3, fold7 g0 g1 g2 g3, hp]

theorem impl_ones_eq {a : Nat} (h : a < 4294967296) : impl_ones.f a = some ((pc a : Nat) : Int) := by
  unfold impl_ones.f
  rw [uwrap (by omega), bits_OnesCount64_eq h, Option.bind_some]

def affW (n u b : Nat) : Nat := wordN (fun x => (pc (u &&& x) + b) % 2 == 1) (2 ^ n)
theorem impl_affine_on_eq {u b x : Nat} (hu : u < 32) (hb : b ≤ 1) (hx : x < 32) : impl_affine.on u b x = ((pc (u &&& x) + b) % 2 == 1) := by
  have ha : u &&& x ≤ u := Nat.and_le_left
  have hp := pc_le (u &&& x)
  unfold impl_affine.on
  rw [bandN (by omega) (by omega), impl_ones_eq (by omega), Option.getD_some, i64id (by omega) (by omega), Int.tmod_eq_emod_of_nonneg (by omega), Bool.eq_iff_iff, beq_iff_eq, beq_iff_eq]
  omega
theorem impl_affine_eq {n u b : Nat} (hn : n ≤ 5) (hu : u < 2 ^ n) (hb : b ≤ 1) : impl_affine.f n u b = some ((n : Int), ((affW n u b : Nat) : Int)) := by
  have hs := pow62 hn
  unfold impl_affine.f
  rw [if_pos (by omega), Int.toNat_natCast, impl_makeTable_word_eq _ _ hs]
  unfold affW
  rw [wordN_congr fun x hx => impl_affine_on_eq (u := u) (b := b) (x := x) (by omega) hb (by omega)]

theorem spec_l14Affine_ev {n u b : Nat} (hn : n ≤ 5) (hu : u < 2 ^ n) (hb : b ≤ 1) : Ev (fun k => spec_l14Affine.f k n u b) ((affW n u b : Nat) : Int) := by
  have hs := pow62 hn
  unfold spec_l14Affine.f affW
  refine ev_for (fun k x => spec_l14Affine.l0 k n u b ((wordN (fun x => (pc (u &&& x) + b) % 2 == 1) x : Nat) : Int) (x : Int)) (2 ^ n) ?_ ?_
  · intro x hx h
    have ha : u &&& x ≤ u := Nat.and_le_left
    have hp := pc_le (u &&& x)
    refine evs1 (spec_l2Count_ev (x := u &&& x) (by omega)) (fun k hk => ?_) h
    simp only [spec_l14Affine.l0]
    rw [if_pos (Int.natCast_nonneg _), shl1 (by omega), if_pos (Int.ofNat_lt.mpr hx), bandN (by omega) (by omega), hk, Option.bind_some, if_pos (Int.natCast_nonneg _), w64 (x := (x : Int) + 1) (by omega) (by omega), w64 (by omega) (by omega), Int.tmod_eq_emod_of_nonneg (by omega)]
    have e : (((pc (u &&& x) : Nat) : Int) + (b : Int)) % 2 = b2i ((pc (u &&& x) + b) % 2 == 1) := by
      unfold b2i
      by_cases h1 : (pc (u &&& x) + b) % 2 = 1
      · rw [if_pos (by rw [h1]; rfl)]; omega
      · rw [if_neg (by simpa using h1)]; omega
    have := wordN_step (g := fun x => (pc (u &&& x) + b) % 2 == 1) (x := x) (by omega)
    rw [e, this]
    rfl
  · refine ev0 fun k => ?_
    simp only [spec_l14Affine.l0]
    rw [if_pos (Int.natCast_nonneg _), shl1 (by omega), if_neg (by omega)]

theorem impl_isBits_eq (b : Int) : impl_isBits.f b = some (decide (0 ≤ b ∧ b ≤ 5)) := by
  unfold impl_isBits.f
  by_cases h : b ≥ 0
  · rw [if_pos h]; simp [show 0 ≤ b from h]
  · rw [if_neg h]; simp [show ¬ 0 ≤ b from h]

theorem impl_isInput_eq {n : Nat} (h : n ≤ 62) (x : Int) : impl_isInput.f n x = some (isInp n x) := by
  unfold impl_isInput.f
  by_cases h0 : x ≥ 0
  · rw [if_pos h0, if_pos (Int.natCast_nonneg _), shl1 h, isInp_lt h0]
  · rw [if_neg h0, show isInp n x = false from decide_eq_false fun h3 => h0 h3.1]

theorem impl_isBit_eq (a : Int) : impl_isBit.f a = some (decide (0 ≤ a ∧ a ≤ 1)) := by
  unfold impl_isBit.f
  by_cases h : a = 0
  · rw [if_pos h, decide_eq_true (by omega)]
  · rw [if_neg h]
    congr 1
    rw [Bool.eq_iff_iff, beq_iff_eq, decide_eq_true_eq]
    omega

theorem laws_eqTable_same (b W : Int) : laws_eqTable.f b W b W = some true := by
  unfold laws_eqTable.f
  rw [if_pos rfl, if_pos rfl]

theorem FnExactAffineTable (a0 a1 a2 : Int) (h0 : (Lit.int .i64 a0).wf = true) (h1 : (Lit.int .i64 a1).wf = true) (h2 : (Lit.int .i64 a2).wf = true) : ∃ k, laws_FnExactAffineTable.f k a0 a1 a2 = some true := by
  have key : ∃ r, Ev (fun k => spec_AffineTable.f k a0 a1 a2) r ∧ impl_AffineTable.f a0 a1 a2 = some r := by
    by_cases g0 : 0 ≤ a0 ∧ a0 ≤ 5
    · obtain ⟨n, rfl⟩ := Int.eq_ofNat_of_zero_le g0.1
      have hn : n ≤ 5 := by omega
      by_cases g1 : isInp n a1 = true
      · by_cases g2 : 0 ≤ a2 ∧ a2 ≤ 1
        · obtain ⟨u, rfl, hu⟩ := isInp_yes g1
          obtain ⟨b, rfl⟩ := Int.eq_ofNat_of_zero_le g2.1
          refine ⟨((n : Int), ((affW n u b : Nat) : Int), true), ?_, ?_⟩
          · unfold spec_AffineTable.f
            simp only [spec_l1In_eq, Option.bind_some, decide_eq_true g0, if_true, if_pos (Int.natCast_nonneg n), shl1m (show n ≤ 62 by omega), isInp_le, g1, decide_eq_true g2]
            exact ev1' (spec_l14Affine_ev hn hu (show b ≤ 1 by omega)) fun k hk => by rw [hk]; rfl
          · unfold impl_AffineTable.f
            simp only [impl_isBits_eq, Option.bind_some, decide_eq_true g0, if_true, impl_isInput_eq (show n ≤ 62 by omega), g1, impl_isBit_eq, decide_eq_true g2, impl_affine_eq hn hu (show b ≤ 1 by omega)]
        · refine ⟨(0, 0, false), ?_, ?_⟩
          · unfold spec_AffineTable.f
            simp only [spec_l1In_eq, Option.bind_some, decide_eq_true g0, if_true, if_pos (Int.natCast_nonneg n), shl1m (show n ≤ 62 by omega), isInp_le, g1, decide_eq_false g2, Bool.false_eq_true, if_false]
            exact Ev.now _
          · unfold impl_AffineTable.f
            simp only [impl_isBits_eq, Option.bind_some, decide_eq_true g0, if_true, impl_isInput_eq (show n ≤ 62 by omega), g1, impl_isBit_eq, decide_eq_false g2, Bool.false_eq_true, if_false]
      · refine ⟨(0, 0, false), ?_, ?_⟩
        · unfold spec_AffineTable.f
          simp only [spec_l1In_eq, Option.bind_some, decide_eq_true g0, if_true, if_pos (Int.natCast_nonneg n), shl1m (show n ≤ 62 by omega), isInp_le, if_neg g1]
          exact Ev.now _
        · unfold impl_AffineTable.f
          simp only [impl_isBits_eq, Option.bind_some, decide_eq_true g0, if_true, impl_isInput_eq (show n ≤ 62 by omega), if_neg g1]
    · refine ⟨(0, 0, false), ?_, ?_⟩
      · unfold spec_AffineTable.f
        simp only [spec_l1In_eq, Option.bind_some, decide_eq_false g0, Bool.false_eq_true, if_false]
        exact Ev.now _
      · unfold impl_AffineTable.f
        simp only [impl_isBits_eq, Option.bind_some, decide_eq_false g0, Bool.false_eq_true, if_false]
  obtain ⟨r, h1, h2⟩ := key
  refine Ev.rounds ?_
  unfold laws_FnExactAffineTable.f
  simp only [Option.bind_some, h2]
  exact ev1' h1 fun k hk => by rw [hk]; simp [laws_eqTable_same]

end Go.Proofs.Ytmnjhhlnnbadaaa.Pure
