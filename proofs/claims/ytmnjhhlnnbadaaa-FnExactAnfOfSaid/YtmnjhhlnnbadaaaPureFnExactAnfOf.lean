/- What the law FnExactAnfOf comes to, over numbers and lists alone: at every input both sides tell the same. No conditions but the kinds of the numbers. -/
import Derived.Test.YtmnjhhlnnbadaaaMath
import Derived.Test.YtmnjhhlnnbadaaaCof
import Derived.Test.YtmnjhhlnnbadaaaWrd
import Derived.Test.YtmnjhhlnnbadaaaPx1
import Derived.Test.YtmnjhhlnnbadaaaPx2
import Derived.Test.YtmnjhhlnnbadaaaPx3
import Derived.Test.YtmnjhhlnnbadaaaPx35
import Derived.Test.YtmnjhhlnnbadaaaPx4
import Derived.Test.YtmnjhhlnnbadaaaPx6
namespace Go.Proofs.Ytmnjhhlnnbadaaa.Pure
open Go.RowKit Go.Proofs.Ytmnjhhlnnbadaaa.P Go.Proofs.YtmnjhhlnnbadaaaW.PrintWords Go.Proofs.YtmnjhhlnnbadaaaW.PrintLast Go.Proofs.YtmnjhhlnnbadaaaW.PrintMore Go.Proofs.YtmnjhhlnnbadaaaMath
set_option linter.unusedVariables false
set_option linter.unusedSimpArgs false

theorem spec_IsTable_eq (b W : Int) : spec_IsTable.f b W = some (isTab b W) := rfl

theorem impl_makeTable_word_eq (g : Nat → Bool) : ∀ N, N ≤ 32 → impl_makeTable.word g N = ((wordN g N : Nat) : Int) := by
  intro N
  induction N with
  | zero => intro _; rfl
  | succ N ih =>
    intro hN
    simp only [impl_makeTable.word]
    rw [ih (by omega)]
    by_cases hg : g N = true
    · rw [if_pos hg, wordN_or (by omega) hg]
    · rw [if_neg hg]
      simp only [wordN]
      rw [if_neg hg]

theorem impl_Table_anf_sum_eq {w m : Nat} (hw : w < 9223372036854775808) (hm : m < 32) : ∀ N, N ≤ 32 → impl_Table_anf.sum w m N = b2i (ap w m N) := by
  intro N
  induction N with
  | zero => intro _; rfl
  | succ N ih =>
    intro hN
    simp only [impl_Table_anf.sum, ap]
    rw [ih (by omega), bandnotN (by omega) (by omega), at1 hw]
    by_cases e : N &&& m = N
    · rw [if_pos (by rw [e, Nat.xor_self]; rfl), if_pos e, b2i_xor]
    · rw [if_neg (fun h => e (xor_zero (by omega)).symm), if_neg e]
def anfW (n w : Nat) : Nat := wordN (fun m => ap w m (m + 1)) (2 ^ n)
theorem impl_Table_anf_eq {n w : Nat} (t : Tab n w) : impl_Table_anf.f n w = some ((n : Int), ((anfW n w : Nat) : Int)) := by
  have hn := t.hn
  have hs := t.size
  unfold impl_Table_anf.f
  rw [if_pos (by omega), Int.toNat_natCast, impl_makeTable_word_eq _ _ hs]
  unfold anfW
  rw [wordN_congr fun m hm => ?_]
  unfold impl_Table_anf.on
  rw [Int.toNat_natCast, impl_Table_anf_sum_eq t.w63 (by omega) _ hs, show 2 ^ n = m + 1 + (2 ^ n - (m + 1)) by omega, ap_short]
  cases ap w m (m + 1) <;> rfl
theorem anfW_tab {n w : Nat} (t : Tab n w) : Tab n (anfW n w) := ⟨t.hn, wordN_lt _ _⟩

theorem spec_l11Anf_ev {n w : Nat} (t : Tab n w) : Ev (fun k => spec_l11Anf.f k n w) ((anfW n w : Nat) : Int) := by
  have hn := t.hn
  have hs := t.size
  unfold spec_l11Anf.f anfW
  refine ev_for (fun k m => spec_l11Anf.l0 k ((wordN (fun m => ap w m (m + 1)) m : Nat) : Int) (m : Int) n w) (2 ^ n) ?_ ?_
  · intro m hm h
    refine Ev.step (f := fun k => spec_l11Anf.l1 k ((wordN (fun m => ap w m (m + 1)) m : Nat) : Int) (m : Int) 0 0 n w) (fun k => ?_) ?_
    · simp only [spec_l11Anf.l0]
      rw [if_pos (Int.natCast_nonneg _), shl1 (by omega), if_pos (Int.ofNat_lt.mpr hm)]
    refine ev_for (fun k x => spec_l11Anf.l1 k ((wordN (fun m => ap w m (m + 1)) m : Nat) : Int) (m : Int) (apS w m x) (x : Int) n w) (m + 1) ?_ ?_
    · intro x hx h
      refine Ev.step (fun k => ?_) h
      have hb := apS_range w m x
      have hb1 := b2i_range (w.testBit x)
      simp only [spec_l11Anf.l1]
      rw [if_pos (by omega), bandN (by omega) (by omega), w64 (x := (x : Int) + 1) (by omega) (by omega), at1 t.w63, w64 (x := apS w m x + _) (by omega) (by omega)]
      by_cases e : x &&& m = x
      · rw [if_pos (by rw [e]), if_pos (Int.natCast_nonneg _), show apS w m (x + 1) = apS w m x + b2i (w.testBit x) by unfold apS; simp only [sumI]; rw [if_pos e]]
        rfl
      · rw [if_neg (by omega), show apS w m (x + 1) = apS w m x by unfold apS; simp only [sumI]; rw [if_neg e, Int.add_zero]]
        rfl
    · refine Ev.step (fun k => ?_) h
      have hb := apS_range w m (m + 1)
      simp only [spec_l11Anf.l1]
      rw [if_neg (by omega), if_pos (Int.natCast_nonneg _), Int.tmod_eq_emod_of_nonneg hb.1, apS_par, w64 (by omega) (by omega)]
      have := wordN_step (g := fun m => ap w m (m + 1)) (x := m) (by omega)
      rw [this]
      rfl
  · refine ev0 fun k => ?_
    simp only [spec_l11Anf.l0]
    rw [if_pos (Int.natCast_nonneg _), shl1 (by omega), if_neg (by omega)]

theorem impl_isBits_eq (b : Int) : impl_isBits.f b = some (decide (0 ≤ b ∧ b ≤ 5)) := by
  unfold impl_isBits.f
  by_cases h : b ≥ 0
  · rw [if_pos h]; simp [show 0 ≤ b from h]
  · rw [if_neg h]; simp [show ¬ 0 ≤ b from h]

theorem impl_Table_size_eq {n : Nat} (h : n ≤ 62) (W : Int) : impl_Table_size.f n W = some ((2 ^ n : Nat) : Int) := by
  unfold impl_Table_size.f
  rw [if_pos (Int.natCast_nonneg _), shl1 h]

theorem impl_IsTable_eq (b W : Int) : impl_IsTable.f b W = some (isTab b W) := by
  unfold impl_IsTable.f
  rw [impl_isBits_eq, Option.bind_some]
  by_cases h : 0 ≤ b ∧ b ≤ 5
  · obtain ⟨n, rfl⟩ := Int.eq_ofNat_of_zero_le h.1
    rw [if_pos (decide_eq_true h)]
    by_cases h2 : W ≥ 0
    · rw [if_pos h2]
      obtain ⟨w, rfl⟩ := Int.eq_ofNat_of_zero_le h2
      have hp : 2 ^ n ≤ 2 ^ 5 := Nat.pow_le_pow_right (by omega) (by omega)
      rw [impl_Table_size_eq (by omega), Option.bind_some, if_pos (Int.natCast_nonneg _), shrS (by omega)]
      congr 1
      unfold isTab
      rw [Bool.eq_iff_iff, decide_eq_true_iff, beq_iff_eq, Int.toNat_natCast]
      have e : ((2 : Int) ^ 2 ^ n) = ((2 ^ 2 ^ n : Nat) : Int) := by push_cast; rfl
      rw [e]
      have hd : w / 2 ^ 2 ^ n = 0 ↔ w < 2 ^ 2 ^ n := by rw [Nat.div_eq_zero_iff]; have := Nat.two_pow_pos (2 ^ n); omega
      constructor
      · intro h3
        have := hd.1 (by omega)
        omega
      · rintro ⟨_, _, _, h4⟩
        have := hd.2 (by omega)
        omega
    · rw [if_neg h2, show isTab n W = false from decide_eq_false fun h3 => h2 h3.2.2.1]
  · rw [if_neg (by rw [decide_eq_false h]; decide), show isTab b W = false from decide_eq_false fun h3 => h ⟨h3.1, h3.2.1⟩]

theorem laws_toTable_eq (b W : Int) : laws_toTable.f b W = some (b, W) := rfl

theorem laws_eqTable_same (b W : Int) : laws_eqTable.f b W b W = some true := by
  unfold laws_eqTable.f
  rw [if_pos rfl, if_pos rfl]

theorem FnExactAnfOf (b W : Int) (hb : (Lit.int .i64 b).wf = true) (hW : (Lit.int .i64 W).wf = true) : ∃ k, laws_FnExactAnfOf.f k b W = some true := by
  have key : ∃ r, Ev (fun k => spec_AnfOf.f k b W) r ∧ impl_AnfOf.f b W = some r := by
    by_cases h : isTab b W = true
    · have h' := h
      obtain ⟨n, w, rfl, rfl, t⟩ := isTab_yes h
      refine ⟨((n : Int), ((anfW n w : Nat) : Int), true), ?_, ?_⟩
      · unfold spec_AnfOf.f
        simp only [spec_IsTable_eq, Option.bind_some, h', if_true]
        exact ev1' (spec_l11Anf_ev t) fun k hk => by rw [hk]; rfl
      · unfold impl_AnfOf.f
        rw [impl_IsTable_eq, Option.bind_some, if_pos h', impl_Table_anf_eq t]
        rfl
    · unfold spec_AnfOf.f impl_AnfOf.f
      simp only [spec_IsTable_eq, impl_IsTable_eq, Option.bind_some, if_neg h]
      exact ⟨_, Ev.now _, rfl⟩
  obtain ⟨r, h1, h2⟩ := key
  refine Ev.rounds ?_
  unfold laws_FnExactAnfOf.f
  simp only [laws_toTable_eq, Option.bind_some, h2]
  exact ev1' h1 fun k hk => by rw [hk]; simp [laws_eqTable_same]

end Go.Proofs.Ytmnjhhlnnbadaaa.Pure
