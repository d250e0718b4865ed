/- What the law FnExactDegreeMod2 comes to, over numbers and lists alone: at every input both sides tell the same. No conditions but the kinds of the numbers. -/
import Derived.Test.YtmnjhhlnnbadaaaMath
import Derived.Test.YtmnjhhlnnbadaaaCof
import Derived.Test.YtmnjhhlnnbadaaaPop
import Derived.Test.YtmnjhhlnnbadaaaWrd
import Derived.Test.YtmnjhhlnnbadaaaPx1
import Derived.Test.YtmnjhhlnnbadaaaPx12
import Derived.Test.YtmnjhhlnnbadaaaPx13
import Derived.Test.YtmnjhhlnnbadaaaPx2
import Derived.Test.YtmnjhhlnnbadaaaPx3
import Derived.Test.YtmnjhhlnnbadaaaPx39
import Derived.Test.YtmnjhhlnnbadaaaPx4
import Derived.Test.YtmnjhhlnnbadaaaPx6
namespace Go.Proofs.Ytmnjhhlnnbadaaa.Pure
open Go.RowKit Go.Proofs.Ytmnjhhlnnbadaaa.P Go.Proofs.YtmnjhhlnnbadaaaW.PrintWords Go.Proofs.YtmnjhhlnnbadaaaW.PrintLast Go.Proofs.YtmnjhhlnnbadaaaW.PrintMore Go.Proofs.YtmnjhhlnnbadaaaMath
set_option linter.unusedVariables false
set_option linter.unusedSimpArgs false

theorem spec_IsTable_eq (b W : Int) : spec_IsTable.f b W = some (isTab b W) := rfl

theorem impl_makeTable_word_eq (g : Nat → Bool) : ∀ N, N ≤ 32 → impl_makeTable.word g N = ((wordN g N : Nat) : Int) := by
  intro N
  induction N with
  | zero => intro _; rfl
  | succ N ih =>
    intro hN
    simp only [impl_makeTable.word]
    rw [ih (by omega)]
    by_cases hg : g N = true
    · rw [if_pos hg, wordN_or (by omega) hg]
    · rw [if_neg hg]
      simp only [wordN]
      rw [if_neg hg]

theorem impl_Table_anf_sum_eq {w m : Nat} (hw : w < 9223372036854775808) (hm : m < 32) : ∀ N, N ≤ 32 → impl_Table_anf.sum w m N = b2i (ap w m N) := by
  intro N
  induction N with
  | zero => intro _; rfl
  | succ N ih =>
    intro hN
    simp only [impl_Table_anf.sum, ap]
    rw [ih (by omega), bandnotN (by omega) (by omega), at1 hw]
    by_cases e : N &&& m = N
    · rw [if_pos (by rw [e, Nat.xor_self]; rfl), if_pos e, b2i_xor]
    · rw [if_neg (fun h => e (xor_zero (by omega)).symm), if_neg e]
def anfW (n w : Nat) : Nat := wordN (fun m => ap w m (m + 1)) (2 ^ n)
theorem impl_Table_anf_eq {n w : Nat} (t : Tab n w) : impl_Table_anf.f n w = some ((n : Int), ((anfW n w : Nat) : Int)) := by
  have hn := t.hn
  have hs := t.size
  unfold impl_Table_anf.f
  rw [if_pos (by omega), Int.toNat_natCast, impl_makeTable_word_eq _ _ hs]
  unfold anfW
  rw [wordN_congr fun m hm => ?_]
  unfold impl_Table_anf.on
  rw [Int.toNat_natCast, impl_Table_anf_sum_eq t.w63 (by omega) _ hs, show 2 ^ n = m + 1 + (2 ^ n - (m + 1)) by omega, ap_short]
  cases ap w m (m + 1) <;> rfl
theorem anfW_tab {n w : Nat} (t : Tab n w) : Tab n (anfW n w) := ⟨t.hn, wordN_lt _ _⟩

theorem spec_l11Anf_ev {n w : Nat} (t : Tab n w) : Ev (fun k => spec_l11Anf.f k n w) ((anfW n w : Nat) : Int) := by
  have hn := t.hn
  have hs := t.size
  unfold spec_l11Anf.f anfW
  refine ev_for (fun k m => spec_l11Anf.l0 k ((wordN (fun m => ap w m (m + 1)) m : Nat) : Int) (m : Int) n w) (2 ^ n) ?_ ?_
  · intro m hm h
    refine Ev.step (f := fun k => spec_l11Anf.l1 k ((wordN (fun m => ap w m (m + 1)) m : Nat) : Int) (m : Int) 0 0 n w) (fun k => ?_) ?_
    · simp only [spec_l11Anf.l0]
      rw [if_pos (Int.natCast_nonneg _), shl1 (by omega), if_pos (Int.ofNat_lt.mpr hm)]
    refine ev_for (fun k x => spec_l11Anf.l1 k ((wordN (fun m => ap w m (m + 1)) m : Nat) : Int) (m : Int) (apS w m x) (x : Int) n w) (m + 1) ?_ ?_
    · intro x hx h
      refine Ev.step (fun k => ?_) h
      have hb := apS_range w m x
      have hb1 := b2i_range (w.testBit x)
      simp only [spec_l11Anf.l1]
      rw [if_pos (by omega), bandN (by omega) (by omega), w64 (x := (x : Int) + 1) (by omega) (by omega), at1 t.w63, w64 (x := apS w m x + _) (by omega) (by omega)]
      by_cases e : x &&& m = x
      · rw [if_pos (by rw [e]), if_pos (Int.natCast_nonneg _), show apS w m (x + 1) = apS w m x + b2i (w.testBit x) by unfold apS; simp only [sumI]; rw [if_pos e]]
        rfl
      · rw [if_neg (by omega), show apS w m (x + 1) = apS w m x by unfold apS; simp only [sumI]; rw [if_neg e, Int.add_zero]]
        rfl
    · refine Ev.step (fun k => ?_) h
      have hb := apS_range w m (m + 1)
      simp only [spec_l11Anf.l1]
      rw [if_neg (by omega), if_pos (Int.natCast_nonneg _), Int.tmod_eq_emod_of_nonneg hb.1, apS_par, w64 (by omega) (by omega)]
      have := wordN_step (g := fun m => ap w m (m + 1)) (x := m) (by omega)
      rw [this]
      rfl
  · refine ev0 fun k => ?_
    simp only [spec_l11Anf.l0]
    rw [if_pos (Int.natCast_nonneg _), shl1 (by omega), if_neg (by omega)]

theorem spec_l2Count_l (j : Nat) : ∀ (x : Nat) (s : Nat), j ≤ 32 → x < 2 ^ j → s + j ≤ 64 → Ev (fun k => spec_l2Count.l0 k s x) ((s + pcf j x : Nat) : Int) := by
  induction j with
  | zero =>
    intro x s _ h _
    obtain rfl : x = 0 := by simpa using h
    refine ev0 fun k => ?_
    simp only [spec_l2Count.l0]
    rw [if_neg (by omega)]
    rfl
  | succ j ih =>
    intro x s hj h hs
    have hp : 2 ^ (j + 1) ≤ 2 ^ 32 := Nat.pow_le_pow_right (by omega) hj
    by_cases hx : x = 0
    · subst hx
      refine ev0 fun k => ?_
      simp only [spec_l2Count.l0]
      rw [if_neg (by omega), pcf_zero]
      rfl
    · have := ih (x / 2) (s + x % 2) (by omega) (by rw [Nat.pow_succ] at h; omega) (by omega)
      simp only [pcf]
      rw [← Nat.add_assoc]
      refine Ev.step (fun k => ?_) this
      simp only [spec_l2Count.l0]
      rw [if_pos (by omega), show (1 : Int) = ((1 : Nat) : Int) from rfl, bandN (by omega) (by omega), Nat.and_one_is_mod, ← Int.natCast_add, w64 (by omega) (by omega)]
      rfl
theorem spec_l2Count_ev {x : Nat} (h : x < 4294967296) : Ev (fun k => spec_l2Count.f k x) ((pc x : Nat) : Int) := by
  have := spec_l2Count_l 32 x 0 (by omega) (by omega) (by omega)
  rw [Nat.zero_add] at this
  exact this

theorem impl_isBits_eq (b : Int) : impl_isBits.f b = some (decide (0 ≤ b ∧ b ≤ 5)) := by
  unfold impl_isBits.f
  by_cases h : b ≥ 0
  · rw [if_pos h]; simp [show 0 ≤ b from h]
  · rw [if_neg h]; simp [show ¬ 0 ≤ b from h]

theorem impl_Table_size_eq {n : Nat} (h : n ≤ 62) (W : Int) : impl_Table_size.f n W = some ((2 ^ n : Nat) : Int) := by
  unfold impl_Table_size.f
  rw [if_pos (Int.natCast_nonneg _), shl1 h]

theorem impl_IsTable_eq (b W : Int) : impl_IsTable.f b W = some (isTab b W) := by
  unfold impl_IsTable.f
  rw [impl_isBits_eq, Option.bind_some]
  by_cases h : 0 ≤ b ∧ b ≤ 5
  · obtain ⟨n, rfl⟩ := Int.eq_ofNat_of_zero_le h.1
    rw [if_pos (decide_eq_true h)]
    by_cases h2 : W ≥ 0
    · rw [if_pos h2]
      obtain ⟨w, rfl⟩ := Int.eq_ofNat_of_zero_le h2
      have hp : 2 ^ n ≤ 2 ^ 5 := Nat.pow_le_pow_right (by omega) (by omega)
      rw [impl_Table_size_eq (by omega), Option.bind_some, if_pos (Int.natCast_nonneg _), shrS (by omega)]
      congr 1
      unfold isTab
      rw [Bool.eq_iff_iff, decide_eq_true_iff, beq_iff_eq, Int.toNat_natCast]
      have e : ((2 : Int) ^ 2 ^ n) = ((2 ^ 2 ^ n : Nat) : Int) := by push_cast; rfl
      rw [e]
      have hd : w / 2 ^ 2 ^ n = 0 ↔ w < 2 ^ 2 ^ n := by rw [Nat.div_eq_zero_iff]; have := Nat.two_pow_pos (2 ^ n); omega
      constructor
      · intro h3
        have := hd.1 (by omega)
        omega
      · rintro ⟨_, _, _, h4⟩
        have := hd.2 (by omega)
        omega
    · rw [if_neg h2, show isTab n W = false from decide_eq_false fun h3 => h2 h3.2.2.1]
  · rw [if_neg (by rw [decide_eq_false h]; decide), show isTab b W = false from decide_eq_false fun h3 => h ⟨h3.1, h3.2.1⟩]

theorem impl_Table_at_eq {n w : Nat} (t : Tab n w) (x : Nat) : impl_Table_at.f n w x = some (b2i (w.testBit x)) := by
  unfold impl_Table_at.f
  rw [if_pos (Int.natCast_nonneg _), at1 t.w63]

theorem bits_OnesCount64_eq {a : Nat} (h : a < 4294967296) : bits_OnesCount64.f a = some ((pc a : Nat) : Int) := by
  obtain ⟨c0, c1, c2, c3, g0, g1, g2, g3, hv, hp, l1, l2⟩ := n123 h
  have e1 : IntKind.u64.wrap ((Go.bits .and .u64 ((a : Int) / 2) 6148914691236517205) + (Go.bits .and .u64 (a : Int) 6148914691236517205)) = ((n1 a : Nat) : Int) := by
    rw [show (a : Int) / 2 = ((a / 2 : Nat) : Int) by omega, show (6148914691236517205 : Int) = ((6148914691236517205 : Nat) : Int) from rfl, uand (by omega) (by omega), uand (by omega) (by omega), ← Int.natCast_add]
    exact uwrap (by unfold n1 at l1; omega)
  have e2 : IntKind.u64.wrap ((Go.bits .and .u64 (((n1 a : Nat) : Int) / 4) 3689348814741910323) + (Go.bits .and .u64 ((n1 a : Nat) : Int) 3689348814741910323)) = ((n2 (n1 a) : Nat) : Int) := by
    rw [show ((n1 a : Nat) : Int) / 4 = ((n1 a / 4 : Nat) : Int) by omega, show (3689348814741910323 : Int) = ((3689348814741910323 : Nat) : Int) from rfl, uand (by omega) (by omega), uand (by omega) (by omega), ← Int.natCast_add]
    exact uwrap (by unfold n2 at l2; omega)
  have e3 : Go.bits .and .u64 (IntKind.u64.wrap ((((n2 (n1 a) : Nat) : Int) / 16) + ((n2 (n1 a) : Nat) : Int))) 1085102592571150095 = ((n3 (n2 (n1 a)) : Nat) : Int) := by
    rw [show ((n2 (n1 a) : Nat) : Int) / 16 = ((n2 (n1 a) / 16 : Nat) : Int) by omega, ← Int.natCast_add, uwrap (by omega), show (1085102592571150095 : Int) = ((1085102592571150095 : Nat) : Int) from rfl, uand (by omega) (by omega)]
    rfl
  unfold bits_OnesCount64.f
  rw [e1, e2, e3, hv]
  rw [fold4 g0 g1 g2 g3, fold5 g0 g1 g2 g3, fold6 g0 g1 g2 g3, fold7 g0 g1 g2 g3, hp]

theorem impl_ones_eq {a : Nat} (h : a < 4294967296) : impl_ones.f a = some ((pc a : Nat) : Int) := by
  unfold impl_ones.f
  rw [uwrap (by omega), bits_OnesCount64_eq h, Option.bind_some]

def mostN (g : Nat → Bool) : Nat → Int
  | 0 => -1
  | x + 1 => if g x = true then mx (mostN g x) ((pc x : Nat) : Int) else mostN g x
theorem impl_degree_most_eq (g : Nat → Bool) : ∀ N, N ≤ 32 → impl_degree.most g N = mostN g N := by
  intro N
  induction N with
  | zero => intro _; rfl
  | succ N ih =>
    intro hN
    simp only [impl_degree.most, mostN]
    rw [ih (by omega), impl_ones_eq (by omega), Option.getD_some]
theorem mostN_congr {g h : Nat → Bool} {N : Nat} (e : ∀ x, x < N → g x = h x) : mostN g N = mostN h N := by
  induction N with
  | zero => rfl
  | succ N ih => simp only [mostN]; rw [ih fun x hx => e x (by omega), e N (by omega)]

theorem laws_toTable_eq (b W : Int) : laws_toTable.f b W = some (b, W) := rfl

theorem spec_DegreeMod2_ev {n w : Nat} (t : Tab n w) : Ev (fun k => spec_DegreeMod2.f k n w) (mostN (fun m => (anfW n w).testBit m) (2 ^ n)) := by
  have hn := t.hn
  have hs := t.size
  have ta := anfW_tab t
  unfold spec_DegreeMod2.f
  simp only [spec_IsTable_eq, isTab_mk t, Option.bind_some, if_true]
  refine ev1 (spec_l11Anf_ev t) (G := fun k => spec_DegreeMod2.l0 k ((anfW n w : Nat) : Int) (-1) 0 n w) (fun k hk => by rw [hk]; rfl) ?_
  generalize anfW n w = v at ta ⊢
  refine ev_for (fun k m => spec_DegreeMod2.l0 k (v : Int) (mostN (fun m => v.testBit m) m) (m : Int) n w) (2 ^ n) ?_ ?_
  · intro m hm h
    refine evs1 (spec_l2Count_ev (x := m) (by omega)) (fun k hk => ?_) h
    simp only [spec_DegreeMod2.l0]
    rw [if_pos (Int.natCast_nonneg _), shl1 (by omega), if_pos (Int.ofNat_lt.mpr hm), if_pos (Int.natCast_nonneg _), at1 ta.w63, hk, Option.bind_some, w64 (by omega) (by omega)]
    simp only [mostN]
    by_cases hv : v.testBit m = true
    · rw [if_pos (by rw [hv]; rfl), if_pos hv]; rfl
    · rw [if_neg (by rw [Bool.eq_false_iff.mpr hv]; decide), if_neg hv]; rfl
  · refine ev0 fun k => ?_
    simp only [spec_DegreeMod2.l0]
    rw [if_pos (Int.natCast_nonneg _), shl1 (by omega), if_neg (by omega)]
theorem FnExactDegreeMod2 (b W : Int) (hb : (Lit.int .i64 b).wf = true) (hW : (Lit.int .i64 W).wf = true) : ∃ k, laws_FnExactDegreeMod2.f k b W = some true := by
  have key : ∃ r, Ev (fun k => spec_DegreeMod2.f k b W) r ∧ impl_DegreeMod2.f b W = some r := by
    by_cases h : isTab b W = true
    · have h' := h
      obtain ⟨n, w, rfl, rfl, t⟩ := isTab_yes h
      have hn := t.hn
      have hs := t.size
      refine ⟨_, spec_DegreeMod2_ev t, ?_⟩
      unfold impl_DegreeMod2.f
      rw [impl_IsTable_eq, Option.bind_some, if_pos h', impl_Table_anf_eq t, Option.bind_some, if_pos (by omega), Int.toNat_natCast, impl_degree_most_eq _ _ hs]
      congr 1
      refine mostN_congr fun m hm => ?_
      unfold impl_DegreeMod2.on
      rw [impl_Table_at_eq (anfW_tab t), Option.getD_some]
      cases (anfW n w).testBit m <;> rfl
    · unfold spec_DegreeMod2.f impl_DegreeMod2.f
      simp only [spec_IsTable_eq, impl_IsTable_eq, Option.bind_some, if_neg h]
      exact ⟨_, Ev.now _, rfl⟩
  obtain ⟨r, h1, h2⟩ := key
  refine Ev.rounds ?_
  unfold laws_FnExactDegreeMod2.f
  simp only [laws_toTable_eq, Option.bind_some, h2]
  exact ev1' h1 fun k hk => by rw [hk]; simp

end Go.Proofs.Ytmnjhhlnnbadaaa.Pure
