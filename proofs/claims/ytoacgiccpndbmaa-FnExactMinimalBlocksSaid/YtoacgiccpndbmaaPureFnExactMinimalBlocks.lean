/- What the law FnExactMinimalBlocks comes to, over numbers and lists alone: at every input both sides tell the same. No conditions but the kinds of the numbers. -/
import Derived.Test.YtoacgiccpndbmaaMath
import Derived.Test.YtoacgiccpndbmaaBlk
import Derived.Test.YtoacgiccpndbmaaPx1
import Derived.Test.YtoacgiccpndbmaaPx13
import Derived.Test.YtoacgiccpndbmaaPx15
import Derived.Test.YtoacgiccpndbmaaPx16
import Derived.Test.YtoacgiccpndbmaaPx17
import Derived.Test.YtoacgiccpndbmaaPx23
import Derived.Test.YtoacgiccpndbmaaPx24
import Derived.Test.YtoacgiccpndbmaaPx25
import Derived.Test.YtoacgiccpndbmaaPx4
import Derived.Test.YtoacgiccpndbmaaPx47
import Derived.Test.YtoacgiccpndbmaaPx5
import Derived.Test.YtoacgiccpndbmaaPx6
namespace Go.Proofs.Ytoacgiccpndbmaa.Pure
open Go.RowKit Go.Proofs.Ytoacgiccpndbmaa.P Go.Proofs.YtoacgiccpndbmaaW.PrintWords Go.Proofs.YtoacgiccpndbmaaW.PrintLast Go.Proofs.YtoacgiccpndbmaaW.PrintMore Go.Proofs.YtoacgiccpndbmaaMath
set_option linter.unusedVariables false
set_option linter.unusedSimpArgs false

theorem spec_IsTable_eq (b W : Int) : spec_IsTable.f b W = some (isTab b W) := rfl

theorem spec_l1In_eq (a b c : Int) : spec_l1In.f a b c = some (decide (b ≤ a ∧ a ≤ c)) := by
  unfold spec_l1In.f
  by_cases h : b ≤ a
  · rw [if_pos h]; simp [h]
  · rw [if_neg h]; simp [h]

theorem spec_l9In_eq (b W x : Int) : spec_l9In.f b W x = some (isTab b W && isInp b x) := by
  unfold spec_l9In.f
  rw [spec_IsTable_eq, Option.bind_some]
  by_cases h : isTab b W = true
  · obtain ⟨n, w, rfl, rfl, t⟩ := isTab_yes h
    rw [if_pos h, if_pos (Int.natCast_nonneg _), spec_l1In_eq, Option.bind_some, h, Bool.true_and, shl1m (by have := t.hn; omega), isInp_le]
  · rw [if_neg h, Bool.eq_false_iff.mpr h, Bool.false_and]

theorem spec_l10Blocks_ev {n w : Nat} (t : Tab n w) {x : Nat} (hx : x < 2 ^ n) : Ev (fun k => spec_l10Blocks.f k n w x) (ints (blk w x (2 ^ n))) := by
  have hn := t.hn
  have hs := t.size
  have h2 := Nat.two_pow_pos n
  unfold spec_l10Blocks.f
  have e1 : ([] : List Int) = ints (blk w x 1) := by
    rw [blk_succ]
    have : isMin w x 0 = false := by unfold isMin; rw [chg_zero, Bool.false_and]
    rw [this]
    rfl
  rw [e1]
  refine ev_from (fun k b => spec_l10Blocks.l0 k x (ints (blk w x b)) (b : Int) n w) 1 (2 ^ n) (by omega) ?_ ?_
  · intro b h0 hb h
    have hl := blk_len w x b
    have hxb : x ^^^ b < 2 ^ n := Nat.xor_lt_two_pow hx hb
    rw [blk_succ] at h
    by_cases hc : chg w x b = true
    · refine Ev.step (f := fun k => spec_l10Blocks.l1 k x (ints (blk w x b)) b true 0 n w) (fun k => ?_) ?_
      · simp only [spec_l10Blocks.l0]
        rw [if_pos (Int.natCast_nonneg _), shl1 (by omega), if_pos (Int.ofNat_lt.mpr hb), if_pos (Int.natCast_nonneg _), bxorN (by omega) (by omega), if_pos (Int.natCast_nonneg _), at1 t.w63, at1 t.w63, if_neg]
        intro e
        have := b2i_eq.1 e
        unfold chg at hc
        rw [this] at hc
        simp at hc
      · refine ev_for (fun k i => spec_l10Blocks.l1 k x (ints (blk w x b)) b (((blk w x b).take i).all fun o => o &&& b != o) (i : Int) n w) (blk w x b).length ?_ ?_
        · intro i hi h
          refine Ev.step (fun k => ?_) h
          have hmem : (blk w x b)[i] < 32 := by
            have := (blk_mem.1 (List.getElem_mem hi)).1
            omega
          rw [List.take_succ_eq_append_getElem hi, List.all_append]
          simp only [spec_l10Blocks.l1]
          rw [ints_len, if_pos (Int.ofNat_lt.mpr hi), w64 (by omega) (by omega)]
          by_cases hf : (((blk w x b).take i).all fun o => o &&& b != o) = true
          · rw [if_pos hf, if_pos (Int.natCast_nonneg _), ints_rd hi, bandN (by omega) (by omega), hf, Bool.true_and]
            have : (((((blk w x b)[i] &&& b : Nat) : Int)) != (((blk w x b)[i] : Nat) : Int)) = [(blk w x b)[i]].all fun o => o &&& b != o := by
              rw [List.all_cons, List.all_nil, Bool.and_true, Bool.eq_iff_iff, bne_iff_ne, bne_iff_ne]
              omega
            rw [this]
            rfl
          · rw [if_neg hf, Bool.eq_false_iff.mpr hf, Bool.false_and]
            rfl
        · refine Ev.step (fun k => ?_) h
          simp only [spec_l10Blocks.l1]
          rw [ints_len, if_neg (by omega), List.take_length, ← isMin_iff hc, w64 (by omega) (by omega)]
          by_cases hm : isMin w x b = true
          · rw [if_pos hm, if_pos (by omega), if_pos hm, ints_append]
            rfl
          · rw [if_neg hm, if_neg hm, List.append_nil]
            rfl
    · rw [show isMin w x b = false by unfold isMin; rw [Bool.eq_false_iff.mpr hc, Bool.false_and], if_neg (by decide), List.append_nil] at h
      refine Ev.step (fun k => ?_) h
      simp only [spec_l10Blocks.l0]
      rw [if_pos (Int.natCast_nonneg _), shl1 (by omega), if_pos (Int.ofNat_lt.mpr hb), if_pos (Int.natCast_nonneg _), bxorN (by omega) (by omega), if_pos (Int.natCast_nonneg _), at1 t.w63, at1 t.w63, if_pos (by
        unfold chg at hc
        have : w.testBit x = w.testBit (x ^^^ b) := by simpa using hc
        rw [this]), w64 (by omega) (by omega)]
      rfl
  · refine ev0 fun k => ?_
    simp only [spec_l10Blocks.l0]
    rw [if_pos (Int.natCast_nonneg _), shl1 (by omega), if_neg (by omega)]

theorem impl_isBits_eq (b : Int) : impl_isBits.f b = some (decide (0 ≤ b ∧ b ≤ 5)) := by
  unfold impl_isBits.f
  by_cases h : b ≥ 0
  · rw [if_pos h]; simp [show 0 ≤ b from h]
  · rw [if_neg h]; simp [show ¬ 0 ≤ b from h]

theorem impl_Table_size_eq {n : Nat} (h : n ≤ 62) (W : Int) : impl_Table_size.f n W = some ((2 ^ n : Nat) : Int) := by
  unfold impl_Table_size.f
  rw [if_pos (Int.natCast_nonneg _), shl1 h]

theorem impl_IsTable_eq (b W : Int) : impl_IsTable.f b W = some (isTab b W) := by
  unfold impl_IsTable.f
  rw [impl_isBits_eq, Option.bind_some]
  by_cases h : 0 ≤ b ∧ b ≤ 5
  · obtain ⟨n, rfl⟩ := Int.eq_ofNat_of_zero_le h.1
    rw [if_pos (decide_eq_true h)]
    by_cases h2 : W ≥ 0
    · rw [if_pos h2]
      obtain ⟨w, rfl⟩ := Int.eq_ofNat_of_zero_le h2
      have hp : 2 ^ n ≤ 2 ^ 5 := Nat.pow_le_pow_right (by omega) (by omega)
      rw [impl_Table_size_eq (by omega), Option.bind_some, if_pos (Int.natCast_nonneg _), shrS (by omega)]
      congr 1
      unfold isTab
      rw [Bool.eq_iff_iff, decide_eq_true_iff, beq_iff_eq, Int.toNat_natCast]
      have e : ((2 : Int) ^ 2 ^ n) = ((2 ^ 2 ^ n : Nat) : Int) := by push_cast; rfl
      rw [e]
      have hd : w / 2 ^ 2 ^ n = 0 ↔ w < 2 ^ 2 ^ n := by rw [Nat.div_eq_zero_iff]; have := Nat.two_pow_pos (2 ^ n); omega
      constructor
      · intro h3
        have := hd.1 (by omega)
        omega
      · rintro ⟨_, _, _, h4⟩
        have := hd.2 (by omega)
        omega
    · rw [if_neg h2, show isTab n W = false from decide_eq_false fun h3 => h2 h3.2.2.1]
  · rw [if_neg (by rw [decide_eq_false h]; decide), show isTab b W = false from decide_eq_false fun h3 => h ⟨h3.1, h3.2.1⟩]

theorem impl_isInput_eq {n : Nat} (h : n ≤ 62) (x : Int) : impl_isInput.f n x = some (isInp n x) := by
  unfold impl_isInput.f
  by_cases h0 : x ≥ 0
  · rw [if_pos h0, if_pos (Int.natCast_nonneg _), shl1 h, isInp_lt h0]
  · rw [if_neg h0, show isInp n x = false from decide_eq_false fun h3 => h0 h3.1]

theorem impl_hasInput_eq (b W x : Int) : impl_hasInput.f b W x = some (isTab b W && isInp b x) := by
  unfold impl_hasInput.f
  rw [impl_IsTable_eq, Option.bind_some]
  by_cases h : isTab b W = true
  · obtain ⟨n, w, rfl, rfl, t⟩ := isTab_yes h
    rw [if_pos h, impl_isInput_eq (by have := t.hn; omega), Option.bind_some, h, Bool.true_and]
  · rw [if_neg h, Bool.eq_false_iff.mpr h, Bool.false_and]

theorem impl_Table_at_eq {n w : Nat} (t : Tab n w) (x : Nat) : impl_Table_at.f n w x = some (b2i (w.testBit x)) := by
  unfold impl_Table_at.f
  rw [if_pos (Int.natCast_nonneg _), at1 t.w63]

theorem impl_Table_changes_eq {n w : Nat} (t : Tab n w) {x y : Nat} (hx : x < 4294967296) (hy : y < 4294967296) : impl_Table_changes.f n w x y = some (chg w x y) := by
  unfold impl_Table_changes.f
  rw [impl_Table_at_eq t, Option.bind_some, bxorN (by omega) (by omega), impl_Table_at_eq t, Option.bind_some, b2i_ne]
  rfl

theorem impl_Table_blocks_down {n w : Nat} (t : Tab n w) {x b : Nat} (hx : x < 32) (hb : b < 32) (L : List Int) (hL : L.length ≤ 1000) (N : Int) {r : List Int} :
    ∀ m p, p ≤ m → p &&& b = p → p < 32 → Ev (fun k => impl_Table_blocks.l0 k x (if downOk w x b p = true then L ++ [(b : Int)] else L) N ((b + 1 : Nat) : Int) n w) r →
      Ev (fun k => impl_Table_blocks.l1 k x L b true p N b n w) r := by
  intro m
  induction m with
  | zero =>
    intro p hp _ _ h
    obtain rfl : p = 0 := by omega
    rw [downOk_zero, if_pos rfl] at h
    refine Ev.step (fun k => ?_) h
    simp only [impl_Table_blocks.l1, if_true]
    rw [if_neg (by omega), if_pos (by omega), w64 (by omega) (by omega)]
    rfl
  | succ m ih =>
    intro p hp hpb hp32 h
    by_cases h0 : p = 0
    · subst h0
      rw [downOk_zero, if_pos rfl] at h
      refine Ev.step (fun k => ?_) h
      simp only [impl_Table_blocks.l1, if_true]
      rw [if_neg (by omega), if_pos (by omega), w64 (by omega) (by omega)]
      rfl
    · rw [downOk_step hb hpb (by omega) hp32] at h
      have hle : (p - 1) &&& b ≤ p - 1 := Nat.and_le_left
      by_cases hc : chg w x p = true
      · rw [hc, Bool.not_true, Bool.false_and, if_neg (by decide)] at h
        refine Ev.step (f := fun k => impl_Table_blocks.l1 k x L b false (((p - 1) &&& b : Nat) : Int) N b n w) (fun k => ?_) (Ev.step (fun k => ?_) h)
        · simp only [impl_Table_blocks.l1, if_true]
          rw [if_pos (by omega), impl_Table_changes_eq t (by omega) (by omega), Option.bind_some, hc, w64 (by omega) (by omega), show ((p : Int) - 1) = ((p - 1 : Nat) : Int) by omega, bandN (by omega) (by omega)]
          rfl
        · simp only [impl_Table_blocks.l1, Bool.false_eq_true, if_false]
          rw [w64 (by omega) (by omega)]
          rfl
      · rw [Bool.eq_false_iff.mpr hc, Bool.not_false, Bool.true_and] at h
        refine Ev.step (fun k => ?_) (ih ((p - 1) &&& b) (by omega) (part_closed b p) (by omega) h)
        simp only [impl_Table_blocks.l1, if_true]
        rw [if_pos (by omega), impl_Table_changes_eq t (by omega) (by omega), Option.bind_some, Bool.eq_false_iff.mpr hc, w64 (by omega) (by omega), show ((p : Int) - 1) = ((p - 1 : Nat) : Int) by omega, bandN (by omega) (by omega)]
        rfl
theorem impl_Table_blocks_ev {n w : Nat} (t : Tab n w) {x : Nat} (hx : x < 2 ^ n) : Ev (fun k => impl_Table_blocks.f k n w x) (ints (blk w x (2 ^ n))) := by
  have hn := t.hn
  have hs := t.size
  unfold impl_Table_blocks.f
  simp only [impl_Table_size_eq (show n ≤ 62 by omega), Option.bind_some]
  refine ev_for (fun k b => impl_Table_blocks.l0 k x (ints (blk w x b)) ((2 ^ n : Nat) : Int) (b : Int) n w) (2 ^ n) ?_ ?_
  · intro b hb h
    have hl := blk_len w x b
    rw [blk_succ] at h
    by_cases hc : chg w x b = true
    · have h0 : b ≠ 0 := by rintro rfl; rw [chg_zero] at hc; exact absurd hc (by decide)
      have hle : (b - 1) &&& b ≤ b - 1 := Nat.and_le_left
      rw [isMin_down (by omega) (by omega), hc, Bool.true_and] at h
      refine Ev.step (f := fun k => impl_Table_blocks.l1 k x (ints (blk w x b)) b true (((b - 1) &&& b : Nat) : Int) ((2 ^ n : Nat) : Int) b n w) (fun k => ?_) ?_
      · simp only [impl_Table_blocks.l0]
        rw [if_pos (Int.ofNat_lt.mpr hb), impl_Table_changes_eq t (by omega) (by omega), Option.bind_some, hc, w64 (by omega) (by omega), show ((b : Int) - 1) = ((b - 1 : Nat) : Int) by omega, bandN (by omega) (by omega)]
      · refine impl_Table_blocks_down t (by omega) (by omega) _ (by rw [ints_len]; omega) _ b _ (by omega) (part_closed b b) (by omega) ?_
        by_cases hd : downOk w x b ((b - 1) &&& b) = true
        · rw [if_pos hd, ints_append] at h
          rw [if_pos hd]
          exact h
        · rw [if_neg hd, List.append_nil] at h
          rw [if_neg hd]
          exact h
    · rw [show isMin w x b = false by unfold isMin; rw [Bool.eq_false_iff.mpr hc, Bool.false_and], if_neg (by decide), List.append_nil] at h
      refine Ev.step (f := fun k => impl_Table_blocks.l1 k x (ints (blk w x b)) b false (Go.bits .and .i64 (wrap64 ((b : Int) - 1)) b) ((2 ^ n : Nat) : Int) b n w) (fun k => ?_) (Ev.step (fun k => ?_) h)
      · simp only [impl_Table_blocks.l0]
        rw [if_pos (Int.ofNat_lt.mpr hb), impl_Table_changes_eq t (by omega) (by omega), Option.bind_some, Bool.eq_false_iff.mpr hc]
      · simp only [impl_Table_blocks.l1, Bool.false_eq_true, if_false]
        rw [w64 (by omega) (by omega)]
        rfl
  · refine ev0 fun k => ?_
    simp only [impl_Table_blocks.l0]
    rw [if_neg (by omega)]

theorem laws_toTable_eq (b W : Int) : laws_toTable.f b W = some (b, W) := rfl

theorem laws_eqIntS_ev (l : List Int) (h : l.length ≤ 1048576) : Ev (fun k => laws_eqIntS.f k l l) true := by
  unfold laws_eqIntS.f
  simp only [if_true]
  refine ev_for (fun k i => laws_eqIntS.l0 k l l (i : Int)) l.length ?_ ?_
  · intro i hi hh
    refine Ev.step (fun k => ?_) hh
    simp only [laws_eqIntS.l0]
    rw [if_pos (by omega), if_pos (by omega), if_pos (by omega), if_pos trivial, w64 (by omega) (by omega)]
    rfl
  · refine ev0 fun k => ?_
    simp only [laws_eqIntS.l0]
    rw [if_neg (by omega)]

def mk1 (i : Nat) : Int := (i : Int) + 1
theorem marks_ev (l : List Int) (h : l.length ≤ 1048576) : Ev (fun k => laws_markIntS.f k l 1) ((l.length : Int) + 1, tab l.length mk1) := by
  unfold laws_markIntS.f
  refine ev_for (fun k i => laws_markIntS.l0 k (tab i mk1 ++ l.drop i) ((i : Int) + 1) (i : Int)) l.length ?_ ?_
  · intro i hi hh
    refine Ev.step (fun k => ?_) hh
    have hlen : (tab i mk1 ++ l.drop i).length = l.length := by simp [tab_len]; omega
    simp only [laws_markIntS.l0]
    rw [hlen, if_pos (by omega), if_pos (by omega), w64 (by omega) (by omega), w64 (by omega) (by omega), Int.toNat_natCast]
    have e : (tab i mk1 ++ l.drop i).set i ((i : Int) + 1) = tab (i + 1) mk1 ++ l.drop (i + 1) := by
      rw [List.set_append_right _ _ (by rw [tab_len]; exact Nat.le_refl _), tab_len, Nat.sub_self, tab_succ, List.append_assoc, List.drop_eq_getElem_cons hi]
      rfl
    rw [e]
    rfl
  · refine ev0 fun k => ?_
    have hlen : (tab l.length mk1 ++ l.drop l.length).length = l.length := by simp [tab_len]
    simp only [laws_markIntS.l0]
    rw [hlen, if_neg (by omega), List.drop_length, List.append_nil]
theorem held_ev (N : Nat) (h : N ≤ 1048576) : Ev (fun k => laws_heldIntS.f k (tab N mk1) 1) ((N : Int) + 1) := by
  unfold laws_heldIntS.f
  refine ev_for (fun k i => laws_heldIntS.l0 k (tab N mk1) ((i : Int) + 1) (i : Int)) N ?_ ?_
  · intro i hi hh
    refine Ev.step (fun k => ?_) hh
    simp only [laws_heldIntS.l0]
    rw [tab_len, if_pos (by omega), if_pos (by omega), tab_rd _ hi, if_pos (show mk1 i = (i : Int) + 1 from rfl), w64 (by omega) (by omega), w64 (by omega) (by omega)]
    rfl
  · refine ev0 fun k => ?_
    simp only [laws_heldIntS.l0]
    rw [tab_len, if_neg (by omega)]

theorem MinimalBlocks_key (b W x : Int) : ∃ (l : List Int) (c : Bool), l.length ≤ 1048576 ∧ Ev (fun k => spec_MinimalBlocks.f k b W x) (l, c) ∧ Ev (fun k => impl_MinimalBlocks.f k b W x) (l, c) := by
  unfold spec_MinimalBlocks.f impl_MinimalBlocks.f
  simp only [spec_l9In_eq, impl_hasInput_eq, Option.bind_some]
  by_cases h : (isTab b W && isInp b x) = true
  · simp only [if_pos h]
    rw [Bool.and_eq_true] at h
    obtain ⟨n, w, rfl, rfl, t⟩ := isTab_yes h.1
    obtain ⟨x, rfl, hx⟩ := isInp_yes h.2
    have hs := t.size
    have hl := blk_len w x (2 ^ n)
    exact ⟨ints (blk w x (2 ^ n)), true, by rw [ints_len]; omega, ev1' (spec_l10Blocks_ev t hx) fun k hk => by rw [hk]; rfl, ev1' (impl_Table_blocks_ev t hx) fun k hk => by rw [hk]; rfl⟩
  · simp only [if_neg h]
    exact ⟨[], false, by simp, Ev.now _, Ev.now _⟩
theorem FnExactMinimalBlocks (b W x : Int) (hb : (Lit.int .i64 b).wf = true) (hW : (Lit.int .i64 W).wf = true) (hx : (Lit.int .i64 x).wf = true) : ∃ k, laws_FnExactMinimalBlocks.f k b W x = some true := by
  obtain ⟨l, c, hl, h1, h2⟩ := MinimalBlocks_key b W x
  obtain ⟨k, e1, e2, e3, e4, e5⟩ := ev_five h1 h2 (laws_eqIntS_ev l hl) (marks_ev l hl) (held_ev l.length hl)
  refine ⟨k + 2, ?_⟩
  have f1 := at_rounds (g := fun k => spec_MinimalBlocks.f k b W x) (fun k => spec_MinimalBlocks.mono _ _ _ k) (show k ≤ k + 2 by omega) e1
  have f2 := at_rounds (g := fun k => impl_MinimalBlocks.f k b W x) (fun k => impl_MinimalBlocks.mono _ _ _ k) (show k ≤ k + 2 by omega) e2
  have f3 := at_rounds (g := fun k => laws_eqIntS.f k l l) (fun k => laws_eqIntS.mono _ _ k) (show k ≤ k + 2 by omega) e3
  have g2 := at_rounds (g := fun k => impl_MinimalBlocks.f k b W x) (fun k => impl_MinimalBlocks.mono _ _ _ k) (show k ≤ k + 1 by omega) e2
  have g3 := at_rounds (g := fun k => laws_eqIntS.f k l l) (fun k => laws_eqIntS.mono _ _ k) (show k ≤ k + 1 by omega) e3
  have g4 := at_rounds (g := fun k => laws_markIntS.f k l 1) (fun k => laws_markIntS.mono _ _ k) (show k ≤ k + 1 by omega) e4
  have g5 := at_rounds (g := fun k => laws_heldIntS.f k (tab l.length mk1) 1) (fun k => laws_heldIntS.mono _ _ k) (show k ≤ k + 1 by omega) e5
  unfold laws_FnExactMinimalBlocks.f
  simp only [laws_toTable_eq, Option.bind_some, f1, f2, f3, if_true, bne_self_eq_false]
  simp only [laws_FnExactMinimalBlocks.j0, Bool.false_eq_true, if_false, laws_toTable_eq, Option.bind_some, g2, g3, g4, g5, if_true, bne_self_eq_false, show ¬ ((l.length : Int) + 1 < 0) by omega]
  simp only [laws_FnExactMinimalBlocks.j1, Bool.false_eq_true, if_false, e5, Option.bind_some, if_true, show ¬ ((l.length : Int) + 1 < 0) by omega]

end Go.Proofs.Ytoacgiccpndbmaa.Pure
