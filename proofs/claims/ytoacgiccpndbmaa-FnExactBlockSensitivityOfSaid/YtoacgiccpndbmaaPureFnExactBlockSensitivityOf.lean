/- What the law FnExactBlockSensitivityOf comes to, over numbers and lists alone: at every input both sides tell the same. No conditions but the kinds of the numbers. -/
import Derived.Test.YtoacgiccpndbmaaMath
import Derived.Test.YtoacgiccpndbmaaBlk
import Derived.Test.YtoacgiccpndbmaaPx1
import Derived.Test.YtoacgiccpndbmaaPx13
import Derived.Test.YtoacgiccpndbmaaPx14
import Derived.Test.YtoacgiccpndbmaaPx15
import Derived.Test.YtoacgiccpndbmaaPx16
import Derived.Test.YtoacgiccpndbmaaPx17
import Derived.Test.YtoacgiccpndbmaaPx18
import Derived.Test.YtoacgiccpndbmaaPx29
import Derived.Test.YtoacgiccpndbmaaPx30
import Derived.Test.YtoacgiccpndbmaaPx4
import Derived.Test.YtoacgiccpndbmaaPx49
import Derived.Test.YtoacgiccpndbmaaPx5
import Derived.Test.YtoacgiccpndbmaaPx6
namespace Go.Proofs.Ytoacgiccpndbmaa.Pure
open Go.RowKit Go.Proofs.Ytoacgiccpndbmaa.P Go.Proofs.YtoacgiccpndbmaaW.PrintWords Go.Proofs.YtoacgiccpndbmaaW.PrintLast Go.Proofs.YtoacgiccpndbmaaW.PrintMore Go.Proofs.YtoacgiccpndbmaaMath
set_option linter.unusedVariables false
set_option linter.unusedSimpArgs false

theorem spec_IsTable_eq (b W : Int) : spec_IsTable.f b W = some (isTab b W) := rfl

theorem spec_l1In_eq (a b c : Int) : spec_l1In.f a b c = some (decide (b ≤ a ∧ a ≤ c)) := by
  unfold spec_l1In.f
  by_cases h : b ≤ a
  · rw [if_pos h]; simp [h]
  · rw [if_neg h]; simp [h]

theorem spec_l9In_eq (b W x : Int) : spec_l9In.f b W x = some (isTab b W && isInp b x) := by
  unfold spec_l9In.f
  rw [spec_IsTable_eq, Option.bind_some]
  by_cases h : isTab b W = true
  · obtain ⟨n, w, rfl, rfl, t⟩ := isTab_yes h
    rw [if_pos h, if_pos (Int.natCast_nonneg _), spec_l1In_eq, Option.bind_some, h, Bool.true_and, shl1m (by have := t.hn; omega), isInp_le]
  · rw [if_neg h, Bool.eq_false_iff.mpr h, Bool.false_and]

theorem spec_l10Blocks_ev {n w : Nat} (t : Tab n w) {x : Nat} (hx : x < 2 ^ n) : Ev (fun k => spec_l10Blocks.f k n w x) (ints (blk w x (2 ^ n))) := by
  have hn := t.hn
  have hs := t.size
  have h2 := Nat.two_pow_pos n
  unfold spec_l10Blocks.f
  have e1 : ([] : List Int) = ints (blk w x 1) := by
    rw [blk_succ]
    have : isMin w x 0 = false := by unfold isMin; rw [chg_zero, Bool.false_and]
    rw [this]
    rfl
  rw [e1]
  refine ev_from (fun k b => spec_l10Blocks.l0 k x (ints (blk w x b)) (b : Int) n w) 1 (2 ^ n) (by omega) ?_ ?_
  · intro b h0 hb h
    have hl := blk_len w x b
    have hxb : x ^^^ b < 2 ^ n := Nat.xor_lt_two_pow hx hb
    rw [blk_succ] at h
    by_cases hc : chg w x b = true
    · refine Ev.step (f := fun k => spec_l10Blocks.l1 k x (ints (blk w x b)) b true 0 n w) (fun k => ?_) ?_
      · simp only [spec_l10Blocks.l0]
        rw [if_pos (Int.natCast_nonneg _), shl1 (by omega), if_pos (Int.ofNat_lt.mpr hb), if_pos (Int.natCast_nonneg _), bxorN (by omega) (by omega), if_pos (Int.natCast_nonneg _), at1 t.w63, at1 t.w63, if_neg]
        intro e
        have := b2i_eq.1 e
        unfold chg at hc
        rw [this] at hc
        simp at hc
      · refine ev_for (fun k i => spec_l10Blocks.l1 k x (ints (blk w x b)) b (((blk w x b).take i).all fun o => o &&& b != o) (i : Int) n w) (blk w x b).length ?_ ?_
        · intro i hi h
          refine Ev.step (fun k => ?_) h
          have hmem : (blk w x b)[i] < 32 := by
            have := (blk_mem.1 (List.getElem_mem hi)).1
            omega
          rw [List.take_succ_eq_append_getElem hi, List.all_append]
          simp only [spec_l10Blocks.l1]
          rw [ints_len, if_pos (Int.ofNat_lt.mpr hi), w64 (by omega) (by omega)]
          by_cases hf : (((blk w x b).take i).all fun o => o &&& b != o) = true
          · rw [if_pos hf, if_pos (Int.natCast_nonneg _), ints_rd hi, bandN (by omega) (by omega), hf, Bool.true_and]
            have : (((((blk w x b)[i] &&& b : Nat) : Int)) != (((blk w x b)[i] : Nat) : Int)) = [(blk w x b)[i]].all fun o => o &&& b != o := by
              rw [List.all_cons, List.all_nil, Bool.and_true, Bool.eq_iff_iff, bne_iff_ne, bne_iff_ne]
              omega
            rw [this]
            rfl
          · rw [if_neg hf, Bool.eq_false_iff.mpr hf, Bool.false_and]
            rfl
        · refine Ev.step (fun k => ?_) h
          simp only [spec_l10Blocks.l1]
          rw [ints_len, if_neg (by omega), List.take_length, ← isMin_iff hc, w64 (by omega) (by omega)]
          by_cases hm : isMin w x b = true
          · rw [if_pos hm, if_pos (by omega), if_pos hm, ints_append]
            rfl
          · rw [if_neg hm, if_neg hm, List.append_nil]
            rfl
    · rw [show isMin w x b = false by unfold isMin; rw [Bool.eq_false_iff.mpr hc, Bool.false_and], if_neg (by decide), List.append_nil] at h
      refine Ev.step (fun k => ?_) h
      simp only [spec_l10Blocks.l0]
      rw [if_pos (Int.natCast_nonneg _), shl1 (by omega), if_pos (Int.ofNat_lt.mpr hb), if_pos (Int.natCast_nonneg _), bxorN (by omega) (by omega), if_pos (Int.natCast_nonneg _), at1 t.w63, at1 t.w63, if_pos (by
        unfold chg at hc
        have : w.testBit x = w.testBit (x ^^^ b) := by simpa using hc
        rw [this]), w64 (by omega) (by omega)]
      rfl
  · refine ev0 fun k => ?_
    simp only [spec_l10Blocks.l0]
    rw [if_pos (Int.natCast_nonneg _), shl1 (by omega), if_neg (by omega)]

theorem spec_l10Pack_l {L : List Nat} (hL : L.length ≤ 32) (hb : ∀ b ∈ L, b < 32) : ∀ d i u best : Nat, L.length - i ≤ d → i ≤ L.length → u < 32 → best ≤ 64 →
    Ev (fun k => spec_l10Pack.l0 k (ints L) u best i) ((max best (pack (L.drop i) u) : Nat) : Int) := by
  intro d
  induction d with
  | zero =>
    intro i u best hd hi hu hbest
    obtain rfl : i = L.length := by omega
    refine ev0 fun k => ?_
    simp only [spec_l10Pack.l0]
    rw [ints_len, if_neg (by omega), List.drop_length]
    simp [pack]
  | succ d ih =>
    intro i u best hd hi hu hbest
    by_cases he : i = L.length
    · subst he
      refine ev0 fun k => ?_
      simp only [spec_l10Pack.l0]
      rw [ints_len, if_neg (by omega), List.drop_length]
      simp [pack]
    · have hlt : i < L.length := by omega
      have hbi := hb L[i] (List.getElem_mem hlt)
      have hor : u ||| L[i] < 2 ^ 5 := Nat.or_lt_two_pow (by omega) (by omega)
      have hp := pack_len (L.drop (i + 1)) (u ||| L[i])
      rw [List.length_drop] at hp
      rw [List.drop_eq_getElem_cons hlt]
      simp only [pack]
      by_cases hf : L[i] &&& u = 0
      · rw [if_pos hf]
        have h1 := ih (i + 1) (u ||| L[i]) 0 (by omega) (by omega) (by omega) (by omega)
        have h1' : Ev (fun k => spec_l10Pack.f k (ints L) ((i + 1 : Nat) : Int) ((u ||| L[i] : Nat) : Int)) ((max 0 (pack (L.drop (i + 1)) (u ||| L[i])) : Nat) : Int) := Ev.step (fun k => by simp only [spec_l10Pack.f]; rfl) h1
        rw [Nat.zero_max] at h1'
        have h2 := ih (i + 1) u (max best (1 + pack (L.drop (i + 1)) (u ||| L[i]))) (by omega) (by omega) hu (by omega)
        rw [show max best (max (pack (L.drop (i + 1)) u) (1 + pack (L.drop (i + 1)) (u ||| L[i]))) = max (max best (1 + pack (L.drop (i + 1)) (u ||| L[i]))) (pack (L.drop (i + 1)) u) by omega]
        refine evs1 h1' (fun k hk => ?_) h2
        simp only [spec_l10Pack.l0]
        rw [ints_len, if_pos (Int.ofNat_lt.mpr hlt), if_pos (Int.natCast_nonneg _), ints_rd hlt, bandN (by omega) (by omega), if_pos (by omega), borN (by omega) (by omega), w64 (x := (i : Int) + 1) (by omega) (by omega), show ((i : Int) + 1) = ((i + 1 : Nat) : Int) from rfl, hk, Option.bind_some, w64 (by omega) (by omega), show (1 + ((pack (L.drop (i + 1)) (u ||| L[i]) : Nat) : Int)) = ((1 + pack (L.drop (i + 1)) (u ||| L[i]) : Nat) : Int) by omega, mx_nat]
      · rw [if_neg hf]
        refine Ev.step (fun k => ?_) (ih (i + 1) u best (by omega) (by omega) hu hbest)
        simp only [spec_l10Pack.l0]
        rw [ints_len, if_pos (Int.ofNat_lt.mpr hlt), if_pos (Int.natCast_nonneg _), ints_rd hlt, bandN (by omega) (by omega), if_neg (by omega), w64 (by omega) (by omega)]
        rfl
theorem spec_l10Pack_ev {L : List Nat} (hL : L.length ≤ 32) (hb : ∀ b ∈ L, b < 32) : Ev (fun k => spec_l10Pack.f k (ints L) 0 0) ((pack L 0 : Nat) : Int) := by
  have h := spec_l10Pack_l hL hb L.length 0 0 0 (by omega) (by omega) (by omega) (by omega)
  rw [List.drop_zero, Nat.zero_max] at h
  exact Ev.step (fun k => by simp only [spec_l10Pack.f]; rfl) h

theorem impl_isBits_eq (b : Int) : impl_isBits.f b = some (decide (0 ≤ b ∧ b ≤ 5)) := by
  unfold impl_isBits.f
  by_cases h : b ≥ 0
  · rw [if_pos h]; simp [show 0 ≤ b from h]
  · rw [if_neg h]; simp [show ¬ 0 ≤ b from h]

theorem impl_Table_size_eq {n : Nat} (h : n ≤ 62) (W : Int) : impl_Table_size.f n W = some ((2 ^ n : Nat) : Int) := by
  unfold impl_Table_size.f
  rw [if_pos (Int.natCast_nonneg _), shl1 h]

theorem impl_IsTable_eq (b W : Int) : impl_IsTable.f b W = some (isTab b W) := by
  unfold impl_IsTable.f
  rw [impl_isBits_eq, Option.bind_some]
  by_cases h : 0 ≤ b ∧ b ≤ 5
  · obtain ⟨n, rfl⟩ := Int.eq_ofNat_of_zero_le h.1
    rw [if_pos (decide_eq_true h)]
    by_cases h2 : W ≥ 0
    · rw [if_pos h2]
      obtain ⟨w, rfl⟩ := Int.eq_ofNat_of_zero_le h2
      have hp : 2 ^ n ≤ 2 ^ 5 := Nat.pow_le_pow_right (by omega) (by omega)
      rw [impl_Table_size_eq (by omega), Option.bind_some, if_pos (Int.natCast_nonneg _), shrS (by omega)]
      congr 1
      unfold isTab
      rw [Bool.eq_iff_iff, decide_eq_true_iff, beq_iff_eq, Int.toNat_natCast]
      have e : ((2 : Int) ^ 2 ^ n) = ((2 ^ 2 ^ n : Nat) : Int) := by push_cast; rfl
      rw [e]
      have hd : w / 2 ^ 2 ^ n = 0 ↔ w < 2 ^ 2 ^ n := by rw [Nat.div_eq_zero_iff]; have := Nat.two_pow_pos (2 ^ n); omega
      constructor
      · intro h3
        have := hd.1 (by omega)
        omega
      · rintro ⟨_, _, _, h4⟩
        have := hd.2 (by omega)
        omega
    · rw [if_neg h2, show isTab n W = false from decide_eq_false fun h3 => h2 h3.2.2.1]
  · rw [if_neg (by rw [decide_eq_false h]; decide), show isTab b W = false from decide_eq_false fun h3 => h ⟨h3.1, h3.2.1⟩]

theorem impl_Table_at_eq {n w : Nat} (t : Tab n w) (x : Nat) : impl_Table_at.f n w x = some (b2i (w.testBit x)) := by
  unfold impl_Table_at.f
  rw [if_pos (Int.natCast_nonneg _), at1 t.w63]

theorem impl_Table_changes_eq {n w : Nat} (t : Tab n w) {x y : Nat} (hx : x < 4294967296) (hy : y < 4294967296) : impl_Table_changes.f n w x y = some (chg w x y) := by
  unfold impl_Table_changes.f
  rw [impl_Table_at_eq t, Option.bind_some, bxorN (by omega) (by omega), impl_Table_at_eq t, Option.bind_some, b2i_ne]
  rfl

theorem impl_Table_blocks_down {n w : Nat} (t : Tab n w) {x b : Nat} (hx : x < 32) (hb : b < 32) (L : List Int) (hL : L.length ≤ 1000) (N : Int) {r : List Int} :
    ∀ m p, p ≤ m → p &&& b = p → p < 32 → Ev (fun k => impl_Table_blocks.l0 k x (if downOk w x b p = true then L ++ [(b : Int)] else L) N ((b + 1 : Nat) : Int) n w) r →
      Ev (fun k => impl_Table_blocks.l1 k x L b true p N b n w) r := by
  intro m
  induction m with
  | zero =>
    intro p hp _ _ h
    obtain rfl : p = 0 := by omega
    rw [downOk_zero, if_pos rfl] at h
    refine Ev.step (fun k => ?_) h
    simp only [impl_Table_blocks.l1, if_true]
    rw [if_neg (by omega), if_pos (by omega), w64 (by omega) (by omega)]
    rfl
  | succ m ih =>
    intro p hp hpb hp32 h
    by_cases h0 : p = 0
    · subst h0
      rw [downOk_zero, if_pos rfl] at h
      refine Ev.step (fun k => ?_) h
      simp only [impl_Table_blocks.l1, if_true]
      rw [if_neg (by omega), if_pos (by omega), w64 (by omega) (by omega)]
      rfl
    · rw [downOk_step hb hpb (by omega) hp32] at h
      have hle : (p - 1) &&& b ≤ p - 1 := Nat.and_le_left
      by_cases hc : chg w x p = true
      · rw [hc, Bool.not_true, Bool.false_and, if_neg (by decide)] at h
        refine Ev.step (f := fun k => impl_Table_blocks.l1 k x L b false (((p - 1) &&& b : Nat) : Int) N b n w) (fun k => ?_) (Ev.step (fun k => ?_) h)
        · simp only [impl_Table_blocks.l1, if_true]
          rw [if_pos (by omega), impl_Table_changes_eq t (by omega) (by omega), Option.bind_some, hc, w64 (by omega) (by omega), show ((p : Int) - 1) = ((p - 1 : Nat) : Int) by omega, bandN (by omega) (by omega)]
          rfl
        · simp only [impl_Table_blocks.l1, Bool.false_eq_true, if_false]
          rw [w64 (by omega) (by omega)]
          rfl
      · rw [Bool.eq_false_iff.mpr hc, Bool.not_false, Bool.true_and] at h
        refine Ev.step (fun k => ?_) (ih ((p - 1) &&& b) (by omega) (part_closed b p) (by omega) h)
        simp only [impl_Table_blocks.l1, if_true]
        rw [if_pos (by omega), impl_Table_changes_eq t (by omega) (by omega), Option.bind_some, Bool.eq_false_iff.mpr hc, w64 (by omega) (by omega), show ((p : Int) - 1) = ((p - 1 : Nat) : Int) by omega, bandN (by omega) (by omega)]
        rfl
theorem impl_Table_blocks_ev {n w : Nat} (t : Tab n w) {x : Nat} (hx : x < 2 ^ n) : Ev (fun k => impl_Table_blocks.f k n w x) (ints (blk w x (2 ^ n))) := by
  have hn := t.hn
  have hs := t.size
  unfold impl_Table_blocks.f
  simp only [impl_Table_size_eq (show n ≤ 62 by omega), Option.bind_some]
  refine ev_for (fun k b => impl_Table_blocks.l0 k x (ints (blk w x b)) ((2 ^ n : Nat) : Int) (b : Int) n w) (2 ^ n) ?_ ?_
  · intro b hb h
    have hl := blk_len w x b
    rw [blk_succ] at h
    by_cases hc : chg w x b = true
    · have h0 : b ≠ 0 := by rintro rfl; rw [chg_zero] at hc; exact absurd hc (by decide)
      have hle : (b - 1) &&& b ≤ b - 1 := Nat.and_le_left
      rw [isMin_down (by omega) (by omega), hc, Bool.true_and] at h
      refine Ev.step (f := fun k => impl_Table_blocks.l1 k x (ints (blk w x b)) b true (((b - 1) &&& b : Nat) : Int) ((2 ^ n : Nat) : Int) b n w) (fun k => ?_) ?_
      · simp only [impl_Table_blocks.l0]
        rw [if_pos (Int.ofNat_lt.mpr hb), impl_Table_changes_eq t (by omega) (by omega), Option.bind_some, hc, w64 (by omega) (by omega), show ((b : Int) - 1) = ((b - 1 : Nat) : Int) by omega, bandN (by omega) (by omega)]
      · refine impl_Table_blocks_down t (by omega) (by omega) _ (by rw [ints_len]; omega) _ b _ (by omega) (part_closed b b) (by omega) ?_
        by_cases hd : downOk w x b ((b - 1) &&& b) = true
        · rw [if_pos hd, ints_append] at h
          rw [if_pos hd]
          exact h
        · rw [if_neg hd, List.append_nil] at h
          rw [if_neg hd]
          exact h
    · rw [show isMin w x b = false by unfold isMin; rw [Bool.eq_false_iff.mpr hc, Bool.false_and], if_neg (by decide), List.append_nil] at h
      refine Ev.step (f := fun k => impl_Table_blocks.l1 k x (ints (blk w x b)) b false (Go.bits .and .i64 (wrap64 ((b : Int) - 1)) b) ((2 ^ n : Nat) : Int) b n w) (fun k => ?_) (Ev.step (fun k => ?_) h)
      · simp only [impl_Table_blocks.l0]
        rw [if_pos (Int.ofNat_lt.mpr hb), impl_Table_changes_eq t (by omega) (by omega), Option.bind_some, Bool.eq_false_iff.mpr hc]
      · simp only [impl_Table_blocks.l1, Bool.false_eq_true, if_false]
        rw [w64 (by omega) (by omega)]
        rfl
  · refine ev0 fun k => ?_
    simp only [impl_Table_blocks.l0]
    rw [if_neg (by omega)]

theorem impl_Table_apart_ev {n w : Nat} (t : Tab n w) {x : Nat} (hx : x < 2 ^ n) : Ev (fun k => impl_Table_apart.f k n w x) ((pack (blk w x (2 ^ n)) 0 : Nat) : Int) := by
  have hn := t.hn
  have hs := t.size
  have h2 := Nat.two_pow_pos n
  have hlen := blk_len w x (2 ^ n)
  have hmem : ∀ b ∈ blk w x (2 ^ n), b < 2 ^ n ∧ b ≠ 0 := fun b hb => ⟨(blk_mem.1 hb).1, isMin_pos (blk_mem.1 hb).2⟩
  generalize hL : blk w x (2 ^ n) = L at *
  have hev := impl_Table_blocks_ev t hx
  rw [hL] at hev
  unfold impl_Table_apart.f
  refine ev1 hev (G := fun k => impl_Table_apart.l0 k (ints L) (rwS (2 ^ n) 0 (inset n L)) ((2 ^ n : Nat) : Int) 0 n w) (fun k hk => ?_) ?_
  · rw [hk, Option.bind_some, impl_Table_size_eq (by omega), Option.bind_some, if_pos (Int.natCast_nonneg _), Int.toNat_natCast, if_pos (by omega), Option.bind_some, List.length_replicate, rwS_zero]
  refine ev_for (fun k s => impl_Table_apart.l0 k (ints L) (rwS (2 ^ n) s (inset n L)) ((2 ^ n : Nat) : Int) (s : Int) n w) (2 ^ n) ?_ ?_
  · intro s hs' h
    refine Ev.step (f := fun k => impl_Table_apart.l1 k (ints L) (rwAt (2 ^ n) s (inset n L) 0) s ((2 ^ n : Nat) : Int) s (ints L) (L.length : Int) 0 n w) (fun k => ?_) ?_
    · simp only [impl_Table_apart.l0]
      rw [if_pos (Int.ofNat_lt.mpr hs'), rwS_at _ hs', ints_len]
    refine ev_for (fun k i => impl_Table_apart.l1 k (ints L) (rwAt (2 ^ n) s (inset n L) ((foldB L (2 ^ n - 1 - s) (L.take i) : Nat) : Int)) s ((2 ^ n : Nat) : Int) s (ints L) (L.length : Int) (i : Int) n w) L.length ?_ ?_
    · intro i hi h
      refine Ev.step (fun k => ?_) h
      obtain ⟨hb1, hb2⟩ := hmem L[i] (List.getElem_mem hi)
      have hf := full_facts n (by omega) s hs' L[i] hb1
      have hst : foldB L (2 ^ n - 1 - s) (L.take (i + 1)) = stepB L (2 ^ n - 1 - s) (foldB L (2 ^ n - 1 - s) (L.take i)) L[i] := by
        unfold foldB
        rw [List.take_succ_eq_append_getElem hi, List.foldl_append]
        rfl
      simp only [impl_Table_apart.l1]
      rw [if_pos (Int.ofNat_lt.mpr hi), if_pos (Int.natCast_nonneg _), ints_len, if_pos (Int.ofNat_lt.mpr hi), ints_rd hi, bandnotN (by omega) (by omega), hst, w64 (x := (i : Int) + 1) (by omega) (by omega)]
      unfold stepB
      by_cases hm : minus L[i] s = 0
      · have hm' := hm
        unfold minus at hm'
        have hp := pack_len L ((2 ^ n - 1 - s) ||| L[i])
        have hlt := (hf.2 hm).2 hb2
        have e3 : rd (rwAt (2 ^ n) s (inset n L) ((foldB L (2 ^ n - 1 - s) (L.take i) : Nat) : Int)) ((minus s L[i] : Nat) : Int) = ((pack L ((2 ^ n - 1 - s) ||| L[i]) : Nat) : Int) := by
          rw [rwAt_rd_lt _ _ hlt, (hf.2 hm).1]
          rfl
        have e4 : Go.bits .andNot .i64 (s : Int) ((L[i] : Nat) : Int) = ((minus s L[i] : Nat) : Int) := bandnotN (by omega) (by omega)
        rw [if_pos (by omega), if_pos (Int.natCast_nonneg _), rwAt_len _ _ hs', if_pos (Int.ofNat_lt.mpr hs'), e4, if_pos (Int.natCast_nonneg _), if_pos (by omega), if_pos (hf.1.2 hm), e3, rwAt_rd, w64 (by omega) (by omega), Int.toNat_natCast, rwAt_set, show (1 + ((pack L ((2 ^ n - 1 - s) ||| L[i]) : Nat) : Int)) = ((1 + pack L ((2 ^ n - 1 - s) ||| L[i]) : Nat) : Int) by omega, mx_nat]
        rfl
      · have hm' := hm
        unfold minus at hm'
        rw [if_neg (by omega), if_neg (fun h => hm (hf.1.1 h))]
        rfl
    · refine Ev.step (fun k => ?_) h
      have hfin : ((foldB L (2 ^ n - 1 - s) L : Nat) : Int) = inset n L s := by
        rw [foldB_eq (fun b hb => (hmem b hb).2)]
        rfl
      simp only [impl_Table_apart.l1]
      rw [if_neg (by omega), List.take_length, hfin, rwAt_next _ hs', w64 (by omega) (by omega)]
      rfl
  · refine ev0 fun k => ?_
    simp only [impl_Table_apart.l0]
    rw [if_neg (by omega), impl_Table_size_eq (by omega), Option.bind_some, w64 (by omega) (by omega), show (((2 ^ n : Nat) : Int) - 1) = ((2 ^ n - 1 : Nat) : Int) by omega, if_pos (Int.natCast_nonneg _), rwS_len _ (by omega), if_pos (by omega), rwS_rd_lt _ (by omega)]
    unfold inset
    rw [Nat.sub_self]

theorem laws_toTable_eq (b W : Int) : laws_toTable.f b W = some (b, W) := rfl

theorem spec_BlockSensitivityAt_ev {n w : Nat} (t : Tab n w) {x : Nat} (hx : x < 2 ^ n) : Ev (fun k => spec_BlockSensitivityAt.f k n w x) ((pack (blk w x (2 ^ n)) 0 : Nat) : Int) := by
  have hs := t.size
  have hlen := blk_len w x (2 ^ n)
  unfold spec_BlockSensitivityAt.f
  simp only [spec_l9In_eq, isTab_mk t, isInp_mk hx, Option.bind_some, Bool.and_self, if_true]
  refine ev1 (spec_l10Blocks_ev t hx) (G := fun k => (spec_l10Pack.f k (ints (blk w x (2 ^ n))) 0 0).bind fun r => some r) (fun k hk => by rw [hk, Option.bind_some]) ?_
  exact ev1' (spec_l10Pack_ev (L := blk w x (2 ^ n)) (by omega) fun b hb => by have := (blk_mem.1 hb).1; omega) fun k hk => by rw [hk]; rfl
def bs (n w : Nat) (x : Nat) : Int := ((pack (blk w x (2 ^ n)) 0 : Nat) : Int)
theorem spec_BlockSensitivityOf_ev {n w : Nat} (t : Tab n w) : Ev (fun k => spec_BlockSensitivityOf.f k n w) (maxI (2 ^ n) (bs n w) 0) := by
  have hn := t.hn
  have hs := t.size
  unfold spec_BlockSensitivityOf.f
  simp only [spec_IsTable_eq, isTab_mk t, Option.bind_some, if_true]
  refine ev_for (fun k x => spec_BlockSensitivityOf.l0 k (maxI x (bs n w) 0) (x : Int) n w) (2 ^ n) ?_ ?_
  · intro x hx h
    refine evs1 (spec_BlockSensitivityAt_ev t hx) (fun k hk => ?_) h
    simp only [spec_BlockSensitivityOf.l0]
    rw [if_pos (by omega), shl1 (by omega), if_pos (Int.ofNat_lt.mpr hx), hk, Option.bind_some, w64 (by omega) (by omega)]
    rfl
  · refine ev0 fun k => ?_
    simp only [spec_BlockSensitivityOf.l0]
    rw [if_pos (by omega), shl1 (by omega), if_neg (by omega)]
theorem impl_BlockSensitivityOf_ev {n w : Nat} (t : Tab n w) : Ev (fun k => impl_BlockSensitivityOf.f k n w) (maxI (2 ^ n) (bs n w) 0) := by
  have hn := t.hn
  have hs := t.size
  unfold impl_BlockSensitivityOf.f
  simp only [impl_IsTable_eq, isTab_mk t, Option.bind_some, if_true, impl_Table_size_eq (show n ≤ 62 by omega)]
  refine ev_for (fun k x => impl_BlockSensitivityOf.l0 k (maxI x (bs n w) 0) ((2 ^ n : Nat) : Int) (x : Int) n w) (2 ^ n) ?_ ?_
  · intro x hx h
    refine evs1 (impl_Table_apart_ev t hx) (fun k hk => ?_) h
    simp only [impl_BlockSensitivityOf.l0]
    rw [if_pos (Int.ofNat_lt.mpr hx), hk, Option.bind_some, w64 (by omega) (by omega)]
    rfl
  · refine ev0 fun k => ?_
    simp only [impl_BlockSensitivityOf.l0]
    rw [if_neg (by omega)]
theorem FnExactBlockSensitivityOf (b W : Int) (hb : (Lit.int .i64 b).wf = true) (hW : (Lit.int .i64 W).wf = true) : ∃ k, laws_FnExactBlockSensitivityOf.f k b W = some true := by
  have key : ∃ r, Ev (fun k => spec_BlockSensitivityOf.f k b W) r ∧ Ev (fun k => impl_BlockSensitivityOf.f k b W) r := by
    by_cases h : isTab b W = true
    · obtain ⟨n, w, rfl, rfl, t⟩ := isTab_yes h
      exact ⟨_, spec_BlockSensitivityOf_ev t, impl_BlockSensitivityOf_ev t⟩
    · unfold spec_BlockSensitivityOf.f impl_BlockSensitivityOf.f
      simp only [spec_IsTable_eq, impl_IsTable_eq, Option.bind_some, if_neg h]
      exact ⟨_, Ev.now _, Ev.now _⟩
  obtain ⟨r, h1, h2⟩ := key
  refine Ev.rounds ?_
  unfold laws_FnExactBlockSensitivityOf.f
  simp only [laws_toTable_eq, Option.bind_some]
  refine ev1 h1 (G := fun k => (impl_BlockSensitivityOf.f k b W).bind fun t => if t = r then some true else some false) (fun k hk => by rw [hk]; rfl) ?_
  exact ev1' h2 fun k hk => by rw [hk]; simp

end Go.Proofs.Ytoacgiccpndbmaa.Pure
