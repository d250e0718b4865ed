/- What the law FnExactPairsAtDistance comes to, over numbers and lists alone: at every input both sides tell the same. No conditions but the kinds of the numbers. -/
import Derived.Test.YtoacgiccpndbmabMath
import Derived.Test.YtoacgiccpndbmabPop
import Derived.Test.YtoacgiccpndbmabPx1
import Derived.Test.YtoacgiccpndbmabPx10
import Derived.Test.YtoacgiccpndbmabPx11
import Derived.Test.YtoacgiccpndbmabPx2
import Derived.Test.YtoacgiccpndbmabPx3
import Derived.Test.YtoacgiccpndbmabPx4
import Derived.Test.YtoacgiccpndbmabPx5
import Derived.Test.YtoacgiccpndbmabPx8
import Derived.Test.YtoacgiccpndbmabPx9
namespace Go.Proofs.Ytoacgiccpndbmab.Pure
open Go.RowKit Go.Proofs.Ytoacgiccpndbmab.P Go.Proofs.YtoacgiccpndbmabW.PrintWords Go.Proofs.YtoacgiccpndbmabW.PrintLast Go.Proofs.YtoacgiccpndbmabW.PrintMore Go.Proofs.YtoacgiccpndbmabMath
set_option linter.unusedVariables false
set_option linter.unusedSimpArgs false

theorem impl_isBits_eq (b : Int) : impl_isBits.f b = some (decide (0 ≤ b ∧ b ≤ 5)) := by
  unfold impl_isBits.f
  by_cases h : b ≥ 0
  · rw [if_pos h]; simp [show 0 ≤ b from h]
  · rw [if_neg h]; simp [show ¬ 0 ≤ b from h]

theorem impl_Table_size_eq {n : Nat} (h : n ≤ 62) (W : Int) : impl_Table_size.f n W = some ((2 ^ n : Nat) : Int) := by
  unfold impl_Table_size.f
  rw [if_pos (Int.natCast_nonneg _), shl1 h]

theorem impl_IsTable_eq (b W : Int) : impl_IsTable.f b W = some (isTab b W) := by
  unfold impl_IsTable.f
  rw [impl_isBits_eq, Option.bind_some]
  by_cases h : 0 ≤ b ∧ b ≤ 5
  · obtain ⟨n, rfl⟩ := Int.eq_ofNat_of_zero_le h.1
    rw [if_pos (decide_eq_true h)]
    by_cases h2 : W ≥ 0
    · rw [if_pos h2]
      obtain ⟨w, rfl⟩ := Int.eq_ofNat_of_zero_le h2
      have hp : 2 ^ n ≤ 2 ^ 5 := Nat.pow_le_pow_right (by omega) (by omega)
      rw [impl_Table_size_eq (by omega), Option.bind_some, if_pos (Int.natCast_nonneg _), shrS (by omega)]
      congr 1
      unfold isTab
      rw [Bool.eq_iff_iff, decide_eq_true_iff, beq_iff_eq, Int.toNat_natCast]
      have e : ((2 : Int) ^ 2 ^ n) = ((2 ^ 2 ^ n : Nat) : Int) := by push_cast; rfl
      rw [e]
      have hd : w / 2 ^ 2 ^ n = 0 ↔ w < 2 ^ 2 ^ n := by rw [Nat.div_eq_zero_iff]; have := Nat.two_pow_pos (2 ^ n); omega
      constructor
      · intro h3
        have := hd.1 (by omega)
        omega
      · rintro ⟨_, _, _, h4⟩
        have := hd.2 (by omega)
        omega
    · rw [if_neg h2, show isTab n W = false from decide_eq_false fun h3 => h2 h3.2.2.1]
  · rw [if_neg (by rw [decide_eq_false h]; decide), show isTab b W = false from decide_eq_false fun h3 => h ⟨h3.1, h3.2.1⟩]

theorem impl_Table_at_eq {n w : Nat} (t : Tab n w) (x : Nat) : impl_Table_at.f n w x = some (b2i (w.testBit x)) := by
  unfold impl_Table_at.f
  rw [if_pos (Int.natCast_nonneg _), at1 t.w63]

theorem bits_OnesCount64_eq {a : Nat} (h : a < 4294967296) : bits_OnesCount64.f a = some ((pc a : Nat) : Int) := by
  obtain ⟨c0, c1, c2, c3, g0, g1, g2, g3, hv, hp, l1, l2⟩ := n123 h
  have e1 : IntKind.u64.wrap ((Go.bits .and .u64 ((a : Int) / 2) 6148914691236517205) + (Go.bits .and .u64 (a : Int) 6148914691236517205)) = ((n1 a : Nat) : Int) := by
    rw [show (a : Int) / 2 = ((a / 2 : Nat) : Int) by omega, show (6148914691236517205 : Int) = ((6148914691236517205 : Nat) : Int) from rfl, uand (by omega) (by omega), uand (by omega) (by omega), ← Int.natCast_add]
    exact uwrap (by unfold n1 at l1; omega)
  have e2 : IntKind.u64.wrap ((Go.bits .and .u64 (((n1 a : Nat) : Int) / 4) 3689348814741910323) + (Go.bits .and .u64 ((n1 a : Nat) : Int) 3689348814741910323)) = ((n2 (n1 a) : Nat) : Int) := by
    rw [show ((n1 a : Nat) : Int) / 4 = ((n1 a / 4 : Nat) : Int) by omega, show (3689348814741910323 : Int) = ((3689348814741910323 : Nat) : Int) from rfl, uand (by omega) (by omega), uand (by omega) (by omega), ← Int.natCast_add]
    exact uwrap (by unfold n2 at l2; omega)
  have e3 : Go.bits .and .u64 (IntKind.u64.wrap ((((n2 (n1 a) : Nat) : Int) / 16) + ((n2 (n1 a) : Nat) : Int))) 1085102592571150095 = ((n3 (n2 (n1 a)) : Nat) : Int) := by
    rw [show ((n2 (n1 a) : Nat) : Int) / 16 = ((n2 (n1 a) / 16 : Nat) : Int) by omega, ← Int.natCast_add, uwrap (by omega), show (1085102592571150095 : Int) = ((1085102592571150095 : Nat) : Int) from rfl, uand (by omega) (by omega)]
    rfl
  unfold bits_OnesCount64.f
  rw [e1, e2, e3, hv]
  rw [fold4 g0 g1 g2 g3, fold5 g0 g1 g2 g3, fold6 g0 g1 g2 g3, fold7 g0 g1 g2 g3, hp]

theorem impl_ones_eq {a : Nat} (h : a < 4294967296) : impl_ones.f a = some ((pc a : Nat) : Int) := by
  unfold impl_ones.f
  rw [uwrap (by omega), bits_OnesCount64_eq h, Option.bind_some]

theorem impl_PairsAtDistance_ev {n w : Nat} (t : Tab n w) : Ev (fun k => impl_PairsAtDistance.f k n w) (tab (n + 1) (pairsD n w)) := by
  have hn := t.hn
  have hs := t.size
  unfold impl_PairsAtDistance.f
  simp only [impl_IsTable_eq, isTab_mk t, Option.bind_some, if_true, w64 (x := (n : Int) + 1) (by omega) (by omega), if_pos (show (0 : Int) ≤ (n : Int) + 1 by omega), show ((n : Int) + 1).toNat = n + 1 by omega, if_pos (show n + 1 ≤ 35184372088832 by omega), impl_Table_size_eq (show n ≤ 62 by omega), pairs2_start _ w]
  refine ev_for (fun k x => impl_PairsAtDistance.l0 k (tab (n + 1) (pairs2 w x 0)) ((2 ^ n : Nat) : Int) (x : Int) n w) (2 ^ n) ?_ ?_
  · intro x hx h
    refine Ev.step (f := fun k => impl_PairsAtDistance.l1 k (tab (n + 1) (pairs2 w x 0)) (x : Int) ((2 ^ n : Nat) : Int) (x : Int) (x : Int) 0 n w) (fun k => ?_) ?_
    · simp only [impl_PairsAtDistance.l0]
      rw [if_pos (Int.ofNat_lt.mpr hx)]
    refine ev_for (fun k y => impl_PairsAtDistance.l1 k (tab (n + 1) (pairs2 w x y)) (x : Int) ((2 ^ n : Nat) : Int) (x : Int) (x : Int) (y : Int) n w) x ?_ ?_
    · intro y hy h
      refine Ev.step (fun k => ?_) h
      have hxy : x ^^^ y < 2 ^ n := Nat.xor_lt_two_pow hx (by omega)
      have hpc : pc (x ^^^ y) ≤ n := pc_le_n (by omega) hxy
      have hr := pairs2_range (w := w) (x := x) (y := y) (k := pc (x ^^^ y)) (by omega) (by omega)
      simp only [impl_PairsAtDistance.l1]
      rw [if_pos (Int.ofNat_lt.mpr hy), impl_Table_at_eq t, Option.bind_some, impl_Table_at_eq t, Option.bind_some, w64 (x := (y : Int) + 1) (by omega) (by omega)]
      by_cases e : w.testBit x = w.testBit y
      · rw [if_pos (by rw [e]), show tab (n + 1) (pairs2 w x (y + 1)) = tab (n + 1) (pairs2 w x y) from tab_congr fun k _ => pairs2_same k e]
        rfl
      · rw [if_neg (fun h => e (b2i_eq.1 h)), bxorN (by omega) (by omega), impl_ones_eq (by omega), Option.bind_some, if_pos (Int.natCast_nonneg _), tab_len, if_pos (by omega), Int.toNat_natCast, tab_rd _ (by omega), w64 (by omega) (by omega), pairs2_diff _ e]
        rfl
    · refine Ev.step (fun k => ?_) h
      simp only [impl_PairsAtDistance.l1]
      rw [if_neg (by omega), w64 (by omega) (by omega), show tab (n + 1) (pairs2 w x x) = tab (n + 1) (pairs2 w (x + 1) 0) from tab_congr fun k _ => pairs2_row w x k]
      rfl
  · refine ev0 fun k => ?_
    simp only [impl_PairsAtDistance.l0]
    rw [if_neg (by omega), show tab (n + 1) (pairs2 w (2 ^ n) 0) = tab (n + 1) (pairsD n w) from tab_congr fun k _ => pairs2_end n w k]
theorem impl_PairsAtDistance_no {b W : Int} (h : ¬ isTab b W = true) : Ev (fun k => impl_PairsAtDistance.f k b W) [] := by
  unfold impl_PairsAtDistance.f
  simp only [impl_IsTable_eq, Option.bind_some, if_neg h]
  exact Ev.now _

theorem spec_IsTable_eq (b W : Int) : spec_IsTable.f b W = some (isTab b W) := rfl

theorem spec_l2Count_l (j : Nat) : ∀ (x : Nat) (s : Nat), j ≤ 32 → x < 2 ^ j → s + j ≤ 64 → Ev (fun k => spec_l2Count.l0 k s x) ((s + pcf j x : Nat) : Int) := by
  induction j with
  | zero =>
    intro x s _ h _
    obtain rfl : x = 0 := by simpa using h
    refine ev0 fun k => ?_
    simp only [spec_l2Count.l0]
    rw [if_neg (by omega)]
    rfl
  | succ j ih =>
    intro x s hj h hs
    have hp : 2 ^ (j + 1) ≤ 2 ^ 32 := Nat.pow_le_pow_right (by omega) hj
    by_cases hx : x = 0
    · subst hx
      refine ev0 fun k => ?_
      simp only [spec_l2Count.l0]
      rw [if_neg (by omega), pcf_zero]
      rfl
    · have := ih (x / 2) (s + x % 2) (by omega) (by rw [Nat.pow_succ] at h; omega) (by omega)
      simp only [pcf]
      rw [← Nat.add_assoc]
      refine Ev.step (fun k => ?_) this
      simp only [spec_l2Count.l0]
      rw [if_pos (by omega), show (1 : Int) = ((1 : Nat) : Int) from rfl, bandN (by omega) (by omega), Nat.and_one_is_mod, ← Int.natCast_add, w64 (by omega) (by omega)]
      rfl
theorem spec_l2Count_ev {x : Nat} (h : x < 4294967296) : Ev (fun k => spec_l2Count.f k x) ((pc x : Nat) : Int) := by
  have := spec_l2Count_l 32 x 0 (by omega) (by omega) (by omega)
  rw [Nat.zero_add] at this
  exact this

theorem spec_PairsAtDistance_ev {n w : Nat} (t : Tab n w) : Ev (fun k => spec_PairsAtDistance.f k n w) (tab (n + 1) (pairsD n w)) := by
  have hn := t.hn
  have hs := t.size
  unfold spec_PairsAtDistance.f
  simp only [spec_IsTable_eq, isTab_mk t, Option.bind_some, if_true, w64 (x := (n : Int) + 1) (by omega) (by omega), if_pos (show (0 : Int) ≤ (n : Int) + 1 by omega), show ((n : Int) + 1).toNat = n + 1 by omega, if_pos (show n + 1 ≤ 35184372088832 by omega), pairs2_start _ w]
  refine ev_for (fun k x => spec_PairsAtDistance.l0 k (tab (n + 1) (pairs2 w x 0)) (x : Int) n w) (2 ^ n) ?_ ?_
  · intro x hx h
    refine Ev.step (f := fun k => spec_PairsAtDistance.l1 k (tab (n + 1) (pairs2 w x 0)) (x : Int) 0 n w) (fun k => ?_) ?_
    · simp only [spec_PairsAtDistance.l0]
      rw [if_pos (Int.natCast_nonneg _), shl1 (by omega), if_pos (Int.ofNat_lt.mpr hx)]
    refine ev_for (fun k y => spec_PairsAtDistance.l1 k (tab (n + 1) (pairs2 w x y)) (x : Int) (y : Int) n w) x ?_ ?_
    · intro y hy h
      have hxy : x ^^^ y < 2 ^ n := Nat.xor_lt_two_pow hx (by omega)
      have hpc : pc (x ^^^ y) ≤ n := pc_le_n (by omega) hxy
      have hr := pairs2_range (w := w) (x := x) (y := y) (k := pc (x ^^^ y)) (by omega) (by omega)
      by_cases e : w.testBit x = w.testBit y
      · refine Ev.step (fun k => ?_) h
        simp only [spec_PairsAtDistance.l1]
        rw [if_pos (Int.ofNat_lt.mpr hy), if_pos (Int.natCast_nonneg _), if_pos (Int.natCast_nonneg _), at1 t.w63, at1 t.w63, w64 (x := (y : Int) + 1) (by omega) (by omega), if_pos (by rw [e]), show tab (n + 1) (pairs2 w x (y + 1)) = tab (n + 1) (pairs2 w x y) from tab_congr fun k _ => pairs2_same k e]
        rfl
      · refine evs1 (spec_l2Count_ev (x := x ^^^ y) (by omega)) (fun k hk => ?_) h
        simp only [spec_PairsAtDistance.l1]
        rw [if_pos (Int.ofNat_lt.mpr hy), if_pos (Int.natCast_nonneg _), if_pos (Int.natCast_nonneg _), at1 t.w63, at1 t.w63, w64 (x := (y : Int) + 1) (by omega) (by omega), if_neg (fun h => e (b2i_eq.1 h)), bxorN (by omega) (by omega), hk, Option.bind_some, Option.bind_some, if_pos (Int.natCast_nonneg _), tab_len, if_pos (by omega), if_pos (Int.natCast_nonneg _), if_pos (by omega), Int.toNat_natCast, tab_rd _ (by omega), w64 (by omega) (by omega), pairs2_diff _ e]
        rfl
    · refine Ev.step (fun k => ?_) h
      simp only [spec_PairsAtDistance.l1]
      rw [if_neg (by omega), w64 (by omega) (by omega), show tab (n + 1) (pairs2 w x x) = tab (n + 1) (pairs2 w (x + 1) 0) from tab_congr fun k _ => pairs2_row w x k]
      rfl
  · refine ev0 fun k => ?_
    simp only [spec_PairsAtDistance.l0]
    rw [if_pos (Int.natCast_nonneg _), shl1 (by omega), if_neg (by omega), show tab (n + 1) (pairs2 w (2 ^ n) 0) = tab (n + 1) (pairsD n w) from tab_congr fun k _ => pairs2_end n w k]
theorem spec_PairsAtDistance_no {b W : Int} (h : ¬ isTab b W = true) : Ev (fun k => spec_PairsAtDistance.f k b W) [] := by
  unfold spec_PairsAtDistance.f
  simp only [spec_IsTable_eq, Option.bind_some, if_neg h]
  exact Ev.now _

theorem laws_toTable_eq (b W : Int) : laws_toTable.f b W = some (b, W) := rfl

theorem laws_eqIntS_ev (l : List Int) (h : l.length ≤ 1048576) : Ev (fun k => laws_eqIntS.f k l l) true := by
  unfold laws_eqIntS.f
  simp only [if_true]
  refine ev_for (fun k i => laws_eqIntS.l0 k l l (i : Int)) l.length ?_ ?_
  · intro i hi hh
    refine Ev.step (fun k => ?_) hh
    simp only [laws_eqIntS.l0]
    rw [if_pos (by omega), if_pos (by omega), if_pos (by omega), if_pos trivial, w64 (by omega) (by omega)]
    rfl
  · refine ev0 fun k => ?_
    simp only [laws_eqIntS.l0]
    rw [if_neg (by omega)]

def mk1 (i : Nat) : Int := (i : Int) + 1
theorem marks_ev (l : List Int) (h : l.length ≤ 1048576) : Ev (fun k => laws_markIntS.f k l 1) ((l.length : Int) + 1, tab l.length mk1) := by
  unfold laws_markIntS.f
  refine ev_for (fun k i => laws_markIntS.l0 k (tab i mk1 ++ l.drop i) ((i : Int) + 1) (i : Int)) l.length ?_ ?_
  · intro i hi hh
    refine Ev.step (fun k => ?_) hh
    have hlen : (tab i mk1 ++ l.drop i).length = l.length := by simp [tab_len]; omega
    simp only [laws_markIntS.l0]
    rw [hlen, if_pos (by omega), if_pos (by omega), w64 (by omega) (by omega), w64 (by omega) (by omega), Int.toNat_natCast]
    have e : (tab i mk1 ++ l.drop i).set i ((i : Int) + 1) = tab (i + 1) mk1 ++ l.drop (i + 1) := by
      rw [List.set_append_right _ _ (by rw [tab_len]; exact Nat.le_refl _), tab_len, Nat.sub_self, tab_succ, List.append_assoc, List.drop_eq_getElem_cons hi]
      rfl
    rw [e]
    rfl
  · refine ev0 fun k => ?_
    have hlen : (tab l.length mk1 ++ l.drop l.length).length = l.length := by simp [tab_len]
    simp only [laws_markIntS.l0]
    rw [hlen, if_neg (by omega), List.drop_length, List.append_nil]
theorem held_ev (N : Nat) (h : N ≤ 1048576) : Ev (fun k => laws_heldIntS.f k (tab N mk1) 1) ((N : Int) + 1) := by
  unfold laws_heldIntS.f
  refine ev_for (fun k i => laws_heldIntS.l0 k (tab N mk1) ((i : Int) + 1) (i : Int)) N ?_ ?_
  · intro i hi hh
    refine Ev.step (fun k => ?_) hh
    simp only [laws_heldIntS.l0]
    rw [tab_len, if_pos (by omega), if_pos (by omega), tab_rd _ hi, if_pos (show mk1 i = (i : Int) + 1 from rfl), w64 (by omega) (by omega), w64 (by omega) (by omega)]
    rfl
  · refine ev0 fun k => ?_
    simp only [laws_heldIntS.l0]
    rw [tab_len, if_neg (by omega)]

theorem PairsAtDistance_key (b W : Int) : ∃ l : List Int, l.length ≤ 1048576 ∧ Ev (fun k => spec_PairsAtDistance.f k b W) l ∧ Ev (fun k => impl_PairsAtDistance.f k b W) l := by
  by_cases h : isTab b W = true
  · obtain ⟨n, w, rfl, rfl, t⟩ := isTab_yes h
    have hn := t.hn
    exact ⟨_, by rw [tab_len]; omega, spec_PairsAtDistance_ev t, impl_PairsAtDistance_ev t⟩
  · exact ⟨[], by simp, spec_PairsAtDistance_no h, impl_PairsAtDistance_no h⟩
theorem FnExactPairsAtDistance (b W : Int) (hb : (Lit.int .i64 b).wf = true) (hW : (Lit.int .i64 W).wf = true) : ∃ k, laws_FnExactPairsAtDistance.f k b W = some true := by
  obtain ⟨l, hl, h1, h2⟩ := PairsAtDistance_key b W
  obtain ⟨k, e1, e2, e3, e4, e5⟩ := ev_five h1 h2 (laws_eqIntS_ev l hl) (marks_ev l hl) (held_ev l.length hl)
  refine ⟨k, ?_⟩
  unfold laws_FnExactPairsAtDistance.f
  simp only [laws_toTable_eq, Option.bind_some, e1, e2, e3, e4, e5, if_true]
  simp only [show ¬ ((l.length : Int) + 1 < 0) by omega, if_false]

end Go.Proofs.Ytoacgiccpndbmab.Pure
