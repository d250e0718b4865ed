/- What the law FnExactRealCoefficients comes to, over numbers and lists alone: at every input both sides tell the same. No conditions but the kinds of the numbers. -/
import Derived.Test.YtoacgiccpndbmabMath
import Derived.Test.YtoacgiccpndbmabPop
import Derived.Test.YtoacgiccpndbmabPx1
import Derived.Test.YtoacgiccpndbmabPx10
import Derived.Test.YtoacgiccpndbmabPx12
import Derived.Test.YtoacgiccpndbmabPx13
import Derived.Test.YtoacgiccpndbmabPx14
import Derived.Test.YtoacgiccpndbmabPx2
import Derived.Test.YtoacgiccpndbmabPx3
import Derived.Test.YtoacgiccpndbmabPx4
import Derived.Test.YtoacgiccpndbmabPx5
namespace Go.Proofs.Ytoacgiccpndbmab.Pure
open Go.RowKit Go.Proofs.Ytoacgiccpndbmab.P Go.Proofs.YtoacgiccpndbmabW.PrintWords Go.Proofs.YtoacgiccpndbmabW.PrintLast Go.Proofs.YtoacgiccpndbmabW.PrintMore Go.Proofs.YtoacgiccpndbmabMath
set_option linter.unusedVariables false
set_option linter.unusedSimpArgs false

theorem impl_isBits_eq (b : Int) : impl_isBits.f b = some (decide (0 ≤ b ∧ b ≤ 5)) := by
  unfold impl_isBits.f
  by_cases h : b ≥ 0
  · rw [if_pos h]; simp [show 0 ≤ b from h]
  · rw [if_neg h]; simp [show ¬ 0 ≤ b from h]

theorem impl_Table_size_eq {n : Nat} (h : n ≤ 62) (W : Int) : impl_Table_size.f n W = some ((2 ^ n : Nat) : Int) := by
  unfold impl_Table_size.f
  rw [if_pos (Int.natCast_nonneg _), shl1 h]

theorem impl_IsTable_eq (b W : Int) : impl_IsTable.f b W = some (isTab b W) := by
  unfold impl_IsTable.f
  rw [impl_isBits_eq, Option.bind_some]
  by_cases h : 0 ≤ b ∧ b ≤ 5
  · obtain ⟨n, rfl⟩ := Int.eq_ofNat_of_zero_le h.1
    rw [if_pos (decide_eq_true h)]
    by_cases h2 : W ≥ 0
    · rw [if_pos h2]
      obtain ⟨w, rfl⟩ := Int.eq_ofNat_of_zero_le h2
      have hp : 2 ^ n ≤ 2 ^ 5 := Nat.pow_le_pow_right (by omega) (by omega)
      rw [impl_Table_size_eq (by omega), Option.bind_some, if_pos (Int.natCast_nonneg _), shrS (by omega)]
      congr 1
      unfold isTab
      rw [Bool.eq_iff_iff, decide_eq_true_iff, beq_iff_eq, Int.toNat_natCast]
      have e : ((2 : Int) ^ 2 ^ n) = ((2 ^ 2 ^ n : Nat) : Int) := by push_cast; rfl
      rw [e]
      have hd : w / 2 ^ 2 ^ n = 0 ↔ w < 2 ^ 2 ^ n := by rw [Nat.div_eq_zero_iff]; have := Nat.two_pow_pos (2 ^ n); omega
      constructor
      · intro h3
        have := hd.1 (by omega)
        omega
      · rintro ⟨_, _, _, h4⟩
        have := hd.2 (by omega)
        omega
    · rw [if_neg h2, show isTab n W = false from decide_eq_false fun h3 => h2 h3.2.2.1]
  · rw [if_neg (by rw [decide_eq_false h]; decide), show isTab b W = false from decide_eq_false fun h3 => h ⟨h3.1, h3.2.1⟩]

theorem impl_Table_at_eq {n w : Nat} (t : Tab n w) (x : Nat) : impl_Table_at.f n w x = some (b2i (w.testBit x)) := by
  unfold impl_Table_at.f
  rw [if_pos (Int.natCast_nonneg _), at1 t.w63]

theorem bits_OnesCount64_eq {a : Nat} (h : a < 4294967296) : bits_OnesCount64.f a = some ((pc a : Nat) : Int) := by
  obtain ⟨c0, c1, c2, c3, g0, g1, g2, g3, hv, hp, l1, l2⟩ := n123 h
  have e1 : IntKind.u64.wrap ((Go.bits .and .u64 ((a : Int) / 2) 6148914691236517205) + (Go.bits .and .u64 (a : Int) 6148914691236517205)) = ((n1 a : Nat) : Int) := by
    rw [show (a : Int) / 2 = ((a / 2 : Nat) : Int) by omega, show (6148914691236517205 : Int) = ((6148914691236517205 : Nat) : Int) from rfl, uand (by omega) (by omega), uand (by omega) (by omega), ← Int.natCast_add]
    exact uwrap (by unfold n1 at l1; omega)
  have e2 : IntKind.u64.wrap ((Go.bits .and .u64 (((n1 a : Nat) : Int) / 4) 3689348814741910323) + (Go.bits .and .u64 ((n1 a : Nat) : Int) 3689348814741910323)) = ((n2 (n1 a) : Nat) : Int) := by
    rw [show ((n1 a : Nat) : Int) / 4 = ((n1 a / 4 : Nat) : Int) by omega, show (3689348814741910323 : Int) = ((3689348814741910323 : Nat) : Int) from rfl, uand (by omega) (by omega), uand (by omega) (by omega), ← Int.natCast_add]
    exact uwrap (by unfold n2 at l2; omega)
  have e3 : Go.bits .and .u64 (IntKind.u64.wrap ((((n2 (n1 a) : Nat) : Int) / 16) + ((n2 (n1 a) : Nat) : Int))) 1085102592571150095 = ((n3 (n2 (n1 a)) : Nat) : Int) := by
    rw [show ((n2 (n1 a) : Nat) : Int) / 16 = ((n2 (n1 a) / 16 : Nat) : Int) by omega, ← Int.natCast_add, uwrap (by omega), show (1085102592571150095 : Int) = ((1085102592571150095 : Nat) : Int) from rfl, uand (by omega) (by omega)]
    rfl
  unfold bits_OnesCount64.f
  rw [e1, e2, e3, hv]
  rw [fold4 g0 g1 g2 g3, fold5 g0 g1 g2 g3, fold6 g0 g1 g2 g3, fold7 g0 g1 g2 g3, hp]

theorem impl_ones_eq {a : Nat} (h : a < 4294967296) : impl_ones.f a = some ((pc a : Nat) : Int) := by
  unfold impl_ones.f
  rw [uwrap (by omega), bits_OnesCount64_eq h, Option.bind_some]

theorem impl_Table_coefficients_ev {n w : Nat} (t : Tab n w) : Ev (fun k => impl_Table_coefficients.f k n w) (tab (2 ^ n) (cof n w)) := by
  have hn := t.hn
  have hs := t.size
  unfold impl_Table_coefficients.f
  simp only [impl_Table_size_eq (show n ≤ 62 by omega), Option.bind_some, Int.toNat_natCast]
  simp only [if_pos (Int.natCast_nonneg (2 ^ n)), if_pos (show 2 ^ n ≤ 35184372088832 by omega), List.length_replicate]
  have e0 := rwS_zero (2 ^ n) (cof n w)
  rw [← e0]
  refine ev_for (fun k u => impl_Table_coefficients.l0 k (rwS (2 ^ n) u (cof n w)) ((2 ^ n : Nat) : Int) (u : Int) n w) (2 ^ n) ?_ ?_
  · intro u hu h
    refine Ev.step (f := fun k => impl_Table_coefficients.l1 k (rwAt (2 ^ n) u (cof n w) 0) (u : Int) ((2 ^ n : Nat) : Int) (u : Int) ((2 ^ n : Nat) : Int) 0 n w) (fun k => ?_) ?_
    · simp only [impl_Table_coefficients.l0]
      rw [if_pos (Int.ofNat_lt.mpr hu), impl_Table_size_eq (by omega), Option.bind_some, rwS_at _ hu]
    refine ev_for (fun k x => impl_Table_coefficients.l1 k (rwAt (2 ^ n) u (cof n w) (sumI x (cofT w u))) (u : Int) ((2 ^ n : Nat) : Int) (u : Int) ((2 ^ n : Nat) : Int) (x : Int) n w) (2 ^ n) ?_ ?_
    · intro x hx h
      refine Ev.step (fun k => ?_) h
      have hb := sumI_abs (n := x) (f := cofT w u) fun _ _ => cofT_range _ _ _
      have hc := cofT_range w u x
      have hxor : u ^^^ x < 2 ^ n := Nat.xor_lt_two_pow hu hx
      simp only [impl_Table_coefficients.l1]
      rw [if_pos (Int.ofNat_lt.mpr hx), bandnotN (by omega) (by omega), w64 (x := (x : Int) + 1) (by omega) (by omega)]
      by_cases e : x &&& u = x
      · rw [if_pos (by rw [e, Nat.xor_self]; rfl), bxorN (by omega) (by omega), impl_ones_eq (by omega), Option.bind_some, Int.tmod_eq_emod_of_nonneg (Int.natCast_nonneg _), if_pos (Int.natCast_nonneg _), rwAt_len _ _ hu, if_pos (Int.ofNat_lt.mpr hu), impl_Table_at_eq t, Option.bind_some, if_pos (Int.natCast_nonneg _), if_pos (Int.ofNat_lt.mpr hu), Option.bind_some, rwAt_rd, Int.toNat_natCast, rwAt_set, rwAt_set]
        have hd : cofT w u x = if par (u ^^^ x) = true then -b2i (w.testBit x) else b2i (w.testBit x) := by unfold cofT; rw [if_pos e]
        have hp : (((pc (u ^^^ x) : Nat) : Int) % 2 = 0) ↔ ¬ par (u ^^^ x) = true := by unfold par; rw [beq_iff_eq]; omega
        by_cases e2 : par (u ^^^ x) = true
        · rw [if_pos e2] at hd
          rw [if_neg (fun h => hp.1 h e2), w64 (by omega) (by omega)]
          show _ = impl_Table_coefficients.l1 k (rwAt _ _ _ (sumI x (cofT w u) + cofT w u x)) _ _ _ _ _ _ _
          rw [hd, Int.sub_eq_add_neg]
          rfl
        · rw [if_neg e2] at hd
          rw [if_pos (hp.2 e2), w64 (by omega) (by omega)]
          show _ = impl_Table_coefficients.l1 k (rwAt _ _ _ (sumI x (cofT w u) + cofT w u x)) _ _ _ _ _ _ _
          rw [hd]
          rfl
      · rw [if_neg (fun h => e (xor_zero (by omega)).symm)]
        show _ = impl_Table_coefficients.l1 k (rwAt _ _ _ (sumI x (cofT w u) + cofT w u x)) _ _ _ _ _ _ _
        rw [show cofT w u x = 0 by unfold cofT; rw [if_neg e], Int.add_zero]
        rfl
    · refine Ev.step (fun k => ?_) h
      simp only [impl_Table_coefficients.l1]
      rw [if_neg (by omega), w64 (by omega) (by omega), show sumI (2 ^ n) (cofT w u) = cof n w u from rfl, rwAt_next _ hu]
      rfl
  · refine ev0 fun k => ?_
    simp only [impl_Table_coefficients.l0]
    rw [if_neg (by omega), rwS_full]

theorem spec_IsTable_eq (b W : Int) : spec_IsTable.f b W = some (isTab b W) := rfl

theorem spec_l2Count_l (j : Nat) : ∀ (x : Nat) (s : Nat), j ≤ 32 → x < 2 ^ j → s + j ≤ 64 → Ev (fun k => spec_l2Count.l0 k s x) ((s + pcf j x : Nat) : Int) := by
  induction j with
  | zero =>
    intro x s _ h _
    obtain rfl : x = 0 := by simpa using h
    refine ev0 fun k => ?_
    simp only [spec_l2Count.l0]
    rw [if_neg (by omega)]
    rfl
  | succ j ih =>
    intro x s hj h hs
    have hp : 2 ^ (j + 1) ≤ 2 ^ 32 := Nat.pow_le_pow_right (by omega) hj
    by_cases hx : x = 0
    · subst hx
      refine ev0 fun k => ?_
      simp only [spec_l2Count.l0]
      rw [if_neg (by omega), pcf_zero]
      rfl
    · have := ih (x / 2) (s + x % 2) (by omega) (by rw [Nat.pow_succ] at h; omega) (by omega)
      simp only [pcf]
      rw [← Nat.add_assoc]
      refine Ev.step (fun k => ?_) this
      simp only [spec_l2Count.l0]
      rw [if_pos (by omega), show (1 : Int) = ((1 : Nat) : Int) from rfl, bandN (by omega) (by omega), Nat.and_one_is_mod, ← Int.natCast_add, w64 (by omega) (by omega)]
      rfl
theorem spec_l2Count_ev {x : Nat} (h : x < 4294967296) : Ev (fun k => spec_l2Count.f k x) ((pc x : Nat) : Int) := by
  have := spec_l2Count_l 32 x 0 (by omega) (by omega) (by omega)
  rw [Nat.zero_add] at this
  exact this

theorem spec_RealCoefficients_no {b W : Int} (h : ¬ isTab b W = true) : Ev (fun k => spec_RealCoefficients.f k b W) [] := by
  unfold spec_RealCoefficients.f
  refine Ev.step (f := fun k => spec_RealCoefficients.j1 k [] 0 false b W) (fun k => ?_) (ev0 fun k => ?_)
  · simp only [spec_RealCoefficients.l0, spec_IsTable_eq, Option.bind_some, if_neg h]
  · simp only [spec_RealCoefficients.j1, Bool.false_eq_true, if_false]
theorem spec_RealCoefficients_ev {n w : Nat} (t : Tab n w) : Ev (fun k => spec_RealCoefficients.f k n w) (tab (2 ^ n) (cof n w)) := by
  have hn := t.hn
  have hs := t.size
  unfold spec_RealCoefficients.f
  refine ev_for (fun k u => spec_RealCoefficients.l0 k (tab u (cof n w)) (u : Int) n w) (2 ^ n) ?_ ?_
  · intro u hu h
    refine Ev.step (f := fun k => spec_RealCoefficients.j1 k (tab u (cof n w)) (u : Int) true n w) (fun k => ?_) (Ev.step (f := fun k => spec_RealCoefficients.l1 k (tab u (cof n w)) (u : Int) 0 0 n w) (fun k => ?_) ?_)
    · simp only [spec_RealCoefficients.l0, spec_IsTable_eq, Option.bind_some, isTab_mk t, if_true]
      rw [if_pos (Int.natCast_nonneg _), shl1 (by omega), decide_eq_true (Int.ofNat_lt.mpr hu)]
    · simp only [spec_RealCoefficients.j1, if_true]
    refine ev_eq (r := tab (2 ^ n) (cof n w)) ?_ rfl
    refine ev_for (fun k x => spec_RealCoefficients.l1 k (tab u (cof n w)) (u : Int) (sumI x (cofT w u)) (x : Int) n w) (u + 1) ?_ ?_
    · intro x hx h
      have hb := sumI_abs (n := x) (f := cofT w u) fun _ _ => cofT_range _ _ _
      have hc := cofT_range w u x
      have hux : x &&& u ≤ u := Nat.and_le_right
      have hxor : u ^^^ x < 2 ^ n := Nat.xor_lt_two_pow hu (by omega)
      by_cases e : x &&& u = x
      · refine evs1 (spec_l2Count_ev (x := u ^^^ x) (by omega)) (fun k hk => ?_) h
        simp only [spec_RealCoefficients.l1]
        rw [if_pos (by omega), bandN (by omega) (by omega), if_pos (by rw [e]), bxorN (by omega) (by omega), hk, Option.bind_some, Int.tmod_eq_emod_of_nonneg (Int.natCast_nonneg _), w64 (x := (x : Int) + 1) (by omega) (by omega), if_pos (Int.natCast_nonneg _), at1 t.w63, if_pos (Int.natCast_nonneg _)]
        have hd : cofT w u x = if par (u ^^^ x) = true then -b2i (w.testBit x) else b2i (w.testBit x) := by unfold cofT; rw [if_pos e]
        have hp : (((pc (u ^^^ x) : Nat) : Int) % 2 = 1) ↔ par (u ^^^ x) = true := by unfold par; rw [beq_iff_eq]; omega
        by_cases e2 : par (u ^^^ x) = true
        · rw [if_pos e2] at hd
          rw [if_pos (hp.2 e2), w64 (by omega) (by omega)]
          show _ = spec_RealCoefficients.l1 k _ _ (sumI x (cofT w u) + cofT w u x) _ _ _
          rw [hd, Int.sub_eq_add_neg]
          rfl
        · rw [if_neg e2] at hd
          rw [if_neg (fun h => e2 (hp.1 h)), w64 (by omega) (by omega)]
          show _ = spec_RealCoefficients.l1 k _ _ (sumI x (cofT w u) + cofT w u x) _ _ _
          rw [hd]
          rfl
      · refine Ev.step (fun k => ?_) h
        simp only [spec_RealCoefficients.l1]
        rw [if_pos (by omega), bandN (by omega) (by omega), if_neg (by omega), w64 (x := (x : Int) + 1) (by omega) (by omega)]
        show _ = spec_RealCoefficients.l1 k _ _ (sumI x (cofT w u) + cofT w u x) _ _ _
        rw [show cofT w u x = 0 by unfold cofT; rw [if_neg e], Int.add_zero]
        rfl
    · refine Ev.step (fun k => ?_) h
      simp only [spec_RealCoefficients.l1]
      rw [if_neg (by omega), if_pos (by rw [tab_len]; omega), tab_succ, w64 (by omega) (by omega), cof_short hu]
      rfl
  · refine Ev.step (f := fun k => spec_RealCoefficients.j1 k (tab (2 ^ n) (cof n w)) ((2 ^ n : Nat) : Int) false n w) (fun k => ?_) (ev0 fun k => ?_)
    · simp only [spec_RealCoefficients.l0, spec_IsTable_eq, Option.bind_some, isTab_mk t, if_true]
      rw [if_pos (Int.natCast_nonneg _), shl1 (by omega), decide_eq_false (by omega)]
    · simp only [spec_RealCoefficients.j1, Bool.false_eq_true, if_false]

theorem laws_toTable_eq (b W : Int) : laws_toTable.f b W = some (b, W) := rfl

theorem laws_eqIntS_ev (l : List Int) (h : l.length ≤ 1048576) : Ev (fun k => laws_eqIntS.f k l l) true := by
  unfold laws_eqIntS.f
  simp only [if_true]
  refine ev_for (fun k i => laws_eqIntS.l0 k l l (i : Int)) l.length ?_ ?_
  · intro i hi hh
    refine Ev.step (fun k => ?_) hh
    simp only [laws_eqIntS.l0]
    rw [if_pos (by omega), if_pos (by omega), if_pos (by omega), if_pos trivial, w64 (by omega) (by omega)]
    rfl
  · refine ev0 fun k => ?_
    simp only [laws_eqIntS.l0]
    rw [if_neg (by omega)]

def mk1 (i : Nat) : Int := (i : Int) + 1
theorem marks_ev (l : List Int) (h : l.length ≤ 1048576) : Ev (fun k => laws_markIntS.f k l 1) ((l.length : Int) + 1, tab l.length mk1) := by
  unfold laws_markIntS.f
  refine ev_for (fun k i => laws_markIntS.l0 k (tab i mk1 ++ l.drop i) ((i : Int) + 1) (i : Int)) l.length ?_ ?_
  · intro i hi hh
    refine Ev.step (fun k => ?_) hh
    have hlen : (tab i mk1 ++ l.drop i).length = l.length := by simp [tab_len]; omega
    simp only [laws_markIntS.l0]
    rw [hlen, if_pos (by omega), if_pos (by omega), w64 (by omega) (by omega), w64 (by omega) (by omega), Int.toNat_natCast]
    have e : (tab i mk1 ++ l.drop i).set i ((i : Int) + 1) = tab (i + 1) mk1 ++ l.drop (i + 1) := by
      rw [List.set_append_right _ _ (by rw [tab_len]; exact Nat.le_refl _), tab_len, Nat.sub_self, tab_succ, List.append_assoc, List.drop_eq_getElem_cons hi]
      rfl
    rw [e]
    rfl
  · refine ev0 fun k => ?_
    have hlen : (tab l.length mk1 ++ l.drop l.length).length = l.length := by simp [tab_len]
    simp only [laws_markIntS.l0]
    rw [hlen, if_neg (by omega), List.drop_length, List.append_nil]
theorem held_ev (N : Nat) (h : N ≤ 1048576) : Ev (fun k => laws_heldIntS.f k (tab N mk1) 1) ((N : Int) + 1) := by
  unfold laws_heldIntS.f
  refine ev_for (fun k i => laws_heldIntS.l0 k (tab N mk1) ((i : Int) + 1) (i : Int)) N ?_ ?_
  · intro i hi hh
    refine Ev.step (fun k => ?_) hh
    simp only [laws_heldIntS.l0]
    rw [tab_len, if_pos (by omega), if_pos (by omega), tab_rd _ hi, if_pos (show mk1 i = (i : Int) + 1 from rfl), w64 (by omega) (by omega), w64 (by omega) (by omega)]
    rfl
  · refine ev0 fun k => ?_
    simp only [laws_heldIntS.l0]
    rw [tab_len, if_neg (by omega)]

theorem RealCoefficients_key (b W : Int) : ∃ l : List Int, l.length ≤ 1048576 ∧ Ev (fun k => spec_RealCoefficients.f k b W) l ∧ Ev (fun k => impl_RealCoefficients.f k b W) l := by
  by_cases h : isTab b W = true
  · obtain ⟨n, w, rfl, rfl, t⟩ := isTab_yes h
    have hs := t.size
    refine ⟨_, ?_, spec_RealCoefficients_ev t, ?_⟩
    · rw [tab_len]; omega
    · unfold impl_RealCoefficients.f
      simp only [impl_IsTable_eq, h, Option.bind_some, if_true]
      exact ev1' (impl_Table_coefficients_ev t) fun k hk => by rw [hk]; rfl
  · refine ⟨[], by simp, spec_RealCoefficients_no h, ?_⟩
    unfold impl_RealCoefficients.f
    simp only [impl_IsTable_eq, Bool.eq_false_iff.mpr h, Option.bind_some, Bool.false_eq_true, if_false]
    exact Ev.now _
theorem FnExactRealCoefficients (b W : Int) (hb : (Lit.int .i64 b).wf = true) (hW : (Lit.int .i64 W).wf = true) : ∃ k, laws_FnExactRealCoefficients.f k b W = some true := by
  obtain ⟨l, hl, h1, h2⟩ := RealCoefficients_key b W
  obtain ⟨k, e1, e2, e3, e4, e5⟩ := ev_five h1 h2 (laws_eqIntS_ev l hl) (marks_ev l hl) (held_ev l.length hl)
  refine ⟨k, ?_⟩
  unfold laws_FnExactRealCoefficients.f
  simp only [laws_toTable_eq, Option.bind_some, e1, e2, e3, e4, e5, if_true]
  simp only [show ¬ ((l.length : Int) + 1 < 0) by omega, if_false]

end Go.Proofs.Ytoacgiccpndbmab.Pure
