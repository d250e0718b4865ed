/- What the law FnExactTotalInfluence comes to, over numbers and lists alone: at every input both sides tell the same. No conditions but the kinds of the numbers. -/
import Derived.Test.YtoacgiccpndbmaaMath
import Derived.Test.YtoacgiccpndbmaaPop
import Derived.Test.YtoacgiccpndbmaaPx1
import Derived.Test.YtoacgiccpndbmaaPx10
import Derived.Test.YtoacgiccpndbmaaPx3
import Derived.Test.YtoacgiccpndbmaaPx4
import Derived.Test.YtoacgiccpndbmaaPx5
import Derived.Test.YtoacgiccpndbmaaPx6
import Derived.Test.YtoacgiccpndbmaaPx9
namespace Go.Proofs.Ytoacgiccpndbmaa.Pure
open Go.RowKit Go.Proofs.Ytoacgiccpndbmaa.P Go.Proofs.YtoacgiccpndbmaaW.PrintWords Go.Proofs.YtoacgiccpndbmaaW.PrintLast Go.Proofs.YtoacgiccpndbmaaW.PrintMore Go.Proofs.YtoacgiccpndbmaaMath
set_option linter.unusedVariables false
set_option linter.unusedSimpArgs false

theorem spec_IsTable_eq (b W : Int) : spec_IsTable.f b W = some (isTab b W) := rfl

theorem spec_l10At_ev {n w : Nat} (t : Tab n w) {x : Nat} (hx : x < 4294967296) : Ev (fun k => spec_l10At.f k n w x) (sens n w x) := by
  have hn := t.hn
  unfold spec_l10At.f
  refine ev_for (fun k i => spec_l10At.l0 k x (sumI i fun i => b2i (chg w x (2 ^ i))) (i : Int) n w) n ?_ ?_
  · intro i hi h
    refine Ev.step (fun k => ?_) h
    have hp : 2 ^ i ≤ 32 := pow62 (by omega)
    have hb := sum_b2i i fun i => chg w x (2 ^ i)
    have hc := b2i_range (chg w x (2 ^ i))
    simp only [spec_l10At.l0]
    rw [if_pos (by omega), if_pos (by omega), if_pos (by omega), shl1 (by omega), bxorN (by omega) (by omega), if_pos (Int.natCast_nonneg _), at3 t.w63]
    rw [w64 (by omega) (by omega), w64 (by omega) (by omega)]
    rfl
  · refine ev0 fun k => ?_
    simp only [spec_l10At.l0]
    rw [if_neg (by omega)]
    rfl

theorem edges_range (n w N : Nat) : 0 ≤ sumI N (fun x => sens n w x) ∧ sumI N (fun x => sens n w x) ≤ N * n := by
  have := sumI_bound (n := N) (f := fun x => sens n w x) (a := 0) (b := n) fun x _ => sens_range n w x
  omega
theorem spec_SensitiveEdges_ev {n w : Nat} (t : Tab n w) : Ev (fun k => spec_SensitiveEdges.f k n w) (sumI (2 ^ n) (fun x => sens n w x) / 2) := by
  have hn := t.hn
  have hs := t.size
  unfold spec_SensitiveEdges.f
  simp only [spec_IsTable_eq, isTab_mk t, Option.bind_some, if_true]
  refine ev_for (fun k x => spec_SensitiveEdges.l0 k (sumI x fun x => sens n w x) (x : Int) n w) (2 ^ n) ?_ ?_
  · intro x hx h
    refine evs1 (spec_l10At_ev t (x := x) (by omega)) (fun k hk => ?_) h
    have hb := edges_range n w x
    have hc := sens_range n w x
    have hm : (x : Int) * n ≤ 32 * 5 := Int.mul_le_mul (by omega) (by omega) (by omega) (by omega)
    simp only [spec_SensitiveEdges.l0]
    rw [if_pos (by omega), shl1 (by omega), if_pos (Int.ofNat_lt.mpr hx), hk, Option.bind_some, w64 (by omega) (by omega), w64 (by omega) (by omega)]
    rfl
  · refine ev0 fun k => ?_
    have hb := edges_range n w (2 ^ n)
    have hm : ((2 ^ n : Nat) : Int) * n ≤ 32 * 5 := Int.mul_le_mul (by omega) (by omega) (by omega) (by omega)
    simp only [spec_SensitiveEdges.l0]
    rw [if_pos (by omega), shl1 (by omega), if_neg (by omega), Int.tdiv_eq_ediv_of_nonneg hb.1, w64 (by omega) (by omega)]

theorem impl_isBits_eq (b : Int) : impl_isBits.f b = some (decide (0 ≤ b ∧ b ≤ 5)) := by
  unfold impl_isBits.f
  by_cases h : b ≥ 0
  · rw [if_pos h]; simp [show 0 ≤ b from h]
  · rw [if_neg h]; simp [show ¬ 0 ≤ b from h]

theorem impl_Table_size_eq {n : Nat} (h : n ≤ 62) (W : Int) : impl_Table_size.f n W = some ((2 ^ n : Nat) : Int) := by
  unfold impl_Table_size.f
  rw [if_pos (Int.natCast_nonneg _), shl1 h]

theorem impl_IsTable_eq (b W : Int) : impl_IsTable.f b W = some (isTab b W) := by
  unfold impl_IsTable.f
  rw [impl_isBits_eq, Option.bind_some]
  by_cases h : 0 ≤ b ∧ b ≤ 5
  · obtain ⟨n, rfl⟩ := Int.eq_ofNat_of_zero_le h.1
    rw [if_pos (decide_eq_true h)]
    by_cases h2 : W ≥ 0
    · rw [if_pos h2]
      obtain ⟨w, rfl⟩ := Int.eq_ofNat_of_zero_le h2
      have hp : 2 ^ n ≤ 2 ^ 5 := Nat.pow_le_pow_right (by omega) (by omega)
      rw [impl_Table_size_eq (by omega), Option.bind_some, if_pos (Int.natCast_nonneg _), shrS (by omega)]
      congr 1
      unfold isTab
      rw [Bool.eq_iff_iff, decide_eq_true_iff, beq_iff_eq, Int.toNat_natCast]
      have e : ((2 : Int) ^ 2 ^ n) = ((2 ^ 2 ^ n : Nat) : Int) := by push_cast; rfl
      rw [e]
      have hd : w / 2 ^ 2 ^ n = 0 ↔ w < 2 ^ 2 ^ n := by rw [Nat.div_eq_zero_iff]; have := Nat.two_pow_pos (2 ^ n); omega
      constructor
      · intro h3
        have := hd.1 (by omega)
        omega
      · rintro ⟨_, _, _, h4⟩
        have := hd.2 (by omega)
        omega
    · rw [if_neg h2, show isTab n W = false from decide_eq_false fun h3 => h2 h3.2.2.1]
  · rw [if_neg (by rw [decide_eq_false h]; decide), show isTab b W = false from decide_eq_false fun h3 => h ⟨h3.1, h3.2.1⟩]

theorem impl_Table_at_eq {n w : Nat} (t : Tab n w) (x : Nat) : impl_Table_at.f n w x = some (b2i (w.testBit x)) := by
  unfold impl_Table_at.f
  rw [if_pos (Int.natCast_nonneg _), at1 t.w63]

theorem impl_Table_changes_eq {n w : Nat} (t : Tab n w) {x y : Nat} (hx : x < 4294967296) (hy : y < 4294967296) : impl_Table_changes.f n w x y = some (chg w x y) := by
  unfold impl_Table_changes.f
  rw [impl_Table_at_eq t, Option.bind_some, bxorN (by omega) (by omega), impl_Table_at_eq t, Option.bind_some, b2i_ne]
  rfl

theorem impl_Table_influence_ev {n w : Nat} (t : Tab n w) {i : Nat} (hi : i < n) : Ev (fun k => impl_Table_influence.f k n w i) (infl n w i) := by
  have hn := t.hn
  have hs := t.size
  have hp : 2 ^ i ≤ 32 := pow62 (by omega)
  unfold impl_Table_influence.f
  simp only [impl_Table_size_eq (show n ≤ 62 by omega), Option.bind_some]
  refine ev_for (fun k x => impl_Table_influence.l0 k i (sumI x fun x => b2i (chg w x (2 ^ i))) ((2 ^ n : Nat) : Int) (x : Int) n w) (2 ^ n) ?_ ?_
  · intro x hx h
    refine Ev.step (fun k => ?_) h
    have hb := sum_b2i x fun x => chg w x (2 ^ i)
    simp only [impl_Table_influence.l0]
    rw [if_pos (Int.ofNat_lt.mpr hx), if_pos (by omega), shl1 (by omega), impl_Table_changes_eq t (by omega) (by omega), Option.bind_some, w64 (x := (x : Int) + 1) (by omega) (by omega)]
    simp only [sumI]
    by_cases hc : chg w x (2 ^ i) = true
    · rw [if_pos hc, hc, w64 (by omega) (by omega)]
      rfl
    · rw [if_neg hc, Bool.eq_false_iff.mpr hc]
      simp only [b2i, Bool.false_eq_true, if_false, Int.add_zero]
      rfl
  · refine ev0 fun k => ?_
    simp only [impl_Table_influence.l0]
    rw [if_neg (by omega)]
    rfl

theorem impl_Table_influences_ev {n w : Nat} (t : Tab n w) : Ev (fun k => impl_Table_influences.f k n w) (tab n (infl n w)) := by
  have hn := t.hn
  have hs := t.size
  unfold impl_Table_influences.f
  simp only [if_pos (Int.natCast_nonneg n), Int.toNat_natCast, if_pos (show n ≤ 35184372088832 by omega), Option.bind_some, List.length_replicate]
  rw [← rwS_zero n (infl n w)]
  refine ev_for (fun k i => impl_Table_influences.l0 k (rwS n i (infl n w)) (n : Int) (i : Int) n w) n ?_ ?_
  · intro i hi h
    refine evs1 (impl_Table_influence_ev t hi) (fun k hk => ?_) h
    simp only [impl_Table_influences.l0]
    rw [if_pos (Int.ofNat_lt.mpr hi), hk, Option.bind_some, if_pos (Int.natCast_nonneg _), rwS_len _ (by omega), if_pos (Int.ofNat_lt.mpr hi), Int.toNat_natCast, rwS_at _ hi, rwAt_set, rwAt_next _ hi, w64 (by omega) (by omega)]
    rfl
  · refine ev0 fun k => ?_
    simp only [impl_Table_influences.l0]
    rw [if_neg (by omega), rwS_full]

theorem laws_toTable_eq (b W : Int) : laws_toTable.f b W = some (b, W) := rfl

theorem infls_range {n : Nat} (hn : n ≤ 5) (w N : Nat) : 0 ≤ sumI N (infl n w) ∧ sumI N (infl n w) ≤ N * 32 := by
  have := sumI_bound (n := N) (f := infl n w) (a := 0) (b := 32) fun x _ => by
    have := infl_range n w x
    have := pow62 hn
    omega
  omega
theorem impl_TotalInfluence_ev {n w : Nat} (t : Tab n w) : Ev (fun k => impl_TotalInfluence.f k n w) (sumI n (infl n w)) := by
  have hn := t.hn
  have hs := t.size
  unfold impl_TotalInfluence.f
  simp only [impl_IsTable_eq, isTab_mk t, Option.bind_some, if_true]
  refine ev1 (impl_Table_influences_ev t) (G := fun k => impl_TotalInfluence.l0 k 0 (tab n (infl n w)) (n : Int) 0) (fun k hk => by rw [hk, Option.bind_some, tab_len]) ?_
  refine ev_for (fun k i => impl_TotalInfluence.l0 k (sumI i (infl n w)) (tab n (infl n w)) (n : Int) (i : Int)) n ?_ ?_
  · intro i hi h
    refine Ev.step (fun k => ?_) h
    have h1 := infls_range hn w i
    have h2 := infl_range n w i
    simp only [impl_TotalInfluence.l0]
    rw [if_pos (Int.ofNat_lt.mpr hi), if_pos (Int.natCast_nonneg _), tab_len, if_pos (Int.ofNat_lt.mpr hi), tab_rd _ hi, w64 (by omega) (by omega), w64 (by omega) (by omega)]
    rfl
  · refine ev0 fun k => ?_
    simp only [impl_TotalInfluence.l0]
    rw [if_neg (by omega)]
theorem spec_TotalInfluence_ev {n w : Nat} (t : Tab n w) : Ev (fun k => spec_TotalInfluence.f k n w) (sumI n (infl n w)) := by
  have hn := t.hn
  have h1 := infls_range hn w n
  have h2 := edges_even n w
  have h3 := edges_twice n w
  unfold spec_TotalInfluence.f
  simp only [spec_IsTable_eq, isTab_mk t, Option.bind_some, if_true]
  refine ev1' (spec_SensitiveEdges_ev t) fun k hk => ?_
  rw [hk, Option.bind_some, h3]
  rw [h3] at h2
  rw [w64 (by omega) (by omega)]
  congr 1
  omega
theorem FnExactTotalInfluence (b W : Int) (hb : (Lit.int .i64 b).wf = true) (hW : (Lit.int .i64 W).wf = true) : ∃ k, laws_FnExactTotalInfluence.f k b W = some true := by
  have key : ∃ r, Ev (fun k => spec_TotalInfluence.f k b W) r ∧ Ev (fun k => impl_TotalInfluence.f k b W) r := by
    by_cases h : isTab b W = true
    · obtain ⟨n, w, rfl, rfl, t⟩ := isTab_yes h
      exact ⟨_, spec_TotalInfluence_ev t, impl_TotalInfluence_ev t⟩
    · unfold spec_TotalInfluence.f impl_TotalInfluence.f
      simp only [spec_IsTable_eq, impl_IsTable_eq, Option.bind_some, if_neg h]
      exact ⟨_, Ev.now _, Ev.now _⟩
  obtain ⟨r, h1, h2⟩ := key
  refine Ev.rounds ?_
  unfold laws_FnExactTotalInfluence.f
  simp only [laws_toTable_eq, Option.bind_some]
  refine ev1 h1 (G := fun k => (impl_TotalInfluence.f k b W).bind fun t => if t = r then some true else some false) (fun k hk => by rw [hk]; rfl) ?_
  exact ev1' h2 fun k hk => by rw [hk]; simp

end Go.Proofs.Ytoacgiccpndbmaa.Pure
