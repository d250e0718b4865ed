/- What the law FnExactRealDegree comes to, over numbers and lists alone: at every input both sides tell the same. No conditions but the kinds of the numbers. -/
import Derived.Test.YtmnjhhlnnbadaaaMath
import Derived.Test.YtmnjhhlnnbadaaaCof
import Derived.Test.YtmnjhhlnnbadaaaPop
import Derived.Test.YtmnjhhlnnbadaaaPx1
import Derived.Test.YtmnjhhlnnbadaaaPx14
import Derived.Test.YtmnjhhlnnbadaaaPx15
import Derived.Test.YtmnjhhlnnbadaaaPx16
import Derived.Test.YtmnjhhlnnbadaaaPx17
import Derived.Test.YtmnjhhlnnbadaaaPx3
import Derived.Test.YtmnjhhlnnbadaaaPx4
import Derived.Test.YtmnjhhlnnbadaaaPx40
import Derived.Test.YtmnjhhlnnbadaaaPx6
namespace Go.Proofs.Ytmnjhhlnnbadaaa.Pure
open Go.RowKit Go.Proofs.Ytmnjhhlnnbadaaa.P Go.Proofs.YtmnjhhlnnbadaaaW.PrintWords Go.Proofs.YtmnjhhlnnbadaaaW.PrintLast Go.Proofs.YtmnjhhlnnbadaaaW.PrintMore Go.Proofs.YtmnjhhlnnbadaaaMath
set_option linter.unusedVariables false
set_option linter.unusedSimpArgs false

theorem spec_IsTable_eq (b W : Int) : spec_IsTable.f b W = some (isTab b W) := rfl

theorem spec_l2Count_l (j : Nat) : ∀ (x : Nat) (s : Nat), j ≤ 32 → x < 2 ^ j → s + j ≤ 64 → Ev (fun k => spec_l2Count.l0 k s x) ((s + pcf j x : Nat) : Int) := by
  induction j with
  | zero =>
    intro x s _ h _
    obtain rfl : x = 0 := by simpa using h
    refine ev0 fun k => ?_
    simp only [spec_l2Count.l0]
    rw [if_neg (by omega)]
    rfl
  | succ j ih =>
    intro x s hj h hs
    have hp : 2 ^ (j + 1) ≤ 2 ^ 32 := Nat.pow_le_pow_right (by omega) hj
    by_cases hx : x = 0
    · subst hx
      refine ev0 fun k => ?_
      simp only [spec_l2Count.l0]
      rw [if_neg (by omega), pcf_zero]
      rfl
    · have := ih (x / 2) (s + x % 2) (by omega) (by rw [Nat.pow_succ] at h; omega) (by omega)
      simp only [pcf]
      rw [← Nat.add_assoc]
      refine Ev.step (fun k => ?_) this
      simp only [spec_l2Count.l0]
      rw [if_pos (by omega), show (1 : Int) = ((1 : Nat) : Int) from rfl, bandN (by omega) (by omega), Nat.and_one_is_mod, ← Int.natCast_add, w64 (by omega) (by omega)]
      rfl
theorem spec_l2Count_ev {x : Nat} (h : x < 4294967296) : Ev (fun k => spec_l2Count.f k x) ((pc x : Nat) : Int) := by
  have := spec_l2Count_l 32 x 0 (by omega) (by omega) (by omega)
  rw [Nat.zero_add] at this
  exact this

theorem spec_RealCoefficients_no {b W : Int} (h : ¬ isTab b W = true) : Ev (fun k => spec_RealCoefficients.f k b W) [] := by
  unfold spec_RealCoefficients.f
  refine Ev.step (f := fun k => spec_RealCoefficients.j1 k [] 0 false b W) (fun k => ?_) (ev0 fun k => ?_)
  · simp only [spec_RealCoefficients.l0, spec_IsTable_eq, Option.bind_some, if_neg h]
  · simp only [spec_RealCoefficients.j1, Bool.false_eq_true, if_false]
theorem spec_RealCoefficients_ev {n w : Nat} (t : Tab n w) : Ev (fun k => spec_RealCoefficients.f k n w) (tab (2 ^ n) (cof n w)) := by
  have hn := t.hn
  have hs := t.size
  unfold spec_RealCoefficients.f
  refine ev_for (fun k u => spec_RealCoefficients.l0 k (tab u (cof n w)) (u : Int) n w) (2 ^ n) ?_ ?_
  · intro u hu h
    refine Ev.step (f := fun k => spec_RealCoefficients.j1 k (tab u (cof n w)) (u : Int) true n w) (fun k => ?_) (Ev.step (f := fun k => spec_RealCoefficients.l1 k (tab u (cof n w)) (u : Int) 0 0 n w) (fun k => ?_) ?_)
    · simp only [spec_RealCoefficients.l0, spec_IsTable_eq, Option.bind_some, isTab_mk t, if_true]
      rw [if_pos (Int.natCast_nonneg _), shl1 (by omega), decide_eq_true (Int.ofNat_lt.mpr hu)]
    · simp only [spec_RealCoefficients.j1, if_true]
    refine ev_eq (r := tab (2 ^ n) (cof n w)) ?_ rfl
    refine ev_for (fun k x => spec_RealCoefficients.l1 k (tab u (cof n w)) (u : Int) (sumI x (cofT w u)) (x : Int) n w) (u + 1) ?_ ?_
    · intro x hx h
      have hb := sumI_abs (n := x) (f := cofT w u) fun _ _ => cofT_range _ _ _
      have hc := cofT_range w u x
      have hux : x &&& u ≤ u := Nat.and_le_right
      have hxor : u ^^^ x < 2 ^ n := Nat.xor_lt_two_pow hu (by omega)
      by_cases e : x &&& u = x
      · refine evs1 (spec_l2Count_ev (x := u ^^^ x) (by omega)) (fun k hk => ?_) h
        simp only [spec_RealCoefficients.l1]
        rw [if_pos (by omega), bandN (by omega) (by omega), if_pos (by rw [e]), bxorN (by omega) (by omega), hk, Option.bind_some, Int.tmod_eq_emod_of_nonneg (Int.natCast_nonneg _), w64 (x := (x : Int) + 1) (by omega) (by omega), if_pos (Int.natCast_nonneg _), at1 t.w63, if_pos (Int.natCast_nonneg _)]
        have hd : cofT w u x = if par (u ^^^ x) = true then -b2i (w.testBit x) else b2i (w.testBit x) := by unfold cofT; rw [if_pos e]
        have hp : (((pc (u ^^^ x) : Nat) : Int) % 2 = 1) ↔ par (u ^^^ x) = true := by unfold par; rw [beq_iff_eq]; omega
        by_cases e2 : par (u ^^^ x) = true
        · rw [if_pos e2] at hd
          rw [if_pos (hp.2 e2), w64 (by omega) (by omega)]
          show _ = spec_RealCoefficients.l1 k _ _ (sumI x (cofT w u) + cofT w u x) _ _ _
          rw [hd, Int.sub_eq_add_neg]
          rfl
        · rw [if_neg e2] at hd
          rw [if_neg (fun h => e2 (hp.1 h)), w64 (by omega) (by omega)]
          show _ = spec_RealCoefficients.l1 k _ _ (sumI x (cofT w u) + cofT w u x) _ _ _
          rw [hd]
          rfl
      · refine Ev.step (fun k => ?_) h
        simp only [spec_RealCoefficients.l1]
        rw [if_pos (by omega), bandN (by omega) (by omega), if_neg (by omega), w64 (x := (x : Int) + 1) (by omega) (by omega)]
        show _ = spec_RealCoefficients.l1 k _ _ (sumI x (cofT w u) + cofT w u x) _ _ _
        rw [show cofT w u x = 0 by unfold cofT; rw [if_neg e], Int.add_zero]
        rfl
    · refine Ev.step (fun k => ?_) h
      simp only [spec_RealCoefficients.l1]
      rw [if_neg (by omega), if_pos (by rw [tab_len]; omega), tab_succ, w64 (by omega) (by omega), cof_short hu]
      rfl
  · refine Ev.step (f := fun k => spec_RealCoefficients.j1 k (tab (2 ^ n) (cof n w)) ((2 ^ n : Nat) : Int) false n w) (fun k => ?_) (ev0 fun k => ?_)
    · simp only [spec_RealCoefficients.l0, spec_IsTable_eq, Option.bind_some, isTab_mk t, if_true]
      rw [if_pos (Int.natCast_nonneg _), shl1 (by omega), decide_eq_false (by omega)]
    · simp only [spec_RealCoefficients.j1, Bool.false_eq_true, if_false]

theorem impl_isBits_eq (b : Int) : impl_isBits.f b = some (decide (0 ≤ b ∧ b ≤ 5)) := by
  unfold impl_isBits.f
  by_cases h : b ≥ 0
  · rw [if_pos h]; simp [show 0 ≤ b from h]
  · rw [if_neg h]; simp [show ¬ 0 ≤ b from h]

theorem impl_Table_size_eq {n : Nat} (h : n ≤ 62) (W : Int) : impl_Table_size.f n W = some ((2 ^ n : Nat) : Int) := by
  unfold impl_Table_size.f
  rw [if_pos (Int.natCast_nonneg _), shl1 h]

theorem impl_IsTable_eq (b W : Int) : impl_IsTable.f b W = some (isTab b W) := by
  unfold impl_IsTable.f
  rw [impl_isBits_eq, Option.bind_some]
  by_cases h : 0 ≤ b ∧ b ≤ 5
  · obtain ⟨n, rfl⟩ := Int.eq_ofNat_of_zero_le h.1
    rw [if_pos (decide_eq_true h)]
    by_cases h2 : W ≥ 0
    · rw [if_pos h2]
      obtain ⟨w, rfl⟩ := Int.eq_ofNat_of_zero_le h2
      have hp : 2 ^ n ≤ 2 ^ 5 := Nat.pow_le_pow_right (by omega) (by omega)
      rw [impl_Table_size_eq (by omega), Option.bind_some, if_pos (Int.natCast_nonneg _), shrS (by omega)]
      congr 1
      unfold isTab
      rw [Bool.eq_iff_iff, decide_eq_true_iff, beq_iff_eq, Int.toNat_natCast]
      have e : ((2 : Int) ^ 2 ^ n) = ((2 ^ 2 ^ n : Nat) : Int) := by push_cast; rfl
      rw [e]
      have hd : w / 2 ^ 2 ^ n = 0 ↔ w < 2 ^ 2 ^ n := by rw [Nat.div_eq_zero_iff]; have := Nat.two_pow_pos (2 ^ n); omega
      constructor
      · intro h3
        have := hd.1 (by omega)
        omega
      · rintro ⟨_, _, _, h4⟩
        have := hd.2 (by omega)
        omega
    · rw [if_neg h2, show isTab n W = false from decide_eq_false fun h3 => h2 h3.2.2.1]
  · rw [if_neg (by rw [decide_eq_false h]; decide), show isTab b W = false from decide_eq_false fun h3 => h ⟨h3.1, h3.2.1⟩]

theorem impl_Table_at_eq {n w : Nat} (t : Tab n w) (x : Nat) : impl_Table_at.f n w x = some (b2i (w.testBit x)) := by
  unfold impl_Table_at.f
  rw [if_pos (Int.natCast_nonneg _), at1 t.w63]

theorem bits_OnesCount64_eq {a : Nat} (h : a < 4294967296) : bits_OnesCount64.f a = some ((pc a : Nat) : Int) := by
  obtain ⟨c0, c1, c2, c3, g0, g1, g2, g3, hv, hp, l1, l2⟩ := n123 h
  have e1 : IntKind.u64.wrap ((Go.bits .and .u64 ((a : Int) / 2) 6148914691236517205) + (Go.bits .and .u64 (a : Int) 6148914691236517205)) = ((n1 a : Nat) : Int) := by
    rw [show (a : Int) / 2 = ((a / 2 : Nat) : Int) by omega, show (6148914691236517205 : Int) = ((6148914691236517205 : Nat) : Int) from rfl, uand (by omega) (by omega), uand (by omega) (by omega), ← Int.natCast_add]
    exact uwrap (by unfold n1 at l1; omega)
  have e2 : IntKind.u64.wrap ((Go.bits .and .u64 (((n1 a : Nat) : Int) / 4) 3689348814741910323) + (Go.bits .and .u64 ((n1 a : Nat) : Int) 3689348814741910323)) = ((n2 (n1 a) : Nat) : Int) := by
    rw [show ((n1 a : Nat) : Int) / 4 = ((n1 a / 4 : Nat) : Int) by omega, show (3689348814741910323 : Int) = ((3689348814741910323 : Nat) : Int) from rfl, uand (by omega) (by omega), uand (by omega) (by omega), ← Int.natCast_add]
    exact uwrap (by unfold n2 at l2; omega)
  have e3 : Go.bits .and .u64 (IntKind.u64.wrap ((((n2 (n1 a) : Nat) : Int) / 16) + ((n2 (n1 a) : Nat) : Int))) 1085102592571150095 = ((n3 (n2 (n1 a)) : Nat) : Int) := by
    rw [show ((n2 (n1 a) : Nat) : Int) / 16 = ((n2 (n1 a) / 16 : Nat) : Int) by omega, ← Int.natCast_add, uwrap (by omega), show (1085102592571150095 : Int) = ((1085102592571150095 : Nat) : Int) from rfl, uand (by omega) (by omega)]
    rfl
  unfold bits_OnesCount64.f
  rw [e1, e2, e3, hv]
  rw [fold4 g0 g1 g2 g3, fold5 g0 g1 g2 g3, fold6 g0 g1 g2 g3, fold7 g0 g1 g2 g3, hp]

theorem impl_ones_eq {a : Nat} (h : a < 4294967296) : impl_ones.f a = some ((pc a : Nat) : Int) := by
  unfold impl_ones.f
  rw [uwrap (by omega), bits_OnesCount64_eq h, Option.bind_some]

theorem impl_Table_coefficients_ev {n w : Nat} (t : Tab n w) : Ev (fun k => impl_Table_coefficients.f k n w) (tab (2 ^ n) (cof n w)) := by
  have hn := t.hn
  have hs := t.size
  unfold impl_Table_coefficients.f
  simp only [impl_Table_size_eq (show n ≤ 62 by omega), Option.bind_some, Int.toNat_natCast]
  simp only [if_pos (Int.natCast_nonneg (2 ^ n)), if_pos (show 2 ^ n ≤ 35184372088832 by omega), List.length_replicate]
  have e0 := rwS_zero (2 ^ n) (cof n w)
  rw [← e0]
  refine ev_for (fun k u => impl_Table_coefficients.l0 k (rwS (2 ^ n) u (cof n w)) ((2 ^ n : Nat) : Int) (u : Int) n w) (2 ^ n) ?_ ?_
  · intro u hu h
    refine Ev.step (f := fun k => impl_Table_coefficients.l1 k (rwAt (2 ^ n) u (cof n w) 0) (u : Int) ((2 ^ n : Nat) : Int) (u : Int) ((2 ^ n : Nat) : Int) 0 n w) (fun k => ?_) ?_
    · simp only [impl_Table_coefficients.l0]
      rw [if_pos (Int.ofNat_lt.mpr hu), impl_Table_size_eq (by omega), Option.bind_some, rwS_at _ hu]
    refine ev_for (fun k x => impl_Table_coefficients.l1 k (rwAt (2 ^ n) u (cof n w) (sumI x (cofT w u))) (u : Int) ((2 ^ n : Nat) : Int) (u : Int) ((2 ^ n : Nat) : Int) (x : Int) n w) (2 ^ n) ?_ ?_
    · intro x hx h
      refine Ev.step (fun k => ?_) h
      have hb := sumI_abs (n := x) (f := cofT w u) fun _ _ => cofT_range _ _ _
      have hc := cofT_range w u x
      have hxor : u ^^^ x < 2 ^ n := Nat.xor_lt_two_pow hu hx
      simp only [impl_Table_coefficients.l1]
      rw [if_pos (Int.ofNat_lt.mpr hx), bandnotN (by omega) (by omega), w64 (x := (x : Int) + 1) (by omega) (by omega)]
      by_cases e : x &&& u = x
      · rw [if_pos (by rw [e, Nat.xor_self]; rfl), bxorN (by omega) (by omega), impl_ones_eq (by omega), Option.bind_some, Int.tmod_eq_emod_of_nonneg (Int.natCast_nonneg _), if_pos (Int.natCast_nonneg _), rwAt_len _ _ hu, if_pos (Int.ofNat_lt.mpr hu), impl_Table_at_eq t, Option.bind_some, if_pos (Int.natCast_nonneg _), if_pos (Int.ofNat_lt.mpr hu), Option.bind_some, rwAt_rd, Int.toNat_natCast, rwAt_set, rwAt_set]
        have hd : cofT w u x = if par (u ^^^ x) = true then -b2i (w.testBit x) else b2i (w.testBit x) := by unfold cofT; rw [if_pos e]
        have hp : (((pc (u ^^^ x) : Nat) : Int) % 2 = 0) ↔ ¬ par (u ^^^ x) = true := by unfold par; rw [beq_iff_eq]; omega
        by_cases e2 : par (u ^^^ x) = true
        · rw [if_pos e2] at hd
          rw [if_neg (fun h => hp.1 h e2), w64 (by omega) (by omega)]
          show _ = impl_Table_coefficients.l1 k (rwAt _ _ _ (sumI x (cofT w u) + cofT w u x)) _ _ _ _ _ _ _
          rw [hd, Int.sub_eq_add_neg]
          rfl
        · rw [if_neg e2] at hd
          rw [if_pos (hp.2 e2), w64 (by omega) (by omega)]
          show _ = impl_Table_coefficients.l1 k (rwAt _ _ _ (sumI x (cofT w u) + cofT w u x)) _ _ _ _ _ _ _
          rw [hd]
          rfl
      · rw [if_neg (fun h => e (xor_zero (by omega)).symm)]
        show _ = impl_Table_coefficients.l1 k (rwAt _ _ _ (sumI x (cofT w u) + cofT w u x)) _ _ _ _ _ _ _
        rw [show cofT w u x = 0 by unfold cofT; rw [if_neg e], Int.add_zero]
        rfl
    · refine Ev.step (fun k => ?_) h
      simp only [impl_Table_coefficients.l1]
      rw [if_neg (by omega), w64 (by omega) (by omega), show sumI (2 ^ n) (cofT w u) = cof n w u from rfl, rwAt_next _ hu]
      rfl
  · refine ev0 fun k => ?_
    simp only [impl_Table_coefficients.l0]
    rw [if_neg (by omega), rwS_full]

def mostN (g : Nat → Bool) : Nat → Int
  | 0 => -1
  | x + 1 => if g x = true then mx (mostN g x) ((pc x : Nat) : Int) else mostN g x
theorem impl_degree_most_eq (g : Nat → Bool) : ∀ N, N ≤ 32 → impl_degree.most g N = mostN g N := by
  intro N
  induction N with
  | zero => intro _; rfl
  | succ N ih =>
    intro hN
    simp only [impl_degree.most, mostN]
    rw [ih (by omega), impl_ones_eq (by omega), Option.getD_some]
theorem mostN_congr {g h : Nat → Bool} {N : Nat} (e : ∀ x, x < N → g x = h x) : mostN g N = mostN h N := by
  induction N with
  | zero => rfl
  | succ N ih => simp only [mostN]; rw [ih fun x hx => e x (by omega), e N (by omega)]

theorem laws_toTable_eq (b W : Int) : laws_toTable.f b W = some (b, W) := rfl

theorem spec_RealDegree_ev {n w : Nat} (t : Tab n w) : Ev (fun k => spec_RealDegree.f k n w) (mostN (fun m => cof n w m != 0) (2 ^ n)) := by
  have hn := t.hn
  have hs := t.size
  unfold spec_RealDegree.f
  simp only [spec_IsTable_eq, isTab_mk t, Option.bind_some, if_true]
  refine ev1 (spec_RealCoefficients_ev t) (G := fun k => spec_RealDegree.l0 k (tab (2 ^ n) (cof n w)) (-1) 0) (fun k hk => by rw [hk]; rfl) ?_
  refine ev_for (fun k m => spec_RealDegree.l0 k (tab (2 ^ n) (cof n w)) (mostN (fun m => cof n w m != 0) m) (m : Int)) (2 ^ n) ?_ ?_
  · intro m hm h
    refine evs1 (spec_l2Count_ev (x := m) (by omega)) (fun k hk => ?_) h
    simp only [spec_RealDegree.l0]
    rw [tab_len, if_pos (Int.ofNat_lt.mpr hm), if_pos (Int.natCast_nonneg _), tab_rd _ hm, hk, Option.bind_some, w64 (by omega) (by omega)]
    simp only [mostN]
    by_cases e : cof n w m = 0
    · rw [if_pos e, if_neg (by rw [e]; decide)]; rfl
    · rw [if_neg e, if_pos (by rw [bne_iff_ne]; exact e)]; rfl
  · refine ev0 fun k => ?_
    simp only [spec_RealDegree.l0]
    rw [tab_len, if_neg (by omega)]
theorem FnExactRealDegree (b W : Int) (hb : (Lit.int .i64 b).wf = true) (hW : (Lit.int .i64 W).wf = true) : ∃ k, laws_FnExactRealDegree.f k b W = some true := by
  have key : ∃ r, Ev (fun k => spec_RealDegree.f k b W) r ∧ Ev (fun k => impl_RealDegree.f k b W) r := by
    by_cases h : isTab b W = true
    · have h' := h
      obtain ⟨n, w, rfl, rfl, t⟩ := isTab_yes h
      have hn := t.hn
      have hs := t.size
      refine ⟨_, spec_RealDegree_ev t, ?_⟩
      unfold impl_RealDegree.f
      simp only [impl_IsTable_eq, Option.bind_some, h', if_true]
      refine ev1' (impl_Table_coefficients_ev t) fun k hk => ?_
      rw [hk, Option.bind_some, if_pos ⟨by omega, by rw [tab_len, Int.toNat_natCast]⟩, Int.toNat_natCast, impl_degree_most_eq _ _ hs]
      congr 1
      exact mostN_congr fun m hm => by rw [tab_rd _ hm]
    · unfold spec_RealDegree.f impl_RealDegree.f
      simp only [spec_IsTable_eq, impl_IsTable_eq, Option.bind_some, if_neg h]
      exact ⟨_, Ev.now _, Ev.now _⟩
  obtain ⟨r, h1, h2⟩ := key
  refine Ev.rounds ?_
  unfold laws_FnExactRealDegree.f
  simp only [laws_toTable_eq, Option.bind_some]
  refine ev1 h1 (G := fun k => (impl_RealDegree.f k b W).bind fun t => if t = r then some true else some false) (fun k hk => by rw [hk]; rfl) ?_
  exact ev1' h2 fun k hk => by rw [hk]; simp

end Go.Proofs.Ytmnjhhlnnbadaaa.Pure
