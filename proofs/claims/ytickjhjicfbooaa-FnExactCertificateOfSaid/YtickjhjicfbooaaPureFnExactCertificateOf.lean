/- What the law FnExactCertificateOf comes to, over numbers and lists alone: at every input both sides tell the same. No conditions but the kinds of the numbers. -/
import Derived.Test.YtickjhjicfbooaaMath
import Derived.Test.YtickjhjicfbooaaCub
import Derived.Test.YtickjhjicfbooaaPop
import Derived.Test.YtickjhjicfbooaaPx1
import Derived.Test.YtickjhjicfbooaaPx10
import Derived.Test.YtickjhjicfbooaaPx2
import Derived.Test.YtickjhjicfbooaaPx3
import Derived.Test.YtickjhjicfbooaaPx30
import Derived.Test.YtickjhjicfbooaaPx4
import Derived.Test.YtickjhjicfbooaaPx5
import Derived.Test.YtickjhjicfbooaaPx6
import Derived.Test.YtickjhjicfbooaaPx7
import Derived.Test.YtickjhjicfbooaaPx9
namespace Go.Proofs.Ytickjhjicfbooaa.Pure
open Go.RowKit Go.Proofs.Ytickjhjicfbooaa.P Go.Proofs.YtickjhjicfbooaaW.PrintWords Go.Proofs.YtickjhjicfbooaaW.PrintLast Go.Proofs.YtickjhjicfbooaaW.PrintMore Go.Proofs.YtickjhjicfbooaaMath
set_option linter.unusedVariables false
set_option linter.unusedSimpArgs false

theorem spec_IsTable_eq (b W : Int) : spec_IsTable.f b W = some (isTab b W) := rfl

theorem spec_l1In_eq (a b c : Int) : spec_l1In.f a b c = some (decide (b ≤ a ∧ a ≤ c)) := by
  unfold spec_l1In.f
  by_cases h : b ≤ a
  · rw [if_pos h]; simp [h]
  · rw [if_neg h]; simp [h]

theorem spec_l9In_eq (b W x : Int) : spec_l9In.f b W x = some (isTab b W && isInp b x) := by
  unfold spec_l9In.f
  rw [spec_IsTable_eq, Option.bind_some]
  by_cases h : isTab b W = true
  · obtain ⟨n, w, rfl, rfl, t⟩ := isTab_yes h
    rw [if_pos h, if_pos (Int.natCast_nonneg _), spec_l1In_eq, Option.bind_some, h, Bool.true_and, shl1m (by have := t.hn; omega), isInp_le]
  · rw [if_neg h, Bool.eq_false_iff.mpr h, Bool.false_and]

theorem spec_l2Count_l (j : Nat) : ∀ (x : Nat) (s : Nat), j ≤ 32 → x < 2 ^ j → s + j ≤ 64 → Ev (fun k => spec_l2Count.l0 k s x) ((s + pcf j x : Nat) : Int) := by
  induction j with
  | zero =>
    intro x s _ h _
    obtain rfl : x = 0 := by simpa using h
    refine ev0 fun k => ?_
    simp only [spec_l2Count.l0]
    rw [if_neg (by omega)]
    rfl
  | succ j ih =>
    intro x s hj h hs
    have hp : 2 ^ (j + 1) ≤ 2 ^ 32 := Nat.pow_le_pow_right (by omega) hj
    by_cases hx : x = 0
    · subst hx
      refine ev0 fun k => ?_
      simp only [spec_l2Count.l0]
      rw [if_neg (by omega), pcf_zero]
      rfl
    · have := ih (x / 2) (s + x % 2) (by omega) (by rw [Nat.pow_succ] at h; omega) (by omega)
      simp only [pcf]
      rw [← Nat.add_assoc]
      refine Ev.step (fun k => ?_) this
      simp only [spec_l2Count.l0]
      rw [if_pos (by omega), show (1 : Int) = ((1 : Nat) : Int) from rfl, bandN (by omega) (by omega), Nat.and_one_is_mod, ← Int.natCast_add, w64 (by omega) (by omega)]
      rfl
theorem spec_l2Count_ev {x : Nat} (h : x < 4294967296) : Ev (fun k => spec_l2Count.f k x) ((pc x : Nat) : Int) := by
  have := spec_l2Count_l 32 x 0 (by omega) (by omega) (by omega)
  rw [Nat.zero_add] at this
  exact this

theorem spec_l3Cube_ev {n w m x : Nat} (t : Tab n w) (hx : x < 2 ^ n) (hm : m < 32) : Ev (fun k => spec_l3Cube.f k n w m ((x &&& m : Nat) : Int)) (cubeV n w m (x &&& m)) := by
  have hn := t.hn
  have hs := t.size
  unfold spec_l3Cube.f
  have h := ev_for (fun k i => if cubeBoth w m (x &&& m) i = true then some 2 else spec_l3Cube.l0 k m ((x &&& m : Nat) : Int) (cubeOut w m (x &&& m) i) (i : Int) n w) (2 ^ n) (r := cubeV n w m (x &&& m)) ?_ ?_
  · exact h
  · intro i hi h
    by_cases hb : cubeBoth w m (x &&& m) i = true
    · have hb2 : cubeBoth w m (x &&& m) (i + 1) = true := by
        unfold cubeBoth at hb ⊢
        rw [Bool.and_eq_true] at hb
        simp only [seenB]
        rw [hb.1, hb.2]
        rfl
      simp only [if_pos hb2] at h
      simp only [if_pos hb]
      exact h
    · simp only [if_neg hb]
      refine Ev.step (fun k => ?_) h
      simp only [spec_l3Cube.l0]
      rw [if_pos (Int.natCast_nonneg _), shl1 (by omega), if_pos (Int.ofNat_lt.mpr hi), bandN (by omega) (by omega), w64 (by omega) (by omega), at1 t.w63]
      unfold cubeBoth cubeOut at *
      simp only [seenB]
      by_cases he : i &&& m = x &&& m
      · rw [if_pos (by rw [he]), if_pos (Int.natCast_nonneg _)]
        simp only [he, beq_self_eq_true, Bool.true_and]
        cases h1 : seenB w m (x &&& m) true i <;> cases h2 : seenB w m (x &&& m) false i <;> cases h3 : w.testBit i <;> simp_all [b2i]
      · rw [if_neg (by omega)]
        have : (i &&& m == x &&& m) = false := by simpa using he
        simp only [this, Bool.false_and, Bool.or_false]
        rw [if_neg hb]
        rfl
  · by_cases hb : cubeBoth w m (x &&& m) (2 ^ n) = true
    · simp only [if_pos hb]
      rw [cubeV_both hb]
      exact Ev.now _
    · simp only [if_neg hb]
      refine ev0 fun k => ?_
      simp only [spec_l3Cube.l0]
      rw [if_pos (Int.natCast_nonneg _), shl1 (by omega), if_neg (by omega), cubeV_out hx rfl hb]

theorem spec_l9Set_ev {n w x : Nat} (t : Tab n w) (hx : x < 2 ^ n) : Ev (fun k => spec_l9Set.f k n w x) ((cert n w x : Nat) : Int) := by
  have hn := t.hn
  have hs := t.size
  unfold spec_l9Set.f
  simp only [if_pos (Int.natCast_nonneg _), shl1m (show n ≤ 62 by omega)]
  have h0 := Nat.two_pow_pos n
  rw [show ((2 ^ n : Nat) : Int) - 1 = ((certB n w x 0 : Nat) : Int) by simp only [certB]; omega]
  refine ev_for (fun k m => spec_l9Set.l0 k x ((certB n w x m : Nat) : Int) (m : Int) n w) (2 ^ n) ?_ ?_
  · intro m hm h
    have hlt := certB_lt n w x (show m ≤ 2 ^ n by omega)
    simp only [certB] at h
    refine evs3 (spec_l2Count_ev (x := m) (by omega)) (spec_l2Count_ev (x := certB n w x m) (by omega)) (spec_l3Cube_ev t hx (m := m) (by omega)) (fun k h1 h2 h3 => ?_) h
    simp only [spec_l9Set.l0]
    rw [if_pos (Int.natCast_nonneg _), shl1 (by omega), if_pos (Int.ofNat_lt.mpr hm), h1, Option.bind_some, h2, Option.bind_some, bandN (by omega) (by omega), h3, Option.bind_some, w64 (by omega) (by omega)]
    simp only [Int.ofNat_lt]
    by_cases hp : pc m < pc (certB n w x m)
    · rw [if_pos hp, if_pos hp]
      by_cases hc : certOk n w m x = true
      · rw [if_pos (of_decide_eq_true hc), if_pos hc]
        rfl
      · rw [if_neg (fun e => hc (decide_eq_true e)), if_neg hc]
        rfl
    · rw [if_neg hp, if_neg hp]
      rfl
  · refine ev0 fun k => ?_
    simp only [spec_l9Set.l0]
    rw [if_pos (Int.natCast_nonneg _), shl1 (by omega), if_neg (by omega)]
    rfl

theorem spec_CertificateAt_ev {n w x : Nat} (t : Tab n w) (hx : x < 2 ^ n) : Ev (fun k => spec_CertificateAt.f k n w x) ((pc (cert n w x) : Nat) : Int) := by
  have hs := t.size
  have hc := cert_lt n w x
  unfold spec_CertificateAt.f
  simp only [spec_l9In_eq, isTab_mk t, isInp_mk hx, Option.bind_some, Bool.and_self, if_true]
  refine ev1 (spec_l9Set_ev t hx) (G := fun k => (spec_l2Count.f k ((cert n w x : Nat) : Int)).bind fun r => some r) (fun k hk => by rw [hk, Option.bind_some]) ?_
  exact ev1' (spec_l2Count_ev (x := cert n w x) (by omega)) fun k hk => by rw [hk]; rfl

theorem impl_isBits_eq (b : Int) : impl_isBits.f b = some (decide (0 ≤ b ∧ b ≤ 5)) := by
  unfold impl_isBits.f
  by_cases h : b ≥ 0
  · rw [if_pos h]; simp [show 0 ≤ b from h]
  · rw [if_neg h]; simp [show ¬ 0 ≤ b from h]

theorem impl_Table_size_eq {n : Nat} (h : n ≤ 62) (W : Int) : impl_Table_size.f n W = some ((2 ^ n : Nat) : Int) := by
  unfold impl_Table_size.f
  rw [if_pos (Int.natCast_nonneg _), shl1 h]

theorem impl_IsTable_eq (b W : Int) : impl_IsTable.f b W = some (isTab b W) := by
  unfold impl_IsTable.f
  rw [impl_isBits_eq, Option.bind_some]
  by_cases h : 0 ≤ b ∧ b ≤ 5
  · obtain ⟨n, rfl⟩ := Int.eq_ofNat_of_zero_le h.1
    rw [if_pos (decide_eq_true h)]
    by_cases h2 : W ≥ 0
    · rw [if_pos h2]
      obtain ⟨w, rfl⟩ := Int.eq_ofNat_of_zero_le h2
      have hp : 2 ^ n ≤ 2 ^ 5 := Nat.pow_le_pow_right (by omega) (by omega)
      rw [impl_Table_size_eq (by omega), Option.bind_some, if_pos (Int.natCast_nonneg _), shrS (by omega)]
      congr 1
      unfold isTab
      rw [Bool.eq_iff_iff, decide_eq_true_iff, beq_iff_eq, Int.toNat_natCast]
      have e : ((2 : Int) ^ 2 ^ n) = ((2 ^ 2 ^ n : Nat) : Int) := by push_cast; rfl
      rw [e]
      have hd : w / 2 ^ 2 ^ n = 0 ↔ w < 2 ^ 2 ^ n := by rw [Nat.div_eq_zero_iff]; have := Nat.two_pow_pos (2 ^ n); omega
      constructor
      · intro h3
        have := hd.1 (by omega)
        omega
      · rintro ⟨_, _, _, h4⟩
        have := hd.2 (by omega)
        omega
    · rw [if_neg h2, show isTab n W = false from decide_eq_false fun h3 => h2 h3.2.2.1]
  · rw [if_neg (by rw [decide_eq_false h]; decide), show isTab b W = false from decide_eq_false fun h3 => h ⟨h3.1, h3.2.1⟩]

theorem impl_isBit_eq (a : Int) : impl_isBit.f a = some (decide (0 ≤ a ∧ a ≤ 1)) := by
  unfold impl_isBit.f
  by_cases h : a = 0
  · rw [if_pos h, decide_eq_true (by omega)]
  · rw [if_neg h]
    congr 1
    rw [Bool.eq_iff_iff, beq_iff_eq, decide_eq_true_eq]
    omega

theorem impl_Table_at_eq {n w : Nat} (t : Tab n w) (x : Nat) : impl_Table_at.f n w x = some (b2i (w.testBit x)) := by
  unfold impl_Table_at.f
  rw [if_pos (Int.natCast_nonneg _), at1 t.w63]

theorem bits_OnesCount64_eq {a : Nat} (h : a < 4294967296) : bits_OnesCount64.f a = some ((pc a : Nat) : Int) := by
  obtain ⟨c0, c1, c2, c3, g0, g1, g2, g3, hv, hp, l1, l2⟩ := n123 h
  have e1 : IntKind.u64.wrap ((Go.bits .and .u64 ((a : Int) / 2) 6148914691236517205) + (Go.bits .and .u64 (a : Int) 6148914691236517205)) = ((n1 a : Nat) : Int) := by
    rw [show (a : Int) / 2 = ((a / 2 : Nat) : Int) by omega, show (6148914691236517205 : Int) = ((6148914691236517205 : Nat) : Int) from rfl, uand (by omega) (by omega), uand (by omega) (by omega), ← Int.natCast_add]
    exact uwrap (by unfold n1 at l1; omega)
  have e2 : IntKind.u64.wrap ((Go.bits .and .u64 (((n1 a : Nat) : Int) / 4) 3689348814741910323) + (Go.bits .and .u64 ((n1 a : Nat) : Int) 3689348814741910323)) = ((n2 (n1 a) : Nat) : Int) := by
    rw [show ((n1 a : Nat) : Int) / 4 = ((n1 a / 4 : Nat) : Int) by omega, show (3689348814741910323 : Int) = ((3689348814741910323 : Nat) : Int) from rfl, uand (by omega) (by omega), uand (by omega) (by omega), ← Int.natCast_add]
    exact uwrap (by unfold n2 at l2; omega)
  have e3 : Go.bits .and .u64 (IntKind.u64.wrap ((((n2 (n1 a) : Nat) : Int) / 16) + ((n2 (n1 a) : Nat) : Int))) 1085102592571150095 = ((n3 (n2 (n1 a)) : Nat) : Int) := by
    rw [show ((n2 (n1 a) : Nat) : Int) / 16 = ((n2 (n1 a) / 16 : Nat) : Int) by omega, ← Int.natCast_add, uwrap (by omega), show (1085102592571150095 : Int) = ((1085102592571150095 : Nat) : Int) from rfl, uand (by omega) (by omega)]
    rfl
  unfold bits_OnesCount64.f
  rw [e1, e2, e3, hv]
  rw [fold4 g0 g1 g2 g3, fold5 g0 g1 g2 g3, fold6 g0 g1 g2 g3, fold7 g0 g1 g2 g3, hp]

theorem impl_ones_eq {a : Nat} (h : a < 4294967296) : impl_ones.f a = some ((pc a : Nat) : Int) := by
  unfold impl_ones.f
  rw [uwrap (by omega), bits_OnesCount64_eq h, Option.bind_some]

theorem impl_Table_cube_seen_eq {w m v : Nat} (hw : w < 9223372036854775808) (hm : m < 32) (b : Bool) : ∀ N, N ≤ 32 → impl_Table_cube.seen w m v (b2i b) N = seenB w m v b N := by
  intro N
  induction N with
  | zero => intro _; rfl
  | succ N ih =>
    intro hN
    simp only [impl_Table_cube.seen, seenB]
    rw [ih (by omega), bandN (by omega) (by omega), at1 hw, b2i_beq]
    congr 2
    rw [Bool.eq_iff_iff, beq_iff_eq, beq_iff_eq]
    omega
theorem impl_Table_cube_eq {n w m v : Nat} (t : Tab n w) (hm : m < 32) : impl_Table_cube.f n w m v = some (cubeV n w m v) := by
  have hn := t.hn
  have hs := t.size
  unfold impl_Table_cube.f
  rw [if_pos (by omega), Int.toNat_natCast, show (1 : Int) = b2i true from rfl, show (0 : Int) = b2i false from rfl, impl_Table_cube_seen_eq t.w63 hm true _ hs, impl_Table_cube_seen_eq t.w63 hm false _ hs]
  rfl

theorem impl_Table_certifies_eq {n w x m : Nat} (t : Tab n w) (hx : x < 32) (hm : m < 32) : impl_Table_certifies.f n w x m = some (certOk n w m x) := by
  unfold impl_Table_certifies.f
  rw [bandN (by omega) (by omega), impl_Table_cube_eq t hm, Option.bind_some, certOk_ne]

theorem impl_Table_certificate_ev {n w x : Nat} (t : Tab n w) (hx : x < 2 ^ n) : Ev (fun k => impl_Table_certificate.f k n w x) ((cert n w x : Nat) : Int) := by
  have hn := t.hn
  have hs := t.size
  have h0 := Nat.two_pow_pos n
  unfold impl_Table_certificate.f
  simp only [impl_Table_size_eq (show n ≤ 62 by omega), Option.bind_some, w64 (show -9223372036854775808 ≤ ((2 ^ n : Nat) : Int) - 1 by omega) (by omega)]
  rw [show ((2 ^ n : Nat) : Int) - 1 = ((certB n w x 0 : Nat) : Int) by simp only [certB]; omega]
  refine ev_for (fun k m => impl_Table_certificate.l0 k x ((certB n w x m : Nat) : Int) ((2 ^ n : Nat) : Int) (m : Int) n w) (2 ^ n) ?_ ?_
  · intro m hm h
    have hlt := certB_lt n w x (show m ≤ 2 ^ n by omega)
    simp only [certB] at h
    refine Ev.step (fun k => ?_) h
    simp only [impl_Table_certificate.l0]
    rw [if_pos (Int.ofNat_lt.mpr hm), impl_ones_eq (by omega), Option.bind_some, impl_ones_eq (by omega), Option.bind_some, impl_Table_certifies_eq t (by omega) (by omega), Option.bind_some, w64 (by omega) (by omega)]
    simp only [Int.ofNat_lt]
    by_cases hp : pc m < pc (certB n w x m)
    · rw [if_pos hp, if_pos hp]
      by_cases hc : certOk n w m x = true
      · rw [if_pos hc, if_pos hc]
        rfl
      · rw [if_neg hc, if_neg hc]
        rfl
    · rw [if_neg hp, if_neg hp]
      rfl
  · refine ev0 fun k => ?_
    simp only [impl_Table_certificate.l0]
    rw [if_neg (by omega)]
    rfl

theorem laws_toTable_eq (b W : Int) : laws_toTable.f b W = some (b, W) := rfl

theorem certM_range (n w : Nat) (a : Int) (x : Nat) : 0 ≤ certM n w a x := by
  induction x with
  | zero => exact Int.le_refl _
  | succ x ih =>
    simp only [certM]
    split
    · simp only [mx]; split <;> omega
    · exact ih
theorem spec_CertificateOf_ev {n w : Nat} (t : Tab n w) {a : Int} (ha : 0 ≤ a ∧ a ≤ 1) : Ev (fun k => spec_CertificateOf.f k n w a) (certM n w a (2 ^ n)) := by
  have hn := t.hn
  have hs := t.size
  unfold spec_CertificateOf.f
  simp only [spec_IsTable_eq, isTab_mk t, Option.bind_some, if_true, spec_l1In_eq, decide_eq_true ha, Bool.not_true]
  refine Ev.step (f := fun k => spec_CertificateOf.l0 k a 0 0 n w) (fun k => by simp only [spec_CertificateOf.j0]; rfl) ?_
  refine ev_for (fun k x => spec_CertificateOf.l0 k a (certM n w a x) (x : Int) n w) (2 ^ n) ?_ ?_
  · intro x hx h
    simp only [certM] at h
    refine evs1 (spec_CertificateAt_ev t hx) (fun k hk => ?_) h
    simp only [spec_CertificateOf.l0]
    rw [if_pos (Int.natCast_nonneg _), shl1 (by omega), if_pos (Int.ofNat_lt.mpr hx), if_pos (Int.natCast_nonneg _), at1 t.w63, w64 (by omega) (by omega), hk, Option.bind_some]
    by_cases hv : b2i (w.testBit x) = a
    · rw [if_pos hv, if_pos hv]
      rfl
    · rw [if_neg hv, if_neg hv]
      rfl
  · refine ev0 fun k => ?_
    simp only [spec_CertificateOf.l0]
    rw [if_pos (Int.natCast_nonneg _), shl1 (by omega), if_neg (by omega)]
theorem impl_CertificateOf_ev {n w : Nat} (t : Tab n w) {a : Int} (ha : 0 ≤ a ∧ a ≤ 1) : Ev (fun k => impl_CertificateOf.f k n w a) (certM n w a (2 ^ n)) := by
  have hn := t.hn
  have hs := t.size
  unfold impl_CertificateOf.f
  simp only [impl_IsTable_eq, isTab_mk t, Option.bind_some, if_true, impl_isBit_eq, decide_eq_true ha, Bool.not_true]
  refine Ev.step (f := fun k => impl_CertificateOf.l0 k a 0 ((2 ^ n : Nat) : Int) 0 n w) (fun k => by simp only [impl_CertificateOf.j0, impl_Table_size_eq (show n ≤ 62 by omega), Option.bind_some]; rfl) ?_
  refine ev_for (fun k x => impl_CertificateOf.l0 k a (certM n w a x) ((2 ^ n : Nat) : Int) (x : Int) n w) (2 ^ n) ?_ ?_
  · intro x hx h
    simp only [certM] at h
    have hc := cert_lt n w x
    refine evs1 (impl_Table_certificate_ev t hx) (fun k hk => ?_) h
    simp only [impl_CertificateOf.l0]
    rw [if_pos (Int.ofNat_lt.mpr hx), impl_Table_at_eq t, Option.bind_some, hk, Option.bind_some, impl_ones_eq (by omega), Option.bind_some, w64 (by omega) (by omega)]
    by_cases hv : b2i (w.testBit x) = a
    · rw [if_pos hv, if_pos hv]
      rfl
    · rw [if_neg hv, if_neg hv]
      rfl
  · refine ev0 fun k => ?_
    simp only [impl_CertificateOf.l0]
    rw [if_neg (by omega)]
theorem FnExactCertificateOf (b W a : Int) (hb : (Lit.int .i64 b).wf = true) (hW : (Lit.int .i64 W).wf = true) (hx : (Lit.int .i64 a).wf = true) : ∃ k, laws_FnExactCertificateOf.f k b W a = some true := by
  have key : ∃ r, Ev (fun k => spec_CertificateOf.f k b W a) r ∧ Ev (fun k => impl_CertificateOf.f k b W a) r := by
    by_cases h : isTab b W = true
    · by_cases ha : 0 ≤ a ∧ a ≤ 1
      · obtain ⟨n, w, rfl, rfl, t⟩ := isTab_yes h
        exact ⟨_, spec_CertificateOf_ev t ha, impl_CertificateOf_ev t ha⟩
      · refine ⟨-1, ?_, ?_⟩
        · unfold spec_CertificateOf.f
          simp only [spec_IsTable_eq, Option.bind_some, h, if_true, spec_l1In_eq, decide_eq_false ha, Bool.not_false]
          exact ev0 fun k => by simp only [spec_CertificateOf.j0]; rfl
        · unfold impl_CertificateOf.f
          simp only [impl_IsTable_eq, Option.bind_some, h, if_true, impl_isBit_eq, decide_eq_false ha, Bool.not_false]
          exact ev0 fun k => by simp only [impl_CertificateOf.j0]; rfl
    · refine ⟨-1, ?_, ?_⟩
      · unfold spec_CertificateOf.f
        simp only [spec_IsTable_eq, Option.bind_some, if_neg h]
        exact ev0 fun k => by simp only [spec_CertificateOf.j0]; rfl
      · unfold impl_CertificateOf.f
        simp only [impl_IsTable_eq, Option.bind_some, if_neg h]
        exact ev0 fun k => by simp only [impl_CertificateOf.j0]; rfl
  obtain ⟨r, h1, h2⟩ := key
  refine Ev.rounds ?_
  unfold laws_FnExactCertificateOf.f
  simp only [laws_toTable_eq, Option.bind_some]
  refine ev1 h1 (G := fun k => (impl_CertificateOf.f k b W a).bind fun t => if t = r then some true else some false) (fun k hk => by rw [hk]; rfl) ?_
  exact ev1' h2 fun k hk => by rw [hk]; simp

end Go.Proofs.Ytickjhjicfbooaa.Pure
