-- Out of the translation, by this session's program over the printer's; Lean checks it.
import Derived.Test.YtflnlnkbepoimaaSh
import Derived.Test.YtflnlnkbepoimaaQ0
import Derived.Test.YtflnlnkbepoimaaQ4
import Derived.Test.YtflnlnkbepoimaaQ5
import Derived.Test.YtflnlnkbepoimaaQ6
namespace Go.Proofs.Ytflnlnkbepoimaa.P
open Go.RowKit Go.Proofs.YtflnlnkbepoimaaW.PrintWords Go.Proofs.YtflnlnkbepoimaaW.PrintLast Go.Proofs.YtflnlnkbepoimaaW.PrintMore
attribute [local go_sem] max2_int min2_int max_two min_two max_three min_three max_four min_four
set_option linter.unusedVariables false
set_option linter.unusedSimpArgs false

/-! ### spec_l7Best: function 39 -/
mutual
def spec_l7Best.l0 : Nat → Int → Int → Int → Int → Int → Int → Option (ByteArray)
 | 0, _, _, _, _, _, _ => none
 | k + 1, x1, x2, x8, x9, x885000, x885001 => if x9 < x885000 then (if 0 ≤ x9 then (if (Go.bits .and .i64 x1 (shl .i64 1 x9)) = 0 then ((spec_l7Least.f k x885000 x885001 (Go.bits .or .i64 x1 (shl .i64 1 x9)) x2).bind fun t887 => ((spec_l7Least.f k x885000 x885001 (Go.bits .or .i64 x1 (shl .i64 1 x9)) (Go.bits .or .i64 x2 (shl .i64 1 x9))).bind fun t888 => (spec_l7Best.j1 k x1 x2 x8 x9 (shl .i64 1 x9) ((wrap64 (1 + (mx t887 t888))) == x8) x885000 x885001))) else (spec_l7Best.j1 k x1 x2 x8 x9 (shl .i64 1 x9) false x885000 x885001)) else (none)) else (some (⟨#[]⟩ : ByteArray))
def spec_l7Best.j1 : Nat → Int → Int → Int → Int → Int → Bool → Int → Int → Option (ByteArray)
 | 0, _, _, _, _, _, _, _, _ => none
 | k + 1, x1, x2, x8, x9, x10, x56, x885000, x885001 => if x56 = true then (if 0 ≤ x9 then (if x9 ≤ (wrap64 (x9 + 1)) then (if (wrap64 (x9 + 1)) ≤ 5 then ((spec_l7Best.f k x885000 x885001 (Go.bits .or .i64 x1 x10) x2).bind fun t889 => (if ((⟨#[97, 98, 99, 100, 101]⟩ : ByteArray).extract (x9 : Int).toNat ((wrap64 (x9 + 1)) : Int).toNat).size + t889.size ≤ 9223372036854775807 then ((spec_l7Best.f k x885000 x885001 (Go.bits .or .i64 x1 x10) (Go.bits .or .i64 x2 x10)).bind fun t890 => (if (((⟨#[97, 98, 99, 100, 101]⟩ : ByteArray).extract (x9 : Int).toNat ((wrap64 (x9 + 1)) : Int).toNat) ++ t889).size + t890.size ≤ 9223372036854775807 then (some ((((⟨#[97, 98, 99, 100, 101]⟩ : ByteArray).extract (x9 : Int).toNat ((wrap64 (x9 + 1)) : Int).toNat) ++ t889) ++ t890)) else (none))) else (none))) else (none)) else (none)) else (none)) else (spec_l7Best.l0 k x1 x2 x8 (wrap64 (x9 + 1)) x885000 x885001)
def spec_l7Best.f : Nat → Int → Int → Int → Int → Option (ByteArray)
 | 0, _, _, _, _ => none
 | k + 1, a0_0, a0_1, a1, a2 => (spec_l3Cube.f k a0_0 a0_1 a1 a2).bind fun t885 => (if t885 < 2 then (if 0 ≤ t885 then (if t885 ≤ (wrap64 (t885 + 1)) then (if (wrap64 (t885 + 1)) ≤ 2 then (some ((⟨#[48, 49]⟩ : ByteArray).extract (t885 : Int).toNat ((wrap64 (t885 + 1)) : Int).toNat)) else (none)) else (none)) else (none)) else ((spec_l7Least.f k a0_0 a0_1 a1 a2).bind fun t886 => (spec_l7Best.l0 k a1 a2 t886 0 a0_0 a0_1)))
end
theorem spec_l7Best.mono_l : ∀ k, (∀ y0 y1 y2 y3, LeO (spec_l7Best.f k y0 y1 y2 y3) (spec_l7Best.f (k + 1) y0 y1 y2 y3)) ∧ (∀ y0 y1 y2 y3 y4 y5, LeO (spec_l7Best.l0 k y0 y1 y2 y3 y4 y5) (spec_l7Best.l0 (k + 1) y0 y1 y2 y3 y4 y5)) ∧ (∀ y0 y1 y2 y3 y4 y5 y6 y7, LeO (spec_l7Best.j1 k y0 y1 y2 y3 y4 y5 y6 y7) (spec_l7Best.j1 (k + 1) y0 y1 y2 y3 y4 y5 y6 y7))
 | 0 => ⟨fun _ _ _ _ r h => by simp [spec_l7Best.f] at h, fun _ _ _ _ _ _ r h => by simp [spec_l7Best.l0] at h, fun _ _ _ _ _ _ _ _ r h => by simp [spec_l7Best.j1] at h⟩
 | k + 1 => by
  obtain ⟨ih0, ih1, ih2⟩ := spec_l7Best.mono_l k
  refine ⟨?_, ?_, ?_⟩
  ·intro y0 y1 y2 y3
   unfold spec_l7Best.f
   repeat' first
   | (with_reducible exact ih0 _ _ _ _)
   | (with_reducible exact ih1 _ _ _ _ _ _)
   | (with_reducible exact ih2 _ _ _ _ _ _ _ _)
   | (with_reducible exact spec_l3Cube.mono _ _ _ _ _)
   | (with_reducible exact spec_l7Least.mono _ _ _ _ _)
   | (with_reducible exact LeO.refl _)
   | (with_reducible exact LeO.none _)
   | (with_reducible refine LeO.ite ?_ ?_)
   | (with_reducible refine LeO.bind ?_ (fun _ => ?_))
   | exact ih0 _ _ _ _
   | exact ih1 _ _ _ _ _ _
   | exact ih2 _ _ _ _ _ _ _ _
   | exact spec_l3Cube.mono _ _ _ _ _
   | exact spec_l7Least.mono _ _ _ _ _
   | exact LeO.none _
   | refine LeO.ite ?_ ?_
   | refine LeO.bind ?_ (fun _ => ?_)
  ·intro y0 y1 y2 y3 y4 y5
   unfold spec_l7Best.l0
   repeat' first
   | (with_reducible exact ih0 _ _ _ _)
   | (with_reducible exact ih1 _ _ _ _ _ _)
   | (with_reducible exact ih2 _ _ _ _ _ _ _ _)
   | (with_reducible exact spec_l3Cube.mono _ _ _ _ _)
   | (with_reducible exact spec_l7Least.mono _ _ _ _ _)
   | (with_reducible exact LeO.refl _)
   | (with_reducible exact LeO.none _)
   | (with_reducible refine LeO.ite ?_ ?_)
   | (with_reducible refine LeO.bind ?_ (fun _ => ?_))
   | exact ih0 _ _ _ _
   | exact ih1 _ _ _ _ _ _
   | exact ih2 _ _ _ _ _ _ _ _
   | exact spec_l3Cube.mono _ _ _ _ _
   | exact spec_l7Least.mono _ _ _ _ _
   | exact LeO.none _
   | refine LeO.ite ?_ ?_
   | refine LeO.bind ?_ (fun _ => ?_)
  ·intro y0 y1 y2 y3 y4 y5 y6 y7
   unfold spec_l7Best.j1
   repeat' first
   | (with_reducible exact ih0 _ _ _ _)
   | (with_reducible exact ih1 _ _ _ _ _ _)
   | (with_reducible exact ih2 _ _ _ _ _ _ _ _)
   | (with_reducible exact spec_l3Cube.mono _ _ _ _ _)
   | (with_reducible exact spec_l7Least.mono _ _ _ _ _)
   | (with_reducible exact LeO.refl _)
   | (with_reducible exact LeO.none _)
   | (with_reducible refine LeO.ite ?_ ?_)
   | (with_reducible refine LeO.bind ?_ (fun _ => ?_))
   | exact ih0 _ _ _ _
   | exact ih1 _ _ _ _ _ _
   | exact ih2 _ _ _ _ _ _ _ _
   | exact spec_l3Cube.mono _ _ _ _ _
   | exact spec_l7Least.mono _ _ _ _ _
   | exact LeO.none _
   | refine LeO.ite ?_ ?_
   | refine LeO.bind ?_ (fun _ => ?_)
theorem spec_l7Best.mono : ∀ a0 a1 a2 a3 k, LeO (spec_l7Best.f k a0 a1 a2 a3) (spec_l7Best.f (k + 1) a0 a1 a2 a3) := by
 intro a0 a1 a2 a3 k
 obtain ⟨ih0, ih1, ih2⟩ := spec_l7Best.mono_l k
 exact ih0 a0 a1 a2 a3
def spec_l7Best.T9 : Bool × List (List Nat × List Nat) := (true, [([], []), ([], []), ([0, 1], [0, 1]), ([2], [2]), ([3], [3]), ([4], [4]), ([4], [4]), ([4], [4]), ([6, 7, 4], [4, 6, 7]), ([4], [4]), ([5, 8, 9, 4, 4], [4, 5, 8, 9]), ([4], [4]), ([4], [4]), ([4], [4]), ([12, 13, 4], [4, 12, 13]), ([4], [4]), ([4], [4]), ([15, 16, 4], [4, 15, 16]), ([11, 14, 17, 10, 4], [4, 11, 14, 17]), ([10, 18, 4], [4, 10, 18]), ([19, 4], [4, 19]), ([4], [4]), ([20, 21, 4], [4, 20, 21]), ([4, 22], [4, 22])])
def spec_l7Best.B9 : List Nat := [0, 0, 3, 7, 15, 31, 31, 31, 223, 31, 1023, 31, 31, 31, 12319, 31, 31, 98335, 262143, 524287, 1048575, 31, 4194303, 8388607]
theorem spec_l7Best.tab9 : rtab .any (opsOf Try.f39 9) = spec_l7Best.T9 := by kernel_rfl
theorem spec_l7Best.bits9 : waitsOk spec_l7Best.T9.2 spec_l7Best.B9 = true := by kernel_rfl
def spec_l7Best.T10 : Bool × List (List Nat × List Nat) := (true, [([], []), ([], []), ([1], [1]), ([0, 2], [0, 2]), ([], []), ([], []), ([], []), ([5, 6], [5, 6]), ([], []), ([4, 7, 8], [4, 7, 8]), ([3, 9], [3, 9]), ([], []), ([], []), ([], []), ([12, 13], [12, 13]), ([], []), ([], []), ([15, 16], [15, 16]), ([11, 14, 17, 9], [11, 14, 17]), ([10, 18], [10, 18]), ([19, 18, 0, 1, 2, 3, 4, 5, 6, 7, 8, 9, 10, 11, 12, 13, 14, 15, 16, 17, 18, 19], [19])])
def spec_l7Best.B10 : List Nat := [0, 0, 2, 7, 0, 0, 0, 96, 0, 496, 1023, 0, 0, 0, 12288, 0, 0, 98304, 261104, 524287, 1048575]
theorem spec_l7Best.tab10 : rtab .any (opsOf Try.f39 10) = spec_l7Best.T10 := by kernel_rfl
theorem spec_l7Best.bits10 : waitsOk spec_l7Best.T10.2 spec_l7Best.B10 = true := by kernel_rfl
set_option maxHeartbeats 8000000 in
set_option maxRecDepth 100000 in
theorem spec_l7Best.calls (k : Nat) : ∀ (a0_0 : Int) (a0_1 : Int) (a1 : Int) (a2 : Int) (r : ByteArray) (w : World) (h : spec_l7Best.f k a0_0 a0_1 a1 a2 = some r),
  Calls Try.prog 39 #[.agg #[.int .i64 a0_0, .int .i64 a0_1], .int .i64 a1, .int .i64 a2] w fun e w' => e = .returned (.string r) ∧ Below w.heap.size w w' := by
 induction k using Nat.strongRecOn with
 | _ k ih =>
 intro a0_0 a0_1 a1 a2 r w h
 cases k with
 | zero => exact absurd h (by simp [spec_l7Best.f])
 | succ k =>
 simp only [spec_l7Best.f] at h
 have hu25 := Try.underlying25
 have HB := Aside0.mk (Below.refl w.heap.size w)
 have H : ((spec_l3Cube.f k a0_0 a0_1 a1 a2).bind fun t885 => (if t885 < 2 then (if 0 ≤ t885 then (if t885 ≤ (wrap64 (t885 + 1)) then (if (wrap64 (t885 + 1)) ≤ 2 then (some ((⟨#[48, 49]⟩ : ByteArray).extract (t885 : Int).toNat ((wrap64 (t885 + 1)) : Int).toNat)) else (none)) else (none)) else (none)) else ((spec_l7Least.f k a0_0 a0_1 a1 a2).bind fun t886 => (spec_l7Best.l0 k a1 a2 t886 0 a0_0 a0_1)))) = some r := h
 clear h
 replace H := Option.bind_eq_some_iff.mp H
 obtain ⟨t885, A40, H⟩ := H
 have A4 := Aside0.mk A40
 clear A40
 by_cases c5 : t885 < 2
 ·rw [if_pos c5] at H
  have c5b0 : decide (t885 < 2) = true := decide_eq_true c5
  clear c5
  by_cases c6 : 0 ≤ t885
  ·rw [if_pos c6] at H
   have c6b0 := eq_true c6
   have c6b1 : decide (0 ≤ t885) = true := decide_eq_true c6
   clear c6
   by_cases c7 : t885 ≤ (wrap64 (t885 + 1))
   ·rw [if_pos c7] at H
    have c7b0 := eq_true c7
    have c7b1 : decide (t885 ≤ (wrap64 (t885 + 1))) = true := decide_eq_true c7
    by_cases c8 : (wrap64 (t885 + 1)) ≤ 2
    ·rw [if_pos c8] at H
     have c8b0 := eq_true c8
     have c8b1 : decide ((wrap64 (t885 + 1)) ≤ 2) = true := decide_eq_true c8
     obtain rfl := Option.some.inj H
     go_enter Try.func39, Try.ntmps39
     go_wp2_with (first | ((with_reducible refine gate_dst (N := 3) rfl ?_); (try (refine gate_guard (by rfl) ?_; dsimp only)); refine bx_ 3 #[.int .i64 a0_0, .int .i64 a0_1] 25 ?_; intro gb884 hg w9 hbox hb; have BK884 := Aside0.mk (hbox); have GW884 := gw_ hg (below_size (bv_ HB)); have GE884 := GW884; replace HB := Aside0.mk (below_step (bv_ HB) hb); clear hb hbox hg; obtain ⟨hcz10_0, hcz10_1, hfz10_0, hfz10_1⟩ := c2_ BK884) | ((with_reducible refine gate_callee (f := 30) rfl ?_); refine gl_ 14 Try.func30 #[.agg #[.int .i64 a0_0, .int .i64 a0_1], .int .i64 a1, .int .i64 a2] rfl mp_ ?_; (with_reducible refine (spec_l3Cube.calls k a0_0 a0_1 a1 a2 t885 _ A4.out).mono ?_); rintro e w11 ⟨rfl, hb⟩; refine ⟨_, rfl, ?_⟩; replace BK884 := kb_ BK884 hb; replace HB := Aside0.mk (below_step (bv1_ HB GE884) hb); (try clear hb); (try clear hb2); (try clear hk); (try clear hi)))
     go_ret
     exact ⟨by first | rfl | (simp [errW_none, errW_some] <;> rfl) | (simp [*, errW_none, errW_some] <;> rfl), bv1_ HB GE884⟩
    ·rw [if_neg c8] at H
     exact absurd H (by simp)
   ·rw [if_neg c7] at H
    exact absurd H (by simp)
  ·rw [if_neg c6] at H
   exact absurd H (by simp)
 ·rw [if_neg c5] at H
  have c5b0 : decide (t885 < 2) = false := decide_eq_false c5
  clear c5
  replace H := Option.bind_eq_some_iff.mp H
  obtain ⟨t886, A120, H⟩ := H
  have A12 := Aside0.mk A120
  clear A120
  have H' := Aside0.mk H
  clear H
  go_enter Try.func39, Try.ntmps39
  go_wp2_with (first | ((with_reducible refine gate_dst (N := 3) rfl ?_); (try (refine gate_guard (by rfl) ?_; dsimp only)); refine bx_ 3 #[.int .i64 a0_0, .int .i64 a0_1] 25 ?_; intro gb884 hg w13 hbox hb; have BK884 := Aside0.mk (hbox); have GW884 := gw_ hg (below_size (bv_ HB)); have GE884 := GW884; replace HB := Aside0.mk (below_step (bv_ HB) hb); clear hb hbox hg; obtain ⟨hcz14_0, hcz14_1, hfz14_0, hfz14_1⟩ := c2_ BK884) | ((with_reducible refine gate_callee (f := 30) rfl ?_); refine gl_ 14 Try.func30 #[.agg #[.int .i64 a0_0, .int .i64 a0_1], .int .i64 a1, .int .i64 a2] rfl mp_ ?_; (with_reducible refine (spec_l3Cube.calls k a0_0 a0_1 a1 a2 t885 _ A4.out).mono ?_); rintro e w15 ⟨rfl, hb⟩; refine ⟨_, rfl, ?_⟩; replace BK884 := kb_ BK884 hb; replace HB := Aside0.mk (below_step (bv1_ HB GE884) hb); (try clear hb); (try clear hb2); (try clear hk); (try clear hi); obtain ⟨hcz16_0, hcz16_1, hfz16_0, hfz16_1⟩ := c2_ BK884) | ((with_reducible refine gate_callee (f := 35) rfl ?_); refine gl_ 24 Try.func35 #[.agg #[.int .i64 a0_0, .int .i64 a0_1], .int .i64 a1, .int .i64 a2] rfl mp_ ?_; (with_reducible refine (spec_l7Least.calls k a0_0 a0_1 a1 a2 t886 _ A12.out).mono ?_); rintro e w17 ⟨rfl, hb⟩; refine ⟨_, rfl, ?_⟩; replace BK884 := kb_ BK884 hb; replace HB := Aside0.mk (below_step (bv1_ HB GE884) hb); (try clear hb); (try clear hb2); (try clear hk); (try clear hi)))
  go_loopg [9] k (fun kq v9 w' => ∃ (x9_1 : Int), v9 = .int .i64 x9_1 ∧ Aside0 (spec_l7Best.l0 kq a1 a2 t886 x9_1 a0_0 a0_1 = some r) ∧ Aside0 (kq ≤ k) ∧ Aside0 (w'.heap[gb884]? = some (.cells #[.int .i64 a0_0, .int .i64 a0_1] 25 (0, 0))) ∧ Aside0 (Below w.heap.size w w'))
  case atStart => exact ⟨(0), (by first | rfl | (simp; done) | (simp [*]; done)), H', ⟨Nat.le_refl _⟩, ⟨by (with_reducible repeat (first | refine blk_drewN ?_ _ | refine blk_drew ?_ | refine blk_alloc ?_ _)); exact BK884.out⟩, ⟨bv1_ HB GE884⟩⟩
  case round =>
   clear H'
   try clear p2
   try clear c3
   try clear c5
   try clear c5b0
   try clear c6
   try clear c6b0
   try clear c6b1
   try clear p6
   try clear c7
   try clear c7b0
   try clear c7b1
   try clear c8
   try clear c8b0
   try clear c8b1
   try clear hcz10_0
   try clear hcz10_1
   try clear hcz14_0
   try clear hcz14_1
   try clear hcz16_0
   try clear hcz16_1
   try clear hfz10_0
   try clear hfz10_1
   try clear hfz14_0
   try clear hfz14_1
   try clear hfz16_0
   try clear hfz16_1
   obtain ⟨x9_1, rfl, HA, HK1, BK884, HB⟩ := hrel
   cases gk with
   | zero => exact absurd HA.out (by simp [spec_l7Best.l0])
   | succ k1 =>
    have H := HA.out
    clear HA
    simp only [spec_l7Best.l0] at H
    by_cases c18 : x9_1 < a0_0
    ·rw [if_pos c18] at H
     have c18b0 : decide (x9_1 < a0_0) = true := decide_eq_true c18
     clear c18
     by_cases c19 : 0 ≤ x9_1
     ·rw [if_pos c19] at H
      have c19b0 := eq_true c19
      have c19b1 : decide (0 ≤ x9_1) = true := decide_eq_true c19
      clear c19
      obtain ⟨ji20, hji20⟩ : ∃ j_ : Int, (shl .i64 1 x9_1) = j_ := ⟨_, rfl⟩
      replace H : (if (Go.bits .and .i64 a1 (ji20)) = 0 then ((spec_l7Least.f k1 a0_0 a0_1 (Go.bits .or .i64 a1 (ji20)) a2).bind fun t887 => ((spec_l7Least.f k1 a0_0 a0_1 (Go.bits .or .i64 a1 (ji20)) (Go.bits .or .i64 a2 (ji20))).bind fun t888 => (spec_l7Best.j1 k1 a1 a2 t886 x9_1 ji20 ((wrap64 (1 + (mx t887 t888))) == t886) a0_0 a0_1))) else (spec_l7Best.j1 k1 a1 a2 t886 x9_1 ji20 false a0_0 a0_1)) = some r := by first | (rw [hji20] at H; exact H) | (simp only [hji20] at H ⊢; exact H)
      have hji20_ : (IntKind.i64.wrap (1 * 2 ^ min x9_1.toNat 64)) = ji20 := hji20
      have hji20z : x9_1 ≤ 64 → (IntKind.i64.wrap (1 * 2 ^ x9_1.toNat)) = ji20 := shl_small hji20
      have hji20u : (IntKind.i64.wrap (2 ^ min x9_1.toNat 64)) = ji20 := by have h_ := hji20_; rw [Int.one_mul] at h_; exact h_
      have hji20v : x9_1 ≤ 64 → (IntKind.i64.wrap (2 ^ x9_1.toNat)) = ji20 := fun hle_ => by have h_ := hji20z hle_; rw [Int.one_mul] at h_; exact h_
      have hji20y : (wrap64 (1 * 2 ^ min x9_1.toNat 64)) = ji20 := (i64_w _).symm.trans hji20_
      have hji20x : x9_1 ≤ 64 → (wrap64 (1 * 2 ^ x9_1.toNat)) = ji20 := fun h_ => (i64_w _).symm.trans (hji20z h_)
      have HC21 := Aside0.mk H
      clear H
      obtain ⟨hcz22_0, hcz22_1, hfz22_0, hfz22_1⟩ := c2_ BK884
      go_upto_region 9 with (fail)
      go_cut [56] (fun v56 wc => ∃ (kq : Nat) (x56_20 : Bool), v56 = .bool x56_20 ∧ Aside0 (spec_l7Best.j1 kq a1 a2 t886 x9_1 ji20 x56_20 a0_0 a0_1 = some r) ∧ Aside0 (kq ≤ k1) ∧ Aside0 (wc.heap[gb884]? = some (.cells #[.int .i64 a0_0, .int .i64 a0_1] 25 (0, 0))) ∧ Aside0 (Below w.heap.size w wc))
      case first =>
       have H := HC21.out
       clear HC21
       by_cases c23 : (Go.bits .and .i64 a1 (ji20)) = 0
       ·rw [if_pos c23] at H
        have c23b0 : ((Go.bits .and .i64 a1 (ji20)) == 0) = true := beq_iff_eq.mpr c23
        have c23b1 : ((Go.bits .and .i64 a1 (ji20)) != 0) = false := bne_eq_false_iff_eq.mpr c23
        clear c23
        (first | rw [c23b0] | (simp only [i64_w, i32_w]; rw [c23b0]) | skip)
        replace H := Option.bind_eq_some_iff.mp H
        obtain ⟨t887, A240, H⟩ := H
        have A24 := Aside0.mk A240
        clear A240
        replace H := Option.bind_eq_some_iff.mp H
        obtain ⟨t888, A250, H⟩ := H
        have A25 := Aside0.mk A250
        clear A250
        obtain ⟨ji26, hji26⟩ : ∃ j_ : Int, (mx t887 t888) = j_ := ⟨_, rfl⟩
        replace H : (spec_l7Best.j1 k1 a1 a2 t886 x9_1 ji20 ((wrap64 (1 + (ji26))) == t886) a0_0 a0_1) = some r := by first | (rw [hji26] at H; exact H) | (simp only [hji26] at H ⊢; exact H)
        (try rw [hji26] at A24)
        (try rw [hji26] at A25)
        have hji26_ : (if t887 < t888 then t888 else t887) = ji26 := hji26
        have H' := Aside0.mk H
        clear H
        try go_wp2
        replace BK884 := Aside0.mk (blk_drew BK884.out)
        replace HB := Aside0.mk (below_drew1 HB.out)
        refine start_ (n := 24) (S := fun w' => w'.cell? ⟨gb884, 0, none⟩ = some (.int .i64 a0_0) ∧ w'.cell? ⟨gb884, 1, none⟩ = some (.int .i64 a0_1)) (ds := []) (bs 24 0) (by kernel_rfl) rfl (by kernel_rfl) ⟨(blk_cell BK884.out 0).trans rfl, (blk_cell BK884.out 1).trans rfl⟩ (fun hHeld => ?_); refine with_tabW spec_l7Best.tab9 spec_l7Best.bits9 (fun HT_ HW_ => ?_)
        generalize wr.drew = w27 at BK884 HB hHeld ⊢
        refine pu_ HT_ 0 33 (bs 24 1) ?_
        refine pu_ HT_ 1 34 (bs 24 3) ?_
        refine pu_ HT_ 2 35 (bs 24 7) ?_
        refine pu_ HT_ 3 36 (bs 24 15) ?_
        refine pu_ HT_ 4 37 (bs 24 31) ?_
        refine pu_ HT_ 6 39 (bs 24 95) ?_
        refine pu_ HT_ 7 40 (bs 24 223) ?_
        refine pu_ HT_ 8 41 (bs 24 479) ?_
        refine pu_ HT_ 9 42 (bs 24 991) ?_
        refine pu_ HT_ 12 45 (bs 24 5087) ?_
        refine pu_ HT_ 13 46 (bs 24 13279) ?_
        refine pu_ HT_ 14 47 (bs 24 29663) ?_
        refine pu_ HT_ 15 48 (bs 24 62431) ?_
        refine pu_ HT_ 16 49 (bs 24 127967) ?_
        refine pu_ HT_ 17 50 (bs 24 259039) ?_
        refine pu_ HT_ 21 54 (bs 24 2356191) ?_
        refine ta2_ HT_ HW_ 5 38 (bs 24 2356223) hHeld ?_
        refine ta2_ HT_ HW_ 11 44 (bs 24 2358271) hHeld ?_
        refine on_ HT_ 10 43 (bs 24 2359295) (fun K hK => ?_)
        refine goes_ Try.func35 (by kernel_rfl) rfl #[.agg #[.int .i64 a0_0, .int .i64 a0_1], .int .i64 (Go.bits .or .i64 a1 (ji20)), .int .i64 a2] (by rfl) rfl rfl (by (try simp only [List.map_toArray, List.map_cons, List.map_nil]); first | done | (simp only [hji20]; rfl) | rfl | (simp only [List.length_drop, List.length_take]; rfl)) ?_
        with_reducible refine (spec_l7Least.calls k1 a0_0 a0_1 (Go.bits .or .i64 a1 (ji20)) a2 t887 _ A24.out).mono ?_
        rintro e w28 ⟨rfl, hb⟩
        refine ⟨_, rfl, ?_⟩
        replace BK884 := kb_ BK884 hb
        replace HB := Aside0.mk (below_step (bv1_ HB GE884) hb)
        (try clear hb)
        (try clear hb2)
        (try clear hk)
        (try clear hi)
        refine hK.out _ _ ⟨(blk_cell BK884.out 0).trans rfl, (blk_cell BK884.out 1).trans rfl⟩ (fun hHeld => ?_)
        clear hK K
        refine no_ 43 ?_
        refine on_ HT_ 18 51 (bs 24 2621439) (fun K hK => ?_)
        refine goes_ Try.func35 (by kernel_rfl) rfl #[.agg #[.int .i64 a0_0, .int .i64 a0_1], .int .i64 (Go.bits .or .i64 a1 (ji20)), .int .i64 (Go.bits .or .i64 a2 (ji20))] (by rfl) rfl rfl (by (try simp only [List.map_toArray, List.map_cons, List.map_nil]); first | done | (simp only [hji20]; rfl) | rfl | (simp only [List.length_drop, List.length_take]; rfl)) ?_
        with_reducible refine (spec_l7Least.calls k1 a0_0 a0_1 (Go.bits .or .i64 a1 (ji20)) (Go.bits .or .i64 a2 (ji20)) t888 _ A25.out).mono ?_
        rintro e w29 ⟨rfl, hb⟩
        refine ⟨_, rfl, ?_⟩
        replace BK884 := kb_ BK884 hb
        replace HB := Aside0.mk (below_step (bv1_ HB GE884) hb)
        (try clear hb)
        (try clear hb2)
        (try clear hk)
        (try clear hi)
        refine hK.out _ _ ⟨(blk_cell BK884.out 0).trans rfl, (blk_cell BK884.out 1).trans rfl⟩ (fun hHeld => ?_)
        clear hK K
        refine no_ 51 ?_
        refine pu_ HT_ 19 52 (bs 24 3145727) ?_
        refine pu_ HT_ 20 53 (bs 24 4194303) ?_
        refine pu_ HT_ 22 55 (bs 24 8388607) ?_
        refine pu_ HT_ 23 56 (bs 24 16777215) ?_
        refine done_ (done_of HT_.out (by kernel_rfl)) ?_
        try go_wp2
        go_meet
        case rel => exact ⟨_, (((wrap64 (1 + (ji26))) == t886)), (by first | rfl | (simp; done) | (simp only [← hji26] <;> (first | rfl | simp)) | (simp [*]; done)), H', ⟨by have := HK1.out; first | omega | exact Nat.le_refl _⟩, ⟨by (with_reducible repeat (first | refine blk_drewN ?_ _ | refine blk_drew ?_ | refine blk_alloc ?_ _)); exact BK884.out⟩, ⟨bv1_ HB GE884⟩⟩
       ·rw [if_neg c23] at H
        have c23b0 : ((Go.bits .and .i64 a1 (ji20)) == 0) = false := beq_eq_false_iff_ne.mpr c23
        have c23b1 : ((Go.bits .and .i64 a1 (ji20)) != 0) = true := bne_iff_ne.mpr c23
        (first | rw [c23b0] | (simp only [i64_w, i32_w]; rw [c23b0]) | skip)
        have H' := Aside0.mk H
        clear H
        try go_wp2
        replace BK884 := Aside0.mk (blk_drew BK884.out)
        replace HB := Aside0.mk (below_drew1 HB.out)
        refine start_ (n := 24) (S := fun w' => True) (ds := []) (bs 24 0) (by kernel_rfl) rfl (by kernel_rfl) trivial (fun hHeld => ?_); refine with_tabW spec_l7Best.tab9 spec_l7Best.bits9 (fun HT_ HW_ => ?_)
        generalize wr.drew = w30 at BK884 HB hHeld ⊢
        refine pu_ HT_ 0 33 (bs 24 1) ?_
        refine pu_ HT_ 1 34 (bs 24 3) ?_
        refine pu_ HT_ 2 35 (bs 24 7) ?_
        refine pu_ HT_ 3 36 (bs 24 15) ?_
        refine pu_ HT_ 4 37 (bs 24 31) ?_
        refine pure_ (i := 5) (N := some 38) (v := undef) (a' := ?_) (bs 24 63) rfl rfl (any_of HT_.out (by kernel_rfl)) (fun _ _ _ h => h) (Or.inr ⟨by rfl, rfl⟩) ?_ ?_
        rotate_left
        ·simp only [Act.put, List.setIfInBounds_toArray, List.set_cons_zero, List.set_cons_succ, i64_w, i32_w]
         rfl
        refine pure_ (i := 6) (N := some 39) (v := undef) (a' := ?_) (bs 24 127) rfl rfl (any_of HT_.out (by kernel_rfl)) (fun _ _ _ h => h) (Or.inr ⟨by rfl, rfl⟩) ?_ ?_
        rotate_left
        ·simp only [Act.put, List.setIfInBounds_toArray, List.set_cons_zero, List.set_cons_succ, i64_w, i32_w]
         rfl
        refine pure_ (i := 7) (N := some 40) (v := undef) (a' := ?_) (bs 24 255) rfl rfl (any_of HT_.out (by kernel_rfl)) (fun _ _ _ h => h) (Or.inr ⟨by rfl, rfl⟩) ?_ ?_
        rotate_left
        ·simp only [Act.put, List.setIfInBounds_toArray, List.set_cons_zero, List.set_cons_succ, i64_w, i32_w]
         rfl
        refine pure_ (i := 8) (N := some 41) (v := undef) (a' := ?_) (bs 24 511) rfl rfl (any_of HT_.out (by kernel_rfl)) (fun _ _ _ h => h) (Or.inr ⟨by rfl, rfl⟩) ?_ ?_
        rotate_left
        ·simp only [Act.put, List.setIfInBounds_toArray, List.set_cons_zero, List.set_cons_succ, i64_w, i32_w]
         rfl
        refine pure_ (i := 9) (N := some 42) (v := undef) (a' := ?_) (bs 24 1023) rfl rfl (any_of HT_.out (by kernel_rfl)) (fun _ _ _ h => h) (Or.inr ⟨by rfl, rfl⟩) ?_ ?_
        rotate_left
        ·simp only [Act.put, List.setIfInBounds_toArray, List.set_cons_zero, List.set_cons_succ, i64_w, i32_w]
         rfl
        refine pure_ (i := 10) (N := some 43) (v := undef) (a' := ?_) (bs 24 2047) rfl rfl (any_of HT_.out (by kernel_rfl)) (fun _ _ _ h => h) (Or.inr ⟨by rfl, rfl⟩) ?_ ?_
        rotate_left
        ·simp only [Act.put, List.setIfInBounds_toArray, List.set_cons_zero, List.set_cons_succ, i64_w, i32_w]
         rfl
        refine pure_ (i := 11) (N := some 44) (v := undef) (a' := ?_) (bs 24 4095) rfl rfl (any_of HT_.out (by kernel_rfl)) (fun _ _ _ h => h) (Or.inr ⟨by rfl, rfl⟩) ?_ ?_
        rotate_left
        ·simp only [Act.put, List.setIfInBounds_toArray, List.set_cons_zero, List.set_cons_succ, i64_w, i32_w]
         rfl
        refine pure_ (i := 12) (N := some 45) (v := undef) (a' := ?_) (bs 24 8191) rfl rfl (any_of HT_.out (by kernel_rfl)) (fun _ _ _ h => h) (Or.inr ⟨by rfl, rfl⟩) ?_ ?_
        rotate_left
        ·simp only [Act.put, List.setIfInBounds_toArray, List.set_cons_zero, List.set_cons_succ, i64_w, i32_w]
         rfl
        refine pure_ (i := 13) (N := some 46) (v := undef) (a' := ?_) (bs 24 16383) rfl rfl (any_of HT_.out (by kernel_rfl)) (fun _ _ _ h => h) (Or.inr ⟨by rfl, rfl⟩) ?_ ?_
        rotate_left
        ·simp only [Act.put, List.setIfInBounds_toArray, List.set_cons_zero, List.set_cons_succ, i64_w, i32_w]
         rfl
        refine pure_ (i := 14) (N := some 47) (v := undef) (a' := ?_) (bs 24 32767) rfl rfl (any_of HT_.out (by kernel_rfl)) (fun _ _ _ h => h) (Or.inr ⟨by rfl, rfl⟩) ?_ ?_
        rotate_left
        ·simp only [Act.put, List.setIfInBounds_toArray, List.set_cons_zero, List.set_cons_succ, i64_w, i32_w]
         rfl
        refine pure_ (i := 15) (N := some 48) (v := undef) (a' := ?_) (bs 24 65535) rfl rfl (any_of HT_.out (by kernel_rfl)) (fun _ _ _ h => h) (Or.inr ⟨by rfl, rfl⟩) ?_ ?_
        rotate_left
        ·simp only [Act.put, List.setIfInBounds_toArray, List.set_cons_zero, List.set_cons_succ, i64_w, i32_w]
         rfl
        refine pure_ (i := 16) (N := some 49) (v := undef) (a' := ?_) (bs 24 131071) rfl rfl (any_of HT_.out (by kernel_rfl)) (fun _ _ _ h => h) (Or.inr ⟨by rfl, rfl⟩) ?_ ?_
        rotate_left
        ·simp only [Act.put, List.setIfInBounds_toArray, List.set_cons_zero, List.set_cons_succ, i64_w, i32_w]
         rfl
        refine pure_ (i := 17) (N := some 50) (v := undef) (a' := ?_) (bs 24 262143) rfl rfl (any_of HT_.out (by kernel_rfl)) (fun _ _ _ h => h) (Or.inr ⟨by rfl, rfl⟩) ?_ ?_
        rotate_left
        ·simp only [Act.put, List.setIfInBounds_toArray, List.set_cons_zero, List.set_cons_succ, i64_w, i32_w]
         rfl
        refine pure_ (i := 18) (N := some 51) (v := undef) (a' := ?_) (bs 24 524287) rfl rfl (any_of HT_.out (by kernel_rfl)) (fun _ _ _ h => h) (Or.inr ⟨by rfl, rfl⟩) ?_ ?_
        rotate_left
        ·simp only [Act.put, List.setIfInBounds_toArray, List.set_cons_zero, List.set_cons_succ, i64_w, i32_w]
         rfl
        refine pure_ (i := 19) (N := some 52) (v := undef) (a' := ?_) (bs 24 1048575) rfl rfl (any_of HT_.out (by kernel_rfl)) (fun _ _ _ h => h) (Or.inr ⟨by rfl, rfl⟩) ?_ ?_
        rotate_left
        ·simp only [Act.put, List.setIfInBounds_toArray, List.set_cons_zero, List.set_cons_succ, i64_w, i32_w]
         rfl
        refine pure_ (i := 20) (N := some 53) (v := undef) (a' := ?_) (bs 24 2097151) rfl rfl (any_of HT_.out (by kernel_rfl)) (fun _ _ _ h => h) (Or.inr ⟨by rfl, rfl⟩) ?_ ?_
        rotate_left
        ·simp only [Act.put, List.setIfInBounds_toArray, List.set_cons_zero, List.set_cons_succ, i64_w, i32_w]
         rfl
        refine pure_ (i := 21) (N := some 54) (v := undef) (a' := ?_) (bs 24 4194303) rfl rfl (any_of HT_.out (by kernel_rfl)) (fun _ _ _ h => h) (Or.inr ⟨by rfl, rfl⟩) ?_ ?_
        rotate_left
        ·simp only [Act.put, List.setIfInBounds_toArray, List.set_cons_zero, List.set_cons_succ, i64_w, i32_w]
         rfl
        refine pure_ (i := 22) (N := some 55) (v := undef) (a' := ?_) (bs 24 8388607) rfl rfl (any_of HT_.out (by kernel_rfl)) (fun _ _ _ h => h) (Or.inr ⟨by rfl, rfl⟩) ?_ ?_
        rotate_left
        ·simp only [Act.put, List.setIfInBounds_toArray, List.set_cons_zero, List.set_cons_succ, i64_w, i32_w]
         rfl
        refine pu_ HT_ 23 56 (bs 24 16777215) ?_
        refine done_ (done_of HT_.out (by kernel_rfl)) ?_
        try go_wp2
        go_meet
        case rel => exact ⟨_, (false), (by first | rfl | (simp; done) | (simp [*]; done)), H', ⟨by have := HK1.out; first | omega | exact Nat.le_refl _⟩, ⟨by (with_reducible repeat (first | refine blk_drewN ?_ _ | refine blk_drew ?_ | refine blk_alloc ?_ _)); exact BK884.out⟩, ⟨bv1_ HB GE884⟩⟩
      case rest =>
       clear HC21
       try clear c1
       try clear c2
       try clear p2
       try clear c3
       try clear c5
       try clear c5b0
       try clear c6
       try clear c6b0
       try clear c6b1
       try clear p6
       try clear c7
       try clear c7b0
       try clear c7b1
       try clear c8
       try clear c8b0
       try clear c8b1
       try clear c18
       try clear c18b0
       try clear c19
       try clear c19b0
       try clear c19b1
       try clear c23
       try clear c23b0
       try clear c23b1
       try clear c30
       try clear hcz10_0
       try clear hcz10_1
       try clear hcz14_0
       try clear hcz14_1
       try clear hcz16_0
       try clear hcz16_1
       try clear hcz22_0
       try clear hcz22_1
       try clear hfz10_0
       try clear hfz10_1
       try clear hfz14_0
       try clear hfz14_1
       try clear hfz16_0
       try clear hfz16_1
       try clear hfz22_0
       try clear hfz22_1
       try clear p2
       try clear p6
       obtain ⟨kq, x56_20, rfl, HA, HJ20, BK884, HB⟩ := hcut
       cases kq with
       | zero => exact absurd HA.out (by simp [spec_l7Best.j1])
       | succ kj20 =>
        have H := HA.out
        clear HA
        simp only [spec_l7Best.j1] at H
        by_cases c31 : x56_20 = true
        ·subst c31
         rw [if_pos rfl] at H
         by_cases c32 : 0 ≤ x9_1
         ·rw [if_pos c32] at H
          have c32b0 := eq_true c32
          have c32b1 : decide (0 ≤ x9_1) = true := decide_eq_true c32
          clear c32
          by_cases c33 : x9_1 ≤ (wrap64 (x9_1 + 1))
          ·rw [if_pos c33] at H
           have c33b0 := eq_true c33
           have c33b1 : decide (x9_1 ≤ (wrap64 (x9_1 + 1))) = true := decide_eq_true c33
           by_cases c34 : (wrap64 (x9_1 + 1)) ≤ 5
           ·rw [if_pos c34] at H
            have c34b0 := eq_true c34
            have c34b1 : decide ((wrap64 (x9_1 + 1)) ≤ 5) = true := decide_eq_true c34
            replace H := Option.bind_eq_some_iff.mp H
            obtain ⟨t889, A350, H⟩ := H
            have A35 := Aside0.mk A350
            clear A350
            by_cases c36 : ((⟨#[97, 98, 99, 100, 101]⟩ : ByteArray).extract (x9_1 : Int).toNat ((wrap64 (x9_1 + 1)) : Int).toNat).size + t889.size ≤ 9223372036854775807
            ·rw [if_pos c36] at H
             have c36b0 := eq_true c36
             have c36b1 : decide (((⟨#[97, 98, 99, 100, 101]⟩ : ByteArray).extract (x9_1 : Int).toNat ((wrap64 (x9_1 + 1)) : Int).toNat).size + t889.size ≤ 9223372036854775807) = true := decide_eq_true c36
             try have c36b2 : (9223372036854775807 < ((⟨#[97, 98, 99, 100, 101]⟩ : ByteArray).extract (x9_1 : Int).toNat ((wrap64 (x9_1 + 1)) : Int).toNat).size + t889.size) = False := eq_false (Nat.not_lt.2 c36)
             have c36b3 : (9223372036854775807 < ((wrap64 (x9_1 + 1)).toNat - x9_1.toNat) + t889.size) = False := by
              have hsz_ : ((⟨#[97, 98, 99, 100, 101]⟩ : ByteArray).extract (x9_1 : Int).toNat ((wrap64 (x9_1 + 1)) : Int).toNat).size = (wrap64 (x9_1 + 1)).toNat - x9_1.toNat := by
               rw [ByteArray.size_extract]
               show min _ 5 - _ = _
               omega
              have h_ := c36b2
              (try rw [ByteArray.size_append] at h_)
              rw [hsz_] at h_
              exact h_
             replace H := Option.bind_eq_some_iff.mp H
             obtain ⟨t890, A370, H⟩ := H
             have A37 := Aside0.mk A370
             clear A370
             by_cases c38 : (((⟨#[97, 98, 99, 100, 101]⟩ : ByteArray).extract (x9_1 : Int).toNat ((wrap64 (x9_1 + 1)) : Int).toNat) ++ t889).size + t890.size ≤ 9223372036854775807
             ·rw [if_pos c38] at H
              have c38b0 := eq_true c38
              have c38b1 : decide ((((⟨#[97, 98, 99, 100, 101]⟩ : ByteArray).extract (x9_1 : Int).toNat ((wrap64 (x9_1 + 1)) : Int).toNat) ++ t889).size + t890.size ≤ 9223372036854775807) = true := decide_eq_true c38
              try have c38b2 : (9223372036854775807 < (((⟨#[97, 98, 99, 100, 101]⟩ : ByteArray).extract (x9_1 : Int).toNat ((wrap64 (x9_1 + 1)) : Int).toNat) ++ t889).size + t890.size) = False := eq_false (Nat.not_lt.2 c38)
              have c38b3 : (9223372036854775807 < ((wrap64 (x9_1 + 1)).toNat - x9_1.toNat + t889.size) + t890.size) = False := by
               have hsz_ : ((⟨#[97, 98, 99, 100, 101]⟩ : ByteArray).extract (x9_1 : Int).toNat ((wrap64 (x9_1 + 1)) : Int).toNat).size = (wrap64 (x9_1 + 1)).toNat - x9_1.toNat := by
                rw [ByteArray.size_extract]
                show min _ 5 - _ = _
                omega
               have h_ := c38b2
               (try rw [ByteArray.size_append] at h_)
               rw [hsz_] at h_
               exact h_
              obtain rfl := Option.some.inj H
              try go_wp2
              replace BK884 := Aside0.mk (blk_drew BK884.out)
              replace HB := Aside0.mk (below_drew1 HB.out)
              refine start_ (n := 21) (S := fun w' => w'.cell? ⟨gb884, 0, none⟩ = some (.int .i64 a0_0) ∧ w'.cell? ⟨gb884, 1, none⟩ = some (.int .i64 a0_1)) (ds := []) (bs 21 0) (by kernel_rfl) rfl (by kernel_rfl) ⟨(blk_cell BK884.out 0).trans rfl, (blk_cell BK884.out 1).trans rfl⟩ (fun hHeld => ?_); refine with_tabW spec_l7Best.tab10 spec_l7Best.bits10 (fun HT_ HW_ => ?_)
              generalize wc.drew = w39 at BK884 HB hHeld ⊢
              refine pu_ HT_ 0 57 (bs 21 1) ?_
              refine pu_ HT_ 1 58 (bs 21 3) ?_
              refine pu_ HT_ 2 59 (bs 21 7) ?_
              refine pu_ HT_ 3 60 (bs 21 15) ?_
              refine pu_ HT_ 5 62 (bs 21 47) ?_
              refine pu_ HT_ 6 63 (bs 21 111) ?_
              refine pu_ HT_ 7 64 (bs 21 239) ?_
              refine pu_ HT_ 8 65 (bs 21 495) ?_
              refine pu_ HT_ 12 69 (bs 21 4591) ?_
              refine pu_ HT_ 13 70 (bs 21 12783) ?_
              refine pu_ HT_ 14 71 (bs 21 29167) ?_
              refine pu_ HT_ 15 72 (bs 21 61935) ?_
              refine pu_ HT_ 16 73 (bs 21 127471) ?_
              refine pu_ HT_ 17 74 (bs 21 258543) ?_
              refine ta2_ HT_ HW_ 4 61 (bs 21 258559) hHeld ?_
              refine ta2_ HT_ HW_ 11 68 (bs 21 260607) hHeld ?_
              refine on_ HT_ 9 66 (bs 21 261119) (fun K hK => ?_)
              refine goes_ Try.func39 (by kernel_rfl) rfl #[.agg #[.int .i64 a0_0, .int .i64 a0_1], .int .i64 (Go.bits .or .i64 a1 ji20), .int .i64 a2] (by rfl) rfl rfl (by (try simp only [List.map_toArray, List.map_cons, List.map_nil]); first | done | (simp only [hji20]; rfl) | rfl | (simp only [List.length_drop, List.length_take]; rfl)) ?_
              with_reducible refine (ih kj20 (by have := HK1.out; have := HJ20.out; omega) a0_0 a0_1 (Go.bits .or .i64 a1 ji20) a2 t889 _ A35.out).mono ?_
              rintro e w40 ⟨rfl, hb⟩
              refine ⟨_, rfl, ?_⟩
              replace BK884 := kb_ BK884 hb
              replace HB := Aside0.mk (below_step (bv1_ HB GE884) hb)
              (try clear hb)
              (try clear hb2)
              (try clear hk)
              (try clear hi)
              refine hK.out _ _ ⟨(blk_cell BK884.out 0).trans rfl, (blk_cell BK884.out 1).trans rfl⟩ (fun hHeld => ?_)
              clear hK K
              refine no_ 66 ?_
              refine pu_ HT_ 10 67 (bs 21 262143) ?_
              refine on_ HT_ 18 75 (bs 21 524287) (fun K hK => ?_)
              refine goes_ Try.func39 (by kernel_rfl) rfl #[.agg #[.int .i64 a0_0, .int .i64 a0_1], .int .i64 (Go.bits .or .i64 a1 ji20), .int .i64 (Go.bits .or .i64 a2 ji20)] (by rfl) rfl rfl (by (try simp only [List.map_toArray, List.map_cons, List.map_nil]); first | done | (simp only [hji20]; rfl) | rfl | (simp only [List.length_drop, List.length_take]; rfl)) ?_
              with_reducible refine (ih kj20 (by have := HK1.out; have := HJ20.out; omega) a0_0 a0_1 (Go.bits .or .i64 a1 ji20) (Go.bits .or .i64 a2 ji20) t890 _ A37.out).mono ?_
              rintro e w41 ⟨rfl, hb⟩
              refine ⟨_, rfl, ?_⟩
              replace BK884 := kb_ BK884 hb
              replace HB := Aside0.mk (below_step (bv1_ HB GE884) hb)
              (try clear hb)
              (try clear hb2)
              (try clear hk)
              (try clear hi)
              refine hK.out _ _ ⟨(blk_cell BK884.out 0).trans rfl, (blk_cell BK884.out 1).trans rfl⟩ (fun hHeld => ?_)
              clear hK K
              refine no_ 75 ?_
              refine pu_ HT_ 19 76 (bs 21 1048575) ?_
              refine pu_ HT_ 20 6 (bs 21 2097151) ?_
              refine done_ (done_of HT_.out (by kernel_rfl)) ?_
              try go_wp2
              go_ret
              exact ⟨by first | rfl | (simp [errW_none, errW_some] <;> rfl) | (simp only [← hji20]; first | rfl | (simp [errW_none, errW_some] <;> rfl)) | (simp [*, errW_none, errW_some] <;> rfl), bv1_ HB GE884⟩
             ·rw [if_neg c38] at H
              exact absurd H (by simp)
            ·rw [if_neg c36] at H
             exact absurd H (by simp)
           ·rw [if_neg c34] at H
            exact absurd H (by simp)
          ·rw [if_neg c33] at H
           exact absurd H (by simp)
         ·rw [if_neg c32] at H
          exact absurd H (by simp)
        ·replace c31 := Bool.eq_false_iff.mpr c31
         subst c31
         rw [if_neg (show ¬ (false = true) by decide)] at H
         have H' := Aside0.mk H
         clear H
         go_wp2
         go_roundg kj20
         case measure => have := HK1.out; have := HJ20.out; omega
         case rel => exact ⟨(wrap64 (x9_1 + 1)), (by first | rfl | (simp; done) | (simp [*]; done)), H', ⟨by have := HK1.out; have := HJ20.out; omega⟩, ⟨by (with_reducible repeat (first | refine blk_drewN ?_ _ | refine blk_drew ?_ | refine blk_alloc ?_ _)); exact BK884.out⟩, ⟨bv1_ HB GE884⟩⟩
     ·rw [if_neg c19] at H
      exact absurd H (by simp)
    ·rw [if_neg c18] at H
     have c18b0 : decide (x9_1 < a0_0) = false := decide_eq_false c18
     clear c18
     obtain rfl := Option.some.inj H
     obtain ⟨hcz42_0, hcz42_1, hfz42_0, hfz42_1⟩ := c2_ BK884
     go_wp2
     go_ret
     exact ⟨by first | rfl | (simp [errW_none, errW_some] <;> rfl) | (simp [*, errW_none, errW_some] <;> rfl), bv1_ HB GE884⟩


/-! ### spec_AskedOf: function 17 -/
def spec_AskedOf.f (k : Nat) (a0_0 : Int) (a0_1 : Int) (a1 : Int) (a2 : Int) : Option (Int) := (spec_l8Fine.f a0_0 a0_1 a1 a2).bind fun t892 => (if t892 = true then ((spec_l7Best.f k a0_0 a0_1 a1 a2).bind fun t893 => (if t893.toList = ([48] : List UInt8) then (some (-1)) else (if t893.toList = ([49] : List UInt8) then (some (-1)) else (if 0 < (t893.size : Int) then (some (wrap64 ((wrap64 (bt t893 0)) - 97))) else (none))))) else (some (-1)))
theorem spec_AskedOf.mono : ∀ a0 a1 a2 a3 k, LeO (spec_AskedOf.f k a0 a1 a2 a3) (spec_AskedOf.f (k + 1) a0 a1 a2 a3) := by
 intro a0 a1 a2 a3 k
 unfold spec_AskedOf.f
 repeat' first
   | (with_reducible exact spec_l7Best.mono _ _ _ _ _)
   | (with_reducible exact LeO.refl _)
   | (with_reducible exact LeO.none _)
   | (with_reducible refine LeO.ite ?_ ?_)
   | (with_reducible refine LeO.bind ?_ (fun _ => ?_))
   | exact spec_l7Best.mono _ _ _ _ _
   | exact LeO.none _
   | refine LeO.ite ?_ ?_
   | refine LeO.bind ?_ (fun _ => ?_)
set_option maxHeartbeats 8000000 in
set_option maxRecDepth 100000 in
theorem spec_AskedOf.calls (k : Nat) (a0_0 : Int) (a0_1 : Int) (a1 : Int) (a2 : Int) (r : Int) (w : World) (h : spec_AskedOf.f k a0_0 a0_1 a1 a2 = some r) :
  Calls Try.prog 17 #[.agg #[.int .i64 a0_0, .int .i64 a0_1], .int .i64 a1, .int .i64 a2] w fun e w' => e = .returned (.int .i64 r) ∧ Below w.heap.size w w' := by
 have hu25 := Try.underlying25
 have HB := Aside0.mk (Below.refl w.heap.size w)
 have H : ((spec_l8Fine.f a0_0 a0_1 a1 a2).bind fun t892 => (if t892 = true then ((spec_l7Best.f k a0_0 a0_1 a1 a2).bind fun t893 => (if t893.toList = ([48] : List UInt8) then (some (-1)) else (if t893.toList = ([49] : List UInt8) then (some (-1)) else (if 0 < (t893.size : Int) then (some (wrap64 ((wrap64 (bt t893 0)) - 97))) else (none))))) else (some (-1)))) = some r := h
 clear h
 replace H := Option.bind_eq_some_iff.mp H
 obtain ⟨t892, A40, H⟩ := H
 have A4 := Aside0.mk A40
 clear A40
 by_cases c5 : t892 = true
 ·subst c5
  rw [if_pos rfl] at H
  replace H := Option.bind_eq_some_iff.mp H
  obtain ⟨t893, A60, H⟩ := H
  have A6 := Aside0.mk A60
  clear A60
  by_cases c7 : t893.toList = ([48] : List UInt8)
  ·rw [if_pos c7] at H
   have c7b0 : (t893.toList == ([48] : List UInt8)) = true := beq_iff_eq.mpr c7
   have c7b1 : (t893.toList != ([48] : List UInt8)) = false := bne_eq_false_iff_eq.mpr c7
   clear c7
   obtain rfl := Option.some.inj H
   go_enter Try.func17, Try.ntmps17
   go_wp2_with (first | ((with_reducible refine gate_dst (N := 3) rfl ?_); refine bx_ 3 #[.int .i64 a0_0, .int .i64 a0_1] 25 ?_; intro gb891 hg w8 hbox hb; have BK891 := Aside0.mk (hbox); have GW891 := gw_ hg (below_size (bv_ HB)); have GE891 := GW891; replace HB := Aside0.mk (below_step (bv_ HB) hb); clear hb hbox hg; obtain ⟨hcz9_0, hcz9_1, hfz9_0, hfz9_1⟩ := c2_ BK891) | ((with_reducible refine gate_callee (f := 28) rfl ?_); refine gl_ 11 Try.func28 #[.agg #[.int .i64 a0_0, .int .i64 a0_1], .int .i64 a1, .int .i64 a2] rfl mp_ ?_; (with_reducible refine (spec_l8Fine.calls a0_0 a0_1 a1 a2 true _ A4.out).mono ?_); rintro e w10 ⟨rfl, hb⟩; refine ⟨_, rfl, ?_⟩; replace BK891 := kb_ BK891 hb; replace HB := Aside0.mk (below_step (bv1_ HB GE891) hb); (try clear hb); (try clear hb2); (try clear hk); (try clear hi); obtain ⟨hcz11_0, hcz11_1, hfz11_0, hfz11_1⟩ := c2_ BK891) | ((with_reducible refine gate_callee (f := 39) rfl ?_); refine gl_ 16 Try.func39 #[.agg #[.int .i64 a0_0, .int .i64 a0_1], .int .i64 a1, .int .i64 a2] rfl mp_ ?_; (with_reducible refine (spec_l7Best.calls k a0_0 a0_1 a1 a2 t893 _ A6.out).mono ?_); rintro e w12 ⟨rfl, hb⟩; refine ⟨_, rfl, ?_⟩; replace BK891 := kb_ BK891 hb; replace HB := Aside0.mk (below_step (bv1_ HB GE891) hb); (try clear hb); (try clear hb2); (try clear hk); (try clear hi)))
   go_ret
   exact ⟨by first | rfl | (simp [errW_none, errW_some] <;> rfl) | (simp [*, errW_none, errW_some] <;> rfl), bv1_ HB GE891⟩
  ·rw [if_neg c7] at H
   have c7b0 : (t893.toList == ([48] : List UInt8)) = false := beq_eq_false_iff_ne.mpr c7
   have c7b1 : (t893.toList != ([48] : List UInt8)) = true := bne_iff_ne.mpr c7
   by_cases c13 : t893.toList = ([49] : List UInt8)
   ·rw [if_pos c13] at H
    have c13b0 : (t893.toList == ([49] : List UInt8)) = true := beq_iff_eq.mpr c13
    have c13b1 : (t893.toList != ([49] : List UInt8)) = false := bne_eq_false_iff_eq.mpr c13
    clear c13
    obtain rfl := Option.some.inj H
    go_enter Try.func17, Try.ntmps17
    go_wp2_with (first | ((with_reducible refine gate_dst (N := 3) rfl ?_); refine bx_ 3 #[.int .i64 a0_0, .int .i64 a0_1] 25 ?_; intro gb891 hg w14 hbox hb; have BK891 := Aside0.mk (hbox); have GW891 := gw_ hg (below_size (bv_ HB)); have GE891 := GW891; replace HB := Aside0.mk (below_step (bv_ HB) hb); clear hb hbox hg; obtain ⟨hcz15_0, hcz15_1, hfz15_0, hfz15_1⟩ := c2_ BK891) | ((with_reducible refine gate_callee (f := 28) rfl ?_); refine gl_ 11 Try.func28 #[.agg #[.int .i64 a0_0, .int .i64 a0_1], .int .i64 a1, .int .i64 a2] rfl mp_ ?_; (with_reducible refine (spec_l8Fine.calls a0_0 a0_1 a1 a2 true _ A4.out).mono ?_); rintro e w16 ⟨rfl, hb⟩; refine ⟨_, rfl, ?_⟩; replace BK891 := kb_ BK891 hb; replace HB := Aside0.mk (below_step (bv1_ HB GE891) hb); (try clear hb); (try clear hb2); (try clear hk); (try clear hi); obtain ⟨hcz17_0, hcz17_1, hfz17_0, hfz17_1⟩ := c2_ BK891) | ((with_reducible refine gate_callee (f := 39) rfl ?_); refine gl_ 16 Try.func39 #[.agg #[.int .i64 a0_0, .int .i64 a0_1], .int .i64 a1, .int .i64 a2] rfl mp_ ?_; (with_reducible refine (spec_l7Best.calls k a0_0 a0_1 a1 a2 t893 _ A6.out).mono ?_); rintro e w18 ⟨rfl, hb⟩; refine ⟨_, rfl, ?_⟩; replace BK891 := kb_ BK891 hb; replace HB := Aside0.mk (below_step (bv1_ HB GE891) hb); (try clear hb); (try clear hb2); (try clear hk); (try clear hi)))
    go_ret
    exact ⟨by first | rfl | (simp [errW_none, errW_some] <;> rfl) | (simp [*, errW_none, errW_some] <;> rfl), bv1_ HB GE891⟩
   ·rw [if_neg c13] at H
    have c13b0 : (t893.toList == ([49] : List UInt8)) = false := beq_eq_false_iff_ne.mpr c13
    have c13b1 : (t893.toList != ([49] : List UInt8)) = true := bne_iff_ne.mpr c13
    by_cases c19 : 0 < (t893.size : Int)
    ·rw [if_pos c19] at H
     have c19b0 : decide (0 < (t893.size : Int)) = true := decide_eq_true c19
     have c19b1 : decide (0 < t893.size) = true := decide_eq_true (by omega)
     clear c19
     obtain rfl := Option.some.inj H
     go_enter Try.func17, Try.ntmps17
     go_wp2_with (first | ((with_reducible refine gate_dst (N := 3) rfl ?_); refine bx_ 3 #[.int .i64 a0_0, .int .i64 a0_1] 25 ?_; intro gb891 hg w21 hbox hb; have BK891 := Aside0.mk (hbox); have GW891 := gw_ hg (below_size (bv_ HB)); have GE891 := GW891; replace HB := Aside0.mk (below_step (bv_ HB) hb); clear hb hbox hg; obtain ⟨hcz22_0, hcz22_1, hfz22_0, hfz22_1⟩ := c2_ BK891) | ((with_reducible refine gate_callee (f := 28) rfl ?_); refine gl_ 11 Try.func28 #[.agg #[.int .i64 a0_0, .int .i64 a0_1], .int .i64 a1, .int .i64 a2] rfl mp_ ?_; (with_reducible refine (spec_l8Fine.calls a0_0 a0_1 a1 a2 true _ A4.out).mono ?_); rintro e w23 ⟨rfl, hb⟩; refine ⟨_, rfl, ?_⟩; replace BK891 := kb_ BK891 hb; replace HB := Aside0.mk (below_step (bv1_ HB GE891) hb); (try clear hb); (try clear hb2); (try clear hk); (try clear hi); obtain ⟨hcz24_0, hcz24_1, hfz24_0, hfz24_1⟩ := c2_ BK891) | ((with_reducible refine gate_callee (f := 39) rfl ?_); refine gl_ 16 Try.func39 #[.agg #[.int .i64 a0_0, .int .i64 a0_1], .int .i64 a1, .int .i64 a2] rfl mp_ ?_; (with_reducible refine (spec_l7Best.calls k a0_0 a0_1 a1 a2 t893 _ A6.out).mono ?_); rintro e w25 ⟨rfl, hb⟩; refine ⟨_, rfl, ?_⟩; replace BK891 := kb_ BK891 hb; replace HB := Aside0.mk (below_step (bv1_ HB GE891) hb); (try clear hb); (try clear hb2); (try clear hk); (try clear hi); have p20 : 0 ≤ (0 : Int) := (by omega); have q20 : 0 < t893.size := (by have : (0 : Int) < (t893.size : Int) := of_decide_eq_true (by first | (with_reducible assumption) | assumption); omega); have hx20 : ∀ h : 0 < t893.size, ((t893[0]'h).toNat : Int) = bt t893 0 := bt_at t893 0; clear p20; have qi20 : (0 < (t893.size : Int)) = True := eq_true (of_decide_eq_true (by first | (with_reducible assumption) | assumption)); replace q20 := eq_true q20))
     go_ret
     exact ⟨by first | rfl | (simp [errW_none, errW_some] <;> rfl) | (simp [*, errW_none, errW_some] <;> rfl), bv1_ HB GE891⟩
    ·rw [if_neg c19] at H
     exact absurd H (by simp)
 ·replace c5 := Bool.eq_false_iff.mpr c5
  subst c5
  rw [if_neg (show ¬ (false = true) by decide)] at H
  obtain rfl := Option.some.inj H
  go_enter Try.func17, Try.ntmps17
  go_wp2_with (first | ((with_reducible refine gate_dst (N := 3) rfl ?_); refine bx_ 3 #[.int .i64 a0_0, .int .i64 a0_1] 25 ?_; intro gb891 hg w26 hbox hb; have BK891 := Aside0.mk (hbox); have GW891 := gw_ hg (below_size (bv_ HB)); have GE891 := GW891; replace HB := Aside0.mk (below_step (bv_ HB) hb); clear hb hbox hg; obtain ⟨hcz27_0, hcz27_1, hfz27_0, hfz27_1⟩ := c2_ BK891) | ((with_reducible refine gate_callee (f := 28) rfl ?_); refine gl_ 11 Try.func28 #[.agg #[.int .i64 a0_0, .int .i64 a0_1], .int .i64 a1, .int .i64 a2] rfl mp_ ?_; (with_reducible refine (spec_l8Fine.calls a0_0 a0_1 a1 a2 false _ A4.out).mono ?_); rintro e w28 ⟨rfl, hb⟩; refine ⟨_, rfl, ?_⟩; replace BK891 := kb_ BK891 hb; replace HB := Aside0.mk (below_step (bv1_ HB GE891) hb); (try clear hb); (try clear hb2); (try clear hk); (try clear hi)))
  go_ret
  exact ⟨by first | rfl | (simp [errW_none, errW_some] <;> rfl) | (simp [*, errW_none, errW_some] <;> rfl), bv1_ HB GE891⟩


/-! ### spec_ForcedLeft: function 18 -/
def spec_ForcedLeft.f (k : Nat) (a0_0 : Int) (a0_1 : Int) (a1 : Int) (a2 : Int) : Option (Int) := (spec_l8Fine.f a0_0 a0_1 a1 a2).bind fun t895 => (if t895 = true then ((spec_l7Least.f k a0_0 a0_1 a1 a2).bind fun t896 => (some t896)) else (some (-1)))
theorem spec_ForcedLeft.mono : ∀ a0 a1 a2 a3 k, LeO (spec_ForcedLeft.f k a0 a1 a2 a3) (spec_ForcedLeft.f (k + 1) a0 a1 a2 a3) := by
 intro a0 a1 a2 a3 k
 unfold spec_ForcedLeft.f
 repeat' first
   | (with_reducible exact spec_l7Least.mono _ _ _ _ _)
   | (with_reducible exact LeO.refl _)
   | (with_reducible exact LeO.none _)
   | (with_reducible refine LeO.ite ?_ ?_)
   | (with_reducible refine LeO.bind ?_ (fun _ => ?_))
   | exact spec_l7Least.mono _ _ _ _ _
   | exact LeO.none _
   | refine LeO.ite ?_ ?_
   | refine LeO.bind ?_ (fun _ => ?_)
set_option maxHeartbeats 8000000 in
set_option maxRecDepth 100000 in
theorem spec_ForcedLeft.calls (k : Nat) (a0_0 : Int) (a0_1 : Int) (a1 : Int) (a2 : Int) (r : Int) (w : World) (h : spec_ForcedLeft.f k a0_0 a0_1 a1 a2 = some r) :
  Calls Try.prog 18 #[.agg #[.int .i64 a0_0, .int .i64 a0_1], .int .i64 a1, .int .i64 a2] w fun e w' => e = .returned (.int .i64 r) ∧ Below w.heap.size w w' := by
 have hu25 := Try.underlying25
 have HB := Aside0.mk (Below.refl w.heap.size w)
 have H : ((spec_l8Fine.f a0_0 a0_1 a1 a2).bind fun t895 => (if t895 = true then ((spec_l7Least.f k a0_0 a0_1 a1 a2).bind fun t896 => (some t896)) else (some (-1)))) = some r := h
 clear h
 replace H := Option.bind_eq_some_iff.mp H
 obtain ⟨t895, A40, H⟩ := H
 have A4 := Aside0.mk A40
 clear A40
 by_cases c5 : t895 = true
 ·subst c5
  rw [if_pos rfl] at H
  replace H := Option.bind_eq_some_iff.mp H
  obtain ⟨t896, A60, H⟩ := H
  have A6 := Aside0.mk A60
  clear A60
  obtain rfl := Option.some.inj H
  go_enter Try.func18, Try.ntmps18
  go_wp2_with (first | ((with_reducible refine gate_dst (N := 3) rfl ?_); refine bx_ 3 #[.int .i64 a0_0, .int .i64 a0_1] 25 ?_; intro gb894 hg w7 hbox hb; have BK894 := Aside0.mk (hbox); have GW894 := gw_ hg (below_size (bv_ HB)); have GE894 := GW894; replace HB := Aside0.mk (below_step (bv_ HB) hb); clear hb hbox hg; obtain ⟨hcz8_0, hcz8_1, hfz8_0, hfz8_1⟩ := c2_ BK894) | ((with_reducible refine gate_callee (f := 28) rfl ?_); refine gl_ 10 Try.func28 #[.agg #[.int .i64 a0_0, .int .i64 a0_1], .int .i64 a1, .int .i64 a2] rfl mp_ ?_; (with_reducible refine (spec_l8Fine.calls a0_0 a0_1 a1 a2 true _ A4.out).mono ?_); rintro e w9 ⟨rfl, hb⟩; refine ⟨_, rfl, ?_⟩; replace BK894 := kb_ BK894 hb; replace HB := Aside0.mk (below_step (bv1_ HB GE894) hb); (try clear hb); (try clear hb2); (try clear hk); (try clear hi); obtain ⟨hcz10_0, hcz10_1, hfz10_0, hfz10_1⟩ := c2_ BK894) | ((with_reducible refine gate_callee (f := 35) rfl ?_); refine gl_ 15 Try.func35 #[.agg #[.int .i64 a0_0, .int .i64 a0_1], .int .i64 a1, .int .i64 a2] rfl mp_ ?_; (with_reducible refine (spec_l7Least.calls k a0_0 a0_1 a1 a2 t896 _ A6.out).mono ?_); rintro e w11 ⟨rfl, hb⟩; refine ⟨_, rfl, ?_⟩; replace BK894 := kb_ BK894 hb; replace HB := Aside0.mk (below_step (bv1_ HB GE894) hb); (try clear hb); (try clear hb2); (try clear hk); (try clear hi)))
  go_ret
  exact ⟨by first | rfl | (simp [errW_none, errW_some] <;> rfl) | (simp [*, errW_none, errW_some] <;> rfl), bv1_ HB GE894⟩
 ·replace c5 := Bool.eq_false_iff.mpr c5
  subst c5
  rw [if_neg (show ¬ (false = true) by decide)] at H
  obtain rfl := Option.some.inj H
  go_enter Try.func18, Try.ntmps18
  go_wp2_with (first | ((with_reducible refine gate_dst (N := 3) rfl ?_); refine bx_ 3 #[.int .i64 a0_0, .int .i64 a0_1] 25 ?_; intro gb894 hg w12 hbox hb; have BK894 := Aside0.mk (hbox); have GW894 := gw_ hg (below_size (bv_ HB)); have GE894 := GW894; replace HB := Aside0.mk (below_step (bv_ HB) hb); clear hb hbox hg; obtain ⟨hcz13_0, hcz13_1, hfz13_0, hfz13_1⟩ := c2_ BK894) | ((with_reducible refine gate_callee (f := 28) rfl ?_); refine gl_ 10 Try.func28 #[.agg #[.int .i64 a0_0, .int .i64 a0_1], .int .i64 a1, .int .i64 a2] rfl mp_ ?_; (with_reducible refine (spec_l8Fine.calls a0_0 a0_1 a1 a2 false _ A4.out).mono ?_); rintro e w14 ⟨rfl, hb⟩; refine ⟨_, rfl, ?_⟩; replace BK894 := kb_ BK894 hb; replace HB := Aside0.mk (below_step (bv1_ HB GE894) hb); (try clear hb); (try clear hb2); (try clear hk); (try clear hi)))
  go_ret
  exact ⟨by first | rfl | (simp [errW_none, errW_some] <;> rfl) | (simp [*, errW_none, errW_some] <;> rfl), bv1_ HB GE894⟩


/-! ### impl_IsEvasive: function 19 -/
def impl_IsEvasive.f (a0_0 : Int) (a0_1 : Int) : Option (Bool) := (impl_isSmall.f a0_0 a0_1 4).bind fun t898 => (if t898 = true then ((impl_LeastDepth.f a0_0 a0_1).bind fun t899 => (some (t899 == a0_0))) else (some false))
def impl_IsEvasive.T1 : Bool × List (List Nat × List Nat) := (true, [([], []), ([0], [0]), ([1, 1], [1]), ([2], [2]), ([3, 2, 2], [2, 3]), ([2], [2]), ([5, 2], [2, 5]), ([4, 6, 2], [2, 4, 6]), ([2, 7], [2, 7]), ([8, 4, 0, 1, 2, 3, 4, 5, 6, 7, 8], [8])])
def impl_IsEvasive.B1 : List Nat := [0, 1, 3, 7, 15, 7, 39, 127, 255, 511]
theorem impl_IsEvasive.tab1 : rtab .any (opsOf Try.f19 1) = impl_IsEvasive.T1 := by kernel_rfl
theorem impl_IsEvasive.bits1 : waitsOk impl_IsEvasive.T1.2 impl_IsEvasive.B1 = true := by kernel_rfl
set_option maxHeartbeats 8000000 in
set_option maxRecDepth 100000 in
theorem impl_IsEvasive.calls (a0_0 : Int) (a0_1 : Int) (r : Bool) (w : World) (h : impl_IsEvasive.f a0_0 a0_1 = some r) :
  Calls Try.prog 19 #[.agg #[.int .i64 a0_0, .int .i64 a0_1]] w fun e w' => e = .returned (.bool r) ∧ Below w.heap.size w w' := by
 have hu25 := Try.underlying25
 have HB := Aside0.mk (Below.refl w.heap.size w)
 have H : ((impl_isSmall.f a0_0 a0_1 4).bind fun t898 => (if t898 = true then ((impl_LeastDepth.f a0_0 a0_1).bind fun t899 => (some (t899 == a0_0))) else (some false))) = some r := h
 clear h
 replace H := Option.bind_eq_some_iff.mp H
 obtain ⟨t898, A20, H⟩ := H
 have A2 := Aside0.mk A20
 clear A20
 by_cases c3 : t898 = true
 ·subst c3
  rw [if_pos rfl] at H
  replace H := Option.bind_eq_some_iff.mp H
  obtain ⟨t899, A40, H⟩ := H
  have A4 := Aside0.mk A40
  clear A40
  obtain rfl := Option.some.inj H
  go_enter Try.func19, Try.ntmps19
  try go_wp2_with (first | ((with_reducible refine gate_dst (N := 1) rfl ?_); refine bx_ 1 #[.int .i64 a0_0, .int .i64 a0_1] 25 ?_; intro gb897 hg w5 hbox hb; have BK897 := Aside0.mk (hbox); have GW897 := gw_ hg (below_size (bv_ HB)); have GE897 := GW897; replace HB := Aside0.mk (below_step (bv_ HB) hb); clear hb hbox hg))
  replace BK897 := Aside0.mk (blk_drew BK897.out)
  replace HB := Aside0.mk (below_drew1 HB.out)
  refine start_ (n := 10) (S := fun w' => w'.cell? ⟨gb897, 0, none⟩ = some (.int .i64 a0_0) ∧ w'.cell? ⟨gb897, 1, none⟩ = some (.int .i64 a0_1)) (ds := []) (bs 10 0) (by kernel_rfl) rfl (by kernel_rfl) ⟨(blk_cell BK897.out 0).trans rfl, (blk_cell BK897.out 1).trans rfl⟩ (fun hHeld => ?_); refine with_tabW impl_IsEvasive.tab1 impl_IsEvasive.bits1 (fun HT_ HW_ => ?_)
  generalize w5.drew = w6 at BK897 HB hHeld ⊢
  refine ta2_ HT_ HW_ 0 3 (bs 10 1) hHeld ?_
  refine on_ HT_ 1 4 (bs 10 3) (fun K hK => ?_)
  refine goes_ Try.func22 (by kernel_rfl) rfl #[.agg #[.int .i64 a0_0, .int .i64 a0_1], .int .i64 4] (by rfl) rfl rfl mp_ ?_
  with_reducible refine (impl_isSmall.calls a0_0 a0_1 4 true _ A2.out).mono ?_
  rintro e w7 ⟨rfl, hb⟩
  refine ⟨_, rfl, ?_⟩
  replace BK897 := kb_ BK897 hb
  replace HB := Aside0.mk (below_step (bv1_ HB GE897) hb)
  (try clear hb)
  (try clear hb2)
  (try clear hk)
  (try clear hi)
  refine hK.out _ _ ⟨(blk_cell BK897.out 0).trans rfl, (blk_cell BK897.out 1).trans rfl⟩ (fun hHeld => ?_)
  clear hK K
  refine no_ 4 ?_
  refine pu_ HT_ 2 5 (bs 10 7) ?_
  refine pu_ HT_ 5 8 (bs 10 39) ?_
  refine ta2_ HT_ HW_ 3 6 (bs 10 47) hHeld ?_
  refine ta2_ HT_ HW_ 6 9 (bs 10 111) hHeld ?_
  refine on_ HT_ 4 7 (bs 10 127) (fun K hK => ?_)
  refine goes_ Try.func8 (by kernel_rfl) rfl #[.agg #[.int .i64 a0_0, .int .i64 a0_1]] (by rfl) rfl rfl mp_ ?_
  with_reducible refine (impl_LeastDepth.calls a0_0 a0_1 t899 _ A4.out).mono ?_
  rintro e w8 ⟨rfl, hb⟩
  refine ⟨_, rfl, ?_⟩
  replace BK897 := kb_ BK897 hb
  replace HB := Aside0.mk (below_step (bv1_ HB GE897) hb)
  (try clear hb)
  (try clear hb2)
  (try clear hk)
  (try clear hi)
  refine hK.out _ _ ⟨(blk_cell BK897.out 0).trans rfl, (blk_cell BK897.out 1).trans rfl⟩ (fun hHeld => ?_)
  clear hK K
  refine no_ 7 ?_
  refine pu_ HT_ 7 10 (bs 10 255) ?_
  refine pu_ HT_ 8 11 (bs 10 511) ?_
  refine pu_ HT_ 9 2 (bs 10 1023) ?_
  refine done_ (done_of HT_.out (by kernel_rfl)) ?_
  try go_wp2
  go_ret
  exact ⟨by first | rfl | (simp [errW_none, errW_some] <;> rfl) | (simp [*, errW_none, errW_some] <;> rfl), bv1_ HB GE897⟩
 ·replace c3 := Bool.eq_false_iff.mpr c3
  subst c3
  rw [if_neg (show ¬ (false = true) by decide)] at H
  obtain rfl := Option.some.inj H
  go_enter Try.func19, Try.ntmps19
  try go_wp2_with (first | ((with_reducible refine gate_dst (N := 1) rfl ?_); refine bx_ 1 #[.int .i64 a0_0, .int .i64 a0_1] 25 ?_; intro gb897 hg w9 hbox hb; have BK897 := Aside0.mk (hbox); have GW897 := gw_ hg (below_size (bv_ HB)); have GE897 := GW897; replace HB := Aside0.mk (below_step (bv_ HB) hb); clear hb hbox hg))
  replace BK897 := Aside0.mk (blk_drew BK897.out)
  replace HB := Aside0.mk (below_drew1 HB.out)
  refine start_ (n := 10) (S := fun w' => w'.cell? ⟨gb897, 0, none⟩ = some (.int .i64 a0_0) ∧ w'.cell? ⟨gb897, 1, none⟩ = some (.int .i64 a0_1)) (ds := []) (bs 10 0) (by kernel_rfl) rfl (by kernel_rfl) ⟨(blk_cell BK897.out 0).trans rfl, (blk_cell BK897.out 1).trans rfl⟩ (fun hHeld => ?_); refine with_tabW impl_IsEvasive.tab1 impl_IsEvasive.bits1 (fun HT_ HW_ => ?_)
  generalize w9.drew = w10 at BK897 HB hHeld ⊢
  refine ta2_ HT_ HW_ 0 3 (bs 10 1) hHeld ?_
  refine on_ HT_ 1 4 (bs 10 3) (fun K hK => ?_)
  refine goes_ Try.func22 (by kernel_rfl) rfl #[.agg #[.int .i64 a0_0, .int .i64 a0_1], .int .i64 4] (by rfl) rfl rfl mp_ ?_
  with_reducible refine (impl_isSmall.calls a0_0 a0_1 4 false _ A2.out).mono ?_
  rintro e w11 ⟨rfl, hb⟩
  refine ⟨_, rfl, ?_⟩
  replace BK897 := kb_ BK897 hb
  replace HB := Aside0.mk (below_step (bv1_ HB GE897) hb)
  (try clear hb)
  (try clear hb2)
  (try clear hk)
  (try clear hi)
  refine hK.out _ _ ⟨(blk_cell BK897.out 0).trans rfl, (blk_cell BK897.out 1).trans rfl⟩ (fun hHeld => ?_)
  clear hK K
  refine no_ 4 ?_
  refine pu_ HT_ 2 5 (bs 10 7) ?_
  refine pure_ (i := 3) (N := some 6) (v := undef) (a' := ?_) (bs 10 15) rfl rfl (any_of HT_.out (by kernel_rfl)) (fun _ _ _ h => h) (Or.inr ⟨by rfl, rfl⟩) ?_ ?_
  rotate_left
  ·simp only [Act.put, List.setIfInBounds_toArray, List.set_cons_zero, List.set_cons_succ, i64_w, i32_w]
   rfl
  refine pure_ (i := 4) (N := some 7) (v := undef) (a' := ?_) (bs 10 31) rfl rfl (any_of HT_.out (by kernel_rfl)) (fun _ _ _ h => h) (Or.inr ⟨by rfl, rfl⟩) ?_ ?_
  rotate_left
  ·simp only [Act.put, List.setIfInBounds_toArray, List.set_cons_zero, List.set_cons_succ, i64_w, i32_w]
   rfl
  refine pure_ (i := 5) (N := some 8) (v := undef) (a' := ?_) (bs 10 63) rfl rfl (any_of HT_.out (by kernel_rfl)) (fun _ _ _ h => h) (Or.inr ⟨by rfl, rfl⟩) ?_ ?_
  rotate_left
  ·simp only [Act.put, List.setIfInBounds_toArray, List.set_cons_zero, List.set_cons_succ, i64_w, i32_w]
   rfl
  refine pure_ (i := 6) (N := some 9) (v := undef) (a' := ?_) (bs 10 127) rfl rfl (any_of HT_.out (by kernel_rfl)) (fun _ _ _ h => h) (Or.inr ⟨by rfl, rfl⟩) ?_ ?_
  rotate_left
  ·simp only [Act.put, List.setIfInBounds_toArray, List.set_cons_zero, List.set_cons_succ, i64_w, i32_w]
   rfl
  refine pure_ (i := 7) (N := some 10) (v := undef) (a' := ?_) (bs 10 255) rfl rfl (any_of HT_.out (by kernel_rfl)) (fun _ _ _ h => h) (Or.inr ⟨by rfl, rfl⟩) ?_ ?_
  rotate_left
  ·simp only [Act.put, List.setIfInBounds_toArray, List.set_cons_zero, List.set_cons_succ, i64_w, i32_w]
   rfl
  refine pu_ HT_ 8 11 (bs 10 511) ?_
  refine pu_ HT_ 9 2 (bs 10 1023) ?_
  refine done_ (done_of HT_.out (by kernel_rfl)) ?_
  try go_wp2
  go_ret
  exact ⟨by first | rfl | (simp [errW_none, errW_some] <;> rfl) | (simp [*, errW_none, errW_some] <;> rfl), bv1_ HB GE897⟩


end Go.Proofs.Ytflnlnkbepoimaa.P
