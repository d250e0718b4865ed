-- Out of the translation, by this session's program over the printer's; Lean checks it.
import Derived.Test.YtflnlnkbepoimaaSh
import Derived.Test.YtflnlnkbepoimaaQ0
import Derived.Test.YtflnlnkbepoimaaQ5
namespace Go.Proofs.Ytflnlnkbepoimaa.P
open Go.RowKit Go.Proofs.YtflnlnkbepoimaaW.PrintWords Go.Proofs.YtflnlnkbepoimaaW.PrintLast Go.Proofs.YtflnlnkbepoimaaW.PrintMore
attribute [local go_sem] max2_int min2_int max_two min_two max_three min_three max_four min_four
set_option linter.unusedVariables false
set_option linter.unusedSimpArgs false

/-! ### spec_IsEvasive: function 20 -/
def spec_IsEvasive.f (k : Nat) (a0_0 : Int) (a0_1 : Int) : Option (Bool) := (spec_IsTable.f a0_0 a0_1).bind fun t901 => (if t901 = true then (if a0_0 ≤ 4 then ((spec_l7Least.f k a0_0 a0_1 0 0).bind fun t902 => (some (t902 == a0_0))) else (some false)) else (some false))
theorem spec_IsEvasive.mono : ∀ a0 a1 k, LeO (spec_IsEvasive.f k a0 a1) (spec_IsEvasive.f (k + 1) a0 a1) := by
 intro a0 a1 k
 unfold spec_IsEvasive.f
 repeat' first
   | (with_reducible exact spec_l7Least.mono _ _ _ _ _)
   | (with_reducible exact LeO.refl _)
   | (with_reducible exact LeO.none _)
   | (with_reducible refine LeO.ite ?_ ?_)
   | (with_reducible refine LeO.bind ?_ (fun _ => ?_))
   | exact spec_l7Least.mono _ _ _ _ _
   | exact LeO.none _
   | refine LeO.ite ?_ ?_
   | refine LeO.bind ?_ (fun _ => ?_)
def spec_IsEvasive.T1 : Bool × List (List Nat × List Nat) := (true, [([], []), ([0], [0]), ([1, 1], [1]), ([2], [2]), ([3, 2], [2, 3]), ([4, 2], [2, 4]), ([2, 5], [2, 5]), ([6, 2], [6]), ([7], [7]), ([8, 7, 7], [7, 8]), ([7], [7]), ([10, 7], [7, 10]), ([9, 11, 7], [7, 9, 11]), ([7, 12], [7, 12]), ([13, 9, 0, 1, 2, 3, 4, 5, 6, 7, 8, 9, 10, 11, 12, 13], [13])])
def spec_IsEvasive.B1 : List Nat := [0, 1, 3, 7, 15, 31, 63, 127, 255, 511, 255, 1279, 4095, 8191, 16383]
theorem spec_IsEvasive.tab1 : rtab .any (opsOf Try.f20 1) = spec_IsEvasive.T1 := by kernel_rfl
theorem spec_IsEvasive.bits1 : waitsOk spec_IsEvasive.T1.2 spec_IsEvasive.B1 = true := by kernel_rfl
set_option maxHeartbeats 8000000 in
set_option maxRecDepth 100000 in
theorem spec_IsEvasive.calls (k : Nat) (a0_0 : Int) (a0_1 : Int) (r : Bool) (w : World) (h : spec_IsEvasive.f k a0_0 a0_1 = some r) :
  Calls Try.prog 20 #[.agg #[.int .i64 a0_0, .int .i64 a0_1]] w fun e w' => e = .returned (.bool r) ∧ Below w.heap.size w w' := by
 have hu25 := Try.underlying25
 have HB := Aside0.mk (Below.refl w.heap.size w)
 have H : ((spec_IsTable.f a0_0 a0_1).bind fun t901 => (if t901 = true then (if a0_0 ≤ 4 then ((spec_l7Least.f k a0_0 a0_1 0 0).bind fun t902 => (some (t902 == a0_0))) else (some false)) else (some false))) = some r := h
 clear h
 replace H := Option.bind_eq_some_iff.mp H
 obtain ⟨t901, A20, H⟩ := H
 have A2 := Aside0.mk A20
 clear A20
 by_cases c3 : t901 = true
 ·subst c3
  rw [if_pos rfl] at H
  by_cases c4 : a0_0 ≤ 4
  ·rw [if_pos c4] at H
   have c4b0 : decide (a0_0 ≤ 4) = true := decide_eq_true c4
   clear c4
   replace H := Option.bind_eq_some_iff.mp H
   obtain ⟨t902, A50, H⟩ := H
   have A5 := Aside0.mk A50
   clear A50
   obtain rfl := Option.some.inj H
   go_enter Try.func20, Try.ntmps20
   try go_wp2_with (first | ((with_reducible refine gate_dst (N := 1) rfl ?_); refine bx_ 1 #[.int .i64 a0_0, .int .i64 a0_1] 25 ?_; intro gb900 hg w6 hbox hb; have BK900 := Aside0.mk (hbox); have GW900 := gw_ hg (below_size (bv_ HB)); have GE900 := GW900; replace HB := Aside0.mk (below_step (bv_ HB) hb); clear hb hbox hg))
   replace BK900 := Aside0.mk (blk_drew BK900.out)
   replace HB := Aside0.mk (below_drew1 HB.out)
   refine start_ (n := 15) (S := fun w' => w'.cell? ⟨gb900, 0, none⟩ = some (.int .i64 a0_0) ∧ w'.cell? ⟨gb900, 1, none⟩ = some (.int .i64 a0_1)) (ds := []) (bs 15 0) (by kernel_rfl) rfl (by kernel_rfl) ⟨(blk_cell BK900.out 0).trans rfl, (blk_cell BK900.out 1).trans rfl⟩ (fun hHeld => ?_); refine with_tabW spec_IsEvasive.tab1 spec_IsEvasive.bits1 (fun HT_ HW_ => ?_)
   generalize w6.drew = w7 at BK900 HB hHeld ⊢
   refine ta2_ HT_ HW_ 0 3 (bs 15 1) hHeld ?_
   refine on_ HT_ 1 4 (bs 15 3) (fun K hK => ?_)
   refine goes_ Try.func40 (by kernel_rfl) rfl #[.agg #[.int .i64 a0_0, .int .i64 a0_1]] (by rfl) rfl rfl mp_ ?_
   with_reducible refine (spec_IsTable.calls a0_0 a0_1 true _ A2.out).mono ?_
   rintro e w8 ⟨rfl, hb⟩
   refine ⟨_, rfl, ?_⟩
   replace BK900 := kb_ BK900 hb
   replace HB := Aside0.mk (below_step (bv1_ HB GE900) hb)
   (try clear hb)
   (try clear hb2)
   (try clear hk)
   (try clear hi)
   refine hK.out _ _ ⟨(blk_cell BK900.out 0).trans rfl, (blk_cell BK900.out 1).trans rfl⟩ (fun hHeld => ?_)
   clear hK K
   refine no_ 4 ?_
   refine pu_ HT_ 2 5 (bs 15 7) ?_
   refine pu_ HT_ 3 6 (bs 15 15) ?_
   refine ta2_ HT_ HW_ 4 7 (bs 15 31) hHeld ?_
   refine pu_ HT_ 5 8 (bs 15 63) ?_
   refine pu_ HT_ 6 9 (bs 15 127) ?_
   refine pu_ HT_ 7 10 (bs 15 255) ?_
   refine pu_ HT_ 10 13 (bs 15 1279) ?_
   refine ta2_ HT_ HW_ 8 11 (bs 15 1535) hHeld ?_
   refine ta2_ HT_ HW_ 11 14 (bs 15 3583) hHeld ?_
   refine on_ HT_ 9 12 (bs 15 4095) (fun K hK => ?_)
   refine goes_ Try.func35 (by kernel_rfl) rfl #[.agg #[.int .i64 a0_0, .int .i64 a0_1], .int .i64 0, .int .i64 0] (by rfl) rfl rfl mp_ ?_
   with_reducible refine (spec_l7Least.calls k a0_0 a0_1 0 0 t902 _ A5.out).mono ?_
   rintro e w9 ⟨rfl, hb⟩
   refine ⟨_, rfl, ?_⟩
   replace BK900 := kb_ BK900 hb
   replace HB := Aside0.mk (below_step (bv1_ HB GE900) hb)
   (try clear hb)
   (try clear hb2)
   (try clear hk)
   (try clear hi)
   refine hK.out _ _ ⟨(blk_cell BK900.out 0).trans rfl, (blk_cell BK900.out 1).trans rfl⟩ (fun hHeld => ?_)
   clear hK K
   refine no_ 12 ?_
   refine pu_ HT_ 12 15 (bs 15 8191) ?_
   refine pu_ HT_ 13 16 (bs 15 16383) ?_
   refine pu_ HT_ 14 2 (bs 15 32767) ?_
   refine done_ (done_of HT_.out (by kernel_rfl)) ?_
   try go_wp2
   go_ret
   exact ⟨by first | rfl | (simp [errW_none, errW_some] <;> rfl) | (simp [*, errW_none, errW_some] <;> rfl), bv1_ HB GE900⟩
  ·rw [if_neg c4] at H
   have c4b0 : decide (a0_0 ≤ 4) = false := decide_eq_false c4
   clear c4
   obtain rfl := Option.some.inj H
   go_enter Try.func20, Try.ntmps20
   try go_wp2_with (first | ((with_reducible refine gate_dst (N := 1) rfl ?_); refine bx_ 1 #[.int .i64 a0_0, .int .i64 a0_1] 25 ?_; intro gb900 hg w10 hbox hb; have BK900 := Aside0.mk (hbox); have GW900 := gw_ hg (below_size (bv_ HB)); have GE900 := GW900; replace HB := Aside0.mk (below_step (bv_ HB) hb); clear hb hbox hg))
   replace BK900 := Aside0.mk (blk_drew BK900.out)
   replace HB := Aside0.mk (below_drew1 HB.out)
   refine start_ (n := 15) (S := fun w' => w'.cell? ⟨gb900, 0, none⟩ = some (.int .i64 a0_0) ∧ w'.cell? ⟨gb900, 1, none⟩ = some (.int .i64 a0_1)) (ds := []) (bs 15 0) (by kernel_rfl) rfl (by kernel_rfl) ⟨(blk_cell BK900.out 0).trans rfl, (blk_cell BK900.out 1).trans rfl⟩ (fun hHeld => ?_); refine with_tabW spec_IsEvasive.tab1 spec_IsEvasive.bits1 (fun HT_ HW_ => ?_)
   generalize w10.drew = w11 at BK900 HB hHeld ⊢
   refine ta2_ HT_ HW_ 0 3 (bs 15 1) hHeld ?_
   refine on_ HT_ 1 4 (bs 15 3) (fun K hK => ?_)
   refine goes_ Try.func40 (by kernel_rfl) rfl #[.agg #[.int .i64 a0_0, .int .i64 a0_1]] (by rfl) rfl rfl mp_ ?_
   with_reducible refine (spec_IsTable.calls a0_0 a0_1 true _ A2.out).mono ?_
   rintro e w12 ⟨rfl, hb⟩
   refine ⟨_, rfl, ?_⟩
   replace BK900 := kb_ BK900 hb
   replace HB := Aside0.mk (below_step (bv1_ HB GE900) hb)
   (try clear hb)
   (try clear hb2)
   (try clear hk)
   (try clear hi)
   refine hK.out _ _ ⟨(blk_cell BK900.out 0).trans rfl, (blk_cell BK900.out 1).trans rfl⟩ (fun hHeld => ?_)
   clear hK K
   refine no_ 4 ?_
   refine pu_ HT_ 2 5 (bs 15 7) ?_
   refine pu_ HT_ 3 6 (bs 15 15) ?_
   refine ta2_ HT_ HW_ 4 7 (bs 15 31) hHeld ?_
   refine pu_ HT_ 5 8 (bs 15 63) ?_
   refine pu_ HT_ 6 9 (bs 15 127) ?_
   refine pu_ HT_ 7 10 (bs 15 255) ?_
   refine pure_ (i := 8) (N := some 11) (v := undef) (a' := ?_) (bs 15 511) rfl rfl (any_of HT_.out (by kernel_rfl)) (fun _ _ _ h => h) (Or.inr ⟨by rfl, rfl⟩) ?_ ?_
   rotate_left
   ·simp only [Act.put, List.setIfInBounds_toArray, List.set_cons_zero, List.set_cons_succ, i64_w, i32_w]
    rfl
   refine pure_ (i := 9) (N := some 12) (v := undef) (a' := ?_) (bs 15 1023) rfl rfl (any_of HT_.out (by kernel_rfl)) (fun _ _ _ h => h) (Or.inr ⟨by rfl, rfl⟩) ?_ ?_
   rotate_left
   ·simp only [Act.put, List.setIfInBounds_toArray, List.set_cons_zero, List.set_cons_succ, i64_w, i32_w]
    rfl
   refine pure_ (i := 10) (N := some 13) (v := undef) (a' := ?_) (bs 15 2047) rfl rfl (any_of HT_.out (by kernel_rfl)) (fun _ _ _ h => h) (Or.inr ⟨by rfl, rfl⟩) ?_ ?_
   rotate_left
   ·simp only [Act.put, List.setIfInBounds_toArray, List.set_cons_zero, List.set_cons_succ, i64_w, i32_w]
    rfl
   refine pure_ (i := 11) (N := some 14) (v := undef) (a' := ?_) (bs 15 4095) rfl rfl (any_of HT_.out (by kernel_rfl)) (fun _ _ _ h => h) (Or.inr ⟨by rfl, rfl⟩) ?_ ?_
   rotate_left
   ·simp only [Act.put, List.setIfInBounds_toArray, List.set_cons_zero, List.set_cons_succ, i64_w, i32_w]
    rfl
   refine pure_ (i := 12) (N := some 15) (v := undef) (a' := ?_) (bs 15 8191) rfl rfl (any_of HT_.out (by kernel_rfl)) (fun _ _ _ h => h) (Or.inr ⟨by rfl, rfl⟩) ?_ ?_
   rotate_left
   ·simp only [Act.put, List.setIfInBounds_toArray, List.set_cons_zero, List.set_cons_succ, i64_w, i32_w]
    rfl
   refine pu_ HT_ 13 16 (bs 15 16383) ?_
   refine pu_ HT_ 14 2 (bs 15 32767) ?_
   refine done_ (done_of HT_.out (by kernel_rfl)) ?_
   try go_wp2
   go_ret
   exact ⟨by first | rfl | (simp [errW_none, errW_some] <;> rfl) | (simp [*, errW_none, errW_some] <;> rfl), bv1_ HB GE900⟩
 ·replace c3 := Bool.eq_false_iff.mpr c3
  subst c3
  rw [if_neg (show ¬ (false = true) by decide)] at H
  obtain rfl := Option.some.inj H
  go_enter Try.func20, Try.ntmps20
  try go_wp2_with (first | ((with_reducible refine gate_dst (N := 1) rfl ?_); refine bx_ 1 #[.int .i64 a0_0, .int .i64 a0_1] 25 ?_; intro gb900 hg w13 hbox hb; have BK900 := Aside0.mk (hbox); have GW900 := gw_ hg (below_size (bv_ HB)); have GE900 := GW900; replace HB := Aside0.mk (below_step (bv_ HB) hb); clear hb hbox hg))
  replace BK900 := Aside0.mk (blk_drew BK900.out)
  replace HB := Aside0.mk (below_drew1 HB.out)
  refine start_ (n := 15) (S := fun w' => w'.cell? ⟨gb900, 0, none⟩ = some (.int .i64 a0_0) ∧ w'.cell? ⟨gb900, 1, none⟩ = some (.int .i64 a0_1)) (ds := []) (bs 15 0) (by kernel_rfl) rfl (by kernel_rfl) ⟨(blk_cell BK900.out 0).trans rfl, (blk_cell BK900.out 1).trans rfl⟩ (fun hHeld => ?_); refine with_tabW spec_IsEvasive.tab1 spec_IsEvasive.bits1 (fun HT_ HW_ => ?_)
  generalize w13.drew = w14 at BK900 HB hHeld ⊢
  refine ta2_ HT_ HW_ 0 3 (bs 15 1) hHeld ?_
  refine on_ HT_ 1 4 (bs 15 3) (fun K hK => ?_)
  refine goes_ Try.func40 (by kernel_rfl) rfl #[.agg #[.int .i64 a0_0, .int .i64 a0_1]] (by rfl) rfl rfl mp_ ?_
  with_reducible refine (spec_IsTable.calls a0_0 a0_1 false _ A2.out).mono ?_
  rintro e w15 ⟨rfl, hb⟩
  refine ⟨_, rfl, ?_⟩
  replace BK900 := kb_ BK900 hb
  replace HB := Aside0.mk (below_step (bv1_ HB GE900) hb)
  (try clear hb)
  (try clear hb2)
  (try clear hk)
  (try clear hi)
  refine hK.out _ _ ⟨(blk_cell BK900.out 0).trans rfl, (blk_cell BK900.out 1).trans rfl⟩ (fun hHeld => ?_)
  clear hK K
  refine no_ 4 ?_
  refine pu_ HT_ 2 5 (bs 15 7) ?_
  refine pure_ (i := 3) (N := some 6) (v := undef) (a' := ?_) (bs 15 15) rfl rfl (any_of HT_.out (by kernel_rfl)) (fun _ _ _ h => h) (Or.inr ⟨by rfl, rfl⟩) ?_ ?_
  rotate_left
  ·simp only [Act.put, List.setIfInBounds_toArray, List.set_cons_zero, List.set_cons_succ, i64_w, i32_w]
   rfl
  refine pure_ (i := 4) (N := some 7) (v := undef) (a' := ?_) (bs 15 31) rfl rfl (any_of HT_.out (by kernel_rfl)) (fun _ _ _ h => h) (Or.inr ⟨by rfl, rfl⟩) ?_ ?_
  rotate_left
  ·simp only [Act.put, List.setIfInBounds_toArray, List.set_cons_zero, List.set_cons_succ, i64_w, i32_w]
   rfl
  refine pure_ (i := 5) (N := some 8) (v := undef) (a' := ?_) (bs 15 63) rfl rfl (any_of HT_.out (by kernel_rfl)) (fun _ _ _ h => h) (Or.inr ⟨by rfl, rfl⟩) ?_ ?_
  rotate_left
  ·simp only [Act.put, List.setIfInBounds_toArray, List.set_cons_zero, List.set_cons_succ, i64_w, i32_w]
   rfl
  refine pu_ HT_ 6 9 (bs 15 127) ?_
  refine pu_ HT_ 7 10 (bs 15 255) ?_
  refine pure_ (i := 8) (N := some 11) (v := undef) (a' := ?_) (bs 15 511) rfl rfl (any_of HT_.out (by kernel_rfl)) (fun _ _ _ h => h) (Or.inr ⟨by rfl, rfl⟩) ?_ ?_
  rotate_left
  ·simp only [Act.put, List.setIfInBounds_toArray, List.set_cons_zero, List.set_cons_succ, i64_w, i32_w]
   rfl
  refine pure_ (i := 9) (N := some 12) (v := undef) (a' := ?_) (bs 15 1023) rfl rfl (any_of HT_.out (by kernel_rfl)) (fun _ _ _ h => h) (Or.inr ⟨by rfl, rfl⟩) ?_ ?_
  rotate_left
  ·simp only [Act.put, List.setIfInBounds_toArray, List.set_cons_zero, List.set_cons_succ, i64_w, i32_w]
   rfl
  refine pure_ (i := 10) (N := some 13) (v := undef) (a' := ?_) (bs 15 2047) rfl rfl (any_of HT_.out (by kernel_rfl)) (fun _ _ _ h => h) (Or.inr ⟨by rfl, rfl⟩) ?_ ?_
  rotate_left
  ·simp only [Act.put, List.setIfInBounds_toArray, List.set_cons_zero, List.set_cons_succ, i64_w, i32_w]
   rfl
  refine pure_ (i := 11) (N := some 14) (v := undef) (a' := ?_) (bs 15 4095) rfl rfl (any_of HT_.out (by kernel_rfl)) (fun _ _ _ h => h) (Or.inr ⟨by rfl, rfl⟩) ?_ ?_
  rotate_left
  ·simp only [Act.put, List.setIfInBounds_toArray, List.set_cons_zero, List.set_cons_succ, i64_w, i32_w]
   rfl
  refine pure_ (i := 12) (N := some 15) (v := undef) (a' := ?_) (bs 15 8191) rfl rfl (any_of HT_.out (by kernel_rfl)) (fun _ _ _ h => h) (Or.inr ⟨by rfl, rfl⟩) ?_ ?_
  rotate_left
  ·simp only [Act.put, List.setIfInBounds_toArray, List.set_cons_zero, List.set_cons_succ, i64_w, i32_w]
   rfl
  refine pu_ HT_ 13 16 (bs 15 16383) ?_
  refine pu_ HT_ 14 2 (bs 15 32767) ?_
  refine done_ (done_of HT_.out (by kernel_rfl)) ?_
  try go_wp2
  go_ret
  exact ⟨by first | rfl | (simp [errW_none, errW_some] <;> rfl) | (simp [*, errW_none, errW_some] <;> rfl), bv1_ HB GE900⟩


/-! ### pre_55: function 0 -/
-- NOT PRINTED: function 3 (laws_FnAdversaries)

end Go.Proofs.Ytflnlnkbepoimaa.P
