-- Out of the translation, by this session's program over the printer's; Lean checks it.
import Derived.Test.YteljkpglgjjnlaaSh
import Derived.Test.YteljkpglgjjnlaaQ0
import Derived.Test.YteljkpglgjjnlaaQ3
namespace Go.Proofs.Yteljkpglgjjnlaa.P
open Go.RowKit Go.Proofs.YteljkpglgjjnlaaW.PrintWords Go.Proofs.YteljkpglgjjnlaaW.PrintLast Go.Proofs.YteljkpglgjjnlaaW.PrintMore
attribute [local go_sem] max2_int min2_int max_two min_two max_three min_three max_four min_four
set_option linter.unusedVariables false
set_option linter.unusedSimpArgs false

/-! ### impl_IsTable: function 34 -/
def impl_IsTable.f (a0_0 : Int) (a0_1 : Int) : Option (Bool) := (impl_isBits.f a0_0).bind fun t289 => (if t289 = true then (if a0_1 ≥ 0 then ((impl_Table_size.f a0_0 a0_1).bind fun t290 => (if 0 ≤ t290 then (some ((shr .i64 a0_1 t290) == 0)) else (none))) else (some false)) else (some false))
def impl_IsTable.T1 : Bool × List (List Nat × List Nat) := (true, [([], []), ([0], [0]), ([1], [1]), ([2, 2], [2]), ([3], [3]), ([4, 3], [3, 4]), ([5, 3], [3, 5]), ([3, 6], [3, 6]), ([7, 3], [7]), ([8], [8]), ([9, 8], [8, 9]), ([8], [8]), ([11, 8, 8], [8, 11]), ([10, 12, 8], [8, 10, 12]), ([13, 8], [8, 13]), ([8, 14], [8, 14]), ([15, 12, 0, 1, 2, 3, 4, 5, 6, 7, 8, 9, 10, 11, 12, 13, 14, 15], [15])])
def impl_IsTable.B1 : List Nat := [0, 1, 3, 7, 15, 31, 63, 127, 255, 511, 1023, 511, 2559, 8191, 16383, 32767, 65535]
theorem impl_IsTable.tab1 : rtab .any (opsOf Try.f34 1) = impl_IsTable.T1 := by kernel_rfl
theorem impl_IsTable.bits1 : waitsOk impl_IsTable.T1.2 impl_IsTable.B1 = true := by kernel_rfl
set_option maxHeartbeats 8000000 in
set_option maxRecDepth 100000 in
theorem impl_IsTable.calls (a0_0 : Int) (a0_1 : Int) (r : Bool) (w : World) (h : impl_IsTable.f a0_0 a0_1 = some r) :
  Calls Try.prog 34 #[.agg #[.int .i64 a0_0, .int .i64 a0_1]] w fun e w' => e = .returned (.bool r) ∧ Below w.heap.size w w' := by
 have hu25 := Try.underlying25
 have HB := Aside0.mk (Below.refl w.heap.size w)
 have H : ((impl_isBits.f a0_0).bind fun t289 => (if t289 = true then (if a0_1 ≥ 0 then ((impl_Table_size.f a0_0 a0_1).bind fun t290 => (if 0 ≤ t290 then (some ((shr .i64 a0_1 t290) == 0)) else (none))) else (some false)) else (some false))) = some r := h
 clear h
 replace H := Option.bind_eq_some_iff.mp H
 obtain ⟨t289, A20, H⟩ := H
 have A2 := Aside0.mk A20
 clear A20
 by_cases c3 : t289 = true
 ·subst c3
  rw [if_pos rfl] at H
  by_cases c4 : a0_1 ≥ 0
  ·rw [if_pos c4] at H
   have c4b0 : decide (0 ≤ a0_1) = true := decide_eq_true c4
   clear c4
   replace H := Option.bind_eq_some_iff.mp H
   obtain ⟨t290, A50, H⟩ := H
   have A5 := Aside0.mk A50
   clear A50
   by_cases c6 : 0 ≤ t290
   ·rw [if_pos c6] at H
    have c6b0 := eq_true c6
    have c6b1 : decide (0 ≤ t290) = true := decide_eq_true c6
    clear c6
    obtain ⟨ji7, hji7⟩ : ∃ j_ : Int, (shr .i64 a0_1 t290) = j_ := ⟨_, rfl⟩
    replace H : (some ((ji7) == 0)) = some r := by first | (rw [hji7] at H; exact H) | (simp only [hji7] at H ⊢; exact H)
    (try rw [hji7] at A2)
    (try rw [hji7] at A5)
    have hji7_ : (a0_1 / 2 ^ min t290.toNat 64) = ji7 := hji7
    have hji7z : t290 ≤ 64 → (a0_1 / 2 ^ t290.toNat) = ji7 := shr_small hji7
    obtain rfl := Option.some.inj H
    go_enter Try.func34, Try.ntmps34
    try go_wp2_with (first | ((with_reducible refine gate_dst (N := 1) rfl ?_); refine bx_ 1 #[.int .i64 a0_0, .int .i64 a0_1] 25 ?_; intro gb288 hg w8 hbox hb; have BK288 := Aside0.mk (hbox); have GW288 := gw_ hg (below_size (bv_ HB)); have GE288 := GW288; replace HB := Aside0.mk (below_step (bv_ HB) hb); clear hb hbox hg))
    replace BK288 := Aside0.mk (blk_drew BK288.out)
    replace HB := Aside0.mk (below_drew1 HB.out)
    refine start_ (n := 17) (S := fun w' => w'.cell? ⟨gb288, 0, none⟩ = some (.int .i64 a0_0) ∧ w'.cell? ⟨gb288, 1, none⟩ = some (.int .i64 a0_1)) (ds := []) (bs 17 0) (by kernel_rfl) rfl (by kernel_rfl) ⟨(blk_cell BK288.out 0).trans rfl, (blk_cell BK288.out 1).trans rfl⟩ (fun hHeld => ?_); refine with_tabW impl_IsTable.tab1 impl_IsTable.bits1 (fun HT_ HW_ => ?_)
    generalize w8.drew = w9 at BK288 HB hHeld ⊢
    refine pu_ HT_ 0 3 (bs 17 1) ?_
    refine ta2_ HT_ HW_ 1 4 (bs 17 3) hHeld ?_
    refine on_ HT_ 2 5 (bs 17 7) (fun K hK => ?_)
    refine goes_ Try.func62 (by kernel_rfl) rfl #[.int .i64 a0_0] (by rfl) rfl rfl mp_ ?_
    with_reducible refine (impl_isBits.calls a0_0 true _ A2.out).mono ?_
    rintro e w' ⟨rfl, ⟨nd, rfl⟩⟩
    refine ⟨_, rfl, ?_⟩
    refine hK.out _ _ ⟨(blk_cell BK288.out 0).trans rfl, (blk_cell BK288.out 1).trans rfl⟩ (fun hHeld => ?_)
    clear hK K
    refine no_ 5 ?_
    refine pu_ HT_ 3 6 (bs 17 15) ?_
    refine pu_ HT_ 4 7 (bs 17 31) ?_
    refine ta2_ HT_ HW_ 5 8 (bs 17 63) hHeld ?_
    refine pu_ HT_ 6 9 (bs 17 127) ?_
    refine pu_ HT_ 7 10 (bs 17 255) ?_
    refine pu_ HT_ 8 11 (bs 17 511) ?_
    refine pu_ HT_ 9 12 (bs 17 1023) ?_
    refine ta2_ HT_ HW_ 10 13 (bs 17 2047) hHeld ?_
    refine ta2_ HT_ HW_ 11 14 (bs 17 4095) hHeld ?_
    refine on_ HT_ 12 15 (bs 17 8191) (fun K hK => ?_)
    refine goes_ Try.func36 (by kernel_rfl) rfl #[.agg #[.int .i64 a0_0, .int .i64 a0_1]] (by rfl) rfl rfl mp_ ?_
    with_reducible refine (impl_Table_size.calls a0_0 a0_1 t290 _ A5.out).mono ?_
    rintro e w10 ⟨rfl, hb⟩
    refine ⟨_, rfl, ?_⟩
    replace BK288 := kb_ BK288 hb
    replace HB := Aside0.mk (below_step (bv1_ HB GE288) hb)
    (try clear hb)
    (try clear hb2)
    (try clear hk)
    (try clear hi)
    refine hK.out _ _ ⟨(blk_cell BK288.out 0).trans rfl, (blk_cell BK288.out 1).trans rfl⟩ (fun hHeld => ?_)
    clear hK K
    refine no_ 15 ?_
    refine pu_ HT_ 13 16 (bs 17 16383) ?_
    refine pu_ HT_ 14 17 (bs 17 32767) ?_
    refine pu_ HT_ 15 18 (bs 17 65535) ?_
    refine pu_ HT_ 16 2 (bs 17 131071) ?_
    refine done_ (done_of HT_.out (by kernel_rfl)) ?_
    try go_wp2
    go_ret
    exact ⟨by first | rfl | (simp [errW_none, errW_some] <;> rfl) | (simp only [← hji7]; first | rfl | (simp [errW_none, errW_some] <;> rfl)) | (simp [*, errW_none, errW_some] <;> rfl), bv1_ HB GE288⟩
   ·rw [if_neg c6] at H
    exact absurd H (by simp)
  ·rw [if_neg c4] at H
   have c4b0 : decide (0 ≤ a0_1) = false := decide_eq_false c4
   clear c4
   obtain rfl := Option.some.inj H
   go_enter Try.func34, Try.ntmps34
   try go_wp2_with (first | ((with_reducible refine gate_dst (N := 1) rfl ?_); refine bx_ 1 #[.int .i64 a0_0, .int .i64 a0_1] 25 ?_; intro gb288 hg w11 hbox hb; have BK288 := Aside0.mk (hbox); have GW288 := gw_ hg (below_size (bv_ HB)); have GE288 := GW288; replace HB := Aside0.mk (below_step (bv_ HB) hb); clear hb hbox hg))
   replace BK288 := Aside0.mk (blk_drew BK288.out)
   replace HB := Aside0.mk (below_drew1 HB.out)
   refine start_ (n := 17) (S := fun w' => w'.cell? ⟨gb288, 0, none⟩ = some (.int .i64 a0_0) ∧ w'.cell? ⟨gb288, 1, none⟩ = some (.int .i64 a0_1)) (ds := []) (bs 17 0) (by kernel_rfl) rfl (by kernel_rfl) ⟨(blk_cell BK288.out 0).trans rfl, (blk_cell BK288.out 1).trans rfl⟩ (fun hHeld => ?_); refine with_tabW impl_IsTable.tab1 impl_IsTable.bits1 (fun HT_ HW_ => ?_)
   generalize w11.drew = w12 at BK288 HB hHeld ⊢
   refine pu_ HT_ 0 3 (bs 17 1) ?_
   refine ta2_ HT_ HW_ 1 4 (bs 17 3) hHeld ?_
   refine on_ HT_ 2 5 (bs 17 7) (fun K hK => ?_)
   refine goes_ Try.func62 (by kernel_rfl) rfl #[.int .i64 a0_0] (by rfl) rfl rfl mp_ ?_
   with_reducible refine (impl_isBits.calls a0_0 true _ A2.out).mono ?_
   rintro e w' ⟨rfl, ⟨nd, rfl⟩⟩
   refine ⟨_, rfl, ?_⟩
   refine hK.out _ _ ⟨(blk_cell BK288.out 0).trans rfl, (blk_cell BK288.out 1).trans rfl⟩ (fun hHeld => ?_)
   clear hK K
   refine no_ 5 ?_
   refine pu_ HT_ 3 6 (bs 17 15) ?_
   refine pu_ HT_ 4 7 (bs 17 31) ?_
   refine ta2_ HT_ HW_ 5 8 (bs 17 63) hHeld ?_
   refine pu_ HT_ 6 9 (bs 17 127) ?_
   refine pu_ HT_ 7 10 (bs 17 255) ?_
   refine pu_ HT_ 8 11 (bs 17 511) ?_
   refine pure_ (i := 9) (N := some 12) (v := undef) (a' := ?_) (bs 17 1023) rfl rfl (any_of HT_.out (by kernel_rfl)) (fun _ _ _ h => h) (Or.inr ⟨by rfl, rfl⟩) ?_ ?_
   rotate_left
   ·simp only [Act.put, List.setIfInBounds_toArray, List.set_cons_zero, List.set_cons_succ, i64_w, i32_w]
    rfl
   refine pure_ (i := 10) (N := some 13) (v := undef) (a' := ?_) (bs 17 2047) rfl rfl (any_of HT_.out (by kernel_rfl)) (fun _ _ _ h => h) (Or.inr ⟨by rfl, rfl⟩) ?_ ?_
   rotate_left
   ·simp only [Act.put, List.setIfInBounds_toArray, List.set_cons_zero, List.set_cons_succ, i64_w, i32_w]
    rfl
   refine pure_ (i := 11) (N := some 14) (v := undef) (a' := ?_) (bs 17 4095) rfl rfl (any_of HT_.out (by kernel_rfl)) (fun _ _ _ h => h) (Or.inr ⟨by rfl, rfl⟩) ?_ ?_
   rotate_left
   ·simp only [Act.put, List.setIfInBounds_toArray, List.set_cons_zero, List.set_cons_succ, i64_w, i32_w]
    rfl
   refine pure_ (i := 12) (N := some 15) (v := undef) (a' := ?_) (bs 17 8191) rfl rfl (any_of HT_.out (by kernel_rfl)) (fun _ _ _ h => h) (Or.inr ⟨by rfl, rfl⟩) ?_ ?_
   rotate_left
   ·simp only [Act.put, List.setIfInBounds_toArray, List.set_cons_zero, List.set_cons_succ, i64_w, i32_w]
    rfl
   refine pure_ (i := 13) (N := some 16) (v := undef) (a' := ?_) (bs 17 16383) rfl rfl (any_of HT_.out (by kernel_rfl)) (fun _ _ _ h => h) (Or.inr ⟨by rfl, rfl⟩) ?_ ?_
   rotate_left
   ·simp only [Act.put, List.setIfInBounds_toArray, List.set_cons_zero, List.set_cons_succ, i64_w, i32_w]
    rfl
   refine pure_ (i := 14) (N := some 17) (v := undef) (a' := ?_) (bs 17 32767) rfl rfl (any_of HT_.out (by kernel_rfl)) (fun _ _ _ h => h) (Or.inr ⟨by rfl, rfl⟩) ?_ ?_
   rotate_left
   ·simp only [Act.put, List.setIfInBounds_toArray, List.set_cons_zero, List.set_cons_succ, i64_w, i32_w]
    rfl
   refine pu_ HT_ 15 18 (bs 17 65535) ?_
   refine pu_ HT_ 16 2 (bs 17 131071) ?_
   refine done_ (done_of HT_.out (by kernel_rfl)) ?_
   try go_wp2
   go_ret
   exact ⟨er_, bv1_ HB GE288⟩
 ·replace c3 := Bool.eq_false_iff.mpr c3
  subst c3
  rw [if_neg (show ¬ (false = true) by decide)] at H
  obtain rfl := Option.some.inj H
  go_enter Try.func34, Try.ntmps34
  try go_wp2_with (first | ((with_reducible refine gate_dst (N := 1) rfl ?_); refine bx_ 1 #[.int .i64 a0_0, .int .i64 a0_1] 25 ?_; intro gb288 hg w13 hbox hb; have BK288 := Aside0.mk (hbox); have GW288 := gw_ hg (below_size (bv_ HB)); have GE288 := GW288; replace HB := Aside0.mk (below_step (bv_ HB) hb); clear hb hbox hg))
  replace BK288 := Aside0.mk (blk_drew BK288.out)
  replace HB := Aside0.mk (below_drew1 HB.out)
  refine start_ (n := 17) (S := fun w' => w'.cell? ⟨gb288, 0, none⟩ = some (.int .i64 a0_0) ∧ w'.cell? ⟨gb288, 1, none⟩ = some (.int .i64 a0_1)) (ds := []) (bs 17 0) (by kernel_rfl) rfl (by kernel_rfl) ⟨(blk_cell BK288.out 0).trans rfl, (blk_cell BK288.out 1).trans rfl⟩ (fun hHeld => ?_); refine with_tabW impl_IsTable.tab1 impl_IsTable.bits1 (fun HT_ HW_ => ?_)
  generalize w13.drew = w14 at BK288 HB hHeld ⊢
  refine pu_ HT_ 0 3 (bs 17 1) ?_
  refine ta2_ HT_ HW_ 1 4 (bs 17 3) hHeld ?_
  refine on_ HT_ 2 5 (bs 17 7) (fun K hK => ?_)
  refine goes_ Try.func62 (by kernel_rfl) rfl #[.int .i64 a0_0] (by rfl) rfl rfl mp_ ?_
  with_reducible refine (impl_isBits.calls a0_0 false _ A2.out).mono ?_
  rintro e w' ⟨rfl, ⟨nd, rfl⟩⟩
  refine ⟨_, rfl, ?_⟩
  refine hK.out _ _ ⟨(blk_cell BK288.out 0).trans rfl, (blk_cell BK288.out 1).trans rfl⟩ (fun hHeld => ?_)
  clear hK K
  refine no_ 5 ?_
  refine pu_ HT_ 3 6 (bs 17 15) ?_
  refine pure_ (i := 4) (N := some 7) (v := undef) (a' := ?_) (bs 17 31) rfl rfl (any_of HT_.out (by kernel_rfl)) (fun _ _ _ h => h) (Or.inr ⟨by rfl, rfl⟩) ?_ ?_
  rotate_left
  ·simp only [Act.put, List.setIfInBounds_toArray, List.set_cons_zero, List.set_cons_succ, i64_w, i32_w]
   rfl
  refine pure_ (i := 5) (N := some 8) (v := undef) (a' := ?_) (bs 17 63) rfl rfl (any_of HT_.out (by kernel_rfl)) (fun _ _ _ h => h) (Or.inr ⟨by rfl, rfl⟩) ?_ ?_
  rotate_left
  ·simp only [Act.put, List.setIfInBounds_toArray, List.set_cons_zero, List.set_cons_succ, i64_w, i32_w]
   rfl
  refine pure_ (i := 6) (N := some 9) (v := undef) (a' := ?_) (bs 17 127) rfl rfl (any_of HT_.out (by kernel_rfl)) (fun _ _ _ h => h) (Or.inr ⟨by rfl, rfl⟩) ?_ ?_
  rotate_left
  ·simp only [Act.put, List.setIfInBounds_toArray, List.set_cons_zero, List.set_cons_succ, i64_w, i32_w]
   rfl
  refine pu_ HT_ 7 10 (bs 17 255) ?_
  refine pu_ HT_ 8 11 (bs 17 511) ?_
  refine pure_ (i := 9) (N := some 12) (v := undef) (a' := ?_) (bs 17 1023) rfl rfl (any_of HT_.out (by kernel_rfl)) (fun _ _ _ h => h) (Or.inr ⟨by rfl, rfl⟩) ?_ ?_
  rotate_left
  ·simp only [Act.put, List.setIfInBounds_toArray, List.set_cons_zero, List.set_cons_succ, i64_w, i32_w]
   rfl
  refine pure_ (i := 10) (N := some 13) (v := undef) (a' := ?_) (bs 17 2047) rfl rfl (any_of HT_.out (by kernel_rfl)) (fun _ _ _ h => h) (Or.inr ⟨by rfl, rfl⟩) ?_ ?_
  rotate_left
  ·simp only [Act.put, List.setIfInBounds_toArray, List.set_cons_zero, List.set_cons_succ, i64_w, i32_w]
   rfl
  refine pure_ (i := 11) (N := some 14) (v := undef) (a' := ?_) (bs 17 4095) rfl rfl (any_of HT_.out (by kernel_rfl)) (fun _ _ _ h => h) (Or.inr ⟨by rfl, rfl⟩) ?_ ?_
  rotate_left
  ·simp only [Act.put, List.setIfInBounds_toArray, List.set_cons_zero, List.set_cons_succ, i64_w, i32_w]
   rfl
  refine pure_ (i := 12) (N := some 15) (v := undef) (a' := ?_) (bs 17 8191) rfl rfl (any_of HT_.out (by kernel_rfl)) (fun _ _ _ h => h) (Or.inr ⟨by rfl, rfl⟩) ?_ ?_
  rotate_left
  ·simp only [Act.put, List.setIfInBounds_toArray, List.set_cons_zero, List.set_cons_succ, i64_w, i32_w]
   rfl
  refine pure_ (i := 13) (N := some 16) (v := undef) (a' := ?_) (bs 17 16383) rfl rfl (any_of HT_.out (by kernel_rfl)) (fun _ _ _ h => h) (Or.inr ⟨by rfl, rfl⟩) ?_ ?_
  rotate_left
  ·simp only [Act.put, List.setIfInBounds_toArray, List.set_cons_zero, List.set_cons_succ, i64_w, i32_w]
   rfl
  refine pure_ (i := 14) (N := some 17) (v := undef) (a' := ?_) (bs 17 32767) rfl rfl (any_of HT_.out (by kernel_rfl)) (fun _ _ _ h => h) (Or.inr ⟨by rfl, rfl⟩) ?_ ?_
  rotate_left
  ·simp only [Act.put, List.setIfInBounds_toArray, List.set_cons_zero, List.set_cons_succ, i64_w, i32_w]
   rfl
  refine pu_ HT_ 15 18 (bs 17 65535) ?_
  refine pu_ HT_ 16 2 (bs 17 131071) ?_
  refine done_ (done_of HT_.out (by kernel_rfl)) ?_
  try go_wp2
  go_ret
  exact ⟨er_, bv1_ HB GE288⟩


/-! ### impl_isSmall: function 41 -/
def impl_isSmall.f (a0_0 : Int) (a0_1 : Int) (a1 : Int) : Option (Bool) := (impl_IsTable.f a0_0 a0_1).bind fun t292 => (if t292 = true then (some (decide (a0_0 ≤ a1))) else (some false))
set_option maxHeartbeats 8000000 in
set_option maxRecDepth 100000 in
theorem impl_isSmall.calls (a0_0 : Int) (a0_1 : Int) (a1 : Int) (r : Bool) (w : World) (h : impl_isSmall.f a0_0 a0_1 a1 = some r) :
  Calls Try.prog 41 #[.agg #[.int .i64 a0_0, .int .i64 a0_1], .int .i64 a1] w fun e w' => e = .returned (.bool r) ∧ Below w.heap.size w w' := by
 have hu25 := Try.underlying25
 have HB := Aside0.mk (Below.refl w.heap.size w)
 have H : ((impl_IsTable.f a0_0 a0_1).bind fun t292 => (if t292 = true then (some (decide (a0_0 ≤ a1))) else (some false))) = some r := h
 clear h
 replace H := Option.bind_eq_some_iff.mp H
 obtain ⟨t292, A30, H⟩ := H
 have A3 := Aside0.mk A30
 clear A30
 by_cases c4 : t292 = true
 ·subst c4
  rw [if_pos rfl] at H
  obtain rfl := Option.some.inj H
  go_enter Try.func41, Try.ntmps41
  go_wp2_with (first | ((with_reducible refine gate_dst (N := 2) rfl ?_); refine bx_ 2 #[.int .i64 a0_0, .int .i64 a0_1] 25 ?_; intro gb291 hg w5 hbox hb; have BK291 := Aside0.mk (hbox); have GW291 := gw_ hg (below_size (bv_ HB)); have GE291 := GW291; replace HB := Aside0.mk (below_step (bv_ HB) hb); clear hb hbox hg; obtain ⟨hcz6_0, hcz6_1, hfz6_0, hfz6_1⟩ := c2_ BK291) | ((with_reducible refine gate_callee (f := 34) rfl ?_); refine gl_ 6 Try.func34 #[.agg #[.int .i64 a0_0, .int .i64 a0_1]] rfl mp_ ?_; (with_reducible refine (impl_IsTable.calls a0_0 a0_1 true _ A3.out).mono ?_); rintro e w7 ⟨rfl, hb⟩; refine ⟨_, rfl, ?_⟩; replace BK291 := kb_ BK291 hb; replace HB := Aside0.mk (below_step (bv1_ HB GE291) hb); (try clear hb); (try clear hb2); (try clear hk); (try clear hi); obtain ⟨hcz8_0, hcz8_1, hfz8_0, hfz8_1⟩ := c2_ BK291))
  go_ret
  exact ⟨er_, bv1_ HB GE291⟩
 ·replace c4 := Bool.eq_false_iff.mpr c4
  subst c4
  rw [if_neg (show ¬ (false = true) by decide)] at H
  obtain rfl := Option.some.inj H
  go_enter Try.func41, Try.ntmps41
  go_wp2_with (first | ((with_reducible refine gate_dst (N := 2) rfl ?_); refine bx_ 2 #[.int .i64 a0_0, .int .i64 a0_1] 25 ?_; intro gb291 hg w9 hbox hb; have BK291 := Aside0.mk (hbox); have GW291 := gw_ hg (below_size (bv_ HB)); have GE291 := GW291; replace HB := Aside0.mk (below_step (bv_ HB) hb); clear hb hbox hg; obtain ⟨hcz10_0, hcz10_1, hfz10_0, hfz10_1⟩ := c2_ BK291) | ((with_reducible refine gate_callee (f := 34) rfl ?_); refine gl_ 6 Try.func34 #[.agg #[.int .i64 a0_0, .int .i64 a0_1]] rfl mp_ ?_; (with_reducible refine (impl_IsTable.calls a0_0 a0_1 false _ A3.out).mono ?_); rintro e w11 ⟨rfl, hb⟩; refine ⟨_, rfl, ?_⟩; replace BK291 := kb_ BK291 hb; replace HB := Aside0.mk (below_step (bv1_ HB GE291) hb); (try clear hb); (try clear hb2); (try clear hk); (try clear hi)))
  go_ret
  exact ⟨er_, bv1_ HB GE291⟩


/-! ### impl_permutations: function 47 -/
/-! The lists of the numbers below n, each once, in lexicographic order; a closure that calls itself fills them into captured slices. -/
def impl_permutations.ext (n : Nat) : Nat → List Int → List (List Int)
  | 0, l => [l]
  | d + 1, l => (List.range n).flatMap fun i : Nat => if (i : Int) ∈ l then [] else impl_permutations.ext n d (l ++ [(i : Int)])
def impl_permutations.part (n d : Nat) (l : List Int) (i : Nat) : List (List Int) := (List.range i).flatMap fun i : Nat => if (i : Int) ∈ l then [] else impl_permutations.ext n d (l ++ [(i : Int)])
theorem impl_permutations.part_succ (n d : Nat) (l : List Int) (i : Nat) : impl_permutations.part n d l (i + 1) = impl_permutations.part n d l i ++ (if (i : Int) ∈ l then [] else impl_permutations.ext n d (l ++ [(i : Int)])) := by
  unfold impl_permutations.part
  rw [List.range_succ, List.flatMap_append]
  simp
theorem impl_permutations.part_le (n d : Nat) (l : List Int) {i j : Nat} (h : i ≤ j) : (impl_permutations.part n d l i).length ≤ (impl_permutations.part n d l j).length := by
  obtain ⟨k, rfl⟩ : ∃ k, j = i + k := ⟨j - i, by omega⟩
  clear h
  induction k with
  | zero => exact Nat.le_refl _
  | succ k ih =>
    rw [show i + (k + 1) = (i + k) + 1 by omega, impl_permutations.part_succ, List.length_append]
    omega
def impl_permutations.us (n : Nat) (l : List Int) : List Bool := (List.range n).map fun i : Nat => decide ((i : Int) ∈ l)
theorem impl_permutations.us_len (n : Nat) (l : List Int) : (impl_permutations.us n l).length = n := by simp [impl_permutations.us]
theorem impl_permutations.us_at {n : Nat} (l : List Int) {i : Nat} (h : i < n) : (impl_permutations.us n l)[i]? = some (decide ((i : Int) ∈ l)) := by
  simp [impl_permutations.us, h]
theorem impl_permutations.us_set {n : Nat} (l l' : List Int) {i : Nat} (b : Bool) (hb : decide ((i : Int) ∈ l') = b) (hl : ∀ k : Nat, k ≠ i → ((k : Int) ∈ l' ↔ (k : Int) ∈ l)) : (impl_permutations.us n l).set i b = impl_permutations.us n l' := by
  apply List.ext_getElem?
  intro k
  rw [List.getElem?_set]
  simp only [impl_permutations.us, List.length_map, List.length_range, List.getElem?_map]
  by_cases hk : i = k
  · subst hk
    by_cases hn : i < n
    · simp [hn, hb]
    · simp [hn]
  · rw [if_neg hk]
    by_cases hn : k < n
    · simp [hn, hl k (fun e => hk e.symm)]
    · simp [hn]
def impl_permutations.cs (u : List Bool) : Array Value := (u.map fun b => Value.bool b).toArray
theorem impl_permutations.cs_at {u : List Bool} {i : Nat} {b : Bool} (h : u[i]? = some b) : (impl_permutations.cs u)[i]? = some (.bool b) := by
  simp [impl_permutations.cs, h]
theorem impl_permutations.cs_set (u : List Bool) (i : Nat) (b : Bool) : (impl_permutations.cs u).setIfInBounds i (.bool b) = impl_permutations.cs (u.set i b) := by
  simp [impl_permutations.cs, List.map_set]
/-- Six blocks that are no two the same, and none of them lies below z. -/
structure impl_permutations.Six (z bl bn bo bu bg gu : Nat) : Prop where
  z : z ≤ bl ∧ z ≤ bn ∧ z ≤ bo ∧ z ≤ bu ∧ z ≤ bg ∧ z ≤ gu
  n1 : bl ≠ bn ∧ bl ≠ bo ∧ bl ≠ bu ∧ bl ≠ bg ∧ bl ≠ gu
  n2 : bn ≠ bl ∧ bn ≠ bo ∧ bn ≠ bu ∧ bn ≠ bg ∧ bn ≠ gu
  n3 : bo ≠ bl ∧ bo ≠ bn ∧ bo ≠ bu ∧ bo ≠ bg ∧ bo ≠ gu
  n4 : bu ≠ bl ∧ bu ≠ bn ∧ bu ≠ bo ∧ bu ≠ bg ∧ bu ≠ gu
  n5 : bg ≠ bl ∧ bg ≠ bn ∧ bg ≠ bo ∧ bg ≠ bu ∧ bg ≠ gu
  n6 : gu ≠ bl ∧ gu ≠ bn ∧ gu ≠ bo ∧ gu ≠ bu ∧ gu ≠ bg
def impl_permutations.ok (bl bn bo bu bg gu k : Nat) : Prop := k ≠ bl ∧ k ≠ bn ∧ k ≠ bo ∧ k ≠ bu ∧ k ≠ bg ∧ k ≠ gu
structure impl_permutations.S (n z bl bn bo bu bg gu : Nat) (vl vo : Value) (l : List Int) (u : List Bool) (o : List (List Int)) (w : World) : Prop where
  hl : w.heap[bl]? = some (.cells #[vl] 38 (0, 0))
  hn : w.heap[bn]? = some (.cells #[.int .i64 (n : Int)] 3 (0, 0))
  ho : w.heap[bo]? = some (.cells #[vo] 34 (0, 0))
  hu : w.heap[bu]? = some (.cells #[.slice (some ⟨gu, 0, none⟩) n n] 90 (0, 0))
  hg : w.heap[bg]? = some (.cells #[.func (.func 73) #[] #[.pointer (some ⟨bl, 0, none⟩), .pointer (some ⟨bn, 0, none⟩), .pointer (some ⟨bo, 0, none⟩), .pointer (some ⟨bu, 0, none⟩), .pointer (some ⟨bg, 0, none⟩)]] 1 (0, 0))
  hc : w.heap[gu]? = some (.cells (impl_permutations.cs u) 4 (0, 0))
  L : Kd.R (Kd.int .i64) 3 w z (impl_permutations.ok bl bn bo bu bg gu) vl l
  O : Kd.R (Kd.slice 3 (Kd.int .i64)) 38 w z (fun k => impl_permutations.ok bl bn bo bu bg gu k ∧ some k ≠ vl.ownBlock) vo o
section
variable {n z bl bn bo bu bg gu : Nat} {vl vo : Value} {l : List Int} {u : List Bool} {o : List (List Int)} {w w' : World}
theorem impl_permutations.S.below (h : impl_permutations.S n z bl bn bo bu bg gu vl vo l u o w) (hb : Below w.heap.size w w') : impl_permutations.S n z bl bn bo bu bg gu vl vo l u o w' :=
  ⟨blk_below h.hl hb, blk_below h.hn hb, blk_below h.ho hb, blk_below h.hu hb, blk_below h.hg hb, blk_below h.hc hb, Kd.R_below h.L hb, Kd.R_below h.O hb⟩
/-- used[i] = b. -/
theorem impl_permutations.S.mark (h : impl_permutations.S n z bl bn bo bu bg gu vl vo l u o w) (s : impl_permutations.Six z bl bn bo bu bg gu) (i : Nat) (b : Bool) : impl_permutations.S n z bl bn bo bu bg gu vl vo l (u.set i b) o (w.setCell ⟨gu, i, none⟩ (.bool b)) :=
  ⟨blk_far h.hl s.n1.2.2.2.2 _, blk_far h.hn s.n2.2.2.2.2 _, blk_far h.ho s.n3.2.2.2.2 _, blk_far h.hu s.n4.2.2.2.2 _, blk_far h.hg s.n5.2.2.2.2 _, blk_put h.hc i _ (impl_permutations.cs_set u i b), Kd.R_far h.L (fun k hk => hk.2.2.2.2.2) _, Kd.R_far h.O (fun k hk => hk.1.2.2.2.2.2) _⟩
theorem impl_permutations.S.fresh (h : impl_permutations.S n z bl bn bo bu bg gu vl vo l u o w) (k : Nat) (hk : w.heap.size ≤ k) : impl_permutations.ok bl bn bo bu bg gu k := by
  have h1 := blk_lt h.hl
  have h2 := blk_lt h.hn
  have h3 := blk_lt h.ho
  have h4 := blk_lt h.hu
  have h5 := blk_lt h.hg
  have h6 := blk_lt h.hc
  exact ⟨by omega, by omega, by omega, by omega, by omega, by omega⟩
theorem impl_permutations.S.own (h : impl_permutations.S n z bl bn bo bu bg gu vl vo l u o w) : (∀ k, impl_permutations.ok bl bn bo bu bg gu k → False) → vl.ownBlock = none := by
  intro hk
  cases e : vl.ownBlock with
  | none => rfl
  | some k => exact (hk k (h.L.1 k e)).elim
theorem impl_permutations.S.box (h : impl_permutations.S n z bl bn bo bu bg gu vl vo l u o w) : some bl ≠ vl.ownBlock ∧ some bn ≠ vl.ownBlock ∧ some bo ≠ vl.ownBlock ∧ some bu ≠ vl.ownBlock ∧ some bg ≠ vl.ownBlock ∧ some gu ≠ vl.ownBlock :=
  ⟨fun e => (h.L.1 _ e.symm).1 rfl, fun e => (h.L.1 _ e.symm).2.1 rfl, fun e => (h.L.1 _ e.symm).2.2.1 rfl, fun e => (h.L.1 _ e.symm).2.2.2.1 rfl, fun e => (h.L.1 _ e.symm).2.2.2.2.1 rfl, fun e => (h.L.1 _ e.symm).2.2.2.2.2 rfl⟩
/-- list = append(list, x), behind the append: the box of list holds the old slice still. -/
theorem impl_permutations.S.push (h : impl_permutations.S n z bl bn bo bu bg gu vl vo l u o w) (s : impl_permutations.Six z bl bn bo bu bg gu) {v1 : Value} {l1 : List Int} (hR : Kd.R (Kd.int .i64) 3 w' z (impl_permutations.ok bl bn bo bu bg gu) v1 l1) (hg : w.grownBy w' vl.ownBlock) (hat : v1.ownBlock = vl.ownBlock ∨ ∃ b, v1.ownBlock = some b ∧ w.heap.size ≤ b) :
    impl_permutations.S n z bl bn bo bu bg gu v1 vo l1 u o (w'.setCell ⟨bl, 0, none⟩ v1) := by
  obtain ⟨x1, x2, x3, x4, x5, x6⟩ := h.box
  have hO : Kd.R (Kd.slice 3 (Kd.int .i64)) 38 w' z (fun k => impl_permutations.ok bl bn bo bu bg gu k ∧ some k ≠ v1.ownBlock) vo o := by
    refine Kd.R_mono (Kd.R_grown (Kd.R_bound h.O) hg (fun k hk => hk.1.2)) (fun k hk => ⟨hk.1.1, fun e => ?_⟩)
    rcases hat with hat | ⟨b, hb, hle⟩
    · exact hk.1.2 (e.trans hat)
    · rw [hb] at e
      injection e with e
      have := hk.2.2.1
      omega
  exact ⟨blk_put (blk_grown h.hl hg x1) 0 _ rfl, blk_far (blk_grown h.hn hg x2) s.n2.1 _, blk_far (blk_grown h.ho hg x3) s.n3.1 _, blk_far (blk_grown h.hu hg x4) s.n4.1 _, blk_far (blk_grown h.hg hg x5) s.n5.1 _, blk_far (blk_grown h.hc hg x6) s.n6.1 _, Kd.R_far hR (fun k hk => hk.1) _, Kd.R_far hO (fun k hk => hk.1.1) _⟩
/-- list = list[:m]. -/
theorem impl_permutations.S.pop {A : Option Addr} {nl c : Nat} (h : impl_permutations.S n z bl bn bo bu bg gu (.slice A nl c) vo l u o w) (s : impl_permutations.Six z bl bn bo bu bg gu) (m : Nat) (hm : m ≤ l.length) :
    impl_permutations.S n z bl bn bo bu bg gu (.slice A m c) vo (l.take m) u o (w.setCell ⟨bl, 0, none⟩ (.slice A m c)) := by
  have hb : (Value.slice A m c).ownBlock = (Value.slice A nl c).ownBlock := by cases A <;> rfl
  exact ⟨blk_put h.hl 0 _ rfl, blk_far h.hn s.n2.1 _, blk_far h.ho s.n3.1 _, blk_far h.hu s.n4.1 _, blk_far h.hg s.n5.1 _, blk_far h.hc s.n6.1 _, Kd.R_far (Kd.R_take h.L hm) (fun k hk => hk.1) _, by rw [hb]; exact Kd.R_far h.O (fun k hk => hk.1.1) _⟩
/-- out = append(out, ..), behind the append: out's box holds the old slice still. -/
theorem impl_permutations.S.put (h : impl_permutations.S n z bl bn bo bu bg gu vl vo l u o w) (s : impl_permutations.Six z bl bn bo bu bg gu) {v1 : Value} {o1 : List (List Int)} (hR : Kd.R (Kd.slice 3 (Kd.int .i64)) 38 w' z (fun k => impl_permutations.ok bl bn bo bu bg gu k ∧ some k ≠ vl.ownBlock) v1 o1) (hg : w.grownBy w' vo.ownBlock) :
    impl_permutations.S n z bl bn bo bu bg gu vl v1 l u o1 (w'.setCell ⟨bo, 0, none⟩ v1) := by
  have hx : ∀ k, some k = vo.ownBlock → impl_permutations.ok bl bn bo bu bg gu k ∧ some k ≠ vl.ownBlock := fun k e => h.O.1 k e.symm
  refine ⟨blk_far (blk_grown h.hl hg fun e => (hx _ e).1.1 rfl) s.n1.2.1 _, blk_far (blk_grown h.hn hg fun e => (hx _ e).1.2.1 rfl) s.n2.2.1 _, blk_put (blk_grown h.ho hg fun e => (hx _ e).1.2.2.1 rfl) 0 _ rfl, blk_far (blk_grown h.hu hg fun e => (hx _ e).1.2.2.2.1 rfl) s.n4.2.2.1 _, blk_far (blk_grown h.hg hg fun e => (hx _ e).1.2.2.2.2.1 rfl) s.n5.2.2.1 _, blk_far (blk_grown h.hc hg fun e => (hx _ e).1.2.2.2.2.2 rfl) s.n6.2.2.1 _, Kd.R_mono (Kd.R_far (Kd.R_grown (Kd.R_tight rfl h.L) hg (fun k hk e => (hx k e).2 hk)) (fun k hk => ?_) _) (fun k hk => h.L.1 k hk.symm), Kd.R_far hR (fun k hk => hk.1.2.2.1) _⟩
  exact (h.L.1 k hk.symm).2.2.1
end
theorem impl_permutations.cut (A : Option Addr) (c m nl : Nat) (hm : m ≤ nl) (hc : nl ≤ c) (W : World) : (Instr.slice 38 (.slice A nl c) none (some (.int .i64 (m : Int))) none).run Try.prog W = .ok (.slice A m c) W := by
  obtain ⟨i0, hi, hz0, hz1, hz2⟩ := info_parts info3
  have h := (print_take_int (k := .i64) (P := Try.prog) 38 3 Try.underlying38 hi hz1 A c (List.replicate nl 0) (m : Int) (Int.natCast_nonneg _) (by simp; omega) (by simp; omega)).1 W
  simpa [Nat.min_eq_left hm] using h
theorem impl_permutations.S.zle {n z bl bn bo bu bg gu : Nat} {vl vo : Value} {l : List Int} {u : List Bool} {o : List (List Int)} {w : World} (h : impl_permutations.S n z bl bn bo bu bg gu vl vo l u o w) (s : impl_permutations.Six z bl bn bo bu bg gu) : z ≤ w.heap.size := Nat.le_trans s.z.1 (Nat.le_of_lt (blk_lt h.hl))
theorem impl_permutations.S.Llt {n z bl bn bo bu bg gu : Nat} {vl vo : Value} {l : List Int} {u : List Bool} {o : List (List Int)} {w : World} (h : impl_permutations.S n z bl bn bo bu bg gu vl vo l u o w) (k : Nat) (hk : vl.ownBlock = some k) : k < w.heap.size := Kd.R_lt h.L k hk
theorem impl_permutations.S.Olt {n z bl bn bo bu bg gu : Nat} {vl vo : Value} {l : List Int} {u : List Bool} {o : List (List Int)} {w : World} (h : impl_permutations.S n z bl bn bo bu bg gu vl vo l u o w) (k : Nat) (hk : vo.ownBlock = some k) : k < w.heap.size := Kd.R_lt h.O k hk
def impl_permutations.T1 : Bool × List (List Nat × List Nat) := (true, [([], []), ([], []), ([], []), ([1, 2], [1, 2]), ([3], [3]), ([0, 4, 3], [0, 4]), ([5, 5, 0, 1, 2, 3, 4, 5], [5])])
def impl_permutations.B1 : List Nat := [0, 0, 0, 6, 14, 31, 63]
theorem impl_permutations.tab1 : rtab .any (opsOf Try.f73 1) = impl_permutations.T1 := by kernel_rfl
theorem impl_permutations.bits1 : waitsOk impl_permutations.T1.2 impl_permutations.B1 = true := by kernel_rfl
set_option maxHeartbeats 4000000 in
set_option maxRecDepth 100000 in
theorem impl_permutations.in_calls (n z bl bn bo bu bg gu : Nat) (hn4 : n ≤ 4) (six : impl_permutations.Six z bl bn bo bu bg gu) : ∀ (d : Nat) (l : List Int) (o : List (List Int)) (vl vo : Value) (w : World), l.length + d = n → (o ++ impl_permutations.ext n d l).length ≤ 1000 → impl_permutations.S n z bl bn bo bu bg gu vl vo l (impl_permutations.us n l) o w →
    Calls Try.prog 73 #[.pointer (some ⟨bl, 0, none⟩), .pointer (some ⟨bn, 0, none⟩), .pointer (some ⟨bo, 0, none⟩), .pointer (some ⟨bu, 0, none⟩), .pointer (some ⟨bg, 0, none⟩)] w fun e w' => e = .returned (.tuple #[]) ∧ Below z w w' ∧ ∃ vl' vo', impl_permutations.S n z bl bn bo bu bg gu vl' vo' l (impl_permutations.us n l) (o ++ impl_permutations.ext n d l) w' := by
  have hu38 := Try.underlying38
  have SX := Aside0.mk six
  obtain ⟨-, ⟨n12, n13, n14, n15, n16⟩, ⟨n21, n23, n24, n25, n26⟩, ⟨n31, n32, n34, n35, n36⟩, ⟨n41, n42, n43, n45, n46⟩, ⟨n51, n52, n53, n54, n56⟩, ⟨n61, n62, n63, n64, n65⟩⟩ := six
  intro d
  induction d with
  | zero =>
    intro l o vl vo w hd ho hs
    have HS := Aside0.mk hs
    obtain ⟨Al, cl, rfl⟩ := Kd.R_slice hs.L
    have q_l := (blk_cell hs.hl 0).trans rfl
    have q_n := (blk_cell hs.hn 0).trans rfl
    have q_o := (blk_cell hs.ho 0).trans rfl
    have q_u := (blk_cell hs.hu 0).trans rfl
    have q_g := (blk_cell hs.hg 0).trans rfl
    have f_o := blk_frozen hs.ho 0
    have hln : ((l.length : Int) == (n : Int)) = true := beq_iff_eq.mpr (by omega)
    clear hs
    go_enter Try.func73, Try.ntmps73
    go_wp2_with fail
    obtain ⟨Ao, co, rfl⟩ := Kd.R_slice HS.out.O
    refine start_ (n := 7) (S := fun w' => True) (ds := []) #[false, false, false, false, false, false, false] (by kernel_rfl) rfl rfl trivial (fun hHeld => ?_); refine with_tabW impl_permutations.tab1 impl_permutations.bits1 (fun HT_ HW_ => ?_)
    have HSz := Aside0.mk (HS.out.below (below_drew1 (Below.refl w.heap.size w)))
    have hzz := HS.out.zle SX.out
    have HBz := Aside0.mk (Below.mono (below_drew1 (Below.refl w.heap.size w)) hzz)
    have hz2 : z ≤ w.drew.heap.size := hzz
    have HL0 := Aside0.mk hd
    have HLO := Aside0.mk ho
    clear q_l q_n q_o q_u q_g f_o HS hHeld hln hzz
    generalize w.drew = wz at HSz HBz hz2 ⊢
    refine inv_at [0, 1, 2, 3, 4, 5, 6] (fun a0_ b a w' => ∃ (v1 v3 v5 : Value) (h : Nat), a = putSel a0_ b [(0, 10, .slice Ao o.length co), (1, 11, v1), (2, 12, .slice Al l.length cl), (3, 13, v3), (4, 14, .slice (some ⟨h, 0, none⟩) 1 1), (5, 15, v5)] ∧ (b 5 = false → Below wz.heap.size wz w') ∧ Below z wz w' ∧ (b 1 = true → b 3 = false → Kd.R (Kd.int .i64) 3 w' wz.heap.size (fun _ => True) v1 []) ∧ (b 3 = true → b 5 = false → Kd.R (Kd.int .i64) 3 w' wz.heap.size (fun _ => True) v3 l) ∧ (b 4 = true → b 5 = false → w'.heap[h]? = some (.cells #[v3] 38 (0, 0))) ∧ (b 5 = true → b 6 = false → ∃ (W : World) (A5 : Option Addr) (c5 : Nat), v5 = .slice A5 (o ++ [l]).length c5 ∧ Below wz.heap.size wz W ∧ W.grownBy w' (.slice Ao o.length co : Value).ownBlock ∧ Kd.R (Kd.slice 3 (Kd.int .i64)) 38 w' z (fun k => impl_permutations.ok bl bn bo bu bg gu k ∧ some k ≠ (Value.slice Al l.length cl).ownBlock) v5 (o ++ [l])) ∧ (b 6 = true → ∃ v5, impl_permutations.S n z bl bn bo bu bg gu (.slice Al l.length cl) (v5) l (impl_permutations.us n l) (o ++ [l]) w')) HT_.out HW_.out (by kernel_rfl) (by kernel_rfl) ?_ ?_ ?_
    · exact ⟨.bool false, .bool false, .bool false, 0, by simp only [putSel, Bool.false_eq_true, if_false], fun _ => Below.refl _ _, Below.refl _ _, fun h_ => absurd h_ (by decide), fun h_ => absurd h_ (by decide), fun h_ => absurd h_ (by decide), fun h_ => absurd h_ (by decide), fun h_ => absurd h_ (by decide)⟩
    · skip
      refine steps_cons ?_ ?_
      · rintro b a w' ⟨v1, v3, v5, h, ha, QB, QZ, Q1, Q3, QH, Q5, Q6⟩ hb_ hon hoff
        refine ⟨_, rfl, fun K_ hK => ?_⟩
        have e2 : a.tmps[2]? = some (.pointer (some ⟨bo, 0, none⟩)) := by rw [ha]; exact (putSel_off rfl).trans rfl
        replace ha := Aside0.mk ha
        have qb := QB (hoff 5 (by kernel_rfl))
        have hsw := HSz.out.below qb
        have k0 : w'.cell? ⟨bo, 0, none⟩ = some (.slice Ao o.length co) := (blk_cell hsw.ho 0).trans rfl
        refine value_ (w1 := w') (v := .slice Ao o.length co) (by rfl) rfl ?_ ?_
        · go_simp
          try rfl
        refine hK.out _ _ ⟨v1, v3, v5, h, (by rw [ha.out]; exact putSel_upk 0 hb_ rfl rfl rfl), QB, QZ, Q1, Q3, QH, fun h_ => absurd ((hoff 5 (by kernel_rfl)).symm.trans h_) (by decide), fun h_ => absurd ((hoff 6 (by kernel_rfl)).symm.trans h_) (by decide)⟩
      refine steps_cons ?_ ?_
      · rintro b a w' ⟨v1, v3, v5, h, ha, QB, QZ, Q1, Q3, QH, Q5, Q6⟩ hb_ hon hoff
        refine ⟨_, rfl, fun K_ hK => ?_⟩
        replace ha := Aside0.mk ha
        have qb := QB (hoff 5 (by kernel_rfl))
        have hsw := HSz.out.below qb
        refine Kd.R_lit_step (Kd.int .i64) wz.heap.size 3 ?hg (N := 11) ?hd (w0 := wz) (xs := ([] : List Int)) (inner := []) (ok := fun _ => True) (okp := fun _ => True) ?hr ?hp (fun _ hk => hk) trivial qb qb.size (by simp) ?_; (case hd => rfl); (case hg => rfl); (case hr => first | (go_simp; done) | (go_simp; rfl)); (case hp => exact Reps.none _ _)
        intro u1 w1 ho1 hb1 hg1 hnew
        refine hK.out _ _ ⟨u1, v3, v5, h, (by rw [ha.out]; exact putSel_upk 1 hb_ rfl rfl rfl), fun _ => hb1, (hb1.mono hz2), fun _ _ => ho1, fun h_ => absurd ((hoff 3 (by kernel_rfl)).symm.trans h_) (by decide), fun h_ => absurd ((hoff 4 (by kernel_rfl)).symm.trans h_) (by decide), fun h_ => absurd ((hoff 5 (by kernel_rfl)).symm.trans h_) (by decide), fun h_ => absurd ((hoff 6 (by kernel_rfl)).symm.trans h_) (by decide)⟩
      refine steps_cons ?_ ?_
      · rintro b a w' ⟨v1, v3, v5, h, ha, QB, QZ, Q1, Q3, QH, Q5, Q6⟩ hb_ hon hoff
        refine ⟨_, rfl, fun K_ hK => ?_⟩
        have e0 : a.tmps[0]? = some (.pointer (some ⟨bl, 0, none⟩)) := by rw [ha]; exact (putSel_off rfl).trans rfl
        replace ha := Aside0.mk ha
        have qb := QB (hoff 5 (by kernel_rfl))
        have hsw := HSz.out.below qb
        have k0 : w'.cell? ⟨bl, 0, none⟩ = some (.slice Al l.length cl) := (blk_cell hsw.hl 0).trans rfl
        refine value_ (w1 := w') (v := .slice Al l.length cl) (by rfl) rfl ?_ ?_
        · go_simp
          try rfl
        refine hK.out _ _ ⟨v1, v3, v5, h, (by rw [ha.out]; exact putSel_upk 2 hb_ rfl rfl rfl), QB, QZ, Q1, Q3, QH, fun h_ => absurd ((hoff 5 (by kernel_rfl)).symm.trans h_) (by decide), fun h_ => absurd ((hoff 6 (by kernel_rfl)).symm.trans h_) (by decide)⟩
      refine steps_cons ?_ ?_
      · rintro b a w' ⟨v1, v3, v5, h, ha, QB, QZ, Q1, Q3, QH, Q5, Q6⟩ hb_ hon hoff
        refine ⟨_, rfl, fun K_ hK => ?_⟩
        have e11 : a.tmps[11]? = some (v1) := by rw [ha]; exact putSel_on (e := (1, 11, v1)) 1 rfl rfl (hon 1 (by kernel_rfl)) rfl
        have e12 : a.tmps[12]? = some (.slice Al l.length cl) := by rw [ha]; exact putSel_on (e := (2, 12, .slice Al l.length cl)) 2 rfl rfl (hon 2 (by kernel_rfl)) rfl
        replace ha := Aside0.mk ha
        have qb := QB (hoff 5 (by kernel_rfl))
        have hsw := HSz.out.below qb
        refine Kd.R_append_rows_step (Kd.int .i64) (Rr := (Kd.int .i64).K w') (w0 := wz) wz.heap.size ?hg (.tmp 11) (.tmp 12) 38 3 (.int .i64 0) 8 rfl Try.underlying38 info3 rfl (by decide) (by omega) v1 [] l Al l.length cl (fun _ => True) (fun _ => False) ?hs ?hx (Q1 (hon 1 (by kernel_rfl)) hb_) (Kd.C_below (Kd.R_reads' HSz.out.L).2.2 qb) (fun _ _ h_ => h_) (fun _ hk => hk.elim) (fun _ _ => trivial) qb qb.size (by have := HL0.out; simp; omega) ?_; (case hg => rfl); (case hs => go_simp); (case hx => go_simp)
        intro u3 w1 ho1 hb1 hg1 hat
        rw [List.nil_append] at ho1
        refine hK.out _ _ ⟨v1, u3, v5, h, (by rw [ha.out]; exact putSel_upk 3 hb_ rfl rfl rfl), fun _ => hb1, (hb1.mono hz2), fun _ h_ => absurd ((up_self b 3).symm.trans h_) (by decide), fun _ _ => ho1, fun h_ => absurd ((hoff 4 (by kernel_rfl)).symm.trans h_) (by decide), fun h_ => absurd ((hoff 5 (by kernel_rfl)).symm.trans h_) (by decide), fun h_ => absurd ((hoff 6 (by kernel_rfl)).symm.trans h_) (by decide)⟩
      refine steps_cons ?_ ?_
      · rintro b a w' ⟨v1, v3, v5, h, ha, QB, QZ, Q1, Q3, QH, Q5, Q6⟩ hb_ hon hoff
        refine ⟨_, rfl, fun K_ hK => ?_⟩
        have e13 : a.tmps[13]? = some (v3) := by rw [ha]; exact putSel_on (e := (3, 13, v3)) 3 rfl rfl (hon 3 (by kernel_rfl)) rfl
        replace ha := Aside0.mk ha
        have qb := QB (hoff 5 (by kernel_rfl))
        have hsw := HSz.out.below qb
        have ho3 := Q3 (hon 3 (by kernel_rfl)) (hoff 5 (by kernel_rfl))
        obtain ⟨A3, c3, rfl⟩ := Kd.R_slice ho3
        refine value_ (w1 := w'.alloc (.cells #[.slice A3 l.length c3] 38)) (v := .slice (some ⟨w'.heap.size, 0, none⟩) 1 1) (by rfl) rfl ?_ ?_
        · go_simp
          try rfl
        have hba : Below w'.heap.size w' (w'.alloc (.cells #[.slice A3 l.length c3] 38)) := below_alloc (Below.refl _ _) _
        refine hK.out _ _ ⟨v1, .slice A3 l.length c3, v5, w'.heap.size, (by rw [ha.out]; exact putSel_upk 4 hb_ rfl rfl rfl), fun _ => below_step qb hba, ((below_step qb hba).mono hz2), fun _ h_ => absurd ((hon 3 (by kernel_rfl)).symm.trans h_) (by decide), fun _ _ => Kd.R_below ho3 hba, fun _ _ => blk_new w' _, fun h_ => absurd ((hoff 5 (by kernel_rfl)).symm.trans h_) (by decide), fun h_ => absurd ((hoff 6 (by kernel_rfl)).symm.trans h_) (by decide)⟩
      refine steps_cons ?_ ?_
      · rintro b a w' ⟨v1, v3, v5, h, ha, QB, QZ, Q1, Q3, QH, Q5, Q6⟩ hb_ hon hoff
        refine ⟨_, rfl, fun K_ hK => ?_⟩
        have e10 : a.tmps[10]? = some (.slice Ao o.length co) := by rw [ha]; exact putSel_on (e := (0, 10, .slice Ao o.length co)) 0 rfl rfl (hon 0 (by kernel_rfl)) rfl
        have e14 : a.tmps[14]? = some (.slice (some ⟨h, 0, none⟩) 1 1) := by rw [ha]; exact putSel_on (e := (4, 14, .slice (some ⟨h, 0, none⟩) 1 1)) 4 rfl rfl (hon 4 (by kernel_rfl)) rfl
        replace ha := Aside0.mk ha
        have qb := QB hb_
        have hsw := HSz.out.below qb
        have ho3 := Q3 (hon 3 (by kernel_rfl)) hb_
        have hh := QH (hon 4 (by kernel_rfl)) hb_
        have hlt := HSz.out.Llt
        refine Kd.R_append_rows_step (Kd.slice 3 (Kd.int .i64)) (Rr := (Kd.slice 3 (Kd.int .i64)).M w' z (fun k => wz.heap.size ≤ k ∧ k < w'.heap.size)) (w0 := wz) z ?hg (.tmp 10) (.tmp 14) 34 38 (.slice none 0 0) 24 rfl Try.underlying34 info38 rfl (by decide) (by omega) (.slice Ao o.length co) o [l] (some ⟨h, 0, none⟩) 1 1 (fun k => impl_permutations.ok bl bn bo bu bg gu k ∧ some k ≠ (Value.slice Al l.length cl).ownBlock) (fun k => wz.heap.size ≤ k ∧ k < w'.heap.size) ?hs ?hx hsw.O ⟨rfl, by omega, fun _ => ⟨_, rfl, fun j p hj => by cases j with | zero => (refine ⟨[v3], rfl, ?_, fun i u hi => ?_⟩; (· cases hj; exact ⟨v3, rfl, Kd.R_mono (Kd.R_lower (Kd.R_bound ho3) hz2) fun k hk => ⟨hk.2.1, hk.2.2.1⟩⟩); (· cases i with | zero => (cases hi; exact (blk_cell hh 0).trans rfl) | succ i => simp at hi)) | succ j => simp at hj⟩⟩ (fun _ _ h_ => h_) (fun k hk => ⟨⟨HSz.out.fresh k hk.1, fun e => absurd (hlt k e.symm) (by omega)⟩, fun e => absurd (HSz.out.Olt k e.symm) (by omega)⟩) (fun k hk => ⟨hsw.fresh k hk, fun e => absurd (hsw.Llt k e.symm) (by omega)⟩) (qb.mono hz2) (Nat.le_trans hz2 qb.size) (by have := HLO.out; rw [List.length_append] at this; omega) ?_; (case hg => rfl); (case hs => go_simp); (case hx => go_simp)
        intro u5 w1 ho1 hb1 hg1 hat
        obtain ⟨A5, c5, rfl⟩ := Kd.R_slice ho1
        refine hK.out _ _ ⟨v1, v3, .slice A5 (o ++ [l]).length c5, h, (by rw [ha.out]; exact putSel_upk 5 hb_ rfl rfl rfl), fun h_ => absurd ((up_self b 5).symm.trans h_) (by decide), hb1, fun _ h_ => absurd ((hon 3 (by kernel_rfl)).symm.trans h_) (by decide), fun _ h_ => absurd ((up_self b 5).symm.trans h_) (by decide), fun _ h_ => absurd ((up_self b 5).symm.trans h_) (by decide), fun _ _ => ⟨_, A5, c5, rfl, qb, hg1, ho1⟩, fun h_ => absurd ((hoff 6 (by kernel_rfl)).symm.trans h_) (by decide)⟩
      refine steps_cons ?_ ?_
      · rintro b a w' ⟨v1, v3, v5, h, ha, QB, QZ, Q1, Q3, QH, Q5, Q6⟩ hb_ hon hoff
        refine ⟨_, rfl, fun K_ hK => ?_⟩
        have e2 : a.tmps[2]? = some (.pointer (some ⟨bo, 0, none⟩)) := by rw [ha]; exact (putSel_off rfl).trans rfl
        have e15 : a.tmps[15]? = some (v5) := by rw [ha]; exact putSel_on (e := (5, 15, v5)) 5 rfl rfl (hon 5 (by kernel_rfl)) rfl
        replace ha := Aside0.mk ha
        obtain ⟨W, A5, c5, rfl, hbW, hgW, hRW⟩ := Q5 (hon 5 (by kernel_rfl)) hb_
        have hp := (HSz.out.below hbW).put SX.out hRW hgW
        have hbo := blk_grown (HSz.out.below hbW).ho hgW (fun e => ((HSz.out.below hbW).O.1 _ e.symm).1.2.2.1 rfl)
        have k0 : w'.cell? ⟨bo, 0, none⟩ = some (.slice Ao o.length co) := (blk_cell hbo 0).trans rfl
        have f0 := blk_frozen hbo 0
        refine skip_ (w1 := w'.setCell ⟨bo, 0, none⟩ (.slice A5 (o ++ [l]).length c5)) (by rfl) rfl ?_ ?_
        · go_simp
          try rfl
        refine hK.out _ _ ⟨v1, v3, .slice A5 (o ++ [l]).length c5, h, (ha.out.trans (putSel_same (by rfl)).symm), fun h_ => absurd ((hon 5 (by kernel_rfl)).symm.trans h_) (by decide), QZ.setCell (p := ⟨bo, 0, none⟩) SX.out.z.2.2.1 _, fun _ h_ => absurd ((hon 3 (by kernel_rfl)).symm.trans h_) (by decide), fun _ h_ => absurd ((hon 5 (by kernel_rfl)).symm.trans h_) (by decide), fun _ h_ => absurd ((hon 5 (by kernel_rfl)).symm.trans h_) (by decide), fun _ h_ => absurd ((up_self b 6).symm.trans h_) (by decide), fun _ => ⟨_, hp⟩⟩
      exact steps_nil
    rintro b a w22 hall ⟨v1, v3, v5, h, ha, QB, QZ, Q1, Q3, QH, Q5, Q6⟩
    have hb0_ := hall 0 (by kernel_rfl)
    have hb1_ := hall 1 (by kernel_rfl)
    have hb2_ := hall 2 (by kernel_rfl)
    have hb3_ := hall 3 (by kernel_rfl)
    have hb4_ := hall 4 (by kernel_rfl)
    have hb5_ := hall 5 (by kernel_rfl)
    have hb6_ := hall 6 (by kernel_rfl)
    obtain ⟨vx, hsx⟩ := Q6 hb6_
    have HSX := Aside0.mk hsx
    have HBX := Aside0.mk (HBz.out.trans QZ)
    clear QB QZ Q1 Q3 QH Q5 Q6 HSz HBz hsx
    subst ha
    simp only [putSel, hb0_, hb1_, hb2_, hb3_, hb4_, hb5_, if_true, Act.put, List.setIfInBounds_toArray, List.set_cons_zero, List.set_cons_succ]
    clear hall hb0_ hb1_ hb2_ hb3_ hb4_ hb5_ hb6_
    go_wp2_with fail
    exact bodyPost_ret (results_none (by kernel_rfl) _ _ _) rfl ⟨rfl, HBX.out, _, _, HSX.out⟩
  | succ d ih =>
    intro l o vl vo w hd ho hs
    have HS := Aside0.mk hs
    obtain ⟨Al, cl, rfl⟩ := Kd.R_slice hs.L
    have q_l := (blk_cell hs.hl 0).trans rfl
    have q_n := (blk_cell hs.hn 0).trans rfl
    have hln : ((l.length : Int) == (n : Int)) = false := beq_eq_false_iff_ne.mpr (by omega)
    have IH := Aside0.mk ih
    clear hs ih
    go_enter Try.func73, Try.ntmps73
    go_wp2_with fail
    go_loopw [17] (fun v wr => ∃ (i : Nat) (vl vo : Value), i ≤ n ∧ v = .int .i64 (i : Int) ∧ Aside0 (impl_permutations.S n z bl bn bo bu bg gu vl vo l (impl_permutations.us n l) (o ++ impl_permutations.part n d l i) wr) ∧ Aside0 (Below z w wr)) (fun v _ => n - (intOf v).toNat)
    case atStart => exact ⟨0, _, _, Nat.zero_le _, rfl, ⟨by simpa [impl_permutations.part] using HS.out⟩, ⟨Below.refl _ _⟩⟩
    case round =>
      clear HS q_l q_n hln
      obtain ⟨i, vl, vo, hi, rfl, HS, HB⟩ := hrel
      by_cases hlt : i < n
      · have hid : decide ((i : Int) < (n : Int)) = true := decide_eq_true (by omega)
        have hi0 : decide ((0 : Int) ≤ (i : Int)) = true := decide_eq_true (by omega)
        obtain ⟨Al, cl, rfl⟩ := Kd.R_slice HS.out.L
        have q_l := (blk_cell HS.out.hl 0).trans rfl
        have q_n := (blk_cell HS.out.hn 0).trans rfl
        have q_u := (blk_cell HS.out.hu 0).trans rfl
        have q_g := (blk_cell HS.out.hg 0).trans rfl
        have q_c := (blk_cell HS.out.hc i).trans (impl_permutations.cs_at (impl_permutations.us_at l hlt))
        have f_c := blk_frozen HS.out.hc i
        have f_l := blk_frozen HS.out.hl 0
        by_cases hm : (i : Int) ∈ l
        · rw [decide_eq_true hm] at q_c
          have hp := impl_permutations.part_succ n d l i
          rw [if_pos hm, List.append_nil] at hp
          have HP := Aside0.mk hp
          clear hp
          go_wp2_with fail
          go_roundw
          case rel => exact ⟨i + 1, _, _, by omega, by go_num, ⟨by rw [HP.out]; exact HS.out⟩, HB⟩
          case measure => simp [intOf]; omega
        · rw [decide_eq_false hm] at q_c
          have hp := impl_permutations.part_succ n d l i
          rw [if_neg hm] at hp
          have hple := impl_permutations.part_le n d l (show i + 1 ≤ n by omega)
          have hu1 := impl_permutations.us_set (n := n) l (l ++ [(i : Int)]) (i := i) true (decide_eq_true (by simp)) (fun k hk => by simp; omega)
          have hu2 := impl_permutations.us_set (n := n) (l ++ [(i : Int)]) l (i := i) false (decide_eq_false hm) (fun k hk => by simp; omega)
          have hlen1 : (l ++ [(i : Int)]).length + d = n := by simp; omega
          have htk : (l ++ [(i : Int)]).take l.length = l := by simp
          have ho1 : ((o ++ impl_permutations.part n d l i) ++ impl_permutations.ext n d (l ++ [(i : Int)])).length ≤ 1000 := by
            have : (o ++ impl_permutations.part n d l n).length ≤ 1000 := ho
            rw [List.append_assoc, ← hp]
            rw [List.length_append] at this ⊢
            omega
          have ho2 : l.length ≤ 4 := by omega
          obtain ⟨l1, hl1⟩ : ∃ l1, l1 = l ++ [(i : Int)] := ⟨_, rfl⟩
          rw [← hl1] at hu1 hu2 hlen1 htk ho1 hp
          have HM := Aside0.mk (hu1 ▸ impl_permutations.S.mark HS.out SX.out i true)
          have HP := Aside0.mk hp
          have HU := Aside0.mk hu2
          have HL1 := Aside0.mk hl1
          have HTK := Aside0.mk htk
          have HO1 := Aside0.mk ho1
          have HO2 := Aside0.mk ho2
          have BM := Aside0.mk (HB.out.setCell (p := ⟨gu, i, none⟩) SX.out.z.2.2.2.2.2 (.bool true))
          have hw1 : wrap64 ((l1.length : Int) - 1) = (l.length : Int) := by have := hl1; subst this; rw [List.length_append, List.length_singleton]; unfold wrap64; omega
          have hw2 : (l1.length : Int) - 1 = (l.length : Int) := by have := hl1; subst this; rw [List.length_append, List.length_singleton]; omega
          clear hp hple hu1 hu2 htk ho1 hl1 ho2
          go_wp2_with (first | ((with_reducible refine gate_builtin (b := .append) (xs := #[.tmp 28, .tmp 30]) rfl ?_); at_builtin; refine Kd.R_append (Kd.int .i64) (w0 := w) z rfl (.tmp 28) (.tmp 30) 38 3 (.int .i64 0) 8 rfl Try.underlying38 info3 rfl (by decide) (by omega) (.slice Al l.length cl) l (i : Int) [.int .i64 (i : Int)] (impl_permutations.ok bl bn bo bu bg gu) (fun _ => False) rfl ?aX ?aP (fun _ hk => hk.elim) ?aF ?aO ?aB ?aS ?aL ?_; (case aX => first | (go_simp; done) | (go_simp; rfl) | rfl); (case aP => exact rfl); (case aB => exact BM.out); (case aF => exact fun k hk => HM.out.fresh k hk); (case aO => exact HM.out.L); (case aS => exact Nat.le_trans SX.out.z.1 (Nat.le_of_lt (blk_lt HM.out.hl))); (case aL => have := HO2.out; omega); intro v1 w1 hR hb hg hat; rw [← HL1.out] at hR; obtain ⟨A1, c1, rfl⟩ := Kd.R_slice hR; have HS1 := Aside0.mk (HM.out.push SX.out hR hg hat); have HB1 := Aside0.mk (hb.setCell (p := ⟨bl, 0, none⟩) SX.out.z.1 (.slice A1 l1.length c1)); have q_l1 := (blk_cell (blk_grown HM.out.hl hg HM.out.box.1) 0).trans rfl; have f_l1 := blk_frozen (blk_grown HM.out.hl hg HM.out.box.1) 0; have q_g1 := (blk_cell (blk_grown HM.out.hg hg HM.out.box.2.2.2.2.1) 0).trans rfl; clear hR hb hg hat HM BM HS HB) | (go_at_call 73; refine (IH.out l1 _ _ vo _ hlen1 HO1.out HS1.out).mono ?_; rintro e w2 ⟨rfl, hb2, vl2, vo2, hs2⟩; have HS2 := Aside0.mk hs2; have HB2 := Aside0.mk (HB1.out.trans hb2); obtain ⟨A2, c2, rfl⟩ := Kd.R_slice hs2.L; have hcut := impl_permutations.cut A2 c2 l.length l1.length (by omega) ((Kd.R_reads' hs2.L).2.1); have q_l2 := (blk_cell HS2.out.hl 0).trans rfl; have f_l2 := blk_frozen HS2.out.hl 0; have q_u2 := (blk_cell HS2.out.hu 0).trans rfl; have q_c2 := (blk_cell HS2.out.hc i).trans (impl_permutations.cs_at (impl_permutations.us_at l1 hlt)); have f_c2 := blk_frozen HS2.out.hc i; clear hs2 hb2))
          go_roundw
          case rel => exact ⟨i + 1, _, _, by omega, by go_num, ⟨by have h_ := (HS2.out.pop SX.out l.length (by omega)).mark SX.out i false; rw [HTK.out, HU.out] at h_; rw [HP.out, ← List.append_assoc]; exact h_⟩, ⟨(HB2.out.setCell (p := ⟨bl, 0, none⟩) SX.out.z.1 _).setCell (p := ⟨gu, i, none⟩) SX.out.z.2.2.2.2.2 _⟩⟩
          case measure => simp [intOf]; omega
      · obtain rfl : i = n := by omega
        have hid : decide ((i : Int) < (i : Int)) = false := decide_eq_false (by omega)
        go_wp2
        exact Go.Great.bodyPost_end0 (by kernel_rfl) rfl ⟨rfl, HB.out, _, _, HS.out⟩
theorem impl_permutations.mk1 (n : Nat) (hn : n ≤ 4) (W : World) : (Instr.makeSlice 38 (.int .i64 0) (.int .i64 (n : Int))).run Try.prog W = .ok (.slice (some ⟨W.heap.size, 0, none⟩) 0 n) (W.alloc (.cells (madeCells #[.int .i64 0] n) 3)) := by
  rcases (by omega : n = 0 ∨ n = 1 ∨ n = 2 ∨ n = 3 ∨ n = 4) with rfl | rfl | rfl | rfl | rfl <;> kernel_rfl
theorem impl_permutations.mk2 (n : Nat) (hn : n ≤ 4) (W : World) : (Instr.makeSlice 90 (.int .i64 (n : Int)) (.int .i64 (n : Int))).run Try.prog W = .ok (.slice (some ⟨W.heap.size, 0, none⟩) n n) (W.alloc (.cells (impl_permutations.cs (impl_permutations.us n [])) 4)) := by
  rcases (by omega : n = 0 ∨ n = 1 ∨ n = 2 ∨ n = 3 ∨ n = 4) with rfl | rfl | rfl | rfl | rfl <;> kernel_rfl
def impl_permutations.f (a0 : Int) : Option (List (List Int)) := if 0 ≤ a0 ∧ a0 ≤ 4 then some (impl_permutations.ext a0.toNat a0.toNat []) else none
theorem impl_permutations.few (n : Nat) (hn : n ≤ 4) : (impl_permutations.ext n n []).length ≤ 24 := by
  rcases (by omega : n = 0 ∨ n = 1 ∨ n = 2 ∨ n = 3 ∨ n = 4) with rfl | rfl | rfl | rfl | rfl <;> decide +kernel
/-- The world behind the seven blocks of a call. -/
def impl_permutations.W7 (n : Nat) (w : World) : World :=
  ((((((w.alloc (.cells #[.int .i64 (n : Int)] 3)).alloc (.cells #[.slice none 0 0] 34)).alloc (.cells (madeCells #[.int .i64 0] n) 3)).alloc (.cells #[.slice (some ⟨w.heap.size + 1 + 1, 0, none⟩) 0 n] 38)).alloc (.cells (impl_permutations.cs (impl_permutations.us n [])) 4)).alloc (.cells #[.slice (some ⟨w.heap.size + 1 + 1 + 1 + 1, 0, none⟩) n n] 90)).alloc
    (.cells #[.func (.func 73) #[] #[.pointer (some ⟨w.heap.size + 1 + 1 + 1, 0, none⟩), .pointer (some ⟨w.heap.size, 0, none⟩), .pointer (some ⟨w.heap.size + 1, 0, none⟩), .pointer (some ⟨w.heap.size + 1 + 1 + 1 + 1 + 1, 0, none⟩), .pointer (some ⟨w.heap.size + 1 + 1 + 1 + 1 + 1 + 1, 0, none⟩)]] 1)
theorem impl_permutations.W7_below (n : Nat) (w : World) : Below w.heap.size w (impl_permutations.W7 n w) := by
  unfold impl_permutations.W7
  repeat (first | exact Below.refl _ _ | apply below_alloc)
theorem impl_permutations.W7_six (z : Nat) : impl_permutations.Six z (z + 1 + 1 + 1) z (z + 1) (z + 1 + 1 + 1 + 1 + 1) (z + 1 + 1 + 1 + 1 + 1 + 1) (z + 1 + 1 + 1 + 1) := by
  constructor <;> refine ⟨?_, ?_, ?_, ?_, ?_⟩ <;> omega
theorem impl_permutations.W7_S (n : Nat) (hn : n ≤ 4) (w : World) : impl_permutations.S n w.heap.size (w.heap.size + 1 + 1 + 1) w.heap.size (w.heap.size + 1) (w.heap.size + 1 + 1 + 1 + 1 + 1) (w.heap.size + 1 + 1 + 1 + 1 + 1 + 1) (w.heap.size + 1 + 1 + 1 + 1) (.slice (some ⟨w.heap.size + 1 + 1, 0, none⟩) 0 n) (.slice none 0 0) [] (impl_permutations.us n []) [] (impl_permutations.W7 n w) := by
  have e : ∀ (W : World) (o : Obj) (s : Nat), W.heap.size = s → (W.alloc o).heap[s]? = some o ∧ (W.alloc o).heap.size = s + 1 := by
    rintro W o s rfl
    exact ⟨blk_new W o, by simp⟩
  unfold impl_permutations.W7
  have e0 := e w (.cells #[.int .i64 (n : Int)] 3) _ rfl
  have e1 := e _ (.cells #[.slice none 0 0] 34) _ e0.2
  have e2 := e _ (.cells (madeCells #[.int .i64 0] n) 3) _ e1.2
  have e3 := e _ (.cells #[.slice (some ⟨w.heap.size + 1 + 1, 0, none⟩) 0 n] 38) _ e2.2
  have e4 := e _ (.cells (impl_permutations.cs (impl_permutations.us n [])) 4) _ e3.2
  have e5 := e _ (.cells #[.slice (some ⟨w.heap.size + 1 + 1 + 1 + 1, 0, none⟩) n n] 90) _ e4.2
  have e6 := e _ (.cells #[.func (.func 73) #[] #[.pointer (some ⟨w.heap.size + 1 + 1 + 1, 0, none⟩), .pointer (some ⟨w.heap.size, 0, none⟩), .pointer (some ⟨w.heap.size + 1, 0, none⟩), .pointer (some ⟨w.heap.size + 1 + 1 + 1 + 1 + 1, 0, none⟩), .pointer (some ⟨w.heap.size + 1 + 1 + 1 + 1 + 1 + 1, 0, none⟩)]] 1) _ e5.2
  refine ⟨blk_alloc (blk_alloc (blk_alloc e3.1 _) _) _, blk_alloc (blk_alloc (blk_alloc (blk_alloc (blk_alloc (blk_alloc e0.1 _) _) _) _) _) _, blk_alloc (blk_alloc (blk_alloc (blk_alloc (blk_alloc e1.1 _) _) _) _) _, blk_alloc e5.1 _, e6.1, blk_alloc (blk_alloc e4.1 _) _, ?_, Kd.R_nil _ _ _ _ _⟩
  refine ⟨fun k hk => ?_, [], ⟨rfl, .inr ⟨_, n, madeCells #[.int .i64 0] n, rfl, by omega, blk_alloc (blk_alloc (blk_alloc (blk_alloc e2.1 _) _) _) _, by simp, by simp only [maxLen]; omega, ?_, by simp⟩⟩, Reps.none _ _⟩
  · have hk2 : w.heap.size + 1 + 1 = k := by simpa [Value.ownBlock] using hk
    subst hk2
    refine ⟨?_, ?_, ?_, ?_, ?_, ?_⟩ <;> omega
  · show (madeCells #[.int .i64 0] n).size = n * 1
    simp [size_madeCells]
set_option maxHeartbeats 4000000 in
set_option maxRecDepth 100000 in
theorem impl_permutations.callsR (a0 : Int) (r : List (List Int)) (w : World) (h : impl_permutations.f a0 = some r) :
    Calls Try.prog 47 #[.int .i64 a0] w fun e w' => ∃ v0_ : Value, e = .returned v0_ ∧ Kd.R (Kd.slice 3 (Kd.int .i64)) 38 w' w.heap.size (fun _ => True) v0_ r ∧ Below w.heap.size w w' := by
  unfold impl_permutations.f at h
  by_cases hb : 0 ≤ a0 ∧ a0 ≤ 4
  case neg => rw [if_neg hb] at h; exact absurd h (by simp)
  rw [if_pos hb] at h
  obtain ⟨n, rfl⟩ := Int.eq_ofNat_of_zero_le hb.1
  have hn4 : n ≤ 4 := by omega
  rw [Int.toNat_natCast] at h
  obtain rfl := Option.some.inj h
  clear h hb
  have hm1 := impl_permutations.mk1 n hn4
  have hm2 := impl_permutations.mk2 n hn4
  have HC := Aside0.mk (impl_permutations.in_calls n _ _ _ _ _ _ _ hn4 (impl_permutations.W7_six w.heap.size) n [] [] _ _ _ (by simp) (by have := impl_permutations.few n hn4; rw [List.nil_append]; omega) (impl_permutations.W7_S n hn4 w))
  have HB := Aside0.mk (impl_permutations.W7_below n w)
  generalize hr : impl_permutations.ext n n [] = r at HC ⊢
  clear hr
  go_enter Try.func47, Try.ntmps47
  go_wp2_with (go_at_call 73; refine HC.out.mono ?_; rintro e w2 ⟨rfl, hb2, vl2, vo2, hs2⟩; have HS2 := Aside0.mk hs2; have HB2 := Aside0.mk (HB.out.trans hb2); obtain ⟨A2, c2, rfl⟩ := Kd.R_slice hs2.O; have q_o2 := (blk_cell hs2.ho 0).trans rfl; clear hs2 hb2)
  go_ret
  exact ⟨_, rfl, Kd.R_mono HS2.out.O (fun _ _ => True.intro), HB2.out⟩
theorem impl_permutations.calls (a0 : Int) (r : List (List Int)) (w : World) (h : impl_permutations.f a0 = some r) :
    Calls Try.prog 47 #[.int .i64 a0] w fun e w' => ∃ v0_ : Value, e = .returned (v0_) ∧ Kd.N (Kd.slice 3 (Kd.int .i64)) 38 w' w.heap.size (fun k_ => (w.heap.size ≤ k_)) v0_ r ∧ Below w.heap.size w w' :=
  (impl_permutations.callsR a0 r w h).mono fun e w' ⟨v0_, he, hr, hb⟩ => ⟨v0_, he, Kd.R_N (Kd.R_mono (Kd.R_bound hr) fun _ hk => hk.2.1), hb⟩


/-! ### impl_moved: function 87 -/
def impl_moved.l0 : Nat → Int → Int → List Int → Int → Int → Option (Int)
 | 0, _, _, _, _, _ => none
 | k + 1, x0, x5, x8, x9, x10 => if x10 < x9 then (if 0 ≤ x10 then (if x10 < (x8.length : Int) then (if 0 ≤ (rd x8 x10) then (impl_moved.l0 k x0 (Go.bits .or .i64 x5 (shl .i64 (Go.bits .and .i64 (shr .i64 x0 x10) 1) (rd x8 x10))) x8 x9 (wrap64 (x10 + 1))) else (none)) else (none)) else (none)) else (some x5)
def impl_moved.f (k : Nat) (a0 : Int) (l1 : List Int) : Option (Int) := impl_moved.l0 k a0 0 l1 (l1.length : Int) 0
theorem impl_moved.mono_l : ∀ k, (∀ y0 y1 y2 y3 y4, LeO (impl_moved.l0 k y0 y1 y2 y3 y4) (impl_moved.l0 (k + 1) y0 y1 y2 y3 y4))
 | 0 => fun _ _ _ _ _ r h => by simp [impl_moved.l0] at h
 | k + 1 => by
  have ih0 := impl_moved.mono_l k
  ·intro y0 y1 y2 y3 y4
   unfold impl_moved.l0
   repeat' first
   | (with_reducible exact ih0 _ _ _ _ _)
   | (with_reducible exact LeO.refl _)
   | (with_reducible exact LeO.none _)
   | (with_reducible refine LeO.ite ?_ ?_)
   | (with_reducible refine LeO.bind ?_ (fun _ => ?_))
   | exact ih0 _ _ _ _ _
   | exact LeO.none _
   | refine LeO.ite ?_ ?_
   | refine LeO.bind ?_ (fun _ => ?_)
theorem impl_moved.mono : ∀ a0 a1 k, LeO (impl_moved.f k a0 a1) (impl_moved.f (k + 1) a0 a1) := by
 intro a0 a1 k
 have ih0 := impl_moved.mono_l k
 unfold impl_moved.f
 repeat' first
   | (with_reducible exact ih0 _ _ _ _ _)
   | (with_reducible exact LeO.refl _)
   | (with_reducible exact LeO.none _)
   | (with_reducible refine LeO.ite ?_ ?_)
   | (with_reducible refine LeO.bind ?_ (fun _ => ?_))
   | exact ih0 _ _ _ _ _
   | exact LeO.none _
   | refine LeO.ite ?_ ?_
   | refine LeO.bind ?_ (fun _ => ?_)
set_option maxHeartbeats 8000000 in
set_option maxRecDepth 100000 in
theorem impl_moved.calls (k : Nat) (a0 : Int) (A1 : Option Addr) (c1 : Nat) (l1 : List Int) (r : Int) (w : World) (hr1 : Kd.C (Kd.int .i64) w A1 l1.length l1) (hc1 : l1.length ≤ c1) (h : impl_moved.f k a0 l1 = some r) :
  Calls Try.prog 87 #[.int .i64 a0, .slice A1 l1.length c1] w fun e w' => e = .returned (.int .i64 r) ∧ Drawn0 w w' := by
 have HR1 := Aside0.mk hr1
 have HC1 := Aside0.mk hc1
 clear hr1 hc1
 have H : (impl_moved.l0 k a0 0 l1 (l1.length : Int) 0) = some r := h
 clear h
 have H' := Aside0.mk H
 clear H
 go_enter Try.func87, Try.ntmps87
 go_wp2
 go_loopg [5, 10] k (fun kq v5 v10 w' => ∃ (x5_1 : Int) (x10_1 : Int), v5 = .int .i64 x5_1 ∧ v10 = .int .i64 x10_1 ∧ Aside0 (impl_moved.l0 kq a0 x5_1 l1 (l1.length : Int) x10_1 = some r) ∧ Aside0 (kq ≤ k) ∧ Drawn0 w w')
 case atStart => exact ⟨(0), (0), (by first | rfl | (simp; done) | (simp [*]; done)), (by first | rfl | (simp; done) | (simp [*]; done)), H', ⟨Nat.le_refl _⟩, by repeat (first | exact Drawn0.refl _ | apply Drawn0.step)⟩
 case round =>
  clear H'
  try clear c1
  try clear p2
  obtain ⟨x5_1, x10_1, rfl, rfl, HA, HK1, ⟨m1, rfl⟩⟩ := hrel
  cases gk with
  | zero => exact absurd HA.out (by simp [impl_moved.l0])
  | succ k1 =>
   have H := HA.out
   clear HA
   simp only [impl_moved.l0] at H
   by_cases c3 : x10_1 < (l1.length : Int)
   ·rw [if_pos c3] at H
    have c3b0 : decide (x10_1 < (l1.length : Int)) = true := decide_eq_true c3
    clear c3
    by_cases c4 : 0 ≤ x10_1
    ·rw [if_pos c4] at H
     have c4b0 : decide (0 ≤ x10_1) = true := decide_eq_true c4
     clear c4
     by_cases c5 : x10_1 < (l1.length : Int)
     ·rw [if_pos c5] at H
      have c5b0 : decide (x10_1 < (l1.length : Int)) = true := decide_eq_true c5
      clear c5
      have c6b0 := eq_true (of_decide_eq_true (by first | (with_reducible assumption) | assumption) : 0 ≤ x10_1)
      obtain ⟨ji7, hji7⟩ : ∃ j_ : Int, (shr .i64 a0 x10_1) = j_ := ⟨_, rfl⟩
      replace H : (if 0 ≤ (rd l1 x10_1) then (impl_moved.l0 k1 a0 (Go.bits .or .i64 x5_1 (shl .i64 (Go.bits .and .i64 (ji7) 1) (rd l1 x10_1))) l1 (l1.length : Int) (wrap64 (x10_1 + 1))) else (none)) = some r := by first | (rw [hji7] at H; exact H) | (simp only [hji7] at H ⊢; exact H)
      have hji7_ : (a0 / 2 ^ min x10_1.toNat 64) = ji7 := hji7
      have hji7z : x10_1 ≤ 64 → (a0 / 2 ^ x10_1.toNat) = ji7 := shr_small hji7
      by_cases c8 : 0 ≤ (rd l1 x10_1)
      ·rw [if_pos c8] at H
       have c8b0 := eq_true c8
       have c8b1 : decide (0 ≤ (rd l1 x10_1)) = true := decide_eq_true c8
       clear c8
       obtain ⟨ji9, hji9⟩ : ∃ j_ : Int, (shl .i64 (Go.bits .and .i64 (ji7) 1) (rd l1 x10_1)) = j_ := ⟨_, rfl⟩
       replace H : (impl_moved.l0 k1 a0 (Go.bits .or .i64 x5_1 (ji9)) l1 (l1.length : Int) (wrap64 (x10_1 + 1))) = some r := by first | (rw [hji9] at H; exact H) | (simp only [hji9] at H ⊢; exact H)
       have hji9_ : (IntKind.i64.wrap ((Go.bits .and .i64 (ji7) 1) * 2 ^ min (rd l1 x10_1).toNat 64)) = ji9 := hji9
       have hji9z : (rd l1 x10_1) ≤ 64 → (IntKind.i64.wrap ((Go.bits .and .i64 (ji7) 1) * 2 ^ (rd l1 x10_1).toNat)) = ji9 := shl_small hji9
       have hji9y : (wrap64 ((Go.bits .and .i64 (ji7) 1) * 2 ^ min (rd l1 x10_1).toNat 64)) = ji9 := (i64_w _).symm.trans hji9_
       have hji9x : (rd l1 x10_1) ≤ 64 → (wrap64 ((Go.bits .and .i64 (ji7) 1) * 2 ^ (rd l1 x10_1).toNat)) = ji9 := fun h_ => (i64_w _).symm.trans (hji9z h_)
       have H' := Aside0.mk H
       clear H
       have p333 : 0 ≤ (x10_1 : Int) := of_decide_eq_true (by first | (with_reducible assumption) | assumption)
       have q333 : x10_1 < (l1.length : Int) := of_decide_eq_true (by first | (with_reducible assumption) | assumption)
       obtain ⟨ad333, e333, hx333_0⟩ := Kd.at_int HR1.out x10_1 p333 q333
       cases e333
       replace p333 := eq_true p333
       replace q333 := eq_true q333
       go_wp2
       go_roundg k1
       case measure => have := HK1.out; omega
       case rel => exact ⟨(Go.bits .or .i64 x5_1 (ji9)), (wrap64 (x10_1 + 1)), (by first | rfl | (simp; done) | (simp only [← hji9] <;> (first | rfl | simp)) | (simp [*]; done)), (by first | rfl | (simp; done) | (simp [*]; done)), H', ⟨by have := HK1.out; omega⟩, by repeat (first | exact Drawn0.refl _ | apply Drawn0.step)⟩
      ·rw [if_neg c8] at H
       exact absurd H (by simp)
     ·rw [if_neg c5] at H
      exact absurd H (by simp)
    ·rw [if_neg c4] at H
     exact absurd H (by simp)
   ·rw [if_neg c3] at H
    have c3b0 : decide (x10_1 < (l1.length : Int)) = false := decide_eq_false c3
    clear c3
    obtain rfl := Option.some.inj H
    go_wp2
    go_ret
    exact ⟨by first | rfl | (simp; done) | (simp [*]; done), by repeat (first | exact Drawn0.refl _ | apply Drawn0.step)⟩


end Go.Proofs.Yteljkpglgjjnlaa.P
