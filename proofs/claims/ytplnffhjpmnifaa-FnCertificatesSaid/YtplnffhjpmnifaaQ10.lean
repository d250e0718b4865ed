-- Out of the translation, by this session's program over the printer's; Lean checks it.
import Derived.Test.YtplnffhjpmnifaaSh
import Derived.Test.YtplnffhjpmnifaaQ0
import Derived.Test.YtplnffhjpmnifaaQ3
import Derived.Test.YtplnffhjpmnifaaQ4
import Derived.Test.YtplnffhjpmnifaaQ5
import Derived.Test.YtplnffhjpmnifaaQ7
namespace Go.Proofs.Ytplnffhjpmnifaa.P
open Go.RowKit Go.Proofs.YtplnffhjpmnifaaW.PrintWords Go.Proofs.YtplnffhjpmnifaaW.PrintLast Go.Proofs.YtplnffhjpmnifaaW.PrintMore
attribute [local go_sem] max2_int min2_int max_two min_two max_three min_three max_four min_four
set_option linter.unusedVariables false
set_option linter.unusedSimpArgs false

/-! ### spec_IsSensitiveBlock: function 48 -/
def spec_IsSensitiveBlock.f (a0_0 : Int) (a0_1 : Int) (a1 : Int) (a2 : Int) : Option (Bool) := (spec_l9In.f a0_0 a0_1 a1).bind fun t776 => (if t776 = true then (if 0 ≤ a0_0 then ((spec_l1In.f a2 0 (wrap64 ((shl .i64 1 a0_0) - 1))).bind fun t777 => (if t777 = true then (if 0 ≤ a1 then (if 0 ≤ (Go.bits .xor .i64 a1 a2) then (some ((Go.bits .and .i64 (shr .i64 a0_1 a1) 1) != (Go.bits .and .i64 (shr .i64 a0_1 (Go.bits .xor .i64 a1 a2)) 1))) else (none)) else (none)) else (some false))) else (none)) else (some false))
def spec_IsSensitiveBlock.T1 : Bool × List (List Nat × List Nat) := (true, [([], []), ([], []), ([0, 1], [0, 1]), ([2, 2], [2]), ([3], [3]), ([3], [3]), ([5, 3], [3, 5]), ([6, 3], [3, 6]), ([7, 3], [3, 7]), ([4, 8, 3, 3], [3, 4, 8]), ([3, 9], [3, 9]), ([10, 9], [10]), ([11], [11]), ([12, 11], [11, 12]), ([11], [11]), ([13, 14, 11], [11, 13, 14]), ([15, 11], [11, 15]), ([11], [11]), ([17, 11], [11, 17]), ([11], [11]), ([11], [11]), ([19, 20, 11], [11, 19, 20]), ([18, 21, 11], [11, 18, 21]), ([22, 11], [11, 22]), ([16, 23, 11], [11, 16, 23]), ([11, 24], [11, 24]), ([25, 11, 0, 1, 2, 3, 4, 5, 6, 7, 8, 9, 10, 11, 12, 13, 14, 15, 16, 17, 18, 19, 20, 21, 22, 23, 24, 25], [25])])
def spec_IsSensitiveBlock.B1 : List Nat := [0, 0, 3, 7, 15, 15, 47, 111, 239, 511, 1023, 2047, 4095, 8191, 4095, 32767, 65535, 4095, 135167, 4095, 4095, 1576959, 4067327, 8261631, 16777215, 33554431, 67108863]
theorem spec_IsSensitiveBlock.tab1 : rtab .any (opsOf Try.f48 1) = spec_IsSensitiveBlock.T1 := by kernel_rfl
theorem spec_IsSensitiveBlock.bits1 : waitsOk spec_IsSensitiveBlock.T1.2 spec_IsSensitiveBlock.B1 = true := by kernel_rfl
set_option maxHeartbeats 8000000 in
set_option maxRecDepth 100000 in
theorem spec_IsSensitiveBlock.calls (a0_0 : Int) (a0_1 : Int) (a1 : Int) (a2 : Int) (r : Bool) (w : World) (h : spec_IsSensitiveBlock.f a0_0 a0_1 a1 a2 = some r) :
  Calls Try.prog 48 #[.agg #[.int .i64 a0_0, .int .i64 a0_1], .int .i64 a1, .int .i64 a2] w fun e w' => e = .returned (.bool r) ∧ Below w.heap.size w w' := by
 have hu25 := Try.underlying25
 have HB := Aside0.mk (Below.refl w.heap.size w)
 have H : ((spec_l9In.f a0_0 a0_1 a1).bind fun t776 => (if t776 = true then (if 0 ≤ a0_0 then ((spec_l1In.f a2 0 (wrap64 ((shl .i64 1 a0_0) - 1))).bind fun t777 => (if t777 = true then (if 0 ≤ a1 then (if 0 ≤ (Go.bits .xor .i64 a1 a2) then (some ((Go.bits .and .i64 (shr .i64 a0_1 a1) 1) != (Go.bits .and .i64 (shr .i64 a0_1 (Go.bits .xor .i64 a1 a2)) 1))) else (none)) else (none)) else (some false))) else (none)) else (some false))) = some r := h
 clear h
 replace H := Option.bind_eq_some_iff.mp H
 obtain ⟨t776, A40, H⟩ := H
 have A4 := Aside0.mk A40
 clear A40
 by_cases c5 : t776 = true
 ·subst c5
  rw [if_pos rfl] at H
  by_cases c6 : 0 ≤ a0_0
  ·rw [if_pos c6] at H
   have c6b0 := eq_true c6
   have c6b1 : decide (0 ≤ a0_0) = true := decide_eq_true c6
   clear c6
   obtain ⟨ji7, hji7⟩ : ∃ j_ : Int, (shl .i64 1 a0_0) = j_ := ⟨_, rfl⟩
   replace H : ((spec_l1In.f a2 0 (wrap64 ((ji7) - 1))).bind fun t777 => (if t777 = true then (if 0 ≤ a1 then (if 0 ≤ (Go.bits .xor .i64 a1 a2) then (some ((Go.bits .and .i64 (shr .i64 a0_1 a1) 1) != (Go.bits .and .i64 (shr .i64 a0_1 (Go.bits .xor .i64 a1 a2)) 1))) else (none)) else (none)) else (some false))) = some r := by first | (rw [hji7] at H; exact H) | (simp only [hji7] at H ⊢; exact H)
   (try rw [hji7] at A4)
   have hji7_ : (IntKind.i64.wrap (1 * 2 ^ min a0_0.toNat 64)) = ji7 := hji7
   have hji7z : a0_0 ≤ 64 → (IntKind.i64.wrap (1 * 2 ^ a0_0.toNat)) = ji7 := shl_small hji7
   have hji7u : (IntKind.i64.wrap (2 ^ min a0_0.toNat 64)) = ji7 := by have h_ := hji7_; rw [Int.one_mul] at h_; exact h_
   have hji7v : a0_0 ≤ 64 → (IntKind.i64.wrap (2 ^ a0_0.toNat)) = ji7 := fun hle_ => by have h_ := hji7z hle_; rw [Int.one_mul] at h_; exact h_
   have hji7y : (wrap64 (1 * 2 ^ min a0_0.toNat 64)) = ji7 := (i64_w _).symm.trans hji7_
   have hji7x : a0_0 ≤ 64 → (wrap64 (1 * 2 ^ a0_0.toNat)) = ji7 := fun h_ => (i64_w _).symm.trans (hji7z h_)
   replace H := Option.bind_eq_some_iff.mp H
   obtain ⟨t777, A80, H⟩ := H
   have A8 := Aside0.mk A80
   clear A80
   by_cases c9 : t777 = true
   ·subst c9
    rw [if_pos rfl] at H
    by_cases c10 : 0 ≤ a1
    ·rw [if_pos c10] at H
     have c10b0 := eq_true c10
     have c10b1 : decide (0 ≤ a1) = true := decide_eq_true c10
     clear c10
     obtain ⟨ji11, hji11⟩ : ∃ j_ : Int, (shr .i64 a0_1 a1) = j_ := ⟨_, rfl⟩
     replace H : (if 0 ≤ (Go.bits .xor .i64 a1 a2) then (some ((Go.bits .and .i64 (ji11) 1) != (Go.bits .and .i64 (shr .i64 a0_1 (Go.bits .xor .i64 a1 a2)) 1))) else (none)) = some r := by first | (rw [hji11] at H; exact H) | (simp only [hji11] at H ⊢; exact H)
     (try rw [hji11] at A4)
     (try rw [hji11] at A8)
     have hji11_ : (a0_1 / 2 ^ min a1.toNat 64) = ji11 := hji11
     have hji11z : a1 ≤ 64 → (a0_1 / 2 ^ a1.toNat) = ji11 := shr_small hji11
     by_cases c12 : 0 ≤ (Go.bits .xor .i64 a1 a2)
     ·rw [if_pos c12] at H
      have c12b0 := eq_true c12
      have c12b1 : decide (0 ≤ (Go.bits .xor .i64 a1 a2)) = true := decide_eq_true c12
      clear c12
      obtain ⟨ji13, hji13⟩ : ∃ j_ : Int, (shr .i64 a0_1 (Go.bits .xor .i64 a1 a2)) = j_ := ⟨_, rfl⟩
      replace H : (some ((Go.bits .and .i64 (ji11) 1) != (Go.bits .and .i64 (ji13) 1))) = some r := by first | (rw [hji13] at H; exact H) | (simp only [hji13] at H ⊢; exact H)
      (try rw [hji13] at A4)
      (try rw [hji13] at A8)
      have hji13_ : (a0_1 / 2 ^ min (Go.bits .xor .i64 a1 a2).toNat 64) = ji13 := hji13
      have hji13z : (Go.bits .xor .i64 a1 a2) ≤ 64 → (a0_1 / 2 ^ (Go.bits .xor .i64 a1 a2).toNat) = ji13 := shr_small hji13
      obtain rfl := Option.some.inj H
      go_enter Try.func48, Try.ntmps48
      try go_wp2_with (first | ((with_reducible refine gate_dst (N := 3) rfl ?_); refine bx_ 3 #[.int .i64 a0_0, .int .i64 a0_1] 25 ?_; intro gb775 hg w14 hbox hb; have BK775 := Aside0.mk (hbox); have GW775 := gw_ hg (below_size (bv_ HB)); have GE775 := GW775; replace HB := Aside0.mk (below_step (bv_ HB) hb); clear hb hbox hg))
      replace BK775 := Aside0.mk (blk_drew BK775.out)
      replace HB := Aside0.mk (below_drew1 HB.out)
      refine start_ (n := 27) (S := fun w' => w'.cell? ⟨gb775, 0, none⟩ = some (.int .i64 a0_0) ∧ w'.cell? ⟨gb775, 1, none⟩ = some (.int .i64 a0_1)) (ds := []) (bs 27 0) (by kernel_rfl) rfl (by kernel_rfl) ⟨(blk_cell BK775.out 0).trans rfl, (blk_cell BK775.out 1).trans rfl⟩ (fun hHeld => ?_); refine with_tabW spec_IsSensitiveBlock.tab1 spec_IsSensitiveBlock.bits1 (fun HT_ HW_ => ?_)
      generalize w14.drew = w15 at BK775 HB hHeld ⊢
      refine pu_ HT_ 1 8 (bs 27 2) ?_
      refine ta2_ HT_ HW_ 0 7 (bs 27 3) hHeld ?_
      refine on_ HT_ 2 9 (bs 27 7) (fun K hK => ?_)
      refine goes_ Try.func79 (by kernel_rfl) rfl #[.agg #[.int .i64 a0_0, .int .i64 a0_1], .int .i64 a1] (by rfl) rfl rfl mp_ ?_
      with_reducible refine (spec_l9In.calls a0_0 a0_1 a1 true _ A4.out).mono ?_
      rintro e w16 ⟨rfl, hb⟩
      refine ⟨_, rfl, ?_⟩
      replace BK775 := kb_ BK775 hb
      replace HB := Aside0.mk (below_step (bv1_ HB GE775) hb)
      (try clear hb)
      (try clear hb2)
      (try clear hk)
      (try clear hi)
      refine hK.out _ _ ⟨(blk_cell BK775.out 0).trans rfl, (blk_cell BK775.out 1).trans rfl⟩ (fun hHeld => ?_)
      clear hK K
      refine no_ 9 ?_
      refine pu_ HT_ 3 10 (bs 27 15) ?_
      refine pu_ HT_ 4 11 (bs 27 31) ?_
      refine pu_ HT_ 5 12 (bs 27 63) ?_
      refine ta2_ HT_ HW_ 6 13 (bs 27 127) hHeld ?_
      refine pu_ HT_ 7 14 (bs 27 255) ?_
      refine pu_ HT_ 8 15 (bs 27 511) ?_
      refine on_ HT_ 9 16 (bs 27 1023) (fun K hK => ?_)
      refine goes_ Try.func75 (by kernel_rfl) rfl #[.int .i64 a2, .int .i64 0, .int .i64 (wrap64 ((ji7) - 1))] (by rfl) rfl rfl (by (try simp only [List.map_toArray, List.map_cons, List.map_nil]); first | done | (simp only [hji7]; rfl) | rfl | (simp only [List.length_drop, List.length_take]; rfl)) ?_
      with_reducible refine (spec_l1In.calls a2 0 (wrap64 ((ji7) - 1)) true _ A8.out).mono ?_
      rintro e w' ⟨rfl, ⟨nd, rfl⟩⟩
      refine ⟨_, rfl, ?_⟩
      refine hK.out _ _ ⟨(blk_cell BK775.out 0).trans rfl, (blk_cell BK775.out 1).trans rfl⟩ (fun hHeld => ?_)
      clear hK K
      refine no_ 16 ?_
      refine pu_ HT_ 10 17 (bs 27 2047) ?_
      refine pu_ HT_ 11 18 (bs 27 4095) ?_
      refine pu_ HT_ 12 19 (bs 27 8191) ?_
      refine pu_ HT_ 14 21 (bs 27 24575) ?_
      refine pu_ HT_ 17 24 (bs 27 155647) ?_
      refine pu_ HT_ 19 26 (bs 27 679935) ?_
      refine pu_ HT_ 20 27 (bs 27 1728511) ?_
      refine pu_ HT_ 21 28 (bs 27 3825663) ?_
      refine ta2_ HT_ HW_ 13 20 (bs 27 3833855) hHeld ?_
      refine pu_ HT_ 15 22 (bs 27 3866623) ?_
      refine pu_ HT_ 16 23 (bs 27 3932159) ?_
      refine ta2_ HT_ HW_ 18 25 (bs 27 4194303) hHeld ?_
      refine pu_ HT_ 22 29 (bs 27 8388607) ?_
      refine pu_ HT_ 23 30 (bs 27 16777215) ?_
      refine pu_ HT_ 24 31 (bs 27 33554431) ?_
      refine pu_ HT_ 25 32 (bs 27 67108863) ?_
      refine pu_ HT_ 26 6 (bs 27 134217727) ?_
      refine done_ (done_of HT_.out (by kernel_rfl)) ?_
      try go_wp2
      go_ret
      exact ⟨by first | rfl | (simp [errW_none, errW_some] <;> rfl) | (simp only [← hji7, ← hji11, ← hji13]; first | rfl | (simp [errW_none, errW_some] <;> rfl)) | (simp [*, errW_none, errW_some] <;> rfl), bv1_ HB GE775⟩
     ·rw [if_neg c12] at H
      exact absurd H (by simp)
    ·rw [if_neg c10] at H
     exact absurd H (by simp)
   ·replace c9 := Bool.eq_false_iff.mpr c9
    subst c9
    rw [if_neg (show ¬ (false = true) by decide)] at H
    obtain rfl := Option.some.inj H
    go_enter Try.func48, Try.ntmps48
    try go_wp2_with (first | ((with_reducible refine gate_dst (N := 3) rfl ?_); refine bx_ 3 #[.int .i64 a0_0, .int .i64 a0_1] 25 ?_; intro gb775 hg w17 hbox hb; have BK775 := Aside0.mk (hbox); have GW775 := gw_ hg (below_size (bv_ HB)); have GE775 := GW775; replace HB := Aside0.mk (below_step (bv_ HB) hb); clear hb hbox hg))
    replace BK775 := Aside0.mk (blk_drew BK775.out)
    replace HB := Aside0.mk (below_drew1 HB.out)
    refine start_ (n := 27) (S := fun w' => w'.cell? ⟨gb775, 0, none⟩ = some (.int .i64 a0_0) ∧ w'.cell? ⟨gb775, 1, none⟩ = some (.int .i64 a0_1)) (ds := []) (bs 27 0) (by kernel_rfl) rfl (by kernel_rfl) ⟨(blk_cell BK775.out 0).trans rfl, (blk_cell BK775.out 1).trans rfl⟩ (fun hHeld => ?_); refine with_tabW spec_IsSensitiveBlock.tab1 spec_IsSensitiveBlock.bits1 (fun HT_ HW_ => ?_)
    generalize w17.drew = w18 at BK775 HB hHeld ⊢
    refine pu_ HT_ 1 8 (bs 27 2) ?_
    refine ta2_ HT_ HW_ 0 7 (bs 27 3) hHeld ?_
    refine on_ HT_ 2 9 (bs 27 7) (fun K hK => ?_)
    refine goes_ Try.func79 (by kernel_rfl) rfl #[.agg #[.int .i64 a0_0, .int .i64 a0_1], .int .i64 a1] (by rfl) rfl rfl mp_ ?_
    with_reducible refine (spec_l9In.calls a0_0 a0_1 a1 true _ A4.out).mono ?_
    rintro e w19 ⟨rfl, hb⟩
    refine ⟨_, rfl, ?_⟩
    replace BK775 := kb_ BK775 hb
    replace HB := Aside0.mk (below_step (bv1_ HB GE775) hb)
    (try clear hb)
    (try clear hb2)
    (try clear hk)
    (try clear hi)
    refine hK.out _ _ ⟨(blk_cell BK775.out 0).trans rfl, (blk_cell BK775.out 1).trans rfl⟩ (fun hHeld => ?_)
    clear hK K
    refine no_ 9 ?_
    refine pu_ HT_ 3 10 (bs 27 15) ?_
    refine pu_ HT_ 4 11 (bs 27 31) ?_
    refine pu_ HT_ 5 12 (bs 27 63) ?_
    refine ta2_ HT_ HW_ 6 13 (bs 27 127) hHeld ?_
    refine pu_ HT_ 7 14 (bs 27 255) ?_
    refine pu_ HT_ 8 15 (bs 27 511) ?_
    refine on_ HT_ 9 16 (bs 27 1023) (fun K hK => ?_)
    refine goes_ Try.func75 (by kernel_rfl) rfl #[.int .i64 a2, .int .i64 0, .int .i64 (wrap64 ((ji7) - 1))] (by rfl) rfl rfl (by (try simp only [List.map_toArray, List.map_cons, List.map_nil]); first | done | (simp only [hji7]; rfl) | rfl | (simp only [List.length_drop, List.length_take]; rfl)) ?_
    with_reducible refine (spec_l1In.calls a2 0 (wrap64 ((ji7) - 1)) false _ A8.out).mono ?_
    rintro e w' ⟨rfl, ⟨nd, rfl⟩⟩
    refine ⟨_, rfl, ?_⟩
    refine hK.out _ _ ⟨(blk_cell BK775.out 0).trans rfl, (blk_cell BK775.out 1).trans rfl⟩ (fun hHeld => ?_)
    clear hK K
    refine no_ 16 ?_
    refine pu_ HT_ 10 17 (bs 27 2047) ?_
    refine pu_ HT_ 11 18 (bs 27 4095) ?_
    refine pure_ (i := 12) (N := some 19) (v := undef) (a' := ?_) (bs 27 8191) rfl rfl (any_of HT_.out (by kernel_rfl)) (fun _ _ _ h => h) (Or.inr ⟨by rfl, rfl⟩) ?_ ?_
    rotate_left
    ·simp only [Act.put, List.setIfInBounds_toArray, List.set_cons_zero, List.set_cons_succ, i64_w, i32_w]
     rfl
    refine pure_ (i := 13) (N := some 20) (v := undef) (a' := ?_) (bs 27 16383) rfl rfl (any_of HT_.out (by kernel_rfl)) (fun _ _ _ h => h) (Or.inr ⟨by rfl, rfl⟩) ?_ ?_
    rotate_left
    ·simp only [Act.put, List.setIfInBounds_toArray, List.set_cons_zero, List.set_cons_succ, i64_w, i32_w]
     rfl
    refine pure_ (i := 14) (N := some 21) (v := undef) (a' := ?_) (bs 27 32767) rfl rfl (any_of HT_.out (by kernel_rfl)) (fun _ _ _ h => h) (Or.inr ⟨by rfl, rfl⟩) ?_ ?_
    rotate_left
    ·simp only [Act.put, List.setIfInBounds_toArray, List.set_cons_zero, List.set_cons_succ, i64_w, i32_w]
     rfl
    refine pure_ (i := 15) (N := some 22) (v := undef) (a' := ?_) (bs 27 65535) rfl rfl (any_of HT_.out (by kernel_rfl)) (fun _ _ _ h => h) (Or.inr ⟨by rfl, rfl⟩) ?_ ?_
    rotate_left
    ·simp only [Act.put, List.setIfInBounds_toArray, List.set_cons_zero, List.set_cons_succ, i64_w, i32_w]
     rfl
    refine pure_ (i := 16) (N := some 23) (v := undef) (a' := ?_) (bs 27 131071) rfl rfl (any_of HT_.out (by kernel_rfl)) (fun _ _ _ h => h) (Or.inr ⟨by rfl, rfl⟩) ?_ ?_
    rotate_left
    ·simp only [Act.put, List.setIfInBounds_toArray, List.set_cons_zero, List.set_cons_succ, i64_w, i32_w]
     rfl
    refine pure_ (i := 17) (N := some 24) (v := undef) (a' := ?_) (bs 27 262143) rfl rfl (any_of HT_.out (by kernel_rfl)) (fun _ _ _ h => h) (Or.inr ⟨by rfl, rfl⟩) ?_ ?_
    rotate_left
    ·simp only [Act.put, List.setIfInBounds_toArray, List.set_cons_zero, List.set_cons_succ, i64_w, i32_w]
     rfl
    refine pure_ (i := 18) (N := some 25) (v := undef) (a' := ?_) (bs 27 524287) rfl rfl (any_of HT_.out (by kernel_rfl)) (fun _ _ _ h => h) (Or.inr ⟨by rfl, rfl⟩) ?_ ?_
    rotate_left
    ·simp only [Act.put, List.setIfInBounds_toArray, List.set_cons_zero, List.set_cons_succ, i64_w, i32_w]
     rfl
    refine pure_ (i := 19) (N := some 26) (v := undef) (a' := ?_) (bs 27 1048575) rfl rfl (any_of HT_.out (by kernel_rfl)) (fun _ _ _ h => h) (Or.inr ⟨by rfl, rfl⟩) ?_ ?_
    rotate_left
    ·simp only [Act.put, List.setIfInBounds_toArray, List.set_cons_zero, List.set_cons_succ, i64_w, i32_w]
     rfl
    refine pure_ (i := 20) (N := some 27) (v := undef) (a' := ?_) (bs 27 2097151) rfl rfl (any_of HT_.out (by kernel_rfl)) (fun _ _ _ h => h) (Or.inr ⟨by rfl, rfl⟩) ?_ ?_
    rotate_left
    ·simp only [Act.put, List.setIfInBounds_toArray, List.set_cons_zero, List.set_cons_succ, i64_w, i32_w]
     rfl
    refine pure_ (i := 21) (N := some 28) (v := undef) (a' := ?_) (bs 27 4194303) rfl rfl (any_of HT_.out (by kernel_rfl)) (fun _ _ _ h => h) (Or.inr ⟨by rfl, rfl⟩) ?_ ?_
    rotate_left
    ·simp only [Act.put, List.setIfInBounds_toArray, List.set_cons_zero, List.set_cons_succ, i64_w, i32_w]
     rfl
    refine pure_ (i := 22) (N := some 29) (v := undef) (a' := ?_) (bs 27 8388607) rfl rfl (any_of HT_.out (by kernel_rfl)) (fun _ _ _ h => h) (Or.inr ⟨by rfl, rfl⟩) ?_ ?_
    rotate_left
    ·simp only [Act.put, List.setIfInBounds_toArray, List.set_cons_zero, List.set_cons_succ, i64_w, i32_w]
     rfl
    refine pure_ (i := 23) (N := some 30) (v := undef) (a' := ?_) (bs 27 16777215) rfl rfl (any_of HT_.out (by kernel_rfl)) (fun _ _ _ h => h) (Or.inr ⟨by rfl, rfl⟩) ?_ ?_
    rotate_left
    ·simp only [Act.put, List.setIfInBounds_toArray, List.set_cons_zero, List.set_cons_succ, i64_w, i32_w]
     rfl
    refine pure_ (i := 24) (N := some 31) (v := undef) (a' := ?_) (bs 27 33554431) rfl rfl (any_of HT_.out (by kernel_rfl)) (fun _ _ _ h => h) (Or.inr ⟨by rfl, rfl⟩) ?_ ?_
    rotate_left
    ·simp only [Act.put, List.setIfInBounds_toArray, List.set_cons_zero, List.set_cons_succ, i64_w, i32_w]
     rfl
    refine pu_ HT_ 25 32 (bs 27 67108863) ?_
    refine pu_ HT_ 26 6 (bs 27 134217727) ?_
    refine done_ (done_of HT_.out (by kernel_rfl)) ?_
    try go_wp2
    go_ret
    exact ⟨by first | rfl | (simp [errW_none, errW_some] <;> rfl) | (simp only [← hji7]; first | rfl | (simp [errW_none, errW_some] <;> rfl)) | (simp [*, errW_none, errW_some] <;> rfl), bv1_ HB GE775⟩
  ·rw [if_neg c6] at H
   exact absurd H (by simp)
 ·replace c5 := Bool.eq_false_iff.mpr c5
  subst c5
  rw [if_neg (show ¬ (false = true) by decide)] at H
  obtain rfl := Option.some.inj H
  go_enter Try.func48, Try.ntmps48
  try go_wp2_with (first | ((with_reducible refine gate_dst (N := 3) rfl ?_); refine bx_ 3 #[.int .i64 a0_0, .int .i64 a0_1] 25 ?_; intro gb775 hg w20 hbox hb; have BK775 := Aside0.mk (hbox); have GW775 := gw_ hg (below_size (bv_ HB)); have GE775 := GW775; replace HB := Aside0.mk (below_step (bv_ HB) hb); clear hb hbox hg))
  replace BK775 := Aside0.mk (blk_drew BK775.out)
  replace HB := Aside0.mk (below_drew1 HB.out)
  refine start_ (n := 27) (S := fun w' => w'.cell? ⟨gb775, 0, none⟩ = some (.int .i64 a0_0) ∧ w'.cell? ⟨gb775, 1, none⟩ = some (.int .i64 a0_1)) (ds := []) (bs 27 0) (by kernel_rfl) rfl (by kernel_rfl) ⟨(blk_cell BK775.out 0).trans rfl, (blk_cell BK775.out 1).trans rfl⟩ (fun hHeld => ?_); refine with_tabW spec_IsSensitiveBlock.tab1 spec_IsSensitiveBlock.bits1 (fun HT_ HW_ => ?_)
  generalize w20.drew = w21 at BK775 HB hHeld ⊢
  refine pu_ HT_ 1 8 (bs 27 2) ?_
  refine ta2_ HT_ HW_ 0 7 (bs 27 3) hHeld ?_
  refine on_ HT_ 2 9 (bs 27 7) (fun K hK => ?_)
  refine goes_ Try.func79 (by kernel_rfl) rfl #[.agg #[.int .i64 a0_0, .int .i64 a0_1], .int .i64 a1] (by rfl) rfl rfl mp_ ?_
  with_reducible refine (spec_l9In.calls a0_0 a0_1 a1 false _ A4.out).mono ?_
  rintro e w22 ⟨rfl, hb⟩
  refine ⟨_, rfl, ?_⟩
  replace BK775 := kb_ BK775 hb
  replace HB := Aside0.mk (below_step (bv1_ HB GE775) hb)
  (try clear hb)
  (try clear hb2)
  (try clear hk)
  (try clear hi)
  refine hK.out _ _ ⟨(blk_cell BK775.out 0).trans rfl, (blk_cell BK775.out 1).trans rfl⟩ (fun hHeld => ?_)
  clear hK K
  refine no_ 9 ?_
  refine pu_ HT_ 3 10 (bs 27 15) ?_
  refine pure_ (i := 4) (N := some 11) (v := undef) (a' := ?_) (bs 27 31) rfl rfl (any_of HT_.out (by kernel_rfl)) (fun _ _ _ h => h) (Or.inr ⟨by rfl, rfl⟩) ?_ ?_
  rotate_left
  ·simp only [Act.put, List.setIfInBounds_toArray, List.set_cons_zero, List.set_cons_succ, i64_w, i32_w]
   rfl
  refine pure_ (i := 5) (N := some 12) (v := undef) (a' := ?_) (bs 27 63) rfl rfl (any_of HT_.out (by kernel_rfl)) (fun _ _ _ h => h) (Or.inr ⟨by rfl, rfl⟩) ?_ ?_
  rotate_left
  ·simp only [Act.put, List.setIfInBounds_toArray, List.set_cons_zero, List.set_cons_succ, i64_w, i32_w]
   rfl
  refine pure_ (i := 6) (N := some 13) (v := undef) (a' := ?_) (bs 27 127) rfl rfl (any_of HT_.out (by kernel_rfl)) (fun _ _ _ h => h) (Or.inr ⟨by rfl, rfl⟩) ?_ ?_
  rotate_left
  ·simp only [Act.put, List.setIfInBounds_toArray, List.set_cons_zero, List.set_cons_succ, i64_w, i32_w]
   rfl
  refine pure_ (i := 7) (N := some 14) (v := undef) (a' := ?_) (bs 27 255) rfl rfl (any_of HT_.out (by kernel_rfl)) (fun _ _ _ h => h) (Or.inr ⟨by rfl, rfl⟩) ?_ ?_
  rotate_left
  ·simp only [Act.put, List.setIfInBounds_toArray, List.set_cons_zero, List.set_cons_succ, i64_w, i32_w]
   rfl
  refine pure_ (i := 8) (N := some 15) (v := undef) (a' := ?_) (bs 27 511) rfl rfl (any_of HT_.out (by kernel_rfl)) (fun _ _ _ h => h) (Or.inr ⟨by rfl, rfl⟩) ?_ ?_
  rotate_left
  ·simp only [Act.put, List.setIfInBounds_toArray, List.set_cons_zero, List.set_cons_succ, i64_w, i32_w]
   rfl
  refine pure_ (i := 9) (N := some 16) (v := undef) (a' := ?_) (bs 27 1023) rfl rfl (any_of HT_.out (by kernel_rfl)) (fun _ _ _ h => h) (Or.inr ⟨by rfl, rfl⟩) ?_ ?_
  rotate_left
  ·simp only [Act.put, List.setIfInBounds_toArray, List.set_cons_zero, List.set_cons_succ, i64_w, i32_w]
   rfl
  refine pu_ HT_ 10 17 (bs 27 2047) ?_
  refine pu_ HT_ 11 18 (bs 27 4095) ?_
  refine pure_ (i := 12) (N := some 19) (v := undef) (a' := ?_) (bs 27 8191) rfl rfl (any_of HT_.out (by kernel_rfl)) (fun _ _ _ h => h) (Or.inr ⟨by rfl, rfl⟩) ?_ ?_
  rotate_left
  ·simp only [Act.put, List.setIfInBounds_toArray, List.set_cons_zero, List.set_cons_succ, i64_w, i32_w]
   rfl
  refine pure_ (i := 13) (N := some 20) (v := undef) (a' := ?_) (bs 27 16383) rfl rfl (any_of HT_.out (by kernel_rfl)) (fun _ _ _ h => h) (Or.inr ⟨by rfl, rfl⟩) ?_ ?_
  rotate_left
  ·simp only [Act.put, List.setIfInBounds_toArray, List.set_cons_zero, List.set_cons_succ, i64_w, i32_w]
   rfl
  refine pure_ (i := 14) (N := some 21) (v := undef) (a' := ?_) (bs 27 32767) rfl rfl (any_of HT_.out (by kernel_rfl)) (fun _ _ _ h => h) (Or.inr ⟨by rfl, rfl⟩) ?_ ?_
  rotate_left
  ·simp only [Act.put, List.setIfInBounds_toArray, List.set_cons_zero, List.set_cons_succ, i64_w, i32_w]
   rfl
  refine pure_ (i := 15) (N := some 22) (v := undef) (a' := ?_) (bs 27 65535) rfl rfl (any_of HT_.out (by kernel_rfl)) (fun _ _ _ h => h) (Or.inr ⟨by rfl, rfl⟩) ?_ ?_
  rotate_left
  ·simp only [Act.put, List.setIfInBounds_toArray, List.set_cons_zero, List.set_cons_succ, i64_w, i32_w]
   rfl
  refine pure_ (i := 16) (N := some 23) (v := undef) (a' := ?_) (bs 27 131071) rfl rfl (any_of HT_.out (by kernel_rfl)) (fun _ _ _ h => h) (Or.inr ⟨by rfl, rfl⟩) ?_ ?_
  rotate_left
  ·simp only [Act.put, List.setIfInBounds_toArray, List.set_cons_zero, List.set_cons_succ, i64_w, i32_w]
   rfl
  refine pure_ (i := 17) (N := some 24) (v := undef) (a' := ?_) (bs 27 262143) rfl rfl (any_of HT_.out (by kernel_rfl)) (fun _ _ _ h => h) (Or.inr ⟨by rfl, rfl⟩) ?_ ?_
  rotate_left
  ·simp only [Act.put, List.setIfInBounds_toArray, List.set_cons_zero, List.set_cons_succ, i64_w, i32_w]
   rfl
  refine pure_ (i := 18) (N := some 25) (v := undef) (a' := ?_) (bs 27 524287) rfl rfl (any_of HT_.out (by kernel_rfl)) (fun _ _ _ h => h) (Or.inr ⟨by rfl, rfl⟩) ?_ ?_
  rotate_left
  ·simp only [Act.put, List.setIfInBounds_toArray, List.set_cons_zero, List.set_cons_succ, i64_w, i32_w]
   rfl
  refine pure_ (i := 19) (N := some 26) (v := undef) (a' := ?_) (bs 27 1048575) rfl rfl (any_of HT_.out (by kernel_rfl)) (fun _ _ _ h => h) (Or.inr ⟨by rfl, rfl⟩) ?_ ?_
  rotate_left
  ·simp only [Act.put, List.setIfInBounds_toArray, List.set_cons_zero, List.set_cons_succ, i64_w, i32_w]
   rfl
  refine pure_ (i := 20) (N := some 27) (v := undef) (a' := ?_) (bs 27 2097151) rfl rfl (any_of HT_.out (by kernel_rfl)) (fun _ _ _ h => h) (Or.inr ⟨by rfl, rfl⟩) ?_ ?_
  rotate_left
  ·simp only [Act.put, List.setIfInBounds_toArray, List.set_cons_zero, List.set_cons_succ, i64_w, i32_w]
   rfl
  refine pure_ (i := 21) (N := some 28) (v := undef) (a' := ?_) (bs 27 4194303) rfl rfl (any_of HT_.out (by kernel_rfl)) (fun _ _ _ h => h) (Or.inr ⟨by rfl, rfl⟩) ?_ ?_
  rotate_left
  ·simp only [Act.put, List.setIfInBounds_toArray, List.set_cons_zero, List.set_cons_succ, i64_w, i32_w]
   rfl
  refine pure_ (i := 22) (N := some 29) (v := undef) (a' := ?_) (bs 27 8388607) rfl rfl (any_of HT_.out (by kernel_rfl)) (fun _ _ _ h => h) (Or.inr ⟨by rfl, rfl⟩) ?_ ?_
  rotate_left
  ·simp only [Act.put, List.setIfInBounds_toArray, List.set_cons_zero, List.set_cons_succ, i64_w, i32_w]
   rfl
  refine pure_ (i := 23) (N := some 30) (v := undef) (a' := ?_) (bs 27 16777215) rfl rfl (any_of HT_.out (by kernel_rfl)) (fun _ _ _ h => h) (Or.inr ⟨by rfl, rfl⟩) ?_ ?_
  rotate_left
  ·simp only [Act.put, List.setIfInBounds_toArray, List.set_cons_zero, List.set_cons_succ, i64_w, i32_w]
   rfl
  refine pure_ (i := 24) (N := some 31) (v := undef) (a' := ?_) (bs 27 33554431) rfl rfl (any_of HT_.out (by kernel_rfl)) (fun _ _ _ h => h) (Or.inr ⟨by rfl, rfl⟩) ?_ ?_
  rotate_left
  ·simp only [Act.put, List.setIfInBounds_toArray, List.set_cons_zero, List.set_cons_succ, i64_w, i32_w]
   rfl
  refine pu_ HT_ 25 32 (bs 27 67108863) ?_
  refine pu_ HT_ 26 6 (bs 27 134217727) ?_
  refine done_ (done_of HT_.out (by kernel_rfl)) ?_
  try go_wp2
  go_ret
  exact ⟨by first | rfl | (simp [errW_none, errW_some] <;> rfl) | (simp [*, errW_none, errW_some] <;> rfl), bv1_ HB GE775⟩


/-! ### spec_CertificateAt: function 58 -/
def spec_CertificateAt.f (k : Nat) (a0_0 : Int) (a0_1 : Int) (a1 : Int) : Option (Int) := (spec_l9In.f a0_0 a0_1 a1).bind fun t779 => (if t779 = true then ((spec_l9Set.f k a0_0 a0_1 a1).bind fun t780 => ((spec_l2Count.f k t780).bind fun t781 => (some t781))) else (some (-1)))
theorem spec_CertificateAt.mono : ∀ a0 a1 a2 k, LeO (spec_CertificateAt.f k a0 a1 a2) (spec_CertificateAt.f (k + 1) a0 a1 a2) := by
 intro a0 a1 a2 k
 unfold spec_CertificateAt.f
 repeat' first
   | (with_reducible exact spec_l2Count.mono _ _)
   | (with_reducible exact spec_l9Set.mono _ _ _ _)
   | (with_reducible exact LeO.refl _)
   | (with_reducible exact LeO.none _)
   | (with_reducible refine LeO.ite ?_ ?_)
   | (with_reducible refine LeO.bind ?_ (fun _ => ?_))
   | exact spec_l2Count.mono _ _
   | exact spec_l9Set.mono _ _ _ _
   | exact LeO.none _
   | refine LeO.ite ?_ ?_
   | refine LeO.bind ?_ (fun _ => ?_)
set_option maxHeartbeats 8000000 in
set_option maxRecDepth 100000 in
theorem spec_CertificateAt.calls (k : Nat) (a0_0 : Int) (a0_1 : Int) (a1 : Int) (r : Int) (w : World) (h : spec_CertificateAt.f k a0_0 a0_1 a1 = some r) :
  Calls Try.prog 58 #[.agg #[.int .i64 a0_0, .int .i64 a0_1], .int .i64 a1] w fun e w' => e = .returned (.int .i64 r) ∧ Below w.heap.size w w' := by
 have hu25 := Try.underlying25
 have HB := Aside0.mk (Below.refl w.heap.size w)
 have H : ((spec_l9In.f a0_0 a0_1 a1).bind fun t779 => (if t779 = true then ((spec_l9Set.f k a0_0 a0_1 a1).bind fun t780 => ((spec_l2Count.f k t780).bind fun t781 => (some t781))) else (some (-1)))) = some r := h
 clear h
 replace H := Option.bind_eq_some_iff.mp H
 obtain ⟨t779, A30, H⟩ := H
 have A3 := Aside0.mk A30
 clear A30
 by_cases c4 : t779 = true
 ·subst c4
  rw [if_pos rfl] at H
  replace H := Option.bind_eq_some_iff.mp H
  obtain ⟨t780, A50, H⟩ := H
  have A5 := Aside0.mk A50
  clear A50
  replace H := Option.bind_eq_some_iff.mp H
  obtain ⟨t781, A60, H⟩ := H
  have A6 := Aside0.mk A60
  clear A60
  obtain rfl := Option.some.inj H
  go_enter Try.func58, Try.ntmps58
  go_wp2_with (first | ((with_reducible refine gate_dst (N := 2) rfl ?_); refine bx_ 2 #[.int .i64 a0_0, .int .i64 a0_1] 25 ?_; intro gb778 hg w7 hbox hb; have BK778 := Aside0.mk (hbox); have GW778 := gw_ hg (below_size (bv_ HB)); have GE778 := GW778; replace HB := Aside0.mk (below_step (bv_ HB) hb); clear hb hbox hg; obtain ⟨hcz8_0, hcz8_1, hfz8_0, hfz8_1⟩ := c2_ BK778) | ((with_reducible refine gate_callee (f := 79) rfl ?_); refine gl_ 7 Try.func79 #[.agg #[.int .i64 a0_0, .int .i64 a0_1], .int .i64 a1] rfl mp_ ?_; (with_reducible refine (spec_l9In.calls a0_0 a0_1 a1 true _ A3.out).mono ?_); rintro e w9 ⟨rfl, hb⟩; refine ⟨_, rfl, ?_⟩; replace BK778 := kb_ BK778 hb; replace HB := Aside0.mk (below_step (bv1_ HB GE778) hb); (try clear hb); (try clear hb2); (try clear hk); (try clear hi); obtain ⟨hcz10_0, hcz10_1, hfz10_0, hfz10_1⟩ := c2_ BK778) | ((with_reducible refine gate_callee (f := 80) rfl ?_); refine gl_ 11 Try.func80 #[.agg #[.int .i64 a0_0, .int .i64 a0_1], .int .i64 a1] rfl mp_ ?_; (with_reducible refine (spec_l9Set.calls k a0_0 a0_1 a1 t780 _ A5.out).mono ?_); rintro e w11 ⟨rfl, hb⟩; refine ⟨_, rfl, ?_⟩; replace BK778 := kb_ BK778 hb; replace HB := Aside0.mk (below_step (bv1_ HB GE778) hb); (try clear hb); (try clear hb2); (try clear hk); (try clear hi)) | ((with_reducible refine gate_callee (f := 69) rfl ?_); refine gl_ 12 Try.func69 #[.int .i64 t780] rfl mp_ ?_; (with_reducible refine (spec_l2Count.calls k t780 t781 _ A6.out).mono ?_); rintro e w' ⟨rfl, ⟨nd, rfl⟩⟩; refine ⟨_, rfl, ?_⟩))
  go_ret
  exact ⟨by first | rfl | (simp [errW_none, errW_some] <;> rfl) | (simp [*, errW_none, errW_some] <;> rfl), bv1_ HB GE778⟩
 ·replace c4 := Bool.eq_false_iff.mpr c4
  subst c4
  rw [if_neg (show ¬ (false = true) by decide)] at H
  obtain rfl := Option.some.inj H
  go_enter Try.func58, Try.ntmps58
  go_wp2_with (first | ((with_reducible refine gate_dst (N := 2) rfl ?_); refine bx_ 2 #[.int .i64 a0_0, .int .i64 a0_1] 25 ?_; intro gb778 hg w12 hbox hb; have BK778 := Aside0.mk (hbox); have GW778 := gw_ hg (below_size (bv_ HB)); have GE778 := GW778; replace HB := Aside0.mk (below_step (bv_ HB) hb); clear hb hbox hg; obtain ⟨hcz13_0, hcz13_1, hfz13_0, hfz13_1⟩ := c2_ BK778) | ((with_reducible refine gate_callee (f := 79) rfl ?_); refine gl_ 7 Try.func79 #[.agg #[.int .i64 a0_0, .int .i64 a0_1], .int .i64 a1] rfl mp_ ?_; (with_reducible refine (spec_l9In.calls a0_0 a0_1 a1 false _ A3.out).mono ?_); rintro e w14 ⟨rfl, hb⟩; refine ⟨_, rfl, ?_⟩; replace BK778 := kb_ BK778 hb; replace HB := Aside0.mk (below_step (bv1_ HB GE778) hb); (try clear hb); (try clear hb2); (try clear hk); (try clear hi)))
  go_ret
  exact ⟨by first | rfl | (simp [errW_none, errW_some] <;> rfl) | (simp [*, errW_none, errW_some] <;> rfl), bv1_ HB GE778⟩


/-! ### spec_CertificateOf: function 49 -/
mutual
def spec_CertificateOf.j0 : Nat → Int → Bool → Int → Int → Option (Int)
 | 0, _, _, _, _ => none
 | k + 1, x1, x14, x783000, x783001 => if x14 = true then (some (-1)) else (spec_CertificateOf.l0 k x1 0 0 x783000 x783001)
def spec_CertificateOf.l0 : Nat → Int → Int → Int → Int → Int → Option (Int)
 | 0, _, _, _, _, _ => none
 | k + 1, x1, x5, x6, x783000, x783001 => if 0 ≤ x783000 then (if x6 < (shl .i64 1 x783000) then (if 0 ≤ x6 then (if (Go.bits .and .i64 (shr .i64 x783001 x6) 1) = x1 then ((spec_CertificateAt.f k x783000 x783001 x6).bind fun t785 => (spec_CertificateOf.l0 k x1 (mx x5 t785) (wrap64 (x6 + 1)) x783000 x783001)) else (spec_CertificateOf.l0 k x1 x5 (wrap64 (x6 + 1)) x783000 x783001)) else (none)) else (some x5)) else (none)
end
def spec_CertificateOf.f (k : Nat) (a0_0 : Int) (a0_1 : Int) (a1 : Int) : Option (Int) := (spec_IsTable.f a0_0 a0_1).bind fun t783 => (if t783 = true then ((spec_l1In.f a1 0 1).bind fun t784 => (spec_CertificateOf.j0 k a1 (!t784) a0_0 a0_1)) else (spec_CertificateOf.j0 k a1 true a0_0 a0_1))
theorem spec_CertificateOf.mono_l : ∀ k, (∀ y0 y1 y2 y3, LeO (spec_CertificateOf.j0 k y0 y1 y2 y3) (spec_CertificateOf.j0 (k + 1) y0 y1 y2 y3)) ∧ (∀ y0 y1 y2 y3 y4, LeO (spec_CertificateOf.l0 k y0 y1 y2 y3 y4) (spec_CertificateOf.l0 (k + 1) y0 y1 y2 y3 y4))
 | 0 => ⟨fun _ _ _ _ r h => by simp [spec_CertificateOf.j0] at h, fun _ _ _ _ _ r h => by simp [spec_CertificateOf.l0] at h⟩
 | k + 1 => by
  obtain ⟨ih0, ih1⟩ := spec_CertificateOf.mono_l k
  refine ⟨?_, ?_⟩
  ·intro y0 y1 y2 y3
   unfold spec_CertificateOf.j0
   repeat' first
   | (with_reducible exact ih0 _ _ _ _)
   | (with_reducible exact ih1 _ _ _ _ _)
   | (with_reducible exact spec_CertificateAt.mono _ _ _ _)
   | (with_reducible exact LeO.refl _)
   | (with_reducible exact LeO.none _)
   | (with_reducible refine LeO.ite ?_ ?_)
   | (with_reducible refine LeO.bind ?_ (fun _ => ?_))
   | exact ih0 _ _ _ _
   | exact ih1 _ _ _ _ _
   | exact spec_CertificateAt.mono _ _ _ _
   | exact LeO.none _
   | refine LeO.ite ?_ ?_
   | refine LeO.bind ?_ (fun _ => ?_)
  ·intro y0 y1 y2 y3 y4
   unfold spec_CertificateOf.l0
   repeat' first
   | (with_reducible exact ih0 _ _ _ _)
   | (with_reducible exact ih1 _ _ _ _ _)
   | (with_reducible exact spec_CertificateAt.mono _ _ _ _)
   | (with_reducible exact LeO.refl _)
   | (with_reducible exact LeO.none _)
   | (with_reducible refine LeO.ite ?_ ?_)
   | (with_reducible refine LeO.bind ?_ (fun _ => ?_))
   | exact ih0 _ _ _ _
   | exact ih1 _ _ _ _ _
   | exact spec_CertificateAt.mono _ _ _ _
   | exact LeO.none _
   | refine LeO.ite ?_ ?_
   | refine LeO.bind ?_ (fun _ => ?_)
theorem spec_CertificateOf.mono : ∀ a0 a1 a2 k, LeO (spec_CertificateOf.f k a0 a1 a2) (spec_CertificateOf.f (k + 1) a0 a1 a2) := by
 intro a0 a1 a2 k
 obtain ⟨ih0, ih1⟩ := spec_CertificateOf.mono_l k
 unfold spec_CertificateOf.f
 repeat' first
   | (with_reducible exact ih0 _ _ _ _)
   | (with_reducible exact ih1 _ _ _ _ _)
   | (with_reducible exact spec_CertificateAt.mono _ _ _ _)
   | (with_reducible exact LeO.refl _)
   | (with_reducible exact LeO.none _)
   | (with_reducible refine LeO.ite ?_ ?_)
   | (with_reducible refine LeO.bind ?_ (fun _ => ?_))
   | exact ih0 _ _ _ _
   | exact ih1 _ _ _ _ _
   | exact spec_CertificateAt.mono _ _ _ _
   | exact LeO.none _
   | refine LeO.ite ?_ ?_
   | refine LeO.bind ?_ (fun _ => ?_)
set_option maxHeartbeats 8000000 in
set_option maxRecDepth 100000 in
theorem spec_CertificateOf.calls (k : Nat) (a0_0 : Int) (a0_1 : Int) (a1 : Int) (r : Int) (w : World) (h : spec_CertificateOf.f k a0_0 a0_1 a1 = some r) :
  Calls Try.prog 49 #[.agg #[.int .i64 a0_0, .int .i64 a0_1], .int .i64 a1] w fun e w' => e = .returned (.int .i64 r) ∧ Below w.heap.size w w' := by
 have hu25 := Try.underlying25
 have HB := Aside0.mk (Below.refl w.heap.size w)
 have H : ((spec_IsTable.f a0_0 a0_1).bind fun t783 => (if t783 = true then ((spec_l1In.f a1 0 1).bind fun t784 => (spec_CertificateOf.j0 k a1 (!t784) a0_0 a0_1)) else (spec_CertificateOf.j0 k a1 true a0_0 a0_1))) = some r := h
 clear h
 have HC3 := Aside0.mk H
 clear H
 go_enter Try.func49, Try.ntmps49
 go_upto_region 1 with (first | ((with_reducible refine gate_dst (N := 2) rfl ?_); refine bx_ 2 #[.int .i64 a0_0, .int .i64 a0_1] 25 ?_; intro gb782 hg w4 hbox hb; have n0_ := Aside0.mk (below_step (bv_ HB) hb); have n1_ := Aside0.mk (hbox); have n2_ := gw_ hg (below_size (bv_ HB)); have n3_ := gw_ hg (below_size (bv_ HB)); clear HB; have HB := n0_; have BK782 := n1_; have GW782 := n2_; have GE782 := n3_; clear n0_ n1_ n2_ n3_; clear hb hbox hg))
 (try simp only [Act.put, List.setIfInBounds_toArray, List.set_cons_zero, List.set_cons_succ])
 go_cut [14] (fun v14 wc => ∃ (kq : Nat) (x14_2 : Bool), v14 = .bool x14_2 ∧ Aside0 (spec_CertificateOf.j0 kq a1 x14_2 a0_0 a0_1 = some r) ∧ Aside0 (kq ≤ k) ∧ Aside0 (wc.heap[gb782]? = some (.cells #[.int .i64 a0_0, .int .i64 a0_1] 25 (0, 0))) ∧ Aside0 (Below w.heap.size w wc))
 case first =>
  have H := HC3.out
  clear HC3
  replace H := Option.bind_eq_some_iff.mp H
  obtain ⟨t783, A50, H⟩ := H
  have A5 := Aside0.mk A50
  clear A50
  by_cases c6 : t783 = true
  ·subst c6
   rw [if_pos rfl] at H
   replace H := Option.bind_eq_some_iff.mp H
   obtain ⟨t784, A70, H⟩ := H
   have A7 := Aside0.mk A70
   clear A70
   have H' := Aside0.mk H
   clear H
   obtain ⟨hcz8_0, hcz8_1, hfz8_0, hfz8_1⟩ := c2_ BK782
   go_wp2_with (first | ((with_reducible refine gate_callee (f := 67) rfl ?_); refine gl_ 8 Try.func67 #[.agg #[.int .i64 a0_0, .int .i64 a0_1]] rfl mp_ ?_; (with_reducible refine (spec_IsTable.calls a0_0 a0_1 true _ A5.out).mono ?_); rintro e w9 ⟨rfl, hb⟩; refine ⟨_, rfl, ?_⟩; have n0_ := kb_ BK782 hb; have n1_ := Aside0.mk (below_step (bv1_ HB GE782) hb); clear BK782; clear HB; have BK782 := n0_; have HB := n1_; clear n0_ n1_; (try clear hb); (try clear hb2); (try clear hk); (try clear hi)) | (go_at_call 75; (with_reducible refine (spec_l1In.calls a1 0 1 t784 _ A7.out).mono ?_); rintro e w' ⟨rfl, ⟨nd, rfl⟩⟩))
   go_meet
   case rel => exact ⟨_, (!t784), (by first | rfl | (simp; done) | (simp [*]; done)), H', ⟨by first | omega | exact Nat.le_refl _⟩, ⟨by (with_reducible repeat (first | refine blk_drewN ?_ _ | refine blk_drew ?_ | refine blk_alloc ?_ _)); exact BK782.out⟩, ⟨bv1_ HB GE782⟩⟩
  ·replace c6 := Bool.eq_false_iff.mpr c6
   subst c6
   rw [if_neg (show ¬ (false = true) by decide)] at H
   have H' := Aside0.mk H
   clear H
   obtain ⟨hcz10_0, hcz10_1, hfz10_0, hfz10_1⟩ := c2_ BK782
   go_wp2_with (first | ((with_reducible refine gate_callee (f := 67) rfl ?_); refine gl_ 8 Try.func67 #[.agg #[.int .i64 a0_0, .int .i64 a0_1]] rfl mp_ ?_; (with_reducible refine (spec_IsTable.calls a0_0 a0_1 false _ A5.out).mono ?_); rintro e w11 ⟨rfl, hb⟩; refine ⟨_, rfl, ?_⟩; have n0_ := kb_ BK782 hb; have n1_ := Aside0.mk (below_step (bv1_ HB GE782) hb); clear BK782; clear HB; have BK782 := n0_; have HB := n1_; clear n0_ n1_; (try clear hb); (try clear hb2); (try clear hk); (try clear hi)))
   go_meet
   case rel => exact ⟨_, (true), (by first | rfl | (simp; done) | (simp [*]; done)), H', ⟨by first | omega | exact Nat.le_refl _⟩, ⟨by (with_reducible repeat (first | refine blk_drewN ?_ _ | refine blk_drew ?_ | refine blk_alloc ?_ _)); exact BK782.out⟩, ⟨bv1_ HB GE782⟩⟩
 case rest =>
  clear HC3
  try clear p2
  try clear c4
  try clear c6
  try clear hcz10_0
  try clear hcz10_1
  try clear hcz8_0
  try clear hcz8_1
  try clear hfz10_0
  try clear hfz10_1
  try clear hfz8_0
  try clear hfz8_1
  obtain ⟨kq, x14_2, rfl, HA, HJ2, BK782, HB⟩ := hcut
  cases kq with
  | zero => exact absurd HA.out (by simp [spec_CertificateOf.j0])
  | succ kj2 =>
   have H := HA.out
   clear HA
   simp only [spec_CertificateOf.j0] at H
   by_cases c12 : x14_2 = true
   ·subst c12
    rw [if_pos rfl] at H
    obtain rfl := Option.some.inj H
    go_wp2
    go_ret
    exact ⟨by first | rfl | (simp [errW_none, errW_some] <;> rfl) | (simp [*, errW_none, errW_some] <;> rfl), bv1_ HB GE782⟩
   ·replace c12 := Bool.eq_false_iff.mpr c12
    subst c12
    rw [if_neg (show ¬ (false = true) by decide)] at H
    have H' := Aside0.mk H
    clear H
    go_wp2
    go_loopg [5, 6] kj2 (fun kq v5 v6 w' => ∃ (x5_2 : Int) (x6_2 : Int), v5 = .int .i64 x5_2 ∧ v6 = .int .i64 x6_2 ∧ Aside0 (spec_CertificateOf.l0 kq a1 x5_2 x6_2 a0_0 a0_1 = some r) ∧ Aside0 (kq ≤ kj2) ∧ Aside0 (w'.heap[gb782]? = some (.cells #[.int .i64 a0_0, .int .i64 a0_1] 25 (0, 0))) ∧ Aside0 (Below w.heap.size w w'))
    case atStart => exact ⟨(0), (0), (by first | rfl | (simp; done) | (simp [*]; done)), (by first | rfl | (simp; done) | (simp [*]; done)), H', ⟨Nat.le_refl _⟩, ⟨by (with_reducible repeat (first | refine blk_drewN ?_ _ | refine blk_drew ?_ | refine blk_alloc ?_ _)); exact BK782.out⟩, ⟨bv1_ HB GE782⟩⟩
    case round =>
     clear H'
     try clear c1
     try clear p2
     try clear c4
     try clear c6
     try clear c12
     try clear hcz10_0
     try clear hcz10_1
     try clear hcz8_0
     try clear hcz8_1
     try clear hfz10_0
     try clear hfz10_1
     try clear hfz8_0
     try clear hfz8_1
     try clear p2
     obtain ⟨x5_2, x6_2, rfl, rfl, HA, HK2, BK782, HB⟩ := hrel
     cases gk with
     | zero => exact absurd HA.out (by simp [spec_CertificateOf.l0])
     | succ k2 =>
      have H := HA.out
      clear HA
      simp only [spec_CertificateOf.l0] at H
      by_cases c13 : 0 ≤ a0_0
      ·rw [if_pos c13] at H
       have c13b0 := eq_true c13
       have c13b1 : decide (0 ≤ a0_0) = true := decide_eq_true c13
       clear c13
       obtain ⟨ji14, hji14⟩ : ∃ j_ : Int, (shl .i64 1 a0_0) = j_ := ⟨_, rfl⟩
       replace H : (if x6_2 < (ji14) then (if 0 ≤ x6_2 then (if (Go.bits .and .i64 (shr .i64 a0_1 x6_2) 1) = a1 then ((spec_CertificateAt.f k2 a0_0 a0_1 x6_2).bind fun t785 => (spec_CertificateOf.l0 k2 a1 (mx x5_2 t785) (wrap64 (x6_2 + 1)) a0_0 a0_1)) else (spec_CertificateOf.l0 k2 a1 x5_2 (wrap64 (x6_2 + 1)) a0_0 a0_1)) else (none)) else (some x5_2)) = some r := by first | (rw [hji14] at H; exact H) | (simp only [hji14] at H ⊢; exact H)
       have hji14_ : (IntKind.i64.wrap (1 * 2 ^ min a0_0.toNat 64)) = ji14 := hji14
       have hji14z : a0_0 ≤ 64 → (IntKind.i64.wrap (1 * 2 ^ a0_0.toNat)) = ji14 := shl_small hji14
       have hji14u : (IntKind.i64.wrap (2 ^ min a0_0.toNat 64)) = ji14 := by have h_ := hji14_; rw [Int.one_mul] at h_; exact h_
       have hji14v : a0_0 ≤ 64 → (IntKind.i64.wrap (2 ^ a0_0.toNat)) = ji14 := fun hle_ => by have h_ := hji14z hle_; rw [Int.one_mul] at h_; exact h_
       have hji14y : (wrap64 (1 * 2 ^ min a0_0.toNat 64)) = ji14 := (i64_w _).symm.trans hji14_
       have hji14x : a0_0 ≤ 64 → (wrap64 (1 * 2 ^ a0_0.toNat)) = ji14 := fun h_ => (i64_w _).symm.trans (hji14z h_)
       by_cases c15 : x6_2 < (ji14)
       ·rw [if_pos c15] at H
        have c15b0 : decide (x6_2 < (ji14)) = true := decide_eq_true c15
        clear c15
        by_cases c16 : 0 ≤ x6_2
        ·rw [if_pos c16] at H
         have c16b0 := eq_true c16
         have c16b1 : decide (0 ≤ x6_2) = true := decide_eq_true c16
         clear c16
         obtain ⟨ji17, hji17⟩ : ∃ j_ : Int, (shr .i64 a0_1 x6_2) = j_ := ⟨_, rfl⟩
         replace H : (if (Go.bits .and .i64 (ji17) 1) = a1 then ((spec_CertificateAt.f k2 a0_0 a0_1 x6_2).bind fun t785 => (spec_CertificateOf.l0 k2 a1 (mx x5_2 t785) (wrap64 (x6_2 + 1)) a0_0 a0_1)) else (spec_CertificateOf.l0 k2 a1 x5_2 (wrap64 (x6_2 + 1)) a0_0 a0_1)) = some r := by first | (rw [hji17] at H; exact H) | (simp only [hji17] at H ⊢; exact H)
         have hji17_ : (a0_1 / 2 ^ min x6_2.toNat 64) = ji17 := hji17
         have hji17z : x6_2 ≤ 64 → (a0_1 / 2 ^ x6_2.toNat) = ji17 := shr_small hji17
         by_cases c18 : (Go.bits .and .i64 (ji17) 1) = a1
         ·rw [if_pos c18] at H
          have c18b0 : ((Go.bits .and .i64 (ji17) 1) == a1) = true := beq_iff_eq.mpr c18
          have c18b1 : ((Go.bits .and .i64 (ji17) 1) != a1) = false := bne_eq_false_iff_eq.mpr c18
          clear c18
          replace H := Option.bind_eq_some_iff.mp H
          obtain ⟨t785, A190, H⟩ := H
          have A19 := Aside0.mk A190
          clear A190
          obtain ⟨ji20, hji20⟩ : ∃ j_ : Int, (mx x5_2 t785) = j_ := ⟨_, rfl⟩
          replace H : (spec_CertificateOf.l0 k2 a1 ji20 (wrap64 (x6_2 + 1)) a0_0 a0_1) = some r := by first | (rw [hji20] at H; exact H) | (simp only [hji20] at H ⊢; exact H)
          (try rw [hji20] at A19)
          have hji20_ : (if x5_2 < t785 then t785 else x5_2) = ji20 := hji20
          have H' := Aside0.mk H
          clear H
          obtain ⟨hcz21_0, hcz21_1, hfz21_0, hfz21_1⟩ := c2_ BK782
          go_wp2_with (first | ((with_reducible refine gate_callee (f := 58) rfl ?_); refine gl_ 32 Try.func58 #[.agg #[.int .i64 a0_0, .int .i64 a0_1], .int .i64 x6_2] rfl mp_ ?_; (with_reducible refine (spec_CertificateAt.calls k2 a0_0 a0_1 x6_2 t785 _ A19.out).mono ?_); rintro e w22 ⟨rfl, hb⟩; refine ⟨_, rfl, ?_⟩; have n0_ := kb_ BK782 hb; have n1_ := Aside0.mk (below_step (bv1_ HB GE782) hb); clear BK782; clear HB; have BK782 := n0_; have HB := n1_; clear n0_ n1_; (try clear hb); (try clear hb2); (try clear hk); (try clear hi)))
          go_roundg k2
          case measure => have := HJ2.out; have := HK2.out; omega
          case rel => exact ⟨(ji20), (wrap64 (x6_2 + 1)), (by first | rfl | (simp; done) | (simp only [← hji20] <;> (first | rfl | simp)) | (simp [*]; done)), (by first | rfl | (simp; done) | (simp [*]; done)), H', ⟨by have := HJ2.out; have := HK2.out; omega⟩, ⟨by (with_reducible repeat (first | refine blk_drewN ?_ _ | refine blk_drew ?_ | refine blk_alloc ?_ _)); exact BK782.out⟩, ⟨bv1_ HB GE782⟩⟩
         ·rw [if_neg c18] at H
          have c18b0 : ((Go.bits .and .i64 (ji17) 1) == a1) = false := beq_eq_false_iff_ne.mpr c18
          have c18b1 : ((Go.bits .and .i64 (ji17) 1) != a1) = true := bne_iff_ne.mpr c18
          have H' := Aside0.mk H
          clear H
          obtain ⟨hcz23_0, hcz23_1, hfz23_0, hfz23_1⟩ := c2_ BK782
          go_wp2
          go_roundg k2
          case measure => have := HJ2.out; have := HK2.out; omega
          case rel => exact ⟨(x5_2), (wrap64 (x6_2 + 1)), (by first | rfl | (simp; done) | (simp [*]; done)), (by first | rfl | (simp; done) | (simp [*]; done)), H', ⟨by have := HJ2.out; have := HK2.out; omega⟩, ⟨by (with_reducible repeat (first | refine blk_drewN ?_ _ | refine blk_drew ?_ | refine blk_alloc ?_ _)); exact BK782.out⟩, ⟨bv1_ HB GE782⟩⟩
        ·rw [if_neg c16] at H
         exact absurd H (by simp)
       ·rw [if_neg c15] at H
        have c15b0 : decide (x6_2 < (ji14)) = false := decide_eq_false c15
        clear c15
        obtain rfl := Option.some.inj H
        obtain ⟨hcz24_0, hcz24_1, hfz24_0, hfz24_1⟩ := c2_ BK782
        go_wp2
        go_ret
        exact ⟨by first | rfl | (simp [errW_none, errW_some] <;> rfl) | (simp only [← hji14]; first | rfl | (simp [errW_none, errW_some] <;> rfl)) | (simp [*, errW_none, errW_some] <;> rfl), bv1_ HB GE782⟩
      ·rw [if_neg c13] at H
       exact absurd H (by simp)


/-! ### impl_BlockSensitivityOf: function 50 -/
def impl_BlockSensitivityOf.l0 : Nat → Int → Int → Int → Int → Int → Option (Int)
 | 0, _, _, _, _, _ => none
 | k + 1, x3, x9, x10, x787000, x787001 => if x10 < x9 then ((impl_Table_apart.f k x787000 x787001 x10).bind fun t789 => (impl_BlockSensitivityOf.l0 k (mx x3 t789) x9 (wrap64 (x10 + 1)) x787000 x787001)) else (some x3)
def impl_BlockSensitivityOf.f (k : Nat) (a0_0 : Int) (a0_1 : Int) : Option (Int) := (impl_IsTable.f a0_0 a0_1).bind fun t787 => (if t787 = true then ((impl_Table_size.f a0_0 a0_1).bind fun t788 => (impl_BlockSensitivityOf.l0 k 0 t788 0 a0_0 a0_1)) else (some (-1)))
theorem impl_BlockSensitivityOf.mono_l : ∀ k, (∀ y0 y1 y2 y3 y4, LeO (impl_BlockSensitivityOf.l0 k y0 y1 y2 y3 y4) (impl_BlockSensitivityOf.l0 (k + 1) y0 y1 y2 y3 y4))
 | 0 => fun _ _ _ _ _ r h => by simp [impl_BlockSensitivityOf.l0] at h
 | k + 1 => by
  have ih0 := impl_BlockSensitivityOf.mono_l k
  ·intro y0 y1 y2 y3 y4
   unfold impl_BlockSensitivityOf.l0
   repeat' first
   | (with_reducible exact ih0 _ _ _ _ _)
   | (with_reducible exact impl_Table_apart.mono _ _ _ _)
   | (with_reducible exact LeO.refl _)
   | (with_reducible exact LeO.none _)
   | (with_reducible refine LeO.ite ?_ ?_)
   | (with_reducible refine LeO.bind ?_ (fun _ => ?_))
   | exact ih0 _ _ _ _ _
   | exact impl_Table_apart.mono _ _ _ _
   | exact LeO.none _
   | refine LeO.ite ?_ ?_
   | refine LeO.bind ?_ (fun _ => ?_)
theorem impl_BlockSensitivityOf.mono : ∀ a0 a1 k, LeO (impl_BlockSensitivityOf.f k a0 a1) (impl_BlockSensitivityOf.f (k + 1) a0 a1) := by
 intro a0 a1 k
 have ih0 := impl_BlockSensitivityOf.mono_l k
 unfold impl_BlockSensitivityOf.f
 repeat' first
   | (with_reducible exact ih0 _ _ _ _ _)
   | (with_reducible exact impl_Table_apart.mono _ _ _ _)
   | (with_reducible exact LeO.refl _)
   | (with_reducible exact LeO.none _)
   | (with_reducible refine LeO.ite ?_ ?_)
   | (with_reducible refine LeO.bind ?_ (fun _ => ?_))
   | exact ih0 _ _ _ _ _
   | exact impl_Table_apart.mono _ _ _ _
   | exact LeO.none _
   | refine LeO.ite ?_ ?_
   | refine LeO.bind ?_ (fun _ => ?_)
set_option maxHeartbeats 8000000 in
set_option maxRecDepth 100000 in
theorem impl_BlockSensitivityOf.calls (k : Nat) (a0_0 : Int) (a0_1 : Int) (r : Int) (w : World) (h : impl_BlockSensitivityOf.f k a0_0 a0_1 = some r) :
  Calls Try.prog 50 #[.agg #[.int .i64 a0_0, .int .i64 a0_1]] w fun e w' => e = .returned (.int .i64 r) ∧ Below w.heap.size w w' := by
 have hu25 := Try.underlying25
 have HB := Aside0.mk (Below.refl w.heap.size w)
 have H : ((impl_IsTable.f a0_0 a0_1).bind fun t787 => (if t787 = true then ((impl_Table_size.f a0_0 a0_1).bind fun t788 => (impl_BlockSensitivityOf.l0 k 0 t788 0 a0_0 a0_1)) else (some (-1)))) = some r := h
 clear h
 replace H := Option.bind_eq_some_iff.mp H
 obtain ⟨t787, A20, H⟩ := H
 have A2 := Aside0.mk A20
 clear A20
 by_cases c3 : t787 = true
 ·subst c3
  rw [if_pos rfl] at H
  replace H := Option.bind_eq_some_iff.mp H
  obtain ⟨t788, A40, H⟩ := H
  have A4 := Aside0.mk A40
  clear A40
  have H' := Aside0.mk H
  clear H
  go_enter Try.func50, Try.ntmps50
  go_wp2_with (first | ((with_reducible refine gate_dst (N := 1) rfl ?_); refine bx_ 1 #[.int .i64 a0_0, .int .i64 a0_1] 25 ?_; intro gb786 hg w5 hbox hb; have BK786 := Aside0.mk (hbox); have GW786 := gw_ hg (below_size (bv_ HB)); have GE786 := GW786; replace HB := Aside0.mk (below_step (bv_ HB) hb); clear hb hbox hg; obtain ⟨hcz6_0, hcz6_1, hfz6_0, hfz6_1⟩ := c2_ BK786) | ((with_reducible refine gate_callee (f := 61) rfl ?_); refine gl_ 6 Try.func61 #[.agg #[.int .i64 a0_0, .int .i64 a0_1]] rfl mp_ ?_; (with_reducible refine (impl_IsTable.calls a0_0 a0_1 true _ A2.out).mono ?_); rintro e w7 ⟨rfl, hb⟩; refine ⟨_, rfl, ?_⟩; replace BK786 := kb_ BK786 hb; replace HB := Aside0.mk (below_step (bv1_ HB GE786) hb); (try clear hb); (try clear hb2); (try clear hk); (try clear hi); obtain ⟨hcz8_0, hcz8_1, hfz8_0, hfz8_1⟩ := c2_ BK786) | ((with_reducible refine gate_callee (f := 65) rfl ?_); refine gl_ 9 Try.func65 #[.agg #[.int .i64 a0_0, .int .i64 a0_1]] rfl mp_ ?_; (with_reducible refine (impl_Table_size.calls a0_0 a0_1 t788 _ A4.out).mono ?_); rintro e w9 ⟨rfl, hb⟩; refine ⟨_, rfl, ?_⟩; replace BK786 := kb_ BK786 hb; replace HB := Aside0.mk (below_step (bv1_ HB GE786) hb); (try clear hb); (try clear hb2); (try clear hk); (try clear hi)))
  go_loopg [3, 10] k (fun kq v3 v10 w' => ∃ (x3_1 : Int) (x10_1 : Int), v3 = .int .i64 x3_1 ∧ v10 = .int .i64 x10_1 ∧ Aside0 (impl_BlockSensitivityOf.l0 kq x3_1 t788 x10_1 a0_0 a0_1 = some r) ∧ Aside0 (kq ≤ k) ∧ Aside0 (w'.heap[gb786]? = some (.cells #[.int .i64 a0_0, .int .i64 a0_1] 25 (0, 0))) ∧ Aside0 (Below w.heap.size w w'))
  case atStart => exact ⟨(0), (0), (by first | rfl | (simp; done) | (simp [*]; done)), (by first | rfl | (simp; done) | (simp [*]; done)), H', ⟨Nat.le_refl _⟩, ⟨by (with_reducible repeat (first | refine blk_drewN ?_ _ | refine blk_drew ?_ | refine blk_alloc ?_ _)); exact BK786.out⟩, ⟨bv1_ HB GE786⟩⟩
  case round =>
   clear H'
   try clear p2
   try clear c3
   try clear c5
   try clear c6
   try clear hcz6_0
   try clear hcz6_1
   try clear hcz8_0
   try clear hcz8_1
   try clear hfz6_0
   try clear hfz6_1
   try clear hfz8_0
   try clear hfz8_1
   obtain ⟨x3_1, x10_1, rfl, rfl, HA, HK1, BK786, HB⟩ := hrel
   cases gk with
   | zero => exact absurd HA.out (by simp [impl_BlockSensitivityOf.l0])
   | succ k1 =>
    have H := HA.out
    clear HA
    simp only [impl_BlockSensitivityOf.l0] at H
    by_cases c10 : x10_1 < t788
    ·rw [if_pos c10] at H
     have c10b0 : decide (x10_1 < t788) = true := decide_eq_true c10
     clear c10
     replace H := Option.bind_eq_some_iff.mp H
     obtain ⟨t789, A110, H⟩ := H
     have A11 := Aside0.mk A110
     clear A110
     obtain ⟨ji12, hji12⟩ : ∃ j_ : Int, (mx x3_1 t789) = j_ := ⟨_, rfl⟩
     replace H : (impl_BlockSensitivityOf.l0 k1 ji12 t788 (wrap64 (x10_1 + 1)) a0_0 a0_1) = some r := by first | (rw [hji12] at H; exact H) | (simp only [hji12] at H ⊢; exact H)
     (try rw [hji12] at A11)
     have hji12_ : (if x3_1 < t789 then t789 else x3_1) = ji12 := hji12
     have H' := Aside0.mk H
     clear H
     obtain ⟨hcz13_0, hcz13_1, hfz13_0, hfz13_1⟩ := c2_ BK786
     go_wp2_with (first | ((with_reducible refine gate_callee (f := 81) rfl ?_); refine gl_ 16 Try.func81 #[.agg #[.int .i64 a0_0, .int .i64 a0_1], .int .i64 x10_1] rfl mp_ ?_; (with_reducible refine (impl_Table_apart.calls k1 a0_0 a0_1 x10_1 t789 _ A11.out).mono ?_); rintro e w14 ⟨rfl, hb⟩; refine ⟨_, rfl, ?_⟩; have n0_ := kb_ BK786 hb; have n1_ := Aside0.mk (below_step (bv1_ HB GE786) hb); clear BK786; clear HB; have BK786 := n0_; have HB := n1_; clear n0_ n1_; (try clear hb); (try clear hb2); (try clear hk); (try clear hi)))
     go_roundg k1
     case measure => have := HK1.out; omega
     case rel => exact ⟨(ji12), (wrap64 (x10_1 + 1)), (by first | rfl | (simp; done) | (simp only [← hji12] <;> (first | rfl | simp)) | (simp [*]; done)), (by first | rfl | (simp; done) | (simp [*]; done)), H', ⟨by have := HK1.out; omega⟩, ⟨by (with_reducible repeat (first | refine blk_drewN ?_ _ | refine blk_drew ?_ | refine blk_alloc ?_ _)); exact BK786.out⟩, ⟨bv1_ HB GE786⟩⟩
    ·rw [if_neg c10] at H
     have c10b0 : decide (x10_1 < t788) = false := decide_eq_false c10
     clear c10
     obtain rfl := Option.some.inj H
     go_wp2
     go_ret
     exact ⟨by first | rfl | (simp [errW_none, errW_some] <;> rfl) | (simp [*, errW_none, errW_some] <;> rfl), bv1_ HB GE786⟩
 ·replace c3 := Bool.eq_false_iff.mpr c3
  subst c3
  rw [if_neg (show ¬ (false = true) by decide)] at H
  obtain rfl := Option.some.inj H
  go_enter Try.func50, Try.ntmps50
  go_wp2_with (first | ((with_reducible refine gate_dst (N := 1) rfl ?_); refine bx_ 1 #[.int .i64 a0_0, .int .i64 a0_1] 25 ?_; intro gb786 hg w15 hbox hb; have BK786 := Aside0.mk (hbox); have GW786 := gw_ hg (below_size (bv_ HB)); have GE786 := GW786; replace HB := Aside0.mk (below_step (bv_ HB) hb); clear hb hbox hg; obtain ⟨hcz16_0, hcz16_1, hfz16_0, hfz16_1⟩ := c2_ BK786) | ((with_reducible refine gate_callee (f := 61) rfl ?_); refine gl_ 6 Try.func61 #[.agg #[.int .i64 a0_0, .int .i64 a0_1]] rfl mp_ ?_; (with_reducible refine (impl_IsTable.calls a0_0 a0_1 false _ A2.out).mono ?_); rintro e w17 ⟨rfl, hb⟩; refine ⟨_, rfl, ?_⟩; replace BK786 := kb_ BK786 hb; replace HB := Aside0.mk (below_step (bv1_ HB GE786) hb); (try clear hb); (try clear hb2); (try clear hk); (try clear hi)))
  go_ret
  exact ⟨by first | rfl | (simp [errW_none, errW_some] <;> rfl) | (simp [*, errW_none, errW_some] <;> rfl), bv1_ HB GE786⟩


/-! ### spec_l10Pack: function 91 -/
mutual
def spec_l10Pack.l0 : Nat → List Int → Int → Int → Int → Option (Int)
 | 0, _, _, _, _ => none
 | k + 1, x0, x2, x7, x8 => if x8 < (x0.length : Int) then (if 0 ≤ x8 then (if (Go.bits .and .i64 (rd x0 x8) x2) = 0 then ((spec_l10Pack.f k x0 (wrap64 (x8 + 1)) (Go.bits .or .i64 x2 (rd x0 x8))).bind fun t792 => (spec_l10Pack.l0 k x0 x2 (mx x7 (wrap64 (1 + t792))) (wrap64 (x8 + 1)))) else (spec_l10Pack.l0 k x0 x2 x7 (wrap64 (x8 + 1)))) else (none)) else (some x7)
def spec_l10Pack.f : Nat → List Int → Int → Int → Option (Int)
 | 0, _, _, _ => none
 | k + 1, l0, a1, a2 => spec_l10Pack.l0 k l0 a2 0 a1
end
theorem spec_l10Pack.mono_l : ∀ k, (∀ y0 y1 y2, LeO (spec_l10Pack.f k y0 y1 y2) (spec_l10Pack.f (k + 1) y0 y1 y2)) ∧ (∀ y0 y1 y2 y3, LeO (spec_l10Pack.l0 k y0 y1 y2 y3) (spec_l10Pack.l0 (k + 1) y0 y1 y2 y3))
 | 0 => ⟨fun _ _ _ r h => by simp [spec_l10Pack.f] at h, fun _ _ _ _ r h => by simp [spec_l10Pack.l0] at h⟩
 | k + 1 => by
  obtain ⟨ih0, ih1⟩ := spec_l10Pack.mono_l k
  refine ⟨?_, ?_⟩
  ·intro y0 y1 y2
   unfold spec_l10Pack.f
   repeat' first
   | (with_reducible exact ih0 _ _ _)
   | (with_reducible exact ih1 _ _ _ _)
   | (with_reducible exact LeO.refl _)
   | (with_reducible exact LeO.none _)
   | (with_reducible refine LeO.ite ?_ ?_)
   | (with_reducible refine LeO.bind ?_ (fun _ => ?_))
   | exact ih0 _ _ _
   | exact ih1 _ _ _ _
   | exact LeO.none _
   | refine LeO.ite ?_ ?_
   | refine LeO.bind ?_ (fun _ => ?_)
  ·intro y0 y1 y2 y3
   unfold spec_l10Pack.l0
   repeat' first
   | (with_reducible exact ih0 _ _ _)
   | (with_reducible exact ih1 _ _ _ _)
   | (with_reducible exact LeO.refl _)
   | (with_reducible exact LeO.none _)
   | (with_reducible refine LeO.ite ?_ ?_)
   | (with_reducible refine LeO.bind ?_ (fun _ => ?_))
   | exact ih0 _ _ _
   | exact ih1 _ _ _ _
   | exact LeO.none _
   | refine LeO.ite ?_ ?_
   | refine LeO.bind ?_ (fun _ => ?_)
theorem spec_l10Pack.mono : ∀ a0 a1 a2 k, LeO (spec_l10Pack.f k a0 a1 a2) (spec_l10Pack.f (k + 1) a0 a1 a2) := by
 intro a0 a1 a2 k
 obtain ⟨ih0, ih1⟩ := spec_l10Pack.mono_l k
 exact ih0 a0 a1 a2
set_option maxHeartbeats 8000000 in
set_option maxRecDepth 100000 in
theorem spec_l10Pack.calls (k : Nat) : ∀ (A0 : Option Addr) (c0 : Nat) (l0 : List Int) (a1 : Int) (a2 : Int) (r : Int) (w : World) (hr0 : Kd.C (Kd.int .i64) w A0 l0.length l0) (hc0 : l0.length ≤ c0) (h : spec_l10Pack.f k l0 a1 a2 = some r),
  Calls Try.prog 91 #[.slice A0 l0.length c0, .int .i64 a1, .int .i64 a2] w fun e w' => e = .returned (.int .i64 r) ∧ Below w.heap.size w w' := by
 induction k using Nat.strongRecOn with
 | _ k ih =>
 intro A0 c0 l0 a1 a2 r w hr0 hc0 h
 cases k with
 | zero => exact absurd h (by simp [spec_l10Pack.f])
 | succ k =>
 simp only [spec_l10Pack.f] at h
 have HR0 := Aside0.mk hr0
 have HC0 := Aside0.mk hc0
 clear hr0 hc0
 have HB := Aside0.mk (Below.refl w.heap.size w)
 have H : (spec_l10Pack.l0 k l0 a2 0 a1) = some r := h
 clear h
 have H' := Aside0.mk H
 clear H
 go_enter Try.func91, Try.ntmps91
 go_wp2
 go_loopg [7, 8] k (fun kq v7 v8 w' => ∃ (x7_1 : Int) (x8_1 : Int), v7 = .int .i64 x7_1 ∧ v8 = .int .i64 x8_1 ∧ Aside0 (spec_l10Pack.l0 kq l0 a2 x7_1 x8_1 = some r) ∧ Aside0 (kq ≤ k) ∧ Aside0 (Below w.heap.size w w'))
 case atStart => exact ⟨(0), (a1), (by first | rfl | (simp; done) | (simp [*]; done)), (by first | rfl | (simp; done) | (simp [*]; done)), H', ⟨Nat.le_refl _⟩, ⟨bv_ HB⟩⟩
 case round =>
  clear H'
  try clear p2
  obtain ⟨x7_1, x8_1, rfl, rfl, HA, HK1, HB⟩ := hrel
  cases gk with
  | zero => exact absurd HA.out (by simp [spec_l10Pack.l0])
  | succ k1 =>
   have H := HA.out
   clear HA
   simp only [spec_l10Pack.l0] at H
   by_cases c4 : x8_1 < (l0.length : Int)
   ·rw [if_pos c4] at H
    have c4b0 : decide (x8_1 < (l0.length : Int)) = true := decide_eq_true c4
    clear c4
    by_cases c5 : 0 ≤ x8_1
    ·rw [if_pos c5] at H
     have c5b0 : decide (0 ≤ x8_1) = true := decide_eq_true c5
     clear c5
     by_cases c6 : (Go.bits .and .i64 (rd l0 x8_1) a2) = 0
     ·rw [if_pos c6] at H
      have c6b0 : ((Go.bits .and .i64 (rd l0 x8_1) a2) == 0) = true := beq_iff_eq.mpr c6
      have c6b1 : ((Go.bits .and .i64 (rd l0 x8_1) a2) != 0) = false := bne_eq_false_iff_eq.mpr c6
      clear c6
      replace H := Option.bind_eq_some_iff.mp H
      obtain ⟨t792, A70, H⟩ := H
      have A7 := Aside0.mk A70
      clear A70
      obtain ⟨ji8, hji8⟩ : ∃ j_ : Int, (mx x7_1 (wrap64 (1 + t792))) = j_ := ⟨_, rfl⟩
      replace H : (spec_l10Pack.l0 k1 l0 a2 ji8 (wrap64 (x8_1 + 1))) = some r := by first | (rw [hji8] at H; exact H) | (simp only [hji8] at H ⊢; exact H)
      (try rw [hji8] at A7)
      have hji8_ : (if x7_1 < (wrap64 (1 + t792)) then (wrap64 (1 + t792)) else x7_1) = ji8 := hji8
      have H' := Aside0.mk H
      clear H
      have p790 : 0 ≤ (x8_1 : Int) := of_decide_eq_true (by first | (with_reducible assumption) | assumption)
      have q790 : x8_1 < (l0.length : Int) := of_decide_eq_true (by first | (with_reducible assumption) | assumption)
      obtain ⟨ad790, e790, hx790_0⟩ := Kd.at_int HR0.out x8_1 p790 q790
      cases e790
      replace hx790_0 := (HB.out.cell (World.block_lt_of_cell? w _ hx790_0)).trans hx790_0
      replace p790 := eq_true p790
      replace q790 := eq_true q790
      have p791 : 0 ≤ (x8_1 : Int) := of_decide_eq_true (by first | (with_reducible assumption) | assumption)
      have q791 : x8_1 < (l0.length : Int) := of_decide_eq_true (by first | (with_reducible assumption) | assumption)
      obtain ⟨ad791, e791, hx791_0⟩ := Kd.at_int HR0.out x8_1 p791 q791
      obtain rfl : ad790 = ad791 := (by injection e791)
      replace hx791_0 := (HB.out.cell (World.block_lt_of_cell? w _ hx791_0)).trans hx791_0
      replace p791 := eq_true p791
      replace q791 := eq_true q791
      go_wp2_with (first | ((with_reducible refine gate_callee (f := 91) rfl ?_); refine gl_ 33 Try.func91 #[.slice (some ad790) l0.length c0, .int .i64 (wrap64 (x8_1 + 1)), .int .i64 (Go.bits .or .i64 a2 (rd l0 x8_1))] rfl mp_ ?_; (with_reducible refine (ih k1 (by have := HK1.out; omega) _ _ l0 (wrap64 (x8_1 + 1)) (Go.bits .or .i64 a2 (rd l0 x8_1)) t792 _ ?side1 ?side2 A7.out).mono ?_); (case side1 => exact cv_ (Kd.C_below HR0.out HB.out)); (case side2 => exact HC0.out); rintro e w9 ⟨rfl, hb⟩; refine ⟨_, rfl, ?_⟩; replace HB := Aside0.mk (below_step (bv_ HB) hb); (try clear hb); (try clear hb2); (try clear hk); (try clear hi)))
      go_roundg k1
      case measure => have := HK1.out; omega
      case rel => exact ⟨(ji8), (wrap64 (x8_1 + 1)), (by first | rfl | (simp; done) | (simp only [← hji8] <;> (first | rfl | simp)) | (simp [*]; done)), (by first | rfl | (simp; done) | (simp [*]; done)), H', ⟨by have := HK1.out; omega⟩, ⟨bv_ HB⟩⟩
     ·rw [if_neg c6] at H
      have c6b0 : ((Go.bits .and .i64 (rd l0 x8_1) a2) == 0) = false := beq_eq_false_iff_ne.mpr c6
      have c6b1 : ((Go.bits .and .i64 (rd l0 x8_1) a2) != 0) = true := bne_iff_ne.mpr c6
      have H' := Aside0.mk H
      clear H
      have p790 : 0 ≤ (x8_1 : Int) := of_decide_eq_true (by first | (with_reducible assumption) | assumption)
      have q790 : x8_1 < (l0.length : Int) := of_decide_eq_true (by first | (with_reducible assumption) | assumption)
      obtain ⟨ad790, e790, hx790_0⟩ := Kd.at_int HR0.out x8_1 p790 q790
      cases e790
      replace hx790_0 := (HB.out.cell (World.block_lt_of_cell? w _ hx790_0)).trans hx790_0
      replace p790 := eq_true p790
      replace q790 := eq_true q790
      go_wp2
      go_roundg k1
      case measure => have := HK1.out; omega
      case rel => exact ⟨(x7_1), (wrap64 (x8_1 + 1)), (by first | rfl | (simp; done) | (simp [*]; done)), (by first | rfl | (simp; done) | (simp [*]; done)), H', ⟨by have := HK1.out; omega⟩, ⟨bv_ HB⟩⟩
    ·rw [if_neg c5] at H
     exact absurd H (by simp)
   ·rw [if_neg c4] at H
    have c4b0 : decide (x8_1 < (l0.length : Int)) = false := decide_eq_false c4
    clear c4
    obtain rfl := Option.some.inj H
    go_wp2
    go_ret
    exact ⟨by first | rfl | (simp [errW_none, errW_some] <;> rfl) | (simp [*, errW_none, errW_some] <;> rfl), bv_ HB⟩


/-! ### spec_BlockSensitivityAt: function 56 -/
def spec_BlockSensitivityAt.f (k : Nat) (a0_0 : Int) (a0_1 : Int) (a1 : Int) : Option (Int) := (spec_l9In.f a0_0 a0_1 a1).bind fun t794 => (if t794 = true then ((spec_l10Blocks.f k a0_0 a0_1 a1).bind fun t795 => ((spec_l10Pack.f k t795 0 0).bind fun t798 => (some t798))) else (some (-1)))
theorem spec_BlockSensitivityAt.mono : ∀ a0 a1 a2 k, LeO (spec_BlockSensitivityAt.f k a0 a1 a2) (spec_BlockSensitivityAt.f (k + 1) a0 a1 a2) := by
 intro a0 a1 a2 k
 unfold spec_BlockSensitivityAt.f
 repeat' first
   | (with_reducible exact spec_l10Blocks.mono _ _ _ _)
   | (with_reducible exact spec_l10Pack.mono _ _ _ _)
   | (with_reducible exact LeO.refl _)
   | (with_reducible exact LeO.none _)
   | (with_reducible refine LeO.ite ?_ ?_)
   | (with_reducible refine LeO.bind ?_ (fun _ => ?_))
   | exact spec_l10Blocks.mono _ _ _ _
   | exact spec_l10Pack.mono _ _ _ _
   | exact LeO.none _
   | refine LeO.ite ?_ ?_
   | refine LeO.bind ?_ (fun _ => ?_)
set_option maxHeartbeats 8000000 in
set_option maxRecDepth 100000 in
theorem spec_BlockSensitivityAt.calls (k : Nat) (a0_0 : Int) (a0_1 : Int) (a1 : Int) (r : Int) (w : World) (h : spec_BlockSensitivityAt.f k a0_0 a0_1 a1 = some r) :
  Calls Try.prog 56 #[.agg #[.int .i64 a0_0, .int .i64 a0_1], .int .i64 a1] w fun e w' => e = .returned (.int .i64 r) ∧ Below w.heap.size w w' := by
 have hu25 := Try.underlying25
 have HB := Aside0.mk (Below.refl w.heap.size w)
 have H : ((spec_l9In.f a0_0 a0_1 a1).bind fun t794 => (if t794 = true then ((spec_l10Blocks.f k a0_0 a0_1 a1).bind fun t795 => ((spec_l10Pack.f k t795 0 0).bind fun t798 => (some t798))) else (some (-1)))) = some r := h
 clear h
 replace H := Option.bind_eq_some_iff.mp H
 obtain ⟨t794, A30, H⟩ := H
 have A3 := Aside0.mk A30
 clear A30
 by_cases c4 : t794 = true
 ·subst c4
  rw [if_pos rfl] at H
  replace H := Option.bind_eq_some_iff.mp H
  obtain ⟨t795, A50, H⟩ := H
  have A5 := Aside0.mk A50
  clear A50
  replace H := Option.bind_eq_some_iff.mp H
  obtain ⟨t798, A60, H⟩ := H
  have A6 := Aside0.mk A60
  clear A60
  obtain rfl := Option.some.inj H
  go_enter Try.func56, Try.ntmps56
  go_wp2_with (first | ((with_reducible refine gate_dst (N := 2) rfl ?_); refine bx_ 2 #[.int .i64 a0_0, .int .i64 a0_1] 25 ?_; intro gb793 hg w7 hbox hb; have BK793 := Aside0.mk (hbox); have GW793 := gw_ hg (below_size (bv_ HB)); have GE793 := GW793; replace HB := Aside0.mk (below_step (bv_ HB) hb); clear hb hbox hg; obtain ⟨hcz8_0, hcz8_1, hfz8_0, hfz8_1⟩ := c2_ BK793) | ((with_reducible refine gate_callee (f := 79) rfl ?_); refine gl_ 7 Try.func79 #[.agg #[.int .i64 a0_0, .int .i64 a0_1], .int .i64 a1] rfl mp_ ?_; (with_reducible refine (spec_l9In.calls a0_0 a0_1 a1 true _ A3.out).mono ?_); rintro e w9 ⟨rfl, hb⟩; refine ⟨_, rfl, ?_⟩; replace BK793 := kb_ BK793 hb; replace HB := Aside0.mk (below_step (bv1_ HB GE793) hb); (try clear hb); (try clear hb2); (try clear hk); (try clear hi); obtain ⟨hcz10_0, hcz10_1, hfz10_0, hfz10_1⟩ := c2_ BK793) | ((with_reducible refine gate_callee (f := 88) rfl ?_); refine gl_ 11 Try.func88 #[.agg #[.int .i64 a0_0, .int .i64 a0_1], .int .i64 a1] rfl mp_ ?_; (with_reducible refine (spec_l10Blocks.calls k a0_0 a0_1 a1 t795 _ A5.out).mono ?_); rintro e w11 ⟨v796, rfl, ho0, hb⟩; refine ⟨_, rfl, ?_⟩; have HO797 := Aside0.mk (Kd.R_lower ho0 (below_size (bv1_ HB GE793))); replace BK793 := kb_ BK793 hb; replace HB := Aside0.mk (below_step (bv1_ HB GE793) hb); (try clear hb); (try clear hb2); (try clear hk); (try clear hi); (try clear ho0); obtain ⟨Ao12, co12, eo12⟩ := Kd.R_slice HO797.out; subst eo12) | ((with_reducible refine gate_callee (f := 91) rfl ?_); refine gl_ 12 Try.func91 #[.slice Ao12 t795.length co12, .int .i64 0, .int .i64 0] rfl mp_ ?_; (with_reducible refine (spec_l10Pack.calls k _ _ t795 0 0 t798 _ ?side1 ?side2 A6.out).mono ?_); (case side1 => repeat (first | exact (Kd.R_reads' HO797.out).2.2 | (with_reducible refine Kd.C_alloc ?_ _) | (with_reducible refine Kd.C_drewN ?_ _) | (with_reducible refine Kd.C_drew ?_))); (case side2 => exact (Kd.R_reads' HO797.out).2.1); rintro e w13 ⟨rfl, hb⟩; refine ⟨_, rfl, ?_⟩; replace HO797 := Aside0.mk (Kd.R_below (rv_ HO797) hb); replace BK793 := kb_ BK793 hb; replace HB := Aside0.mk (below_step (bv1_ HB GE793) hb); (try clear hb); (try clear hb2); (try clear hk); (try clear hi)))
  go_ret
  exact ⟨by first | rfl | (simp [errW_none, errW_some] <;> rfl) | (simp [*, errW_none, errW_some] <;> rfl), bv1_ HB GE793⟩
 ·replace c4 := Bool.eq_false_iff.mpr c4
  subst c4
  rw [if_neg (show ¬ (false = true) by decide)] at H
  obtain rfl := Option.some.inj H
  go_enter Try.func56, Try.ntmps56
  go_wp2_with (first | ((with_reducible refine gate_dst (N := 2) rfl ?_); refine bx_ 2 #[.int .i64 a0_0, .int .i64 a0_1] 25 ?_; intro gb793 hg w14 hbox hb; have BK793 := Aside0.mk (hbox); have GW793 := gw_ hg (below_size (bv_ HB)); have GE793 := GW793; replace HB := Aside0.mk (below_step (bv_ HB) hb); clear hb hbox hg; obtain ⟨hcz15_0, hcz15_1, hfz15_0, hfz15_1⟩ := c2_ BK793) | ((with_reducible refine gate_callee (f := 79) rfl ?_); refine gl_ 7 Try.func79 #[.agg #[.int .i64 a0_0, .int .i64 a0_1], .int .i64 a1] rfl mp_ ?_; (with_reducible refine (spec_l9In.calls a0_0 a0_1 a1 false _ A3.out).mono ?_); rintro e w16 ⟨rfl, hb⟩; refine ⟨_, rfl, ?_⟩; replace BK793 := kb_ BK793 hb; replace HB := Aside0.mk (below_step (bv1_ HB GE793) hb); (try clear hb); (try clear hb2); (try clear hk); (try clear hi)))
  go_ret
  exact ⟨by first | rfl | (simp [errW_none, errW_some] <;> rfl) | (simp [*, errW_none, errW_some] <;> rfl), bv1_ HB GE793⟩


end Go.Proofs.Ytplnffhjpmnifaa.P
