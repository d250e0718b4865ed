-- Out of the translation, by this session's program over the printer's; Lean checks it.
import Derived.Test.YtplnffhjpmnifaaSh
import Derived.Test.YtplnffhjpmnifaaQ0
import Derived.Test.YtplnffhjpmnifaaQ3
import Derived.Test.YtplnffhjpmnifaaQ4
namespace Go.Proofs.Ytplnffhjpmnifaa.P
open Go.RowKit Go.Proofs.YtplnffhjpmnifaaW.PrintWords Go.Proofs.YtplnffhjpmnifaaW.PrintLast Go.Proofs.YtplnffhjpmnifaaW.PrintMore
attribute [local go_sem] max2_int min2_int max_two min_two max_three min_three max_four min_four
set_option linter.unusedVariables false
set_option linter.unusedSimpArgs false

/-! ### impl_MeetingOf: function 36 -/
mutual
def impl_MeetingOf.l0 : Nat → Int → Int → Int → Int → Option (Bool)
 | 0, _, _, _, _ => none
 | k + 1, x9, x10, x683000, x683001 => if x10 < x9 then (impl_MeetingOf.l1 k x10 x9 x10 x10 0 x683000 x683001) else (some true)
def impl_MeetingOf.l1 : Nat → Int → Int → Int → Int → Int → Int → Int → Option (Bool)
 | 0, _, _, _, _, _, _, _ => none
 | k + 1, x3, x9, x10, x13, x14, x683000, x683001 => if x14 < x13 then ((impl_Table_at.f x683000 x683001 x3).bind fun t685 => ((impl_Table_at.f x683000 x683001 x14).bind fun t686 => (if t685 = t686 then (impl_MeetingOf.l1 k x3 x9 x10 x13 (wrap64 (x14 + 1)) x683000 x683001) else ((impl_Table_certificate.f k x683000 x683001 x3).bind fun t687 => ((impl_Table_certificate.f k x683000 x683001 x14).bind fun t688 => (if (Go.bits .and .i64 (Go.bits .and .i64 t687 t688) (Go.bits .xor .i64 x3 x14)) = 0 then (some false) else (impl_MeetingOf.l1 k x3 x9 x10 x13 (wrap64 (x14 + 1)) x683000 x683001))))))) else (impl_MeetingOf.l0 k x9 (wrap64 (x10 + 1)) x683000 x683001)
end
def impl_MeetingOf.f (k : Nat) (a0_0 : Int) (a0_1 : Int) : Option (Bool) := (impl_IsTable.f a0_0 a0_1).bind fun t683 => (if t683 = true then ((impl_Table_size.f a0_0 a0_1).bind fun t684 => (impl_MeetingOf.l0 k t684 0 a0_0 a0_1)) else (some false))
theorem impl_MeetingOf.mono_l : ∀ k, (∀ y0 y1 y2 y3, LeO (impl_MeetingOf.l0 k y0 y1 y2 y3) (impl_MeetingOf.l0 (k + 1) y0 y1 y2 y3)) ∧ (∀ y0 y1 y2 y3 y4 y5 y6, LeO (impl_MeetingOf.l1 k y0 y1 y2 y3 y4 y5 y6) (impl_MeetingOf.l1 (k + 1) y0 y1 y2 y3 y4 y5 y6))
 | 0 => ⟨fun _ _ _ _ r h => by simp [impl_MeetingOf.l0] at h, fun _ _ _ _ _ _ _ r h => by simp [impl_MeetingOf.l1] at h⟩
 | k + 1 => by
  obtain ⟨ih0, ih1⟩ := impl_MeetingOf.mono_l k
  refine ⟨?_, ?_⟩
  ·intro y0 y1 y2 y3
   unfold impl_MeetingOf.l0
   repeat' first
   | (with_reducible exact ih0 _ _ _ _)
   | (with_reducible exact ih1 _ _ _ _ _ _ _)
   | (with_reducible exact impl_Table_certificate.mono _ _ _ _)
   | (with_reducible exact LeO.refl _)
   | (with_reducible exact LeO.none _)
   | (with_reducible refine LeO.ite ?_ ?_)
   | (with_reducible refine LeO.bind ?_ (fun _ => ?_))
   | exact ih0 _ _ _ _
   | exact ih1 _ _ _ _ _ _ _
   | exact impl_Table_certificate.mono _ _ _ _
   | exact LeO.none _
   | refine LeO.ite ?_ ?_
   | refine LeO.bind ?_ (fun _ => ?_)
  ·intro y0 y1 y2 y3 y4 y5 y6
   unfold impl_MeetingOf.l1
   repeat' first
   | (with_reducible exact ih0 _ _ _ _)
   | (with_reducible exact ih1 _ _ _ _ _ _ _)
   | (with_reducible exact impl_Table_certificate.mono _ _ _ _)
   | (with_reducible exact LeO.refl _)
   | (with_reducible exact LeO.none _)
   | (with_reducible refine LeO.ite ?_ ?_)
   | (with_reducible refine LeO.bind ?_ (fun _ => ?_))
   | exact ih0 _ _ _ _
   | exact ih1 _ _ _ _ _ _ _
   | exact impl_Table_certificate.mono _ _ _ _
   | exact LeO.none _
   | refine LeO.ite ?_ ?_
   | refine LeO.bind ?_ (fun _ => ?_)
theorem impl_MeetingOf.mono : ∀ a0 a1 k, LeO (impl_MeetingOf.f k a0 a1) (impl_MeetingOf.f (k + 1) a0 a1) := by
 intro a0 a1 k
 obtain ⟨ih0, ih1⟩ := impl_MeetingOf.mono_l k
 unfold impl_MeetingOf.f
 repeat' first
   | (with_reducible exact ih0 _ _ _ _)
   | (with_reducible exact ih1 _ _ _ _ _ _ _)
   | (with_reducible exact impl_Table_certificate.mono _ _ _ _)
   | (with_reducible exact LeO.refl _)
   | (with_reducible exact LeO.none _)
   | (with_reducible refine LeO.ite ?_ ?_)
   | (with_reducible refine LeO.bind ?_ (fun _ => ?_))
   | exact ih0 _ _ _ _
   | exact ih1 _ _ _ _ _ _ _
   | exact impl_Table_certificate.mono _ _ _ _
   | exact LeO.none _
   | refine LeO.ite ?_ ?_
   | refine LeO.bind ?_ (fun _ => ?_)
def impl_MeetingOf.T9 : Bool × List (List Nat × List Nat) := (true, [([], []), ([], []), ([0, 1], [0, 1]), ([], []), ([], []), ([3, 4, 2], [3, 4]), ([2, 5], [2, 5]), ([6, 5], [6]), ([7], [7]), ([7], [7]), ([8, 9, 7, 7], [7, 8, 9]), ([7], [7]), ([7], [7]), ([11, 12, 10, 7], [7, 11, 12]), ([10, 13, 7], [7, 10, 13]), ([7], [7]), ([7], [7]), ([15, 16, 7], [7, 15, 16]), ([14, 17, 7], [7, 14, 17]), ([18, 7], [7, 18]), ([7, 19], [7, 19])])
def impl_MeetingOf.B9 : List Nat := [0, 0, 3, 0, 0, 31, 63, 127, 255, 255, 1023, 255, 255, 8191, 16383, 255, 255, 98559, 262143, 524287, 1048575]
theorem impl_MeetingOf.tab9 : rtab .any (opsOf Try.f36 9) = impl_MeetingOf.T9 := by kernel_rfl
theorem impl_MeetingOf.bits9 : waitsOk impl_MeetingOf.T9.2 impl_MeetingOf.B9 = true := by kernel_rfl
set_option maxHeartbeats 8000000 in
set_option maxRecDepth 100000 in
theorem impl_MeetingOf.calls (k : Nat) (a0_0 : Int) (a0_1 : Int) (r : Bool) (w : World) (h : impl_MeetingOf.f k a0_0 a0_1 = some r) :
  Calls Try.prog 36 #[.agg #[.int .i64 a0_0, .int .i64 a0_1]] w fun e w' => e = .returned (.bool r) ∧ Below w.heap.size w w' := by
 have hu25 := Try.underlying25
 have HB := Aside0.mk (Below.refl w.heap.size w)
 have H : ((impl_IsTable.f a0_0 a0_1).bind fun t683 => (if t683 = true then ((impl_Table_size.f a0_0 a0_1).bind fun t684 => (impl_MeetingOf.l0 k t684 0 a0_0 a0_1)) else (some false))) = some r := h
 clear h
 replace H := Option.bind_eq_some_iff.mp H
 obtain ⟨t683, A20, H⟩ := H
 have A2 := Aside0.mk A20
 clear A20
 by_cases c3 : t683 = true
 ·subst c3
  rw [if_pos rfl] at H
  replace H := Option.bind_eq_some_iff.mp H
  obtain ⟨t684, A40, H⟩ := H
  have A4 := Aside0.mk A40
  clear A40
  have H' := Aside0.mk H
  clear H
  go_enter Try.func36, Try.ntmps36
  go_wp2_with (first | ((with_reducible refine gate_dst (N := 1) rfl ?_); refine bx_ 1 #[.int .i64 a0_0, .int .i64 a0_1] 25 ?_; intro gb682 hg w5 hbox hb; have BK682 := Aside0.mk (hbox); have GW682 := gw_ hg (below_size (bv_ HB)); have GE682 := GW682; replace HB := Aside0.mk (below_step (bv_ HB) hb); clear hb hbox hg; obtain ⟨hcz6_0, hcz6_1, hfz6_0, hfz6_1⟩ := c2_ BK682) | ((with_reducible refine gate_callee (f := 61) rfl ?_); refine gl_ 6 Try.func61 #[.agg #[.int .i64 a0_0, .int .i64 a0_1]] rfl mp_ ?_; (with_reducible refine (impl_IsTable.calls a0_0 a0_1 true _ A2.out).mono ?_); rintro e w7 ⟨rfl, hb⟩; refine ⟨_, rfl, ?_⟩; replace BK682 := kb_ BK682 hb; replace HB := Aside0.mk (below_step (bv1_ HB GE682) hb); (try clear hb); (try clear hb2); (try clear hk); (try clear hi); obtain ⟨hcz8_0, hcz8_1, hfz8_0, hfz8_1⟩ := c2_ BK682) | ((with_reducible refine gate_callee (f := 65) rfl ?_); refine gl_ 9 Try.func65 #[.agg #[.int .i64 a0_0, .int .i64 a0_1]] rfl mp_ ?_; (with_reducible refine (impl_Table_size.calls a0_0 a0_1 t684 _ A4.out).mono ?_); rintro e w9 ⟨rfl, hb⟩; refine ⟨_, rfl, ?_⟩; replace BK682 := kb_ BK682 hb; replace HB := Aside0.mk (below_step (bv1_ HB GE682) hb); (try clear hb); (try clear hb2); (try clear hk); (try clear hi)))
  go_loopg [10] k (fun kq v10 w' => ∃ (x10_1 : Int), v10 = .int .i64 x10_1 ∧ Aside0 (impl_MeetingOf.l0 kq t684 x10_1 a0_0 a0_1 = some r) ∧ Aside0 (kq ≤ k) ∧ Aside0 (w'.heap[gb682]? = some (.cells #[.int .i64 a0_0, .int .i64 a0_1] 25 (0, 0))) ∧ Aside0 (Below w.heap.size w w'))
  case atStart => exact ⟨(0), (by first | rfl | (simp; done) | (simp [*]; done)), H', ⟨Nat.le_refl _⟩, ⟨by (with_reducible repeat (first | refine blk_drewN ?_ _ | refine blk_drew ?_ | refine blk_alloc ?_ _)); exact BK682.out⟩, ⟨bv1_ HB GE682⟩⟩
  case round =>
   clear H'
   try clear p2
   try clear c3
   try clear c6
   try clear hcz6_0
   try clear hcz6_1
   try clear hcz8_0
   try clear hcz8_1
   try clear hfz6_0
   try clear hfz6_1
   try clear hfz8_0
   try clear hfz8_1
   obtain ⟨x10_1, rfl, HA, HK1, BK682, HB⟩ := hrel
   cases gk with
   | zero => exact absurd HA.out (by simp [impl_MeetingOf.l0])
   | succ k1 =>
    have H := HA.out
    clear HA
    simp only [impl_MeetingOf.l0] at H
    by_cases c10 : x10_1 < t684
    ·rw [if_pos c10] at H
     have c10b0 : decide (x10_1 < t684) = true := decide_eq_true c10
     clear c10
     have H' := Aside0.mk H
     clear H
     go_wp2
     go_loopg [14] k1 (fun kq v14 w' => ∃ (x14_2 : Int), v14 = .int .i64 x14_2 ∧ Aside0 (impl_MeetingOf.l1 kq x10_1 t684 x10_1 x10_1 x14_2 a0_0 a0_1 = some r) ∧ Aside0 (kq ≤ k1) ∧ Aside0 (w'.heap[gb682]? = some (.cells #[.int .i64 a0_0, .int .i64 a0_1] 25 (0, 0))) ∧ Aside0 (Below w.heap.size w w'))
     case atStart => exact ⟨(0), (by first | rfl | (simp; done) | (simp [*]; done)), H', ⟨Nat.le_refl _⟩, ⟨by (with_reducible repeat (first | refine blk_drewN ?_ _ | refine blk_drew ?_ | refine blk_alloc ?_ _)); exact BK682.out⟩, ⟨bv1_ HB GE682⟩⟩
     case round =>
      clear H'
      try clear c1
      try clear p2
      try clear c3
      try clear c6
      try clear c10
      try clear c10b0
      try clear hcz6_0
      try clear hcz6_1
      try clear hcz8_0
      try clear hcz8_1
      try clear hfz6_0
      try clear hfz6_1
      try clear hfz8_0
      try clear hfz8_1
      try clear p2
      obtain ⟨x14_2, rfl, HA, HK2, BK682, HB⟩ := hrel
      cases gk with
      | zero => exact absurd HA.out (by simp [impl_MeetingOf.l1])
      | succ k2 =>
       have H := HA.out
       clear HA
       simp only [impl_MeetingOf.l1] at H
       by_cases c11 : x14_2 < x10_1
       ·rw [if_pos c11] at H
        have c11b0 : decide (x14_2 < x10_1) = true := decide_eq_true c11
        clear c11
        replace H := Option.bind_eq_some_iff.mp H
        obtain ⟨t685, A120, H⟩ := H
        have A12 := Aside0.mk A120
        clear A120
        replace H := Option.bind_eq_some_iff.mp H
        obtain ⟨t686, A130, H⟩ := H
        have A13 := Aside0.mk A130
        clear A130
        by_cases c14 : t685 = t686
        ·rw [if_pos c14] at H
         have c14b0 : (t685 == t686) = true := beq_iff_eq.mpr c14
         have c14b1 : (t685 != t686) = false := bne_eq_false_iff_eq.mpr c14
         clear c14
         have H' := Aside0.mk H
         clear H
         try go_wp2
         replace BK682 := Aside0.mk (blk_drew BK682.out)
         replace HB := Aside0.mk (below_drew1 HB.out)
         refine start_ (n := 21) (S := fun w' => w'.cell? ⟨gb682, 0, none⟩ = some (.int .i64 a0_0) ∧ w'.cell? ⟨gb682, 1, none⟩ = some (.int .i64 a0_1)) (ds := []) (bs 21 0) (by kernel_rfl) rfl (by kernel_rfl) ⟨(blk_cell BK682.out 0).trans rfl, (blk_cell BK682.out 1).trans rfl⟩ (fun hHeld => ?_); refine with_tabW impl_MeetingOf.tab9 impl_MeetingOf.bits9 (fun HT_ HW_ => ?_)
         generalize wr.drew = w15 at BK682 HB hHeld ⊢
         refine pu_ HT_ 1 18 (bs 21 2) ?_
         refine pu_ HT_ 4 21 (bs 21 18) ?_
         refine ta2_ HT_ HW_ 0 17 (bs 21 19) hHeld ?_
         refine ta2_ HT_ HW_ 3 20 (bs 21 27) hHeld ?_
         refine on_ HT_ 2 19 (bs 21 31) (fun K hK => ?_)
         refine goes_ Try.func66 (by kernel_rfl) rfl #[.agg #[.int .i64 a0_0, .int .i64 a0_1], .int .i64 x10_1] (by rfl) rfl rfl mp_ ?_
         with_reducible refine (impl_Table_at.calls a0_0 a0_1 x10_1 t685 _ A12.out).mono ?_
         rintro e w16 ⟨rfl, hb⟩
         refine ⟨_, rfl, ?_⟩
         replace BK682 := kb_ BK682 hb
         replace HB := Aside0.mk (below_step (bv1_ HB GE682) hb)
         (try clear hb)
         (try clear hb2)
         (try clear hk)
         (try clear hi)
         refine hK.out _ _ ⟨(blk_cell BK682.out 0).trans rfl, (blk_cell BK682.out 1).trans rfl⟩ (fun hHeld => ?_)
         clear hK K
         refine no_ 19 ?_
         refine on_ HT_ 5 22 (bs 21 63) (fun K hK => ?_)
         refine goes_ Try.func66 (by kernel_rfl) rfl #[.agg #[.int .i64 a0_0, .int .i64 a0_1], .int .i64 x14_2] (by rfl) rfl rfl mp_ ?_
         with_reducible refine (impl_Table_at.calls a0_0 a0_1 x14_2 t686 _ A13.out).mono ?_
         rintro e w17 ⟨rfl, hb⟩
         refine ⟨_, rfl, ?_⟩
         replace BK682 := kb_ BK682 hb
         replace HB := Aside0.mk (below_step (bv1_ HB GE682) hb)
         (try clear hb)
         (try clear hb2)
         (try clear hk)
         (try clear hi)
         refine hK.out _ _ ⟨(blk_cell BK682.out 0).trans rfl, (blk_cell BK682.out 1).trans rfl⟩ (fun hHeld => ?_)
         clear hK K
         refine no_ 22 ?_
         refine pu_ HT_ 6 23 (bs 21 127) ?_
         refine pu_ HT_ 7 24 (bs 21 255) ?_
         refine pure_ (i := 8) (N := some 25) (v := undef) (a' := ?_) (bs 21 511) rfl rfl (any_of HT_.out (by kernel_rfl)) (fun _ _ _ h => h) (Or.inr ⟨by rfl, rfl⟩) ?_ ?_
         rotate_left
         ·simp only [Act.put, List.setIfInBounds_toArray, List.set_cons_zero, List.set_cons_succ, i64_w, i32_w]
          rfl
         refine pure_ (i := 9) (N := some 26) (v := undef) (a' := ?_) (bs 21 1023) rfl rfl (any_of HT_.out (by kernel_rfl)) (fun _ _ _ h => h) (Or.inr ⟨by rfl, rfl⟩) ?_ ?_
         rotate_left
         ·simp only [Act.put, List.setIfInBounds_toArray, List.set_cons_zero, List.set_cons_succ, i64_w, i32_w]
          rfl
         refine pure_ (i := 10) (N := some 27) (v := undef) (a' := ?_) (bs 21 2047) rfl rfl (any_of HT_.out (by kernel_rfl)) (fun _ _ _ h => h) (Or.inr ⟨by rfl, rfl⟩) ?_ ?_
         rotate_left
         ·simp only [Act.put, List.setIfInBounds_toArray, List.set_cons_zero, List.set_cons_succ, i64_w, i32_w]
          rfl
         refine pure_ (i := 11) (N := some 28) (v := undef) (a' := ?_) (bs 21 4095) rfl rfl (any_of HT_.out (by kernel_rfl)) (fun _ _ _ h => h) (Or.inr ⟨by rfl, rfl⟩) ?_ ?_
         rotate_left
         ·simp only [Act.put, List.setIfInBounds_toArray, List.set_cons_zero, List.set_cons_succ, i64_w, i32_w]
          rfl
         refine pure_ (i := 12) (N := some 29) (v := undef) (a' := ?_) (bs 21 8191) rfl rfl (any_of HT_.out (by kernel_rfl)) (fun _ _ _ h => h) (Or.inr ⟨by rfl, rfl⟩) ?_ ?_
         rotate_left
         ·simp only [Act.put, List.setIfInBounds_toArray, List.set_cons_zero, List.set_cons_succ, i64_w, i32_w]
          rfl
         refine pure_ (i := 13) (N := some 30) (v := undef) (a' := ?_) (bs 21 16383) rfl rfl (any_of HT_.out (by kernel_rfl)) (fun _ _ _ h => h) (Or.inr ⟨by rfl, rfl⟩) ?_ ?_
         rotate_left
         ·simp only [Act.put, List.setIfInBounds_toArray, List.set_cons_zero, List.set_cons_succ, i64_w, i32_w]
          rfl
         refine pure_ (i := 14) (N := some 31) (v := undef) (a' := ?_) (bs 21 32767) rfl rfl (any_of HT_.out (by kernel_rfl)) (fun _ _ _ h => h) (Or.inr ⟨by rfl, rfl⟩) ?_ ?_
         rotate_left
         ·simp only [Act.put, List.setIfInBounds_toArray, List.set_cons_zero, List.set_cons_succ, i64_w, i32_w]
          rfl
         refine pure_ (i := 15) (N := some 32) (v := undef) (a' := ?_) (bs 21 65535) rfl rfl (any_of HT_.out (by kernel_rfl)) (fun _ _ _ h => h) (Or.inr ⟨by rfl, rfl⟩) ?_ ?_
         rotate_left
         ·simp only [Act.put, List.setIfInBounds_toArray, List.set_cons_zero, List.set_cons_succ, i64_w, i32_w]
          rfl
         refine pure_ (i := 16) (N := some 33) (v := undef) (a' := ?_) (bs 21 131071) rfl rfl (any_of HT_.out (by kernel_rfl)) (fun _ _ _ h => h) (Or.inr ⟨by rfl, rfl⟩) ?_ ?_
         rotate_left
         ·simp only [Act.put, List.setIfInBounds_toArray, List.set_cons_zero, List.set_cons_succ, i64_w, i32_w]
          rfl
         refine pure_ (i := 17) (N := some 34) (v := undef) (a' := ?_) (bs 21 262143) rfl rfl (any_of HT_.out (by kernel_rfl)) (fun _ _ _ h => h) (Or.inr ⟨by rfl, rfl⟩) ?_ ?_
         rotate_left
         ·simp only [Act.put, List.setIfInBounds_toArray, List.set_cons_zero, List.set_cons_succ, i64_w, i32_w]
          rfl
         refine pure_ (i := 18) (N := some 35) (v := undef) (a' := ?_) (bs 21 524287) rfl rfl (any_of HT_.out (by kernel_rfl)) (fun _ _ _ h => h) (Or.inr ⟨by rfl, rfl⟩) ?_ ?_
         rotate_left
         ·simp only [Act.put, List.setIfInBounds_toArray, List.set_cons_zero, List.set_cons_succ, i64_w, i32_w]
          rfl
         refine pure_ (i := 19) (N := some 36) (v := undef) (a' := ?_) (bs 21 1048575) rfl rfl (any_of HT_.out (by kernel_rfl)) (fun _ _ _ h => h) (Or.inr ⟨by rfl, rfl⟩) ?_ ?_
         rotate_left
         ·simp only [Act.put, List.setIfInBounds_toArray, List.set_cons_zero, List.set_cons_succ, i64_w, i32_w]
          rfl
         refine pu_ HT_ 20 37 (bs 21 2097151) ?_
         refine done_ (done_of HT_.out (by kernel_rfl)) ?_
         try go_wp2
         go_roundg k2
         case measure => have := HK1.out; have := HK2.out; omega
         case rel => exact ⟨(wrap64 (x14_2 + 1)), (by first | rfl | (simp; done) | (simp [*]; done)), H', ⟨by have := HK1.out; have := HK2.out; omega⟩, ⟨by (with_reducible repeat (first | refine blk_drewN ?_ _ | refine blk_drew ?_ | refine blk_alloc ?_ _)); exact BK682.out⟩, ⟨bv1_ HB GE682⟩⟩
        ·rw [if_neg c14] at H
         have c14b0 : (t685 == t686) = false := beq_eq_false_iff_ne.mpr c14
         have c14b1 : (t685 != t686) = true := bne_iff_ne.mpr c14
         replace H := Option.bind_eq_some_iff.mp H
         obtain ⟨t687, A180, H⟩ := H
         have A18 := Aside0.mk A180
         clear A180
         replace H := Option.bind_eq_some_iff.mp H
         obtain ⟨t688, A190, H⟩ := H
         have A19 := Aside0.mk A190
         clear A190
         by_cases c20 : (Go.bits .and .i64 (Go.bits .and .i64 t687 t688) (Go.bits .xor .i64 x10_1 x14_2)) = 0
         ·rw [if_pos c20] at H
          have c20b0 : ((Go.bits .and .i64 (Go.bits .and .i64 t687 t688) (Go.bits .xor .i64 x10_1 x14_2)) == 0) = true := beq_iff_eq.mpr c20
          have c20b1 : ((Go.bits .and .i64 (Go.bits .and .i64 t687 t688) (Go.bits .xor .i64 x10_1 x14_2)) != 0) = false := bne_eq_false_iff_eq.mpr c20
          clear c20
          obtain rfl := Option.some.inj H
          try go_wp2
          replace BK682 := Aside0.mk (blk_drew BK682.out)
          replace HB := Aside0.mk (below_drew1 HB.out)
          refine start_ (n := 21) (S := fun w' => w'.cell? ⟨gb682, 0, none⟩ = some (.int .i64 a0_0) ∧ w'.cell? ⟨gb682, 1, none⟩ = some (.int .i64 a0_1)) (ds := []) (bs 21 0) (by kernel_rfl) rfl (by kernel_rfl) ⟨(blk_cell BK682.out 0).trans rfl, (blk_cell BK682.out 1).trans rfl⟩ (fun hHeld => ?_); refine with_tabW impl_MeetingOf.tab9 impl_MeetingOf.bits9 (fun HT_ HW_ => ?_)
          generalize wr.drew = w21 at BK682 HB hHeld ⊢
          refine pu_ HT_ 1 18 (bs 21 2) ?_
          refine pu_ HT_ 4 21 (bs 21 18) ?_
          refine ta2_ HT_ HW_ 0 17 (bs 21 19) hHeld ?_
          refine ta2_ HT_ HW_ 3 20 (bs 21 27) hHeld ?_
          refine on_ HT_ 2 19 (bs 21 31) (fun K hK => ?_)
          refine goes_ Try.func66 (by kernel_rfl) rfl #[.agg #[.int .i64 a0_0, .int .i64 a0_1], .int .i64 x10_1] (by rfl) rfl rfl mp_ ?_
          with_reducible refine (impl_Table_at.calls a0_0 a0_1 x10_1 t685 _ A12.out).mono ?_
          rintro e w22 ⟨rfl, hb⟩
          refine ⟨_, rfl, ?_⟩
          replace BK682 := kb_ BK682 hb
          replace HB := Aside0.mk (below_step (bv1_ HB GE682) hb)
          (try clear hb)
          (try clear hb2)
          (try clear hk)
          (try clear hi)
          refine hK.out _ _ ⟨(blk_cell BK682.out 0).trans rfl, (blk_cell BK682.out 1).trans rfl⟩ (fun hHeld => ?_)
          clear hK K
          refine no_ 19 ?_
          refine on_ HT_ 5 22 (bs 21 63) (fun K hK => ?_)
          refine goes_ Try.func66 (by kernel_rfl) rfl #[.agg #[.int .i64 a0_0, .int .i64 a0_1], .int .i64 x14_2] (by rfl) rfl rfl mp_ ?_
          with_reducible refine (impl_Table_at.calls a0_0 a0_1 x14_2 t686 _ A13.out).mono ?_
          rintro e w23 ⟨rfl, hb⟩
          refine ⟨_, rfl, ?_⟩
          replace BK682 := kb_ BK682 hb
          replace HB := Aside0.mk (below_step (bv1_ HB GE682) hb)
          (try clear hb)
          (try clear hb2)
          (try clear hk)
          (try clear hi)
          refine hK.out _ _ ⟨(blk_cell BK682.out 0).trans rfl, (blk_cell BK682.out 1).trans rfl⟩ (fun hHeld => ?_)
          clear hK K
          refine no_ 22 ?_
          refine pu_ HT_ 6 23 (bs 21 127) ?_
          refine pu_ HT_ 7 24 (bs 21 255) ?_
          refine pu_ HT_ 9 26 (bs 21 767) ?_
          refine pu_ HT_ 12 29 (bs 21 4863) ?_
          refine pu_ HT_ 15 32 (bs 21 37631) ?_
          refine pu_ HT_ 16 33 (bs 21 103167) ?_
          refine pu_ HT_ 17 34 (bs 21 234239) ?_
          refine ta2_ HT_ HW_ 8 25 (bs 21 234495) hHeld ?_
          refine ta2_ HT_ HW_ 11 28 (bs 21 236543) hHeld ?_
          refine on_ HT_ 10 27 (bs 21 237567) (fun K hK => ?_)
          refine goes_ Try.func78 (by kernel_rfl) rfl #[.agg #[.int .i64 a0_0, .int .i64 a0_1], .int .i64 x10_1] (by rfl) rfl rfl mp_ ?_
          with_reducible refine (impl_Table_certificate.calls k2 a0_0 a0_1 x10_1 t687 _ A18.out).mono ?_
          rintro e w24 ⟨rfl, hb⟩
          refine ⟨_, rfl, ?_⟩
          replace BK682 := kb_ BK682 hb
          replace HB := Aside0.mk (below_step (bv1_ HB GE682) hb)
          (try clear hb)
          (try clear hb2)
          (try clear hk)
          (try clear hi)
          refine hK.out _ _ ⟨(blk_cell BK682.out 0).trans rfl, (blk_cell BK682.out 1).trans rfl⟩ (fun hHeld => ?_)
          clear hK K
          refine no_ 27 ?_
          refine on_ HT_ 13 30 (bs 21 245759) (fun K hK => ?_)
          refine goes_ Try.func78 (by kernel_rfl) rfl #[.agg #[.int .i64 a0_0, .int .i64 a0_1], .int .i64 x14_2] (by rfl) rfl rfl mp_ ?_
          with_reducible refine (impl_Table_certificate.calls k2 a0_0 a0_1 x14_2 t688 _ A19.out).mono ?_
          rintro e w25 ⟨rfl, hb⟩
          refine ⟨_, rfl, ?_⟩
          replace BK682 := kb_ BK682 hb
          replace HB := Aside0.mk (below_step (bv1_ HB GE682) hb)
          (try clear hb)
          (try clear hb2)
          (try clear hk)
          (try clear hi)
          refine hK.out _ _ ⟨(blk_cell BK682.out 0).trans rfl, (blk_cell BK682.out 1).trans rfl⟩ (fun hHeld => ?_)
          clear hK K
          refine no_ 30 ?_
          refine pu_ HT_ 14 31 (bs 21 262143) ?_
          refine pu_ HT_ 18 35 (bs 21 524287) ?_
          refine pu_ HT_ 19 36 (bs 21 1048575) ?_
          refine pu_ HT_ 20 37 (bs 21 2097151) ?_
          refine done_ (done_of HT_.out (by kernel_rfl)) ?_
          try go_wp2
          go_ret
          exact ⟨by first | rfl | (simp [errW_none, errW_some] <;> rfl) | (simp [*, errW_none, errW_some] <;> rfl), bv1_ HB GE682⟩
         ·rw [if_neg c20] at H
          have c20b0 : ((Go.bits .and .i64 (Go.bits .and .i64 t687 t688) (Go.bits .xor .i64 x10_1 x14_2)) == 0) = false := beq_eq_false_iff_ne.mpr c20
          have c20b1 : ((Go.bits .and .i64 (Go.bits .and .i64 t687 t688) (Go.bits .xor .i64 x10_1 x14_2)) != 0) = true := bne_iff_ne.mpr c20
          have H' := Aside0.mk H
          clear H
          try go_wp2
          replace BK682 := Aside0.mk (blk_drew BK682.out)
          replace HB := Aside0.mk (below_drew1 HB.out)
          refine start_ (n := 21) (S := fun w' => w'.cell? ⟨gb682, 0, none⟩ = some (.int .i64 a0_0) ∧ w'.cell? ⟨gb682, 1, none⟩ = some (.int .i64 a0_1)) (ds := []) (bs 21 0) (by kernel_rfl) rfl (by kernel_rfl) ⟨(blk_cell BK682.out 0).trans rfl, (blk_cell BK682.out 1).trans rfl⟩ (fun hHeld => ?_); refine with_tabW impl_MeetingOf.tab9 impl_MeetingOf.bits9 (fun HT_ HW_ => ?_)
          generalize wr.drew = w26 at BK682 HB hHeld ⊢
          refine pu_ HT_ 1 18 (bs 21 2) ?_
          refine pu_ HT_ 4 21 (bs 21 18) ?_
          refine ta2_ HT_ HW_ 0 17 (bs 21 19) hHeld ?_
          refine ta2_ HT_ HW_ 3 20 (bs 21 27) hHeld ?_
          refine on_ HT_ 2 19 (bs 21 31) (fun K hK => ?_)
          refine goes_ Try.func66 (by kernel_rfl) rfl #[.agg #[.int .i64 a0_0, .int .i64 a0_1], .int .i64 x10_1] (by rfl) rfl rfl mp_ ?_
          with_reducible refine (impl_Table_at.calls a0_0 a0_1 x10_1 t685 _ A12.out).mono ?_
          rintro e w27 ⟨rfl, hb⟩
          refine ⟨_, rfl, ?_⟩
          replace BK682 := kb_ BK682 hb
          replace HB := Aside0.mk (below_step (bv1_ HB GE682) hb)
          (try clear hb)
          (try clear hb2)
          (try clear hk)
          (try clear hi)
          refine hK.out _ _ ⟨(blk_cell BK682.out 0).trans rfl, (blk_cell BK682.out 1).trans rfl⟩ (fun hHeld => ?_)
          clear hK K
          refine no_ 19 ?_
          refine on_ HT_ 5 22 (bs 21 63) (fun K hK => ?_)
          refine goes_ Try.func66 (by kernel_rfl) rfl #[.agg #[.int .i64 a0_0, .int .i64 a0_1], .int .i64 x14_2] (by rfl) rfl rfl mp_ ?_
          with_reducible refine (impl_Table_at.calls a0_0 a0_1 x14_2 t686 _ A13.out).mono ?_
          rintro e w28 ⟨rfl, hb⟩
          refine ⟨_, rfl, ?_⟩
          replace BK682 := kb_ BK682 hb
          replace HB := Aside0.mk (below_step (bv1_ HB GE682) hb)
          (try clear hb)
          (try clear hb2)
          (try clear hk)
          (try clear hi)
          refine hK.out _ _ ⟨(blk_cell BK682.out 0).trans rfl, (blk_cell BK682.out 1).trans rfl⟩ (fun hHeld => ?_)
          clear hK K
          refine no_ 22 ?_
          refine pu_ HT_ 6 23 (bs 21 127) ?_
          refine pu_ HT_ 7 24 (bs 21 255) ?_
          refine pu_ HT_ 9 26 (bs 21 767) ?_
          refine pu_ HT_ 12 29 (bs 21 4863) ?_
          refine pu_ HT_ 15 32 (bs 21 37631) ?_
          refine pu_ HT_ 16 33 (bs 21 103167) ?_
          refine pu_ HT_ 17 34 (bs 21 234239) ?_
          refine ta2_ HT_ HW_ 8 25 (bs 21 234495) hHeld ?_
          refine ta2_ HT_ HW_ 11 28 (bs 21 236543) hHeld ?_
          refine on_ HT_ 10 27 (bs 21 237567) (fun K hK => ?_)
          refine goes_ Try.func78 (by kernel_rfl) rfl #[.agg #[.int .i64 a0_0, .int .i64 a0_1], .int .i64 x10_1] (by rfl) rfl rfl mp_ ?_
          with_reducible refine (impl_Table_certificate.calls k2 a0_0 a0_1 x10_1 t687 _ A18.out).mono ?_
          rintro e w29 ⟨rfl, hb⟩
          refine ⟨_, rfl, ?_⟩
          replace BK682 := kb_ BK682 hb
          replace HB := Aside0.mk (below_step (bv1_ HB GE682) hb)
          (try clear hb)
          (try clear hb2)
          (try clear hk)
          (try clear hi)
          refine hK.out _ _ ⟨(blk_cell BK682.out 0).trans rfl, (blk_cell BK682.out 1).trans rfl⟩ (fun hHeld => ?_)
          clear hK K
          refine no_ 27 ?_
          refine on_ HT_ 13 30 (bs 21 245759) (fun K hK => ?_)
          refine goes_ Try.func78 (by kernel_rfl) rfl #[.agg #[.int .i64 a0_0, .int .i64 a0_1], .int .i64 x14_2] (by rfl) rfl rfl mp_ ?_
          with_reducible refine (impl_Table_certificate.calls k2 a0_0 a0_1 x14_2 t688 _ A19.out).mono ?_
          rintro e w30 ⟨rfl, hb⟩
          refine ⟨_, rfl, ?_⟩
          replace BK682 := kb_ BK682 hb
          replace HB := Aside0.mk (below_step (bv1_ HB GE682) hb)
          (try clear hb)
          (try clear hb2)
          (try clear hk)
          (try clear hi)
          refine hK.out _ _ ⟨(blk_cell BK682.out 0).trans rfl, (blk_cell BK682.out 1).trans rfl⟩ (fun hHeld => ?_)
          clear hK K
          refine no_ 30 ?_
          refine pu_ HT_ 14 31 (bs 21 262143) ?_
          refine pu_ HT_ 18 35 (bs 21 524287) ?_
          refine pu_ HT_ 19 36 (bs 21 1048575) ?_
          refine pu_ HT_ 20 37 (bs 21 2097151) ?_
          refine done_ (done_of HT_.out (by kernel_rfl)) ?_
          try go_wp2
          go_roundg k2
          case measure => have := HK1.out; have := HK2.out; omega
          case rel => exact ⟨(wrap64 (x14_2 + 1)), (by first | rfl | (simp; done) | (simp [*]; done)), H', ⟨by have := HK1.out; have := HK2.out; omega⟩, ⟨by (with_reducible repeat (first | refine blk_drewN ?_ _ | refine blk_drew ?_ | refine blk_alloc ?_ _)); exact BK682.out⟩, ⟨bv1_ HB GE682⟩⟩
       ·rw [if_neg c11] at H
        have c11b0 : decide (x14_2 < x10_1) = false := decide_eq_false c11
        clear c11
        have H' := Aside0.mk H
        clear H
        go_wp2
        go_roundg k2
        case measure => have := HK1.out; have := HK2.out; omega
        case rel => exact ⟨(wrap64 (x10_1 + 1)), (by first | rfl | (simp; done) | (simp [*]; done)), H', ⟨by have := HK1.out; have := HK2.out; omega⟩, ⟨by (with_reducible repeat (first | refine blk_drewN ?_ _ | refine blk_drew ?_ | refine blk_alloc ?_ _)); exact BK682.out⟩, ⟨bv1_ HB GE682⟩⟩
    ·rw [if_neg c10] at H
     have c10b0 : decide (x10_1 < t684) = false := decide_eq_false c10
     clear c10
     obtain rfl := Option.some.inj H
     go_wp2
     go_ret
     exact ⟨by first | rfl | (simp [errW_none, errW_some] <;> rfl) | (simp [*, errW_none, errW_some] <;> rfl), bv1_ HB GE682⟩
 ·replace c3 := Bool.eq_false_iff.mpr c3
  subst c3
  rw [if_neg (show ¬ (false = true) by decide)] at H
  obtain rfl := Option.some.inj H
  go_enter Try.func36, Try.ntmps36
  go_wp2_with (first | ((with_reducible refine gate_dst (N := 1) rfl ?_); refine bx_ 1 #[.int .i64 a0_0, .int .i64 a0_1] 25 ?_; intro gb682 hg w31 hbox hb; have BK682 := Aside0.mk (hbox); have GW682 := gw_ hg (below_size (bv_ HB)); have GE682 := GW682; replace HB := Aside0.mk (below_step (bv_ HB) hb); clear hb hbox hg; obtain ⟨hcz32_0, hcz32_1, hfz32_0, hfz32_1⟩ := c2_ BK682) | ((with_reducible refine gate_callee (f := 61) rfl ?_); refine gl_ 6 Try.func61 #[.agg #[.int .i64 a0_0, .int .i64 a0_1]] rfl mp_ ?_; (with_reducible refine (impl_IsTable.calls a0_0 a0_1 false _ A2.out).mono ?_); rintro e w33 ⟨rfl, hb⟩; refine ⟨_, rfl, ?_⟩; replace BK682 := kb_ BK682 hb; replace HB := Aside0.mk (below_step (bv1_ HB GE682) hb); (try clear hb); (try clear hb2); (try clear hk); (try clear hi)))
  go_ret
  exact ⟨by first | rfl | (simp [errW_none, errW_some] <;> rfl) | (simp [*, errW_none, errW_some] <;> rfl), bv1_ HB GE682⟩


/-! ### impl_IsSensitiveBlock: function 37 -/
def impl_IsSensitiveBlock.f (a0_0 : Int) (a0_1 : Int) (a1 : Int) (a2 : Int) : Option (Bool) := (impl_hasInput.f a0_0 a0_1 a1).bind fun t690 => (if t690 = true then ((impl_isInput.f a0_0 a2).bind fun t691 => (if t691 = true then ((impl_Table_changes.f a0_0 a0_1 a1 a2).bind fun t692 => (some t692)) else (some false))) else (some false))
set_option maxHeartbeats 8000000 in
set_option maxRecDepth 100000 in
theorem impl_IsSensitiveBlock.calls (a0_0 : Int) (a0_1 : Int) (a1 : Int) (a2 : Int) (r : Bool) (w : World) (h : impl_IsSensitiveBlock.f a0_0 a0_1 a1 a2 = some r) :
  Calls Try.prog 37 #[.agg #[.int .i64 a0_0, .int .i64 a0_1], .int .i64 a1, .int .i64 a2] w fun e w' => e = .returned (.bool r) ∧ Below w.heap.size w w' := by
 have hu25 := Try.underlying25
 have HB := Aside0.mk (Below.refl w.heap.size w)
 have H : ((impl_hasInput.f a0_0 a0_1 a1).bind fun t690 => (if t690 = true then ((impl_isInput.f a0_0 a2).bind fun t691 => (if t691 = true then ((impl_Table_changes.f a0_0 a0_1 a1 a2).bind fun t692 => (some t692)) else (some false))) else (some false))) = some r := h
 clear h
 replace H := Option.bind_eq_some_iff.mp H
 obtain ⟨t690, A40, H⟩ := H
 have A4 := Aside0.mk A40
 clear A40
 by_cases c5 : t690 = true
 ·subst c5
  rw [if_pos rfl] at H
  replace H := Option.bind_eq_some_iff.mp H
  obtain ⟨t691, A60, H⟩ := H
  have A6 := Aside0.mk A60
  clear A60
  by_cases c7 : t691 = true
  ·subst c7
   rw [if_pos rfl] at H
   replace H := Option.bind_eq_some_iff.mp H
   obtain ⟨t692, A80, H⟩ := H
   have A8 := Aside0.mk A80
   clear A80
   obtain rfl := Option.some.inj H
   go_enter Try.func37, Try.ntmps37
   go_wp2_with (first | ((with_reducible refine gate_dst (N := 3) rfl ?_); refine bx_ 3 #[.int .i64 a0_0, .int .i64 a0_1] 25 ?_; intro gb689 hg w9 hbox hb; have BK689 := Aside0.mk (hbox); have GW689 := gw_ hg (below_size (bv_ HB)); have GE689 := GW689; replace HB := Aside0.mk (below_step (bv_ HB) hb); clear hb hbox hg; obtain ⟨hcz10_0, hcz10_1, hfz10_0, hfz10_1⟩ := c2_ BK689) | ((with_reducible refine gate_callee (f := 77) rfl ?_); refine gl_ 9 Try.func77 #[.agg #[.int .i64 a0_0, .int .i64 a0_1], .int .i64 a1] rfl mp_ ?_; (with_reducible refine (impl_hasInput.calls a0_0 a0_1 a1 true _ A4.out).mono ?_); rintro e w11 ⟨rfl, hb⟩; refine ⟨_, rfl, ?_⟩; replace BK689 := kb_ BK689 hb; replace HB := Aside0.mk (below_step (bv1_ HB GE689) hb); (try clear hb); (try clear hb2); (try clear hk); (try clear hi); obtain ⟨hcz12_0, hcz12_1, hfz12_0, hfz12_1⟩ := c2_ BK689) | (go_at_call 84; (with_reducible refine (impl_isInput.calls a0_0 a2 true _ A6.out).mono ?_); rintro e w' ⟨rfl, ⟨nd, rfl⟩⟩) | (go_at_call 87; (with_reducible refine (impl_Table_changes.calls a0_0 a0_1 a1 a2 t692 _ A8.out).mono ?_); rintro e w13 ⟨rfl, hb⟩; replace BK689 := kb_ BK689 hb; replace HB := Aside0.mk (below_step (bv1_ HB GE689) hb); (try clear hb); (try clear hb2); (try clear hk); (try clear hi)))
   go_ret
   exact ⟨by first | rfl | (simp [errW_none, errW_some] <;> rfl) | (simp [*, errW_none, errW_some] <;> rfl), bv1_ HB GE689⟩
  ·replace c7 := Bool.eq_false_iff.mpr c7
   subst c7
   rw [if_neg (show ¬ (false = true) by decide)] at H
   obtain rfl := Option.some.inj H
   go_enter Try.func37, Try.ntmps37
   go_wp2_with (first | ((with_reducible refine gate_dst (N := 3) rfl ?_); refine bx_ 3 #[.int .i64 a0_0, .int .i64 a0_1] 25 ?_; intro gb689 hg w14 hbox hb; have BK689 := Aside0.mk (hbox); have GW689 := gw_ hg (below_size (bv_ HB)); have GE689 := GW689; replace HB := Aside0.mk (below_step (bv_ HB) hb); clear hb hbox hg; obtain ⟨hcz15_0, hcz15_1, hfz15_0, hfz15_1⟩ := c2_ BK689) | ((with_reducible refine gate_callee (f := 77) rfl ?_); refine gl_ 9 Try.func77 #[.agg #[.int .i64 a0_0, .int .i64 a0_1], .int .i64 a1] rfl mp_ ?_; (with_reducible refine (impl_hasInput.calls a0_0 a0_1 a1 true _ A4.out).mono ?_); rintro e w16 ⟨rfl, hb⟩; refine ⟨_, rfl, ?_⟩; replace BK689 := kb_ BK689 hb; replace HB := Aside0.mk (below_step (bv1_ HB GE689) hb); (try clear hb); (try clear hb2); (try clear hk); (try clear hi); obtain ⟨hcz17_0, hcz17_1, hfz17_0, hfz17_1⟩ := c2_ BK689) | (go_at_call 84; (with_reducible refine (impl_isInput.calls a0_0 a2 false _ A6.out).mono ?_); rintro e w' ⟨rfl, ⟨nd, rfl⟩⟩))
   go_ret
   exact ⟨by first | rfl | (simp [errW_none, errW_some] <;> rfl) | (simp [*, errW_none, errW_some] <;> rfl), bv1_ HB GE689⟩
 ·replace c5 := Bool.eq_false_iff.mpr c5
  subst c5
  rw [if_neg (show ¬ (false = true) by decide)] at H
  obtain rfl := Option.some.inj H
  go_enter Try.func37, Try.ntmps37
  go_wp2_with (first | ((with_reducible refine gate_dst (N := 3) rfl ?_); refine bx_ 3 #[.int .i64 a0_0, .int .i64 a0_1] 25 ?_; intro gb689 hg w18 hbox hb; have BK689 := Aside0.mk (hbox); have GW689 := gw_ hg (below_size (bv_ HB)); have GE689 := GW689; replace HB := Aside0.mk (below_step (bv_ HB) hb); clear hb hbox hg; obtain ⟨hcz19_0, hcz19_1, hfz19_0, hfz19_1⟩ := c2_ BK689) | ((with_reducible refine gate_callee (f := 77) rfl ?_); refine gl_ 9 Try.func77 #[.agg #[.int .i64 a0_0, .int .i64 a0_1], .int .i64 a1] rfl mp_ ?_; (with_reducible refine (impl_hasInput.calls a0_0 a0_1 a1 false _ A4.out).mono ?_); rintro e w20 ⟨rfl, hb⟩; refine ⟨_, rfl, ?_⟩; replace BK689 := kb_ BK689 hb; replace HB := Aside0.mk (below_step (bv1_ HB GE689) hb); (try clear hb); (try clear hb2); (try clear hk); (try clear hi)))
  go_ret
  exact ⟨by first | rfl | (simp [errW_none, errW_some] <;> rfl) | (simp [*, errW_none, errW_some] <;> rfl), bv1_ HB GE689⟩


/-! ### spec_DrawMinimalBlocks: function 38 -/
def spec_DrawMinimalBlocks.f (k : Nat) (l0 : List Int) : Option (Int × Int × Int) := (spec_l9Both.f k l0).bind fun bt694 => (some (bt694.1, bt694.2.1, bt694.2.2))
theorem spec_DrawMinimalBlocks.mono : ∀ a0 k, LeO (spec_DrawMinimalBlocks.f k a0) (spec_DrawMinimalBlocks.f (k + 1) a0) := by
 intro a0 k
 unfold spec_DrawMinimalBlocks.f
 repeat' first
   | (with_reducible exact spec_l9Both.mono _ _)
   | (with_reducible exact LeO.refl _)
   | (with_reducible exact LeO.none _)
   | (with_reducible refine LeO.ite ?_ ?_)
   | (with_reducible refine LeO.bind ?_ (fun _ => ?_))
   | exact spec_l9Both.mono _ _
   | exact LeO.none _
   | refine LeO.ite ?_ ?_
   | refine LeO.bind ?_ (fun _ => ?_)
set_option maxHeartbeats 8000000 in
set_option maxRecDepth 100000 in
theorem spec_DrawMinimalBlocks.calls (k : Nat) (A0 : Option Addr) (c0 : Nat) (l0 : List Int) (r1 : Int) (r2 : Int) (r3 : Int) (w : World) (hr0 : Kd.C (Kd.int .u8) w A0 l0.length l0) (hc0 : l0.length ≤ c0) (h : spec_DrawMinimalBlocks.f k l0 = some (r1, r2, r3)) :
  Calls Try.prog 38 #[.slice A0 l0.length c0] w fun e w' => e = .returned (.tuple #[.agg #[.int .i64 r1, .int .i64 r2], .int .i64 r3]) ∧ Below w.heap.size w w' := by
 have hu25 := Try.underlying25
 have HR0 := Aside0.mk hr0
 have HC0 := Aside0.mk hc0
 clear hr0 hc0
 have HB := Aside0.mk (Below.refl w.heap.size w)
 have H : ((spec_l9Both.f k l0).bind fun bt694 => (some (bt694.1, bt694.2.1, bt694.2.2))) = some (r1, r2, r3) := h
 clear h
 replace H := Option.bind_eq_some_iff.mp H
 obtain ⟨⟨t694, t695, t696⟩, A20, H⟩ := H
 replace H : (some (t694, t695, t696)) = some (r1, r2, r3) := H
 have A2 := Aside0.mk A20
 clear A20
 simp only [Option.some.injEq, Prod.mk.injEq] at H
 obtain ⟨rfl, rfl, rfl⟩ := H
 go_enter Try.func38, Try.ntmps38
 go_wp2_with (first | ((with_reducible refine gate_dst (N := 2) rfl ?_); refine bx_ 2 #[.int .i64 0, .int .i64 0] 25 ?_; intro gb693 hg w3 hbox hb; have BK693 := Aside0.mk (hbox); have GW693 := gw_ hg (below_size (bv_ HB)); have GE693 := GW693; replace HB := Aside0.mk (below_step (bv_ HB) hb); clear hb hbox hg) | ((with_reducible refine gate_callee (f := 76) rfl ?_); refine gl_ 8 Try.func76 #[.slice A0 l0.length c0] rfl mp_ ?_; (with_reducible refine (spec_l9Both.calls k _ _ l0 t694 t695 t696 _ ?side1 ?side2 A2.out).mono ?_); (case side1 => exact cv_ (Kd.C_below HR0.out HB.out)); (case side2 => exact HC0.out); rintro e w4 ⟨rfl, hb⟩; refine ⟨_, rfl, ?_⟩; replace BK693 := kb_ BK693 hb; replace HB := Aside0.mk (below_step (bv1_ HB GE693) hb); (try clear hb); (try clear hb2); (try clear hk); (try clear hi)) | ((with_reducible refine gate_dst (N := 4) rfl ?_); refine bx_ 4 #[.int .i64 0, .int .i64 0] 25 ?_; intro gb697 hg w5 hbox hb; have BK697 := Aside0.mk (hbox); have GW697 := gw_ hg (below_size (bv1_ HB GE693)); have GE697 := GW697; replace HB := Aside0.mk (below_step (bv1_ HB GE693) hb); have NB693_697 := nb_ hg (blk_lt (g := gb693) (o := .cells #[.int .i64 0, .int .i64 0] 25 (0, 0)) (kv_ BK693)); have NB697_693 := nc_ hg (blk_lt (g := gb693) (o := .cells #[.int .i64 0, .int .i64 0] 25 (0, 0)) (kv_ BK693)); replace BK693 := kb_ BK693 hb; clear hb hbox hg; have hnb6 := NB697_693.out; have hnc6 := NB693_697.out; obtain ⟨hcz7_0, hcz7_1, hfz7_0, hfz7_1⟩ := c2_ BK697; obtain ⟨hcz8_0, hcz8_1, hfz8_0, hfz8_1⟩ := c2_ BK693))
 refine bodyPost_ret (results_ct rfl _ _ gb693 25 #[.int .i64 t694, .int .i64 t695] (0, 0) _ rfl (by (with_reducible repeat (first | refine blk_drewN ?_ _ | refine blk_drew ?_ | refine blk_alloc ?_ _)); refine blk_put (cs := #[.int .i64 t694, .int .i64 0]) ?_ 1 _ rfl; (with_reducible repeat (first | refine blk_drewN ?_ _ | refine blk_drew ?_ | refine blk_alloc ?_ _)); refine blk_put (cs := #[.int .i64 0, .int .i64 0]) ?_ 0 _ rfl; (with_reducible repeat (first | refine blk_drewN ?_ _ | refine blk_drew ?_ | refine blk_alloc ?_ _)); refine blk_far ?_ NB693_697.out _; (with_reducible repeat (first | refine blk_drewN ?_ _ | refine blk_drew ?_ | refine blk_alloc ?_ _)); refine blk_far ?_ NB693_697.out _; (with_reducible repeat (first | refine blk_drewN ?_ _ | refine blk_drew ?_ | refine blk_alloc ?_ _)); exact BK693.out) Try.underlying25 rfl (by kernel_rfl)) rfl ?_
 exact ⟨by first | rfl | (simp [errW_none, errW_some] <;> rfl) | (simp [*, errW_none, errW_some] <;> rfl), bv2_ HB GE693 GE697⟩


/-! ### spec_l10Blocks: function 88 -/
mutual
def spec_l10Blocks.l0 : Nat → Int → List Int → Int → Int → Int → Option (List Int)
 | 0, _, _, _, _, _ => none
 | k + 1, x1, x5, x6, x699000, x699001 => if 0 ≤ x699000 then (if x6 < (shl .i64 1 x699000) then (if 0 ≤ x1 then (if 0 ≤ (Go.bits .xor .i64 x1 x6) then (if (Go.bits .and .i64 (shr .i64 x699001 x1) 1) = (Go.bits .and .i64 (shr .i64 x699001 (Go.bits .xor .i64 x1 x6)) 1) then (spec_l10Blocks.l0 k x1 x5 (wrap64 (x6 + 1)) x699000 x699001) else (spec_l10Blocks.l1 k x1 x5 x6 true 0 x699000 x699001)) else (none)) else (none)) else (some x5)) else (none)
def spec_l10Blocks.l1 : Nat → Int → List Int → Int → Bool → Int → Int → Int → Option (List Int)
 | 0, _, _, _, _, _, _, _ => none
 | k + 1, x1, x5, x6, x7, x8, x699000, x699001 => if x8 < (x5.length : Int) then (if x7 = true then (if 0 ≤ x8 then (spec_l10Blocks.l1 k x1 x5 x6 ((Go.bits .and .i64 (rd x5 x8) x6) != (rd x5 x8)) (wrap64 (x8 + 1)) x699000 x699001) else (none)) else (spec_l10Blocks.l1 k x1 x5 x6 false (wrap64 (x8 + 1)) x699000 x699001)) else (if x7 = true then (if x5.length < 17592186044416 then (spec_l10Blocks.l0 k x1 (x5 ++ [x6]) (wrap64 (x6 + 1)) x699000 x699001) else (none)) else (spec_l10Blocks.l0 k x1 x5 (wrap64 (x6 + 1)) x699000 x699001))
end
def spec_l10Blocks.f (k : Nat) (a0_0 : Int) (a0_1 : Int) (a1 : Int) : Option (List Int) := spec_l10Blocks.l0 k a1 (([] : List Int)) 1 a0_0 a0_1
theorem spec_l10Blocks.mono_l : ∀ k, (∀ y0 y1 y2 y3 y4, LeO (spec_l10Blocks.l0 k y0 y1 y2 y3 y4) (spec_l10Blocks.l0 (k + 1) y0 y1 y2 y3 y4)) ∧ (∀ y0 y1 y2 y3 y4 y5 y6, LeO (spec_l10Blocks.l1 k y0 y1 y2 y3 y4 y5 y6) (spec_l10Blocks.l1 (k + 1) y0 y1 y2 y3 y4 y5 y6))
 | 0 => ⟨fun _ _ _ _ _ r h => by simp [spec_l10Blocks.l0] at h, fun _ _ _ _ _ _ _ r h => by simp [spec_l10Blocks.l1] at h⟩
 | k + 1 => by
  obtain ⟨ih0, ih1⟩ := spec_l10Blocks.mono_l k
  refine ⟨?_, ?_⟩
  ·intro y0 y1 y2 y3 y4
   unfold spec_l10Blocks.l0
   repeat' first
   | (with_reducible exact ih0 _ _ _ _ _)
   | (with_reducible exact ih1 _ _ _ _ _ _ _)
   | (with_reducible exact LeO.refl _)
   | (with_reducible exact LeO.none _)
   | (with_reducible refine LeO.ite ?_ ?_)
   | (with_reducible refine LeO.bind ?_ (fun _ => ?_))
   | exact ih0 _ _ _ _ _
   | exact ih1 _ _ _ _ _ _ _
   | exact LeO.none _
   | refine LeO.ite ?_ ?_
   | refine LeO.bind ?_ (fun _ => ?_)
  ·intro y0 y1 y2 y3 y4 y5 y6
   unfold spec_l10Blocks.l1
   repeat' first
   | (with_reducible exact ih0 _ _ _ _ _)
   | (with_reducible exact ih1 _ _ _ _ _ _ _)
   | (with_reducible exact LeO.refl _)
   | (with_reducible exact LeO.none _)
   | (with_reducible refine LeO.ite ?_ ?_)
   | (with_reducible refine LeO.bind ?_ (fun _ => ?_))
   | exact ih0 _ _ _ _ _
   | exact ih1 _ _ _ _ _ _ _
   | exact LeO.none _
   | refine LeO.ite ?_ ?_
   | refine LeO.bind ?_ (fun _ => ?_)
theorem spec_l10Blocks.mono : ∀ a0 a1 a2 k, LeO (spec_l10Blocks.f k a0 a1 a2) (spec_l10Blocks.f (k + 1) a0 a1 a2) := by
 intro a0 a1 a2 k
 obtain ⟨ih0, ih1⟩ := spec_l10Blocks.mono_l k
 unfold spec_l10Blocks.f
 repeat' first
   | (with_reducible exact ih0 _ _ _ _ _)
   | (with_reducible exact ih1 _ _ _ _ _ _ _)
   | (with_reducible exact LeO.refl _)
   | (with_reducible exact LeO.none _)
   | (with_reducible refine LeO.ite ?_ ?_)
   | (with_reducible refine LeO.bind ?_ (fun _ => ?_))
   | exact ih0 _ _ _ _ _
   | exact ih1 _ _ _ _ _ _ _
   | exact LeO.none _
   | refine LeO.ite ?_ ?_
   | refine LeO.bind ?_ (fun _ => ?_)
set_option maxHeartbeats 8000000 in
set_option maxRecDepth 100000 in
theorem spec_l10Blocks.calls (k : Nat) (a0_0 : Int) (a0_1 : Int) (a1 : Int) (r : List Int) (w : World) (h : spec_l10Blocks.f k a0_0 a0_1 a1 = some r) :
  Calls Try.prog 88 #[.agg #[.int .i64 a0_0, .int .i64 a0_1], .int .i64 a1] w fun e w' => ∃ v0_ : Value, e = .returned (v0_) ∧ Kd.R (Kd.int .i64) 3 w' w.heap.size (fun _ => True) v0_ r ∧ Below w.heap.size w w' := by
 have hu25 := Try.underlying25
 have HB := Aside0.mk (Below.refl w.heap.size w)
 have H : (spec_l10Blocks.l0 k a1 (([] : List Int)) 1 a0_0 a0_1) = some r := h
 clear h
 obtain ⟨y699, hy699⟩ : ∃ y_ : List Int, y_ = (([] : List Int)) := ⟨_, rfl⟩
 replace H : (spec_l10Blocks.l0 k a1 y699 1 a0_0 a0_1) = some r := by first | (rw [hy699]; with_reducible exact H) | (have H2_ := (Option.bind_some _ _).symm.trans H; rw [hy699]; with_reducible exact H2_) | (have H2_ := (Option.bind_some _ _).symm.trans H; with_reducible exact H2_) | with_reducible exact H | (rw [hy699]; exact H) | exact H
 have Ny699 := Aside0.mk hy699
 clear hy699
 have H' := Aside0.mk H
 clear H
 go_enter Try.func88, Try.ntmps88
 go_wp2_with (first | ((with_reducible refine gate_dst (N := 2) rfl ?_); refine bx_ 2 #[.int .i64 a0_0, .int .i64 a0_1] 25 ?_; intro gb698 hg w3 hbox hb; have BK698 := Aside0.mk (hbox); have GW698 := gw_ hg (below_size (bv_ HB)); have GE698 := GW698; replace HB := Aside0.mk (below_step (bv_ HB) hb); clear hb hbox hg) | ((with_reducible refine gate_dst (N := 9) rfl ?_); refine Kd.R_lit (Kd.int .i64) _ 3 ?hg (N := 9) ?hd (xs := ([] : List Int)) (inner := []) (ok := fun _ => True) (okp := fun _ => True) ?hr ?hp (fun _ hk => hk) trivial (Below.refl _ _) (Nat.le_refl _) (by simp) ?_; (case hd => rfl); (case hg => rfl); (case hr => first | (go_simp; done) | (go_simp; rfl)); (case hp => exact (Reps.none _ _)); intro v700 w4 ho5 hb hg_ hnew_; clear hg_ hnew_; (first | rw [← Ny699.out] at ho5 | (simp only [Int.reduceToNat] at ho5; rw [← Ny699.out] at ho5)); have HO701 := Aside0.mk (Kd.R_lower ho5 (below_size (bv1_ HB GE698))); replace BK698 := kb_ BK698 hb; replace HB := Aside0.mk (below_step (bv1_ HB GE698) hb); clear hb ho5))
 repeat (go_quiet (first | ((with_reducible refine gate_dst (N := 2) rfl ?_); refine bx_ 2 #[.int .i64 a0_0, .int .i64 a0_1] 25 ?_; intro gb698 hg w3 hbox hb; have BK698 := Aside0.mk (hbox); have GW698 := gw_ hg (below_size (bv_ HB)); have GE698 := GW698; replace HB := Aside0.mk (below_step (bv_ HB) hb); clear hb hbox hg) | ((with_reducible refine gate_dst (N := 9) rfl ?_); refine Kd.R_lit (Kd.int .i64) _ 3 ?hg (N := 9) ?hd (xs := ([] : List Int)) (inner := []) (ok := fun _ => True) (okp := fun _ => True) ?hr ?hp (fun _ hk => hk) trivial (Below.refl _ _) (Nat.le_refl _) (by simp) ?_; (case hd => rfl); (case hg => rfl); (case hr => first | (go_simp; done) | (go_simp; rfl)); (case hp => exact (Reps.none _ _)); intro v700 w4 ho5 hb hg_ hnew_; clear hg_ hnew_; (first | rw [← Ny699.out] at ho5 | (simp only [Int.reduceToNat] at ho5; rw [← Ny699.out] at ho5)); have HO701 := Aside0.mk (Kd.R_lower ho5 (below_size (bv1_ HB GE698))); replace BK698 := kb_ BK698 hb; replace HB := Aside0.mk (below_step (bv1_ HB GE698) hb); clear hb ho5)); try go_wp2_with (first | ((with_reducible refine gate_dst (N := 2) rfl ?_); refine bx_ 2 #[.int .i64 a0_0, .int .i64 a0_1] 25 ?_; intro gb698 hg w3 hbox hb; have BK698 := Aside0.mk (hbox); have GW698 := gw_ hg (below_size (bv_ HB)); have GE698 := GW698; replace HB := Aside0.mk (below_step (bv_ HB) hb); clear hb hbox hg) | ((with_reducible refine gate_dst (N := 9) rfl ?_); refine Kd.R_lit (Kd.int .i64) _ 3 ?hg (N := 9) ?hd (xs := ([] : List Int)) (inner := []) (ok := fun _ => True) (okp := fun _ => True) ?hr ?hp (fun _ hk => hk) trivial (Below.refl _ _) (Nat.le_refl _) (by simp) ?_; (case hd => rfl); (case hg => rfl); (case hr => first | (go_simp; done) | (go_simp; rfl)); (case hp => exact (Reps.none _ _)); intro v700 w4 ho5 hb hg_ hnew_; clear hg_ hnew_; (first | rw [← Ny699.out] at ho5 | (simp only [Int.reduceToNat] at ho5; rw [← Ny699.out] at ho5)); have HO701 := Aside0.mk (Kd.R_lower ho5 (below_size (bv1_ HB GE698))); replace BK698 := kb_ BK698 hb; replace HB := Aside0.mk (below_step (bv1_ HB GE698) hb); clear hb ho5)))
 go_loopg [5, 6] k (fun kq v5 v6 w' => ∃ (x5_1 : List Int) (x6_1 : Int), v6 = .int .i64 x6_1 ∧ Aside0 (spec_l10Blocks.l0 kq a1 x5_1 x6_1 a0_0 a0_1 = some r) ∧ Aside0 (kq ≤ k) ∧ Aside0 (Kd.R (Kd.int .i64) 3 w' w.heap.size (fun _ => True) v5 x5_1) ∧ Aside0 (w'.heap[gb698]? = some (.cells #[.int .i64 a0_0, .int .i64 a0_1] 25 (0, 0))) ∧ Aside0 (Below w.heap.size w w'))
 case atStart => exact ⟨(y699), (1), (by first | rfl | (simp; done) | (simp [*]; done)), H', ⟨Nat.le_refl _⟩, ⟨by (with_reducible repeat (first | apply Kd.R_alloc | apply Kd.R_drewN | apply Kd.R_drew)); exact HO701.out⟩, ⟨by (with_reducible repeat (first | refine blk_drewN ?_ _ | refine blk_drew ?_ | refine blk_alloc ?_ _)); exact BK698.out⟩, ⟨bv1_ HB GE698⟩⟩
 case round =>
  clear H'
  try clear p2
  obtain ⟨x5_1, x6_1, rfl, HA, HK1, HO_5, BK698, HB⟩ := hrel
  cases gk with
  | zero => exact absurd HA.out (by simp [spec_l10Blocks.l0])
  | succ k1 =>
   have H := HA.out
   clear HA
   simp only [spec_l10Blocks.l0] at H
   by_cases c6 : 0 ≤ a0_0
   ·rw [if_pos c6] at H
    have c6b0 := eq_true c6
    have c6b1 : decide (0 ≤ a0_0) = true := decide_eq_true c6
    clear c6
    obtain ⟨ji7, hji7⟩ : ∃ j_ : Int, (shl .i64 1 a0_0) = j_ := ⟨_, rfl⟩
    replace H : (if x6_1 < (ji7) then (if 0 ≤ a1 then (if 0 ≤ (Go.bits .xor .i64 a1 x6_1) then (if (Go.bits .and .i64 (shr .i64 a0_1 a1) 1) = (Go.bits .and .i64 (shr .i64 a0_1 (Go.bits .xor .i64 a1 x6_1)) 1) then (spec_l10Blocks.l0 k1 a1 x5_1 (wrap64 (x6_1 + 1)) a0_0 a0_1) else (spec_l10Blocks.l1 k1 a1 x5_1 x6_1 true 0 a0_0 a0_1)) else (none)) else (none)) else (some x5_1)) = some r := by first | (rw [hji7] at H; exact H) | (simp only [hji7] at H ⊢; exact H)
    have hji7_ : (IntKind.i64.wrap (1 * 2 ^ min a0_0.toNat 64)) = ji7 := hji7
    have hji7z : a0_0 ≤ 64 → (IntKind.i64.wrap (1 * 2 ^ a0_0.toNat)) = ji7 := shl_small hji7
    have hji7u : (IntKind.i64.wrap (2 ^ min a0_0.toNat 64)) = ji7 := by have h_ := hji7_; rw [Int.one_mul] at h_; exact h_
    have hji7v : a0_0 ≤ 64 → (IntKind.i64.wrap (2 ^ a0_0.toNat)) = ji7 := fun hle_ => by have h_ := hji7z hle_; rw [Int.one_mul] at h_; exact h_
    have hji7y : (wrap64 (1 * 2 ^ min a0_0.toNat 64)) = ji7 := (i64_w _).symm.trans hji7_
    have hji7x : a0_0 ≤ 64 → (wrap64 (1 * 2 ^ a0_0.toNat)) = ji7 := fun h_ => (i64_w _).symm.trans (hji7z h_)
    by_cases c8 : x6_1 < (ji7)
    ·rw [if_pos c8] at H
     have c8b0 : decide (x6_1 < (ji7)) = true := decide_eq_true c8
     clear c8
     by_cases c9 : 0 ≤ a1
     ·rw [if_pos c9] at H
      have c9b0 := eq_true c9
      have c9b1 : decide (0 ≤ a1) = true := decide_eq_true c9
      clear c9
      obtain ⟨ji10, hji10⟩ : ∃ j_ : Int, (shr .i64 a0_1 a1) = j_ := ⟨_, rfl⟩
      replace H : (if 0 ≤ (Go.bits .xor .i64 a1 x6_1) then (if (Go.bits .and .i64 (ji10) 1) = (Go.bits .and .i64 (shr .i64 a0_1 (Go.bits .xor .i64 a1 x6_1)) 1) then (spec_l10Blocks.l0 k1 a1 x5_1 (wrap64 (x6_1 + 1)) a0_0 a0_1) else (spec_l10Blocks.l1 k1 a1 x5_1 x6_1 true 0 a0_0 a0_1)) else (none)) = some r := by first | (rw [hji10] at H; exact H) | (simp only [hji10] at H ⊢; exact H)
      have hji10_ : (a0_1 / 2 ^ min a1.toNat 64) = ji10 := hji10
      have hji10z : a1 ≤ 64 → (a0_1 / 2 ^ a1.toNat) = ji10 := shr_small hji10
      by_cases c11 : 0 ≤ (Go.bits .xor .i64 a1 x6_1)
      ·rw [if_pos c11] at H
       have c11b0 := eq_true c11
       have c11b1 : decide (0 ≤ (Go.bits .xor .i64 a1 x6_1)) = true := decide_eq_true c11
       clear c11
       obtain ⟨ji12, hji12⟩ : ∃ j_ : Int, (shr .i64 a0_1 (Go.bits .xor .i64 a1 x6_1)) = j_ := ⟨_, rfl⟩
       replace H : (if (Go.bits .and .i64 (ji10) 1) = (Go.bits .and .i64 (ji12) 1) then (spec_l10Blocks.l0 k1 a1 x5_1 (wrap64 (x6_1 + 1)) a0_0 a0_1) else (spec_l10Blocks.l1 k1 a1 x5_1 x6_1 true 0 a0_0 a0_1)) = some r := by first | (rw [hji12] at H; exact H) | (simp only [hji12] at H ⊢; exact H)
       have hji12_ : (a0_1 / 2 ^ min (Go.bits .xor .i64 a1 x6_1).toNat 64) = ji12 := hji12
       have hji12z : (Go.bits .xor .i64 a1 x6_1) ≤ 64 → (a0_1 / 2 ^ (Go.bits .xor .i64 a1 x6_1).toNat) = ji12 := shr_small hji12
       by_cases c13 : (Go.bits .and .i64 (ji10) 1) = (Go.bits .and .i64 (ji12) 1)
       ·rw [if_pos c13] at H
        have c13b0 : ((Go.bits .and .i64 (ji10) 1) == (Go.bits .and .i64 (ji12) 1)) = true := beq_iff_eq.mpr c13
        have c13b1 : ((Go.bits .and .i64 (ji10) 1) != (Go.bits .and .i64 (ji12) 1)) = false := bne_eq_false_iff_eq.mpr c13
        clear c13
        have H' := Aside0.mk H
        clear H
        obtain ⟨hcz14_0, hcz14_1, hfz14_0, hfz14_1⟩ := c2_ BK698
        go_wp2
        repeat (go_quiet (fail); try go_wp2)
        go_roundg k1
        case measure => have := HK1.out; omega
        case rel => exact ⟨(x5_1), (wrap64 (x6_1 + 1)), (by first | rfl | (simp; done) | (simp [*]; done)), H', ⟨by have := HK1.out; omega⟩, ⟨by (with_reducible repeat (first | apply Kd.R_alloc | apply Kd.R_drewN | apply Kd.R_drew)); exact HO_5.out⟩, ⟨by (with_reducible repeat (first | refine blk_drewN ?_ _ | refine blk_drew ?_ | refine blk_alloc ?_ _)); exact BK698.out⟩, ⟨bv1_ HB GE698⟩⟩
       ·rw [if_neg c13] at H
        have c13b0 : ((Go.bits .and .i64 (ji10) 1) == (Go.bits .and .i64 (ji12) 1)) = false := beq_eq_false_iff_ne.mpr c13
        have c13b1 : ((Go.bits .and .i64 (ji10) 1) != (Go.bits .and .i64 (ji12) 1)) = true := bne_iff_ne.mpr c13
        have H' := Aside0.mk H
        clear H
        obtain ⟨hcz15_0, hcz15_1, hfz15_0, hfz15_1⟩ := c2_ BK698
        go_wp2
        repeat (go_quiet (fail); try go_wp2)
        go_loopg [7, 8] k1 (fun kq v7 v8 w' => ∃ (x7_2 : Bool) (x8_2 : Int), v7 = .bool x7_2 ∧ v8 = .int .i64 x8_2 ∧ Aside0 (spec_l10Blocks.l1 kq a1 x5_1 x6_1 x7_2 x8_2 a0_0 a0_1 = some r) ∧ Aside0 (kq ≤ k1) ∧ Aside0 (Kd.R (Kd.int .i64) 3 w' w.heap.size (fun _ => True) u5 x5_1) ∧ Aside0 (w'.heap[gb698]? = some (.cells #[.int .i64 a0_0, .int .i64 a0_1] 25 (0, 0))) ∧ Aside0 (Below w.heap.size w w'))
        case atStart => exact ⟨(true), (0), (by first | rfl | (simp; done) | (simp [*]; done)), (by first | rfl | (simp; done) | (simp [*]; done)), H', ⟨Nat.le_refl _⟩, ⟨by (with_reducible repeat (first | apply Kd.R_alloc | apply Kd.R_drewN | apply Kd.R_drew)); exact HO_5.out⟩, ⟨by (with_reducible repeat (first | refine blk_drewN ?_ _ | refine blk_drew ?_ | refine blk_alloc ?_ _)); exact BK698.out⟩, ⟨bv1_ HB GE698⟩⟩
        case round =>
         clear H'
         try clear c1
         try clear p2
         try clear c6
         try clear c6b0
         try clear c6b1
         try clear p6
         try clear c8
         try clear c8b0
         try clear c9
         try clear c9b0
         try clear c9b1
         try clear c11
         try clear c11b0
         try clear c11b1
         try clear c13
         try clear c13b0
         try clear c13b1
         try clear hcz14_0
         try clear hcz14_1
         try clear hcz15_0
         try clear hcz15_1
         try clear hfz14_0
         try clear hfz14_1
         try clear hfz15_0
         try clear hfz15_1
         try clear p2
         obtain ⟨x7_2, x8_2, rfl, rfl, HA, HK2, HO_5, BK698, HB⟩ := hrel
         cases gk with
         | zero => exact absurd HA.out (by simp [spec_l10Blocks.l1])
         | succ k2 =>
          have H := HA.out
          clear HA
          simp only [spec_l10Blocks.l1] at H
          by_cases c16 : x8_2 < (x5_1.length : Int)
          ·rw [if_pos c16] at H
           have c16b0 : decide (x8_2 < (x5_1.length : Int)) = true := decide_eq_true c16
           clear c16
           by_cases c17 : x7_2 = true
           ·subst c17
            rw [if_pos rfl] at H
            by_cases c18 : 0 ≤ x8_2
            ·rw [if_pos c18] at H
             have c18b0 : decide (0 ≤ x8_2) = true := decide_eq_true c18
             clear c18
             have H' := Aside0.mk H
             clear H
             obtain ⟨Ao19, co19, eo19⟩ := Kd.R_slice HO_5.out
             subst eo19
             have p702 : 0 ≤ (x8_2 : Int) := of_decide_eq_true (by first | (with_reducible assumption) | assumption)
             have q702 : x8_2 < (x5_1.length : Int) := of_decide_eq_true (by first | (with_reducible assumption) | assumption)
             obtain ⟨ad702, e702, hx702_0⟩ := Kd.at_int (Kd.R_reads' HO_5.out).2.2 x8_2 p702 q702
             cases e702
             replace p702 := eq_true p702
             replace q702 := eq_true q702
             have p703 : 0 ≤ (x8_2 : Int) := of_decide_eq_true (by first | (with_reducible assumption) | assumption)
             have q703 : x8_2 < (x5_1.length : Int) := of_decide_eq_true (by first | (with_reducible assumption) | assumption)
             obtain ⟨ad703, e703, hx703_0⟩ := Kd.at_int (Kd.R_reads' HO_5.out).2.2 x8_2 p703 q703
             obtain rfl : ad702 = ad703 := (by injection e703)
             replace p703 := eq_true p703
             replace q703 := eq_true q703
             go_wp2
             repeat (go_quiet (fail); try go_wp2)
             go_roundg k2
             case measure => have := HK1.out; have := HK2.out; omega
             case rel => exact ⟨(((Go.bits .and .i64 (rd x5_1 x8_2) x6_1) != (rd x5_1 x8_2))), (wrap64 (x8_2 + 1)), (by first | rfl | (simp; done) | (simp [*]; done)), (by first | rfl | (simp; done) | (simp [*]; done)), H', ⟨by have := HK1.out; have := HK2.out; omega⟩, ⟨by (with_reducible repeat (first | apply Kd.R_alloc | apply Kd.R_drewN | apply Kd.R_drew)); exact HO_5.out⟩, ⟨by (with_reducible repeat (first | refine blk_drewN ?_ _ | refine blk_drew ?_ | refine blk_alloc ?_ _)); exact BK698.out⟩, ⟨bv1_ HB GE698⟩⟩
            ·rw [if_neg c18] at H
             exact absurd H (by simp)
           ·replace c17 := Bool.eq_false_iff.mpr c17
            subst c17
            rw [if_neg (show ¬ (false = true) by decide)] at H
            have H' := Aside0.mk H
            clear H
            obtain ⟨Ao20, co20, eo20⟩ := Kd.R_slice HO_5.out
            subst eo20
            go_wp2
            repeat (go_quiet (fail); try go_wp2)
            go_roundg k2
            case measure => have := HK1.out; have := HK2.out; omega
            case rel => exact ⟨(false), (wrap64 (x8_2 + 1)), (by first | rfl | (simp; done) | (simp [*]; done)), (by first | rfl | (simp; done) | (simp [*]; done)), H', ⟨by have := HK1.out; have := HK2.out; omega⟩, ⟨by (with_reducible repeat (first | apply Kd.R_alloc | apply Kd.R_drewN | apply Kd.R_drew)); exact HO_5.out⟩, ⟨by (with_reducible repeat (first | refine blk_drewN ?_ _ | refine blk_drew ?_ | refine blk_alloc ?_ _)); exact BK698.out⟩, ⟨bv1_ HB GE698⟩⟩
          ·rw [if_neg c16] at H
           have c16b0 : decide (x8_2 < (x5_1.length : Int)) = false := decide_eq_false c16
           clear c16
           by_cases c21 : x7_2 = true
           ·subst c21
            rw [if_pos rfl] at H
            by_cases c22 : x5_1.length < 17592186044416
            ·rw [if_pos c22] at H
             have LMc22 := Aside0.mk c22
             clear c22
             obtain ⟨y704, hy704⟩ : ∃ y_ : List Int, y_ = (x5_1 ++ [x6_1]) := ⟨_, rfl⟩
             replace H : (spec_l10Blocks.l0 k2 a1 y704 (wrap64 (x6_1 + 1)) a0_0 a0_1) = some r := by first | (rw [hy704]; with_reducible exact H) | (have H2_ := (Option.bind_some _ _).symm.trans H; rw [hy704]; with_reducible exact H2_) | (have H2_ := (Option.bind_some _ _).symm.trans H; with_reducible exact H2_) | with_reducible exact H | (rw [hy704]; exact H) | exact H
             have Ny704 := Aside0.mk hy704
             clear hy704
             have H' := Aside0.mk H
             clear H
             obtain ⟨Ao23, co23, eo23⟩ := Kd.R_slice HO_5.out
             subst eo23
             go_wp2_with (first | ((with_reducible refine gate_builtin (b := .append) (xs := #[.tmp 51, .tmp 53]) rfl ?_); at_builtin; refine Kd.R_append (Kd.int .i64) (w0 := w) w.heap.size rfl (.tmp 51) (.tmp 53) 28 3 (.int .i64 0) 8 rfl Try.underlying28 info3 rfl (by decide) (by omega) (.slice Ao23 x5_1.length co23) x5_1 x6_1 [.int .i64 x6_1] (fun _ => True) (fun _ => False) rfl rfl ?aP (fun _ hk => hk.elim) ?aF ?aO ?aB ?aS ?aL ?_; (case aP => exact rfl); (case aB => exact (bv1_ HB GE698)); (case aF => exact (fun _ _ => trivial)); (case aO => exact (rv_ HO_5)); (case aS => exact (below_size (bv1_ HB GE698))); (case aL => have := LMc22.out; omega); intro v705 w24 ho hb hg hat; rw [← Ny704.out] at ho; have n0_ := Aside0.mk (blk_grown (g := gb698) (o := .cells #[.int .i64 a0_0, .int .i64 a0_1] 25 (0, 0)) (kv_ BK698) hg (Kd.R_ne HO_5.out BK698.out (by decide))); have n1_ := Aside0.mk (hb); have n2_ := Aside0.mk (ho); clear BK698; clear HB; clear HO_5; have BK698 := n0_; have HB := n1_; have HO706 := n2_; clear n0_ n1_ n2_; clear ho hb hg hat))
             repeat (go_quiet (first | ((with_reducible refine gate_builtin (b := .append) (xs := #[.tmp 51, .tmp 53]) rfl ?_); at_builtin; refine Kd.R_append (Kd.int .i64) (w0 := w) w.heap.size rfl (.tmp 51) (.tmp 53) 28 3 (.int .i64 0) 8 rfl Try.underlying28 info3 rfl (by decide) (by omega) (.slice Ao23 x5_1.length co23) x5_1 x6_1 [.int .i64 x6_1] (fun _ => True) (fun _ => False) rfl rfl ?aP (fun _ hk => hk.elim) ?aF ?aO ?aB ?aS ?aL ?_; (case aP => exact rfl); (case aB => exact (bv1_ HB GE698)); (case aF => exact (fun _ _ => trivial)); (case aO => exact (rv_ HO_5)); (case aS => exact (below_size (bv1_ HB GE698))); (case aL => have := LMc22.out; omega); intro v705 w24 ho hb hg hat; rw [← Ny704.out] at ho; have n0_ := Aside0.mk (blk_grown (g := gb698) (o := .cells #[.int .i64 a0_0, .int .i64 a0_1] 25 (0, 0)) (kv_ BK698) hg (Kd.R_ne HO_5.out BK698.out (by decide))); have n1_ := Aside0.mk (hb); have n2_ := Aside0.mk (ho); clear BK698; clear HB; clear HO_5; have BK698 := n0_; have HB := n1_; have HO706 := n2_; clear n0_ n1_ n2_; clear ho hb hg hat)); try go_wp2_with (first | ((with_reducible refine gate_builtin (b := .append) (xs := #[.tmp 51, .tmp 53]) rfl ?_); at_builtin; refine Kd.R_append (Kd.int .i64) (w0 := w) w.heap.size rfl (.tmp 51) (.tmp 53) 28 3 (.int .i64 0) 8 rfl Try.underlying28 info3 rfl (by decide) (by omega) (.slice Ao23 x5_1.length co23) x5_1 x6_1 [.int .i64 x6_1] (fun _ => True) (fun _ => False) rfl rfl ?aP (fun _ hk => hk.elim) ?aF ?aO ?aB ?aS ?aL ?_; (case aP => exact rfl); (case aB => exact (bv1_ HB GE698)); (case aF => exact (fun _ _ => trivial)); (case aO => exact (rv_ HO_5)); (case aS => exact (below_size (bv1_ HB GE698))); (case aL => have := LMc22.out; omega); intro v705 w24 ho hb hg hat; rw [← Ny704.out] at ho; have n0_ := Aside0.mk (blk_grown (g := gb698) (o := .cells #[.int .i64 a0_0, .int .i64 a0_1] 25 (0, 0)) (kv_ BK698) hg (Kd.R_ne HO_5.out BK698.out (by decide))); have n1_ := Aside0.mk (hb); have n2_ := Aside0.mk (ho); clear BK698; clear HB; clear HO_5; have BK698 := n0_; have HB := n1_; have HO706 := n2_; clear n0_ n1_ n2_; clear ho hb hg hat)))
             go_roundg k2
             case measure => have := HK1.out; have := HK2.out; omega
             case rel => exact ⟨(y704), (wrap64 (x6_1 + 1)), (by first | rfl | (simp; done) | (simp [*]; done)), H', ⟨by have := HK1.out; have := HK2.out; omega⟩, ⟨by (with_reducible repeat (first | apply Kd.R_alloc | apply Kd.R_drewN | apply Kd.R_drew)); exact HO706.out⟩, ⟨by (with_reducible repeat (first | refine blk_drewN ?_ _ | refine blk_drew ?_ | refine blk_alloc ?_ _)); exact BK698.out⟩, ⟨bv1_ HB GE698⟩⟩
            ·rw [if_neg c22] at H
             exact absurd H (by simp)
           ·replace c21 := Bool.eq_false_iff.mpr c21
            subst c21
            rw [if_neg (show ¬ (false = true) by decide)] at H
            have H' := Aside0.mk H
            clear H
            obtain ⟨Ao25, co25, eo25⟩ := Kd.R_slice HO_5.out
            subst eo25
            go_wp2
            repeat (go_quiet (fail); try go_wp2)
            go_roundg k2
            case measure => have := HK1.out; have := HK2.out; omega
            case rel => exact ⟨(x5_1), (wrap64 (x6_1 + 1)), (by first | rfl | (simp; done) | (simp [*]; done)), H', ⟨by have := HK1.out; have := HK2.out; omega⟩, ⟨by (with_reducible repeat (first | apply Kd.R_alloc | apply Kd.R_drewN | apply Kd.R_drew)); exact HO_5.out⟩, ⟨by (with_reducible repeat (first | refine blk_drewN ?_ _ | refine blk_drew ?_ | refine blk_alloc ?_ _)); exact BK698.out⟩, ⟨bv1_ HB GE698⟩⟩
      ·rw [if_neg c11] at H
       exact absurd H (by simp)
     ·rw [if_neg c9] at H
      exact absurd H (by simp)
    ·rw [if_neg c8] at H
     have c8b0 : decide (x6_1 < (ji7)) = false := decide_eq_false c8
     clear c8
     obtain rfl := Option.some.inj H
     obtain ⟨hcz26_0, hcz26_1, hfz26_0, hfz26_1⟩ := c2_ BK698
     go_wp2
     repeat (go_quiet (fail); try go_wp2)
     go_ret
     exact ⟨_, by first | rfl | (simp [errW_none, errW_some] <;> rfl) | (simp only [← hji7]; first | rfl | (simp [errW_none, errW_some] <;> rfl)) | (simp [*, errW_none, errW_some] <;> rfl), by (with_reducible repeat (first | apply Kd.R_alloc | apply Kd.R_drewN | apply Kd.R_drew)); exact HO_5.out, bv1_ HB GE698⟩
   ·rw [if_neg c6] at H
    exact absurd H (by simp)


end Go.Proofs.Ytplnffhjpmnifaa.P
