-- Out of the translation, by this session's program over the printer's; Lean checks it.
import Derived.Test.YteljkpglgjjnlaaDoorSh
import Derived.Test.YteljkpglgjjnlaaDoorQ0
import Derived.Test.YteljkpglgjjnlaaDoorQ3
import Derived.Test.YteljkpglgjjnlaaDoorQ4
import Derived.Test.YteljkpglgjjnlaaDoorQ7
import Derived.Test.YteljkpglgjjnlaaDoorQ10
namespace Go.Proofs.YteljkpglgjjnlaaDoor.P
open Go.RowKit Go.Proofs.YteljkpglgjjnlaaDoorW.PrintWords Go.Proofs.YteljkpglgjjnlaaDoorW.PrintLast Go.Proofs.YteljkpglgjjnlaaDoorW.PrintMore
attribute [local go_sem] max2_int min2_int max_two min_two max_three min_three max_four min_four
set_option linter.unusedVariables false
set_option linter.unusedSimpArgs false

/-! ### spec_RealCoefficients: function 14 -/
mutual
def spec_RealCoefficients.l0 : Nat → List Int → Int → Int → Int → Option (List Int)
 | 0, _, _, _, _ => none
 | k + 1, x3, x4, x599000, x599001 => (spec_IsTable.f x599000 x599001).bind fun t602 => (if t602 = true then (if 0 ≤ x599000 then (spec_RealCoefficients.j1 k x3 x4 (decide (x4 < (shl .i64 1 x599000))) x599000 x599001) else (none)) else (spec_RealCoefficients.j1 k x3 x4 false x599000 x599001))
def spec_RealCoefficients.j1 : Nat → List Int → Int → Bool → Int → Int → Option (List Int)
 | 0, _, _, _, _, _ => none
 | k + 1, x3, x4, x16, x599000, x599001 => if x16 = true then (spec_RealCoefficients.l1 k x3 x4 0 0 x599000 x599001) else (some x3)
def spec_RealCoefficients.l1 : Nat → List Int → Int → Int → Int → Int → Int → Option (List Int)
 | 0, _, _, _, _, _, _ => none
 | k + 1, x3, x4, x5, x6, x599000, x599001 => if x6 ≤ x4 then (if (Go.bits .and .i64 x6 x4) = x6 then ((spec_l2Count.f k (Go.bits .xor .i64 x4 x6)).bind fun t606 => (if (Int.tmod t606 2) = 1 then (if 0 ≤ x6 then (spec_RealCoefficients.l1 k x3 x4 (wrap64 (x5 - (Go.bits .and .i64 (shr .i64 x599001 x6) 1))) (wrap64 (x6 + 1)) x599000 x599001) else (none)) else (if 0 ≤ x6 then (spec_RealCoefficients.l1 k x3 x4 (wrap64 (x5 + (Go.bits .and .i64 (shr .i64 x599001 x6) 1))) (wrap64 (x6 + 1)) x599000 x599001) else (none)))) else (spec_RealCoefficients.l1 k x3 x4 x5 (wrap64 (x6 + 1)) x599000 x599001)) else (if x3.length < 17592186044416 then (spec_RealCoefficients.l0 k (x3 ++ [x5]) (wrap64 (x4 + 1)) x599000 x599001) else (none))
end
def spec_RealCoefficients.f (k : Nat) (a0_0 : Int) (a0_1 : Int) : Option (List Int) := spec_RealCoefficients.l0 k (([] : List Int)) 0 a0_0 a0_1
theorem spec_RealCoefficients.mono_l : ∀ k, (∀ y0 y1 y2 y3, LeO (spec_RealCoefficients.l0 k y0 y1 y2 y3) (spec_RealCoefficients.l0 (k + 1) y0 y1 y2 y3)) ∧ (∀ y0 y1 y2 y3 y4, LeO (spec_RealCoefficients.j1 k y0 y1 y2 y3 y4) (spec_RealCoefficients.j1 (k + 1) y0 y1 y2 y3 y4)) ∧ (∀ y0 y1 y2 y3 y4 y5, LeO (spec_RealCoefficients.l1 k y0 y1 y2 y3 y4 y5) (spec_RealCoefficients.l1 (k + 1) y0 y1 y2 y3 y4 y5))
 | 0 => ⟨fun _ _ _ _ r h => by simp [spec_RealCoefficients.l0] at h, fun _ _ _ _ _ r h => by simp [spec_RealCoefficients.j1] at h, fun _ _ _ _ _ _ r h => by simp [spec_RealCoefficients.l1] at h⟩
 | k + 1 => by
  obtain ⟨ih0, ih1, ih2⟩ := spec_RealCoefficients.mono_l k
  refine ⟨?_, ?_, ?_⟩
  ·intro y0 y1 y2 y3
   unfold spec_RealCoefficients.l0
   repeat' first
   | (with_reducible exact ih0 _ _ _ _)
   | (with_reducible exact ih1 _ _ _ _ _)
   | (with_reducible exact ih2 _ _ _ _ _ _)
   | (with_reducible exact spec_l2Count.mono _ _)
   | (with_reducible exact LeO.refl _)
   | (with_reducible exact LeO.none _)
   | (with_reducible refine LeO.ite ?_ ?_)
   | (with_reducible refine LeO.bind ?_ (fun _ => ?_))
   | exact ih0 _ _ _ _
   | exact ih1 _ _ _ _ _
   | exact ih2 _ _ _ _ _ _
   | exact spec_l2Count.mono _ _
   | exact LeO.none _
   | refine LeO.ite ?_ ?_
   | refine LeO.bind ?_ (fun _ => ?_)
  ·intro y0 y1 y2 y3 y4
   unfold spec_RealCoefficients.j1
   repeat' first
   | (with_reducible exact ih0 _ _ _ _)
   | (with_reducible exact ih1 _ _ _ _ _)
   | (with_reducible exact ih2 _ _ _ _ _ _)
   | (with_reducible exact spec_l2Count.mono _ _)
   | (with_reducible exact LeO.refl _)
   | (with_reducible exact LeO.none _)
   | (with_reducible refine LeO.ite ?_ ?_)
   | (with_reducible refine LeO.bind ?_ (fun _ => ?_))
   | exact ih0 _ _ _ _
   | exact ih1 _ _ _ _ _
   | exact ih2 _ _ _ _ _ _
   | exact spec_l2Count.mono _ _
   | exact LeO.none _
   | refine LeO.ite ?_ ?_
   | refine LeO.bind ?_ (fun _ => ?_)
  ·intro y0 y1 y2 y3 y4 y5
   unfold spec_RealCoefficients.l1
   repeat' first
   | (with_reducible exact ih0 _ _ _ _)
   | (with_reducible exact ih1 _ _ _ _ _)
   | (with_reducible exact ih2 _ _ _ _ _ _)
   | (with_reducible exact spec_l2Count.mono _ _)
   | (with_reducible exact LeO.refl _)
   | (with_reducible exact LeO.none _)
   | (with_reducible refine LeO.ite ?_ ?_)
   | (with_reducible refine LeO.bind ?_ (fun _ => ?_))
   | exact ih0 _ _ _ _
   | exact ih1 _ _ _ _ _
   | exact ih2 _ _ _ _ _ _
   | exact spec_l2Count.mono _ _
   | exact LeO.none _
   | refine LeO.ite ?_ ?_
   | refine LeO.bind ?_ (fun _ => ?_)
theorem spec_RealCoefficients.mono : ∀ a0 a1 k, LeO (spec_RealCoefficients.f k a0 a1) (spec_RealCoefficients.f (k + 1) a0 a1) := by
 intro a0 a1 k
 obtain ⟨ih0, ih1, ih2⟩ := spec_RealCoefficients.mono_l k
 unfold spec_RealCoefficients.f
 repeat' first
   | (with_reducible exact ih0 _ _ _ _)
   | (with_reducible exact ih1 _ _ _ _ _)
   | (with_reducible exact ih2 _ _ _ _ _ _)
   | (with_reducible exact spec_l2Count.mono _ _)
   | (with_reducible exact LeO.refl _)
   | (with_reducible exact LeO.none _)
   | (with_reducible refine LeO.ite ?_ ?_)
   | (with_reducible refine LeO.bind ?_ (fun _ => ?_))
   | exact ih0 _ _ _ _
   | exact ih1 _ _ _ _ _
   | exact ih2 _ _ _ _ _ _
   | exact spec_l2Count.mono _ _
   | exact LeO.none _
   | refine LeO.ite ?_ ?_
   | refine LeO.bind ?_ (fun _ => ?_)
set_option maxHeartbeats 8000000 in
set_option maxRecDepth 100000 in
theorem spec_RealCoefficients.calls (k : Nat) (a0_0 : Int) (a0_1 : Int) (r : List Int) (w : World) (h : spec_RealCoefficients.f k a0_0 a0_1 = some r) :
  Calls Tryd.prog 14 #[.agg #[.int .i64 a0_0, .int .i64 a0_1]] w fun e w' => ∃ v0_ : Value, e = .returned (v0_) ∧ Kd.R (Kd.int .i64) 3 w' w.heap.size (fun _ => True) v0_ r ∧ Below w.heap.size w w' := by
 have hu23 := Tryd.underlying23
 have HB := Aside0.mk (Below.refl w.heap.size w)
 have H : (spec_RealCoefficients.l0 k (([] : List Int)) 0 a0_0 a0_1) = some r := h
 clear h
 obtain ⟨y599, hy599⟩ : ∃ y_ : List Int, y_ = (([] : List Int)) := ⟨_, rfl⟩
 replace H : (spec_RealCoefficients.l0 k y599 0 a0_0 a0_1) = some r := by first | (rw [hy599]; with_reducible exact H) | (have H2_ := (Option.bind_some _ _).symm.trans H; rw [hy599]; with_reducible exact H2_) | (have H2_ := (Option.bind_some _ _).symm.trans H; with_reducible exact H2_) | with_reducible exact H | (rw [hy599]; exact H) | exact H
 have Ny599 := Aside0.mk hy599
 clear hy599
 have H' := Aside0.mk H
 clear H
 go_enter Tryd.func14, Tryd.ntmps14
 go_wp2_with (first | ((with_reducible refine gate_dst (N := 1) rfl ?_); refine bx_ 1 #[.int .i64 a0_0, .int .i64 a0_1] 23 ?_; intro gb598 hg w2 hbox hb; have BK598 := Aside0.mk (hbox); have GW598 := gw_ hg (below_size (bv_ HB)); have GE598 := GW598; replace HB := Aside0.mk (below_step (bv_ HB) hb); clear hb hbox hg) | ((with_reducible refine gate_dst (N := 7) rfl ?_); refine Kd.R_lit (Kd.int .i64) _ 3 ?hg (N := 7) ?hd (xs := ([] : List Int)) (inner := []) (ok := fun _ => True) (okp := fun _ => True) ?hr ?hp (fun _ hk => hk) trivial (Below.refl _ _) (Nat.le_refl _) (by simp) ?_; (case hd => rfl); (case hg => rfl); (case hr => first | (go_simp; done) | (go_simp; rfl)); (case hp => exact (Reps.none _ _)); intro v600 w3 ho4 hb hg_ hnew_; clear hg_ hnew_; (first | rw [← Ny599.out] at ho4 | (simp only [Int.reduceToNat] at ho4; rw [← Ny599.out] at ho4)); have HO601 := Aside0.mk (Kd.R_lower ho4 (below_size (bv1_ HB GE598))); replace BK598 := kb_ BK598 hb; replace HB := Aside0.mk (below_step (bv1_ HB GE598) hb); clear hb ho4))
 go_loopg [3, 4] k (fun kq v3 v4 w' => ∃ (x3_1 : List Int) (x4_1 : Int), v4 = .int .i64 x4_1 ∧ Aside0 (spec_RealCoefficients.l0 kq x3_1 x4_1 a0_0 a0_1 = some r) ∧ Aside0 (kq ≤ k) ∧ Aside0 (Kd.R (Kd.int .i64) 3 w' w.heap.size (fun _ => True) v3 x3_1) ∧ Aside0 (w'.heap[gb598]? = some (.cells #[.int .i64 a0_0, .int .i64 a0_1] 23 (0, 0))) ∧ Aside0 (Below w.heap.size w w'))
 case atStart => exact ⟨(y599), (0), (by first | rfl | (simp; done) | (simp [*]; done)), H', ⟨Nat.le_refl _⟩, ⟨by (with_reducible repeat (first | apply Kd.R_alloc | apply Kd.R_drewN | apply Kd.R_drew)); exact HO601.out⟩, ⟨by (with_reducible repeat (first | refine blk_drewN ?_ _ | refine blk_drew ?_ | refine blk_alloc ?_ _)); exact BK598.out⟩, ⟨bv1_ HB GE598⟩⟩
 case round =>
  clear H'
  try clear c1
  try clear p2
  obtain ⟨x3_1, x4_1, rfl, HA, HK1, HO_3, BK598, HB⟩ := hrel
  cases gk with
  | zero => exact absurd HA.out (by simp [spec_RealCoefficients.l0])
  | succ k1 =>
   have H := HA.out
   clear HA
   simp only [spec_RealCoefficients.l0] at H
   have HC5 := Aside0.mk H
   clear H
   go_upto_region 3 with (fail)
   go_cut [16] (fun v16 wc => ∃ (kq : Nat) (x16_4 : Bool), v16 = .bool x16_4 ∧ Aside0 (spec_RealCoefficients.j1 kq x3_1 x4_1 x16_4 a0_0 a0_1 = some r) ∧ Aside0 (kq ≤ k1) ∧ Aside0 (Kd.R (Kd.int .i64) 3 wc w.heap.size (fun _ => True) u3 x3_1) ∧ Aside0 (wc.heap[gb598]? = some (.cells #[.int .i64 a0_0, .int .i64 a0_1] 23 (0, 0))) ∧ Aside0 (Below w.heap.size w wc))
   case first =>
    have H := HC5.out
    clear HC5
    replace H := Option.bind_eq_some_iff.mp H
    obtain ⟨t602, A60, H⟩ := H
    have A6 := Aside0.mk A60
    clear A60
    by_cases c7 : t602 = true
    ·subst c7
     rw [if_pos rfl] at H
     by_cases c8 : 0 ≤ a0_0
     ·rw [if_pos c8] at H
      have c8b0 := eq_true c8
      have c8b1 : decide (0 ≤ a0_0) = true := decide_eq_true c8
      clear c8
      obtain ⟨ji9, hji9⟩ : ∃ j_ : Int, (shl .i64 1 a0_0) = j_ := ⟨_, rfl⟩
      replace H : (spec_RealCoefficients.j1 k1 x3_1 x4_1 (decide (x4_1 < (ji9))) a0_0 a0_1) = some r := by first | (rw [hji9] at H; exact H) | (simp only [hji9] at H ⊢; exact H)
      (try rw [hji9] at A6)
      have hji9_ : (IntKind.i64.wrap (1 * 2 ^ min a0_0.toNat 64)) = ji9 := hji9
      have hji9z : a0_0 ≤ 64 → (IntKind.i64.wrap (1 * 2 ^ a0_0.toNat)) = ji9 := shl_small hji9
      have hji9u : (IntKind.i64.wrap (2 ^ min a0_0.toNat 64)) = ji9 := by have h_ := hji9_; rw [Int.one_mul] at h_; exact h_
      have hji9v : a0_0 ≤ 64 → (IntKind.i64.wrap (2 ^ a0_0.toNat)) = ji9 := fun hle_ => by have h_ := hji9z hle_; rw [Int.one_mul] at h_; exact h_
      have hji9y : (wrap64 (1 * 2 ^ min a0_0.toNat 64)) = ji9 := (i64_w _).symm.trans hji9_
      have hji9x : a0_0 ≤ 64 → (wrap64 (1 * 2 ^ a0_0.toNat)) = ji9 := fun h_ => (i64_w _).symm.trans (hji9z h_)
      have H' := Aside0.mk H
      clear H
      obtain ⟨hcz10_0, hcz10_1, hfz10_0, hfz10_1⟩ := c2_ BK598
      go_wp2_with (first | ((with_reducible refine gate_callee (f := 38) rfl ?_); refine gl_ 9 Tryd.func38 #[.agg #[.int .i64 a0_0, .int .i64 a0_1]] rfl mp_ ?_; (with_reducible refine (spec_IsTable.calls a0_0 a0_1 true _ A6.out).mono ?_); rintro e w11 ⟨rfl, hb⟩; refine ⟨_, rfl, ?_⟩; have n0_ := Aside0.mk (Kd.R_below (rv_ HO_3) hb); have n1_ := kb_ BK598 hb; have n2_ := Aside0.mk (below_step (bv1_ HB GE598) hb); clear HO_3; clear BK598; clear HB; have HO_3 := n0_; have BK598 := n1_; have HB := n2_; clear n0_ n1_ n2_; (try clear hb); (try clear hb2); (try clear hk); (try clear hi); have hcz12_0 : w11.cell? ⟨gb598, 0, none⟩ = some (.int .i64 a0_0) := (blk_cell BK598.out 0).trans rfl; have hcz12_1 : w11.cell? ⟨gb598, 1, none⟩ = some (.int .i64 a0_1) := (blk_cell BK598.out 1).trans rfl; have hfz12_0 := blk_frozen BK598.out 0; have hfz12_1 := blk_frozen BK598.out 1))
      go_meet
      case rel => exact ⟨_, (decide (x4_1 < (ji9))), (by first | rfl | (simp; done) | (simp only [← hji9] <;> (first | rfl | simp)) | (simp [*]; done)), H', ⟨by have := HK1.out; first | omega | exact Nat.le_refl _⟩, ⟨by (with_reducible repeat (first | apply Kd.R_alloc | apply Kd.R_drewN | apply Kd.R_drew)); exact HO_3.out⟩, ⟨by (with_reducible repeat (first | refine blk_drewN ?_ _ | refine blk_drew ?_ | refine blk_alloc ?_ _)); exact BK598.out⟩, ⟨bv1_ HB GE598⟩⟩
     ·rw [if_neg c8] at H
      exact absurd H (by simp)
    ·replace c7 := Bool.eq_false_iff.mpr c7
     subst c7
     rw [if_neg (show ¬ (false = true) by decide)] at H
     have H' := Aside0.mk H
     clear H
     obtain ⟨hcz13_0, hcz13_1, hfz13_0, hfz13_1⟩ := c2_ BK598
     go_wp2_with (first | ((with_reducible refine gate_callee (f := 38) rfl ?_); refine gl_ 9 Tryd.func38 #[.agg #[.int .i64 a0_0, .int .i64 a0_1]] rfl mp_ ?_; (with_reducible refine (spec_IsTable.calls a0_0 a0_1 false _ A6.out).mono ?_); rintro e w14 ⟨rfl, hb⟩; refine ⟨_, rfl, ?_⟩; have n0_ := Aside0.mk (Kd.R_below (rv_ HO_3) hb); have n1_ := kb_ BK598 hb; have n2_ := Aside0.mk (below_step (bv1_ HB GE598) hb); clear HO_3; clear BK598; clear HB; have HO_3 := n0_; have BK598 := n1_; have HB := n2_; clear n0_ n1_ n2_; (try clear hb); (try clear hb2); (try clear hk); (try clear hi)))
     go_meet
     case rel => exact ⟨_, (false), (by first | rfl | (simp; done) | (simp [*]; done)), H', ⟨by have := HK1.out; first | omega | exact Nat.le_refl _⟩, ⟨by (with_reducible repeat (first | apply Kd.R_alloc | apply Kd.R_drewN | apply Kd.R_drew)); exact HO_3.out⟩, ⟨by (with_reducible repeat (first | refine blk_drewN ?_ _ | refine blk_drew ?_ | refine blk_alloc ?_ _)); exact BK598.out⟩, ⟨bv1_ HB GE598⟩⟩
   case rest =>
    clear HC5
    try clear c1
    try clear p2
    try clear c3
    try clear p6
    try clear c7
    try clear c8
    try clear c8b0
    try clear c8b1
    try clear c14
    try clear hcz10_0
    try clear hcz10_1
    try clear hcz12_0
    try clear hcz12_1
    try clear hcz13_0
    try clear hcz13_1
    try clear hfz10_0
    try clear hfz10_1
    try clear hfz12_0
    try clear hfz12_1
    try clear hfz13_0
    try clear hfz13_1
    try clear p2
    obtain ⟨kq, x16_4, rfl, HA, HJ4, HO_3, BK598, HB⟩ := hcut
    cases kq with
    | zero => exact absurd HA.out (by simp [spec_RealCoefficients.j1])
    | succ kj4 =>
     have H := HA.out
     clear HA
     simp only [spec_RealCoefficients.j1] at H
     by_cases c15 : x16_4 = true
     ·subst c15
      rw [if_pos rfl] at H
      have H' := Aside0.mk H
      clear H
      go_wp2
      go_loopg [5, 6] kj4 (fun kq v5 v6 w' => ∃ (x5_3 : Int) (x6_3 : Int), v5 = .int .i64 x5_3 ∧ v6 = .int .i64 x6_3 ∧ Aside0 (spec_RealCoefficients.l1 kq x3_1 x4_1 x5_3 x6_3 a0_0 a0_1 = some r) ∧ Aside0 (kq ≤ kj4) ∧ Aside0 (Kd.R (Kd.int .i64) 3 w' w.heap.size (fun _ => True) u3 x3_1) ∧ Aside0 (w'.heap[gb598]? = some (.cells #[.int .i64 a0_0, .int .i64 a0_1] 23 (0, 0))) ∧ Aside0 (Below w.heap.size w w'))
      case atStart => exact ⟨(0), (0), (by first | rfl | (simp; done) | (simp [*]; done)), (by first | rfl | (simp; done) | (simp [*]; done)), H', ⟨Nat.le_refl _⟩, ⟨by (with_reducible repeat (first | apply Kd.R_alloc | apply Kd.R_drewN | apply Kd.R_drew)); exact HO_3.out⟩, ⟨by (with_reducible repeat (first | refine blk_drewN ?_ _ | refine blk_drew ?_ | refine blk_alloc ?_ _)); exact BK598.out⟩, ⟨bv1_ HB GE598⟩⟩
      case round =>
       clear H'
       try clear c1
       try clear p2
       try clear c3
       try clear p6
       try clear c7
       try clear c8
       try clear c8b0
       try clear c8b1
       try clear c14
       try clear c15
       try clear hcz10_0
       try clear hcz10_1
       try clear hcz12_0
       try clear hcz12_1
       try clear hcz13_0
       try clear hcz13_1
       try clear hfz10_0
       try clear hfz10_1
       try clear hfz12_0
       try clear hfz12_1
       try clear hfz13_0
       try clear hfz13_1
       try clear p2
       try clear p6
       obtain ⟨x5_3, x6_3, rfl, rfl, HA, HK3, HO_3, BK598, HB⟩ := hrel
       cases gk with
       | zero => exact absurd HA.out (by simp [spec_RealCoefficients.l1])
       | succ k3 =>
        have H := HA.out
        clear HA
        simp only [spec_RealCoefficients.l1] at H
        by_cases c16 : x6_3 ≤ x4_1
        ·rw [if_pos c16] at H
         have c16b0 : decide (x6_3 ≤ x4_1) = true := decide_eq_true c16
         clear c16
         by_cases c17 : (Go.bits .and .i64 x6_3 x4_1) = x6_3
         ·rw [if_pos c17] at H
          have c17b0 : ((Go.bits .and .i64 x6_3 x4_1) == x6_3) = true := beq_iff_eq.mpr c17
          have c17b1 : ((Go.bits .and .i64 x6_3 x4_1) != x6_3) = false := bne_eq_false_iff_eq.mpr c17
          clear c17
          replace H := Option.bind_eq_some_iff.mp H
          obtain ⟨t606, A180, H⟩ := H
          have A18 := Aside0.mk A180
          clear A180
          by_cases c19 : (Int.tmod t606 2) = 1
          ·rw [if_pos c19] at H
           have c19b0 : ((Int.tmod t606 2) == 1) = true := beq_iff_eq.mpr c19
           have c19b1 : ((Int.tmod t606 2) != 1) = false := bne_eq_false_iff_eq.mpr c19
           clear c19
           by_cases c20 : 0 ≤ x6_3
           ·rw [if_pos c20] at H
            have c20b0 := eq_true c20
            have c20b1 : decide (0 ≤ x6_3) = true := decide_eq_true c20
            clear c20
            obtain ⟨ji21, hji21⟩ : ∃ j_ : Int, (shr .i64 a0_1 x6_3) = j_ := ⟨_, rfl⟩
            replace H : (spec_RealCoefficients.l1 k3 x3_1 x4_1 (wrap64 (x5_3 - (Go.bits .and .i64 (ji21) 1))) (wrap64 (x6_3 + 1)) a0_0 a0_1) = some r := by first | (rw [hji21] at H; exact H) | (simp only [hji21] at H ⊢; exact H)
            (try rw [hji21] at A18)
            have hji21_ : (a0_1 / 2 ^ min x6_3.toNat 64) = ji21 := hji21
            have hji21z : x6_3 ≤ 64 → (a0_1 / 2 ^ x6_3.toNat) = ji21 := shr_small hji21
            have H' := Aside0.mk H
            clear H
            go_wp2_with (first | ((with_reducible refine gate_callee (f := 40) rfl ?_); refine gl_ 32 Tryd.func40 #[.int .i64 (Go.bits .xor .i64 x4_1 x6_3)] rfl mp_ ?_; (with_reducible refine (spec_l2Count.calls k3 (Go.bits .xor .i64 x4_1 x6_3) t606 _ A18.out).mono ?_); rintro e w' ⟨rfl, ⟨nd, rfl⟩⟩; refine ⟨_, rfl, ?_⟩; obtain ⟨hcz22_0, hcz22_1, hfz22_0, hfz22_1⟩ := c2_ BK598))
            go_roundg k3
            case measure => have := HK1.out; have := HJ4.out; have := HK3.out; omega
            case rel => exact ⟨(wrap64 (x5_3 - (Go.bits .and .i64 (ji21) 1))), (wrap64 (x6_3 + 1)), (by first | rfl | (simp; done) | (simp only [← hji21] <;> (first | rfl | simp)) | (simp [*]; done)), (by first | rfl | (simp; done) | (simp [*]; done)), H', ⟨by have := HK1.out; have := HJ4.out; have := HK3.out; omega⟩, ⟨by (with_reducible repeat (first | apply Kd.R_alloc | apply Kd.R_drewN | apply Kd.R_drew)); exact HO_3.out⟩, ⟨by (with_reducible repeat (first | refine blk_drewN ?_ _ | refine blk_drew ?_ | refine blk_alloc ?_ _)); exact BK598.out⟩, ⟨bv1_ HB GE598⟩⟩
           ·rw [if_neg c20] at H
            exact absurd H (by simp)
          ·rw [if_neg c19] at H
           have c19b0 : ((Int.tmod t606 2) == 1) = false := beq_eq_false_iff_ne.mpr c19
           have c19b1 : ((Int.tmod t606 2) != 1) = true := bne_iff_ne.mpr c19
           by_cases c23 : 0 ≤ x6_3
           ·rw [if_pos c23] at H
            have c23b0 := eq_true c23
            have c23b1 : decide (0 ≤ x6_3) = true := decide_eq_true c23
            clear c23
            obtain ⟨ji24, hji24⟩ : ∃ j_ : Int, (shr .i64 a0_1 x6_3) = j_ := ⟨_, rfl⟩
            replace H : (spec_RealCoefficients.l1 k3 x3_1 x4_1 (wrap64 (x5_3 + (Go.bits .and .i64 (ji24) 1))) (wrap64 (x6_3 + 1)) a0_0 a0_1) = some r := by first | (rw [hji24] at H; exact H) | (simp only [hji24] at H ⊢; exact H)
            (try rw [hji24] at A18)
            have hji24_ : (a0_1 / 2 ^ min x6_3.toNat 64) = ji24 := hji24
            have hji24z : x6_3 ≤ 64 → (a0_1 / 2 ^ x6_3.toNat) = ji24 := shr_small hji24
            have H' := Aside0.mk H
            clear H
            go_wp2_with (first | ((with_reducible refine gate_callee (f := 40) rfl ?_); refine gl_ 32 Tryd.func40 #[.int .i64 (Go.bits .xor .i64 x4_1 x6_3)] rfl mp_ ?_; (with_reducible refine (spec_l2Count.calls k3 (Go.bits .xor .i64 x4_1 x6_3) t606 _ A18.out).mono ?_); rintro e w' ⟨rfl, ⟨nd, rfl⟩⟩; refine ⟨_, rfl, ?_⟩; obtain ⟨hcz25_0, hcz25_1, hfz25_0, hfz25_1⟩ := c2_ BK598))
            go_roundg k3
            case measure => have := HK1.out; have := HJ4.out; have := HK3.out; omega
            case rel => exact ⟨(wrap64 (x5_3 + (Go.bits .and .i64 (ji24) 1))), (wrap64 (x6_3 + 1)), (by first | rfl | (simp; done) | (simp only [← hji24] <;> (first | rfl | simp)) | (simp [*]; done)), (by first | rfl | (simp; done) | (simp [*]; done)), H', ⟨by have := HK1.out; have := HJ4.out; have := HK3.out; omega⟩, ⟨by (with_reducible repeat (first | apply Kd.R_alloc | apply Kd.R_drewN | apply Kd.R_drew)); exact HO_3.out⟩, ⟨by (with_reducible repeat (first | refine blk_drewN ?_ _ | refine blk_drew ?_ | refine blk_alloc ?_ _)); exact BK598.out⟩, ⟨bv1_ HB GE598⟩⟩
           ·rw [if_neg c23] at H
            exact absurd H (by simp)
         ·rw [if_neg c17] at H
          have c17b0 : ((Go.bits .and .i64 x6_3 x4_1) == x6_3) = false := beq_eq_false_iff_ne.mpr c17
          have c17b1 : ((Go.bits .and .i64 x6_3 x4_1) != x6_3) = true := bne_iff_ne.mpr c17
          have H' := Aside0.mk H
          clear H
          go_wp2
          go_roundg k3
          case measure => have := HK1.out; have := HJ4.out; have := HK3.out; omega
          case rel => exact ⟨(x5_3), (wrap64 (x6_3 + 1)), (by first | rfl | (simp; done) | (simp [*]; done)), (by first | rfl | (simp; done) | (simp [*]; done)), H', ⟨by have := HK1.out; have := HJ4.out; have := HK3.out; omega⟩, ⟨by (with_reducible repeat (first | apply Kd.R_alloc | apply Kd.R_drewN | apply Kd.R_drew)); exact HO_3.out⟩, ⟨by (with_reducible repeat (first | refine blk_drewN ?_ _ | refine blk_drew ?_ | refine blk_alloc ?_ _)); exact BK598.out⟩, ⟨bv1_ HB GE598⟩⟩
        ·rw [if_neg c16] at H
         have c16b0 : decide (x6_3 ≤ x4_1) = false := decide_eq_false c16
         clear c16
         by_cases c26 : x3_1.length < 17592186044416
         ·rw [if_pos c26] at H
          have LMc26 := Aside0.mk c26
          clear c26
          obtain ⟨y603, hy603⟩ : ∃ y_ : List Int, y_ = (x3_1 ++ [x5_3]) := ⟨_, rfl⟩
          replace H : (spec_RealCoefficients.l0 k3 y603 (wrap64 (x4_1 + 1)) a0_0 a0_1) = some r := by first | (rw [hy603]; with_reducible exact H) | (have H2_ := (Option.bind_some _ _).symm.trans H; rw [hy603]; with_reducible exact H2_) | (have H2_ := (Option.bind_some _ _).symm.trans H; with_reducible exact H2_) | with_reducible exact H | (rw [hy603]; exact H) | exact H
          have Ny603 := Aside0.mk hy603
          clear hy603
          have H' := Aside0.mk H
          clear H
          go_wp2_with (first | ((with_reducible refine gate_builtin (b := .append) (xs := #[.tmp 49, .tmp 51]) rfl ?_); at_builtin; refine Kd.R_append (Kd.int .i64) (w0 := w) w.heap.size rfl (.tmp 49) (.tmp 51) 32 3 (.int .i64 0) 8 rfl Tryd.underlying32 info3 rfl (by decide) (by omega) u3 x3_1 x5_3 [.int .i64 x5_3] (fun _ => True) (fun _ => False) rfl rfl ?aP (fun _ hk => hk.elim) ?aF ?aO ?aB ?aS ?aL ?_; (case aP => exact rfl); (case aB => exact (bv1_ HB GE598)); (case aF => exact (fun _ _ => trivial)); (case aO => exact (rv_ HO_3)); (case aS => exact (below_size (bv1_ HB GE598))); (case aL => have := LMc26.out; omega); intro v604 w27 ho hb hg hat; rw [← Ny603.out] at ho; have n0_ := Aside0.mk (blk_grown (g := gb598) (o := .cells #[.int .i64 a0_0, .int .i64 a0_1] 23 (0, 0)) (kv_ BK598) hg (Kd.R_ne HO_3.out BK598.out (by decide))); have n1_ := Aside0.mk (hb); have n2_ := Aside0.mk (ho); clear BK598; clear HB; clear HO_3; have BK598 := n0_; have HB := n1_; have HO605 := n2_; clear n0_ n1_ n2_; clear ho hb hg hat))
          go_roundg k3
          case measure => have := HK1.out; have := HJ4.out; have := HK3.out; omega
          case rel => exact ⟨(y603), (wrap64 (x4_1 + 1)), (by first | rfl | (simp; done) | (simp [*]; done)), H', ⟨by have := HK1.out; have := HJ4.out; have := HK3.out; omega⟩, ⟨by (with_reducible repeat (first | apply Kd.R_alloc | apply Kd.R_drewN | apply Kd.R_drew)); exact HO605.out⟩, ⟨by (with_reducible repeat (first | refine blk_drewN ?_ _ | refine blk_drew ?_ | refine blk_alloc ?_ _)); exact BK598.out⟩, ⟨bv1_ HB GE598⟩⟩
         ·rw [if_neg c26] at H
          exact absurd H (by simp)
     ·replace c15 := Bool.eq_false_iff.mpr c15
      subst c15
      rw [if_neg (show ¬ (false = true) by decide)] at H
      obtain rfl := Option.some.inj H
      go_wp2
      go_ret
      exact ⟨_, er_, by (with_reducible repeat (first | apply Kd.R_alloc | apply Kd.R_drewN | apply Kd.R_drew)); exact HO_3.out, bv1_ HB GE598⟩


/-! ### impl_degree: function 41 -/
/-- The greatest number of variables of a set that is such. -/
def impl_degree.most (g : Nat → Bool) : Nat → Int
  | 0 => -1
  | x + 1 => if g x = true then mx (impl_degree.most g x) ((impl_ones.f (x : Int)).getD 0) else impl_degree.most g x
theorem impl_degree.w (x : Int) (h0 : 0 ≤ x) (h1 : x ≤ 32) : wrap64 x = x := by unfold wrap64; omega
theorem impl_degree.size {a : Int} (h : 0 ≤ a ∧ a ≤ 5) : ∃ N : Nat, wrap64 ((2 : Int) ^ a.toNat) = (N : Int) ∧ 2 ^ a.toNat = N ∧ N ≤ 32 := by
  rcases (by omega : a = 0 ∨ a = 1 ∨ a = 2 ∨ a = 3 ∨ a = 4 ∨ a = 5) with rfl | rfl | rfl | rfl | rfl | rfl
  · exact ⟨1, (congrArg wrap64 (show ((2 : Int) ^ (0 : Int).toNat) = 1 by decide)).trans (impl_degree.w _ (by omega) (by omega)), by decide, by omega⟩
  · exact ⟨2, (congrArg wrap64 (show ((2 : Int) ^ (1 : Int).toNat) = 2 by decide)).trans (impl_degree.w _ (by omega) (by omega)), by decide, by omega⟩
  · exact ⟨4, (congrArg wrap64 (show ((2 : Int) ^ (2 : Int).toNat) = 4 by decide)).trans (impl_degree.w _ (by omega) (by omega)), by decide, by omega⟩
  · exact ⟨8, (congrArg wrap64 (show ((2 : Int) ^ (3 : Int).toNat) = 8 by decide)).trans (impl_degree.w _ (by omega) (by omega)), by decide, by omega⟩
  · exact ⟨16, (congrArg wrap64 (show ((2 : Int) ^ (4 : Int).toNat) = 16 by decide)).trans (impl_degree.w _ (by omega) (by omega)), by decide, by omega⟩
  · exact ⟨32, (congrArg wrap64 (show ((2 : Int) ^ (5 : Int).toNat) = 32 by decide)).trans (impl_degree.w _ (by omega) (by omega)), by decide, by omega⟩
-- EACH closure's number
set_option maxHeartbeats 4000000 in
set_option maxRecDepth 100000 in
theorem impl_degree.calls42 (n : Int) (hn : 0 ≤ n ∧ n ≤ 5) (caps : Array Value) (g : Nat → Bool) (w : World)
    (hp : ∀ (W : World) (x : Nat), Below w.heap.size w W → x < 2 ^ n.toNat → Calls Tryd.prog 42 (#[.int .i64 (x : Int)] ++ caps) W fun e w' => e = .returned (.bool (g x)) ∧ Below W.heap.size W w') :
    Calls Tryd.prog 41 #[.int .i64 n, .func (.func 42) #[] caps] w fun e w' => e = .returned (.int .i64 (impl_degree.most g (2 ^ n.toNat))) ∧ Below w.heap.size w w' := by
  obtain ⟨N, hN, hN2, hN32⟩ := impl_degree.size hn
  rw [hN2] at hp ⊢
  have HP := Aside0.mk hp
  have HB := Aside0.mk (Below.refl w.heap.size w)
  clear hN2 hp
  go_enter Tryd.func41, Tryd.ntmps41
  go_wp2_with fail
  rw [hN]
  go_loopw [5, 9] (fun v5 v9 wr => ∃ i : Nat, i ≤ N ∧ v5 = .int .i64 (impl_degree.most g i) ∧ v9 = .int .i64 (i : Int) ∧ Aside0 (Below w.heap.size w wr)) (fun _ v9 _ => N - (intOf v9).toNat)
  case atStart => exact ⟨0, Nat.zero_le _, rfl, rfl, HB⟩
  case round =>
    obtain ⟨i, hi, rfl, rfl, HB⟩ := hrel
    by_cases hlt : i < N
    · have hcall := HP.out wr i HB.out hlt
      replace hcall : Calls Tryd.prog 42 (#[.int .i64 (i : Int)] ++ caps) wr fun e w' => e = .returned (.bool (g i)) ∧ Below wr.heap.size wr w' := hcall
      cases hg : g i with
      | true =>
        rw [hg] at hcall
        obtain ⟨t, ht⟩ : ∃ t, impl_ones.f (i : Int) = some t := ⟨_, rfl⟩
        have S1 := Aside0.mk (show impl_degree.most g (i + 1) = mx (impl_degree.most g i) t by simp only [impl_degree.most]; rw [if_pos hg, ht]; rfl)
        have A1 := Aside0.mk ht
        clear hg ht
        generalize impl_degree.most g i = q at S1 ⊢
        go_wp2_with (first | (go_at_call 42; refine hcall.mono ?_; rintro e w2 ⟨rfl, hb2⟩) | (go_at_call 50; refine (impl_ones.calls _ _ _ A1.out).mono ?_; rintro e w3 ⟨rfl, ⟨n1, rfl⟩⟩))
        go_roundw
        case rel => exact ⟨i + 1, by omega, by rw [S1.out]; first | rfl | (simp [mx]; done), by go_num, ⟨by apply pw_below_drewN; exact below_step HB.out hb2⟩⟩
        case measure => simp [intOf]; omega
      | false =>
        rw [hg] at hcall
        have S1 := Aside0.mk (show impl_degree.most g (i + 1) = impl_degree.most g i by simp only [impl_degree.most]; rw [if_neg (by rw [hg]; decide)])
        clear hg
        go_wp2_with (go_at_call 42; refine hcall.mono ?_; rintro e w2 ⟨rfl, hb2⟩)
        go_roundw
        case rel => exact ⟨i + 1, by omega, by rw [S1.out], by go_num, ⟨below_step HB.out hb2⟩⟩
        case measure => simp [intOf]; omega
    · obtain rfl : i = N := by omega
      go_wp2
      go_ret
      exact ⟨rfl, HB.out⟩
-- EACH closure's number
set_option maxHeartbeats 4000000 in
set_option maxRecDepth 100000 in
theorem impl_degree.calls44 (n : Int) (hn : 0 ≤ n ∧ n ≤ 5) (caps : Array Value) (g : Nat → Bool) (w : World)
    (hp : ∀ (W : World) (x : Nat), Below w.heap.size w W → x < 2 ^ n.toNat → Calls Tryd.prog 44 (#[.int .i64 (x : Int)] ++ caps) W fun e w' => e = .returned (.bool (g x)) ∧ Below W.heap.size W w') :
    Calls Tryd.prog 41 #[.int .i64 n, .func (.func 44) #[] caps] w fun e w' => e = .returned (.int .i64 (impl_degree.most g (2 ^ n.toNat))) ∧ Below w.heap.size w w' := by
  obtain ⟨N, hN, hN2, hN32⟩ := impl_degree.size hn
  rw [hN2] at hp ⊢
  have HP := Aside0.mk hp
  have HB := Aside0.mk (Below.refl w.heap.size w)
  clear hN2 hp
  go_enter Tryd.func41, Tryd.ntmps41
  go_wp2_with fail
  rw [hN]
  go_loopw [5, 9] (fun v5 v9 wr => ∃ i : Nat, i ≤ N ∧ v5 = .int .i64 (impl_degree.most g i) ∧ v9 = .int .i64 (i : Int) ∧ Aside0 (Below w.heap.size w wr)) (fun _ v9 _ => N - (intOf v9).toNat)
  case atStart => exact ⟨0, Nat.zero_le _, rfl, rfl, HB⟩
  case round =>
    obtain ⟨i, hi, rfl, rfl, HB⟩ := hrel
    by_cases hlt : i < N
    · have hcall := HP.out wr i HB.out hlt
      replace hcall : Calls Tryd.prog 44 (#[.int .i64 (i : Int)] ++ caps) wr fun e w' => e = .returned (.bool (g i)) ∧ Below wr.heap.size wr w' := hcall
      cases hg : g i with
      | true =>
        rw [hg] at hcall
        obtain ⟨t, ht⟩ : ∃ t, impl_ones.f (i : Int) = some t := ⟨_, rfl⟩
        have S1 := Aside0.mk (show impl_degree.most g (i + 1) = mx (impl_degree.most g i) t by simp only [impl_degree.most]; rw [if_pos hg, ht]; rfl)
        have A1 := Aside0.mk ht
        clear hg ht
        generalize impl_degree.most g i = q at S1 ⊢
        go_wp2_with (first | (go_at_call 44; refine hcall.mono ?_; rintro e w2 ⟨rfl, hb2⟩) | (go_at_call 50; refine (impl_ones.calls _ _ _ A1.out).mono ?_; rintro e w3 ⟨rfl, ⟨n1, rfl⟩⟩))
        go_roundw
        case rel => exact ⟨i + 1, by omega, by rw [S1.out]; first | rfl | (simp [mx]; done), by go_num, ⟨by apply pw_below_drewN; exact below_step HB.out hb2⟩⟩
        case measure => simp [intOf]; omega
      | false =>
        rw [hg] at hcall
        have S1 := Aside0.mk (show impl_degree.most g (i + 1) = impl_degree.most g i by simp only [impl_degree.most]; rw [if_neg (by rw [hg]; decide)])
        clear hg
        go_wp2_with (go_at_call 44; refine hcall.mono ?_; rintro e w2 ⟨rfl, hb2⟩)
        go_roundw
        case rel => exact ⟨i + 1, by omega, by rw [S1.out], by go_num, ⟨below_step HB.out hb2⟩⟩
        case measure => simp [intOf]; omega
    · obtain rfl : i = N := by omega
      go_wp2
      go_ret
      exact ⟨rfl, HB.out⟩


/-! ### impl_DegreeMod2: function 15 -/
def impl_DegreeMod2.on (n W : Int) (m : Nat) : Bool := (impl_Table_at.f n W (m : Int)).getD 0 == 1
def impl_DegreeMod2.f (a0_0 a0_1 : Int) : Option Int :=
  (impl_IsTable.f a0_0 a0_1).bind fun t => if t = true then ((impl_Table_anf.f a0_0 a0_1).bind fun g => if 0 ≤ a0_0 ∧ a0_0 ≤ 5 then some (impl_degree.most (impl_DegreeMod2.on g.1 g.2) (2 ^ a0_0.toNat)) else none) else some (-2)
set_option maxHeartbeats 4000000 in
set_option maxRecDepth 100000 in
theorem impl_DegreeMod2.in_calls (g0 g1 : Int) (B : Nat) (m : Nat) (W : World) (hB : W.heap[B]? = some (.cells #[.int .i64 g0, .int .i64 g1] 23 (0, 0))) :
    Calls Tryd.prog 42 #[.int .i64 (m : Int), .pointer (some ⟨B, 0, none⟩)] W fun e w' => e = .returned (.bool (impl_DegreeMod2.on g0 g1 m)) ∧ Below W.heap.size W w' := by
  obtain ⟨t, ht⟩ : ∃ t, impl_Table_at.f g0 g1 (m : Int) = some t := ⟨Go.bits .and .i64 (shr .i64 g1 (m : Int)) 1, by unfold impl_Table_at.f; rw [if_pos (Int.natCast_nonneg _)]⟩
  have A1 := Aside0.mk ht
  have hv := Aside0.mk (show impl_DegreeMod2.on g0 g1 m = (t == 1) by unfold impl_DegreeMod2.on; rw [ht]; rfl)
  clear ht
  rw [hv.out]
  clear hv
  have hu := Tryd.underlying23
  have hc0 := blk_cell hB 0
  have hc1 := blk_cell hB 1
  replace hc0 : W.cell? ⟨B, 0, none⟩ = some (.int .i64 g0) := hc0
  replace hc1 : W.cell? ⟨B, 1, none⟩ = some (.int .i64 g1) := hc1
  clear hB
  go_enter Tryd.func42, Tryd.ntmps42
  go_wp2_with (go_at_call 43; refine (impl_Table_at.calls g0 g1 _ _ _ A1.out).mono ?_; rintro e w1 ⟨rfl, hb1⟩)
  go_ret
  exact ⟨rfl, hb1⟩
set_option maxHeartbeats 4000000 in
set_option maxRecDepth 100000 in
theorem impl_DegreeMod2.calls (a0_0 a0_1 r : Int) (w : World) (h : impl_DegreeMod2.f a0_0 a0_1 = some r) :
    Calls Tryd.prog 15 #[.agg #[.int .i64 a0_0, .int .i64 a0_1]] w fun e w' => e = .returned (.int .i64 r) ∧ Below w.heap.size w w' := by
  unfold impl_DegreeMod2.f at h
  obtain ⟨t, ht, h⟩ := Option.bind_eq_some_iff.mp h
  have A1 := Aside0.mk ht
  clear ht
  have hu := Tryd.underlying23
  cases t with
  | false =>
    rw [if_neg (by decide)] at h
    obtain rfl := Option.some.inj h
    go_enter Tryd.func15, Tryd.ntmps15
    go_wp2_with (go_at_call 37; refine (impl_IsTable.calls a0_0 a0_1 _ _ A1.out).mono ?_; rintro e w1 ⟨rfl, hb1⟩)
    go_ret
    exact ⟨rfl, (((Below.refl w.heap.size w).alloc (Nat.le_refl _) (Obj.cells #[Value.int IntKind.i64 a0_0, Value.int IntKind.i64 a0_1] 23))).trans (hb1.mono (by simp))⟩
  | true =>
    rw [if_pos rfl] at h
    obtain ⟨⟨g0, g1⟩, hg, h⟩ := Option.bind_eq_some_iff.mp h
    by_cases hb : 0 ≤ a0_0 ∧ a0_0 ≤ 5
    case neg => rw [if_neg hb] at h; exact absurd h (by simp)
    rw [if_pos hb] at h
    have hr := Aside0.mk (Option.some.inj h)
    have A2 := Aside0.mk hg
    clear h hg
    go_enter Tryd.func15, Tryd.ntmps15
    go_wp2_with fail
    (with_reducible refine (impl_IsTable.calls a0_0 a0_1 _ _ A1.out).mono ?_)
    rintro e w1 ⟨rfl, hb1⟩
    have BK := Aside0.mk (blk_below (blk_new w (Obj.cells #[Value.int IntKind.i64 a0_0, Value.int IntKind.i64 a0_1] 23)) hb1)
    have HB := Aside0.mk ((((Below.refl w.heap.size w).alloc (Nat.le_refl _) (Obj.cells #[Value.int IntKind.i64 a0_0, Value.int IntKind.i64 a0_1] 23))).trans (hb1.mono (by simp)))
    clear hb1 A1
    have hc0 := (blk_cell BK.out 0).trans rfl
    have hc1 := (blk_cell BK.out 1).trans rfl
    go_wp2_with fail
    (with_reducible refine (impl_Table_anf.calls a0_0 a0_1 _ _ _ A2.out).mono ?_)
    rintro e w2 ⟨rfl, hb2⟩
    have BK2 := Aside0.mk (blk_below BK.out hb2)
    have HB2 := Aside0.mk (below_step HB.out hb2)
    clear hb2 A2 BK HB hc0 hc1
    have hc0 : (w2.alloc (Obj.cells #[Value.int IntKind.i64 g0, Value.int IntKind.i64 g1] 23)).cell? ⟨w.heap.size, 0, none⟩ = some (.int .i64 a0_0) := (blk_cell (blk_alloc BK2.out (Obj.cells #[Value.int IntKind.i64 g0, Value.int IntKind.i64 g1] 23)) 0).trans rfl
    have hcall := impl_degree.calls42 a0_0 hb #[.pointer (some ⟨w2.heap.size, 0, none⟩)] (impl_DegreeMod2.on g0 g1) (w2.alloc (Obj.cells #[Value.int IntKind.i64 g0, Value.int IntKind.i64 g1] 23))
      (fun W x hW _ => impl_DegreeMod2.in_calls g0 g1 w2.heap.size x W (blk_below (blk_new w2 (Obj.cells #[Value.int IntKind.i64 g0, Value.int IntKind.i64 g1] 23)) hW))
    rw [hr.out] at hcall
    clear hr
    go_wp2_with (go_at_call 41; refine hcall.mono ?_; rintro e w3 ⟨rfl, hb3⟩)
    go_ret
    exact ⟨rfl, (HB2.out.alloc (below_size HB2.out) _).trans (hb3.mono (by have := below_size HB2.out; simp; omega))⟩


/-! ### spec_DegreeMod2: function 16 -/
def spec_DegreeMod2.l0 : Nat → Int → Int → Int → Int → Int → Option (Int)
 | 0, _, _, _, _, _ => none
 | k + 1, x3, x4, x5, x708000, x708001 => if 0 ≤ x708000 then (if x5 < (shl .i64 1 x708000) then (if 0 ≤ x5 then (if (Go.bits .and .i64 (shr .i64 x3 x5) 1) = 1 then ((spec_l2Count.f k x5).bind fun t710 => (spec_DegreeMod2.l0 k x3 (mx x4 t710) (wrap64 (x5 + 1)) x708000 x708001)) else (spec_DegreeMod2.l0 k x3 x4 (wrap64 (x5 + 1)) x708000 x708001)) else (none)) else (some x4)) else (none)
def spec_DegreeMod2.f (k : Nat) (a0_0 : Int) (a0_1 : Int) : Option (Int) := (spec_IsTable.f a0_0 a0_1).bind fun t708 => (if t708 = true then ((spec_l11Anf.f k a0_0 a0_1).bind fun t709 => (spec_DegreeMod2.l0 k t709 (-1) 0 a0_0 a0_1)) else (some (-2)))
theorem spec_DegreeMod2.mono_l : ∀ k, (∀ y0 y1 y2 y3 y4, LeO (spec_DegreeMod2.l0 k y0 y1 y2 y3 y4) (spec_DegreeMod2.l0 (k + 1) y0 y1 y2 y3 y4))
 | 0 => fun _ _ _ _ _ r h => by simp [spec_DegreeMod2.l0] at h
 | k + 1 => by
  have ih0 := spec_DegreeMod2.mono_l k
  ·intro y0 y1 y2 y3 y4
   unfold spec_DegreeMod2.l0
   repeat' first
   | (with_reducible exact ih0 _ _ _ _ _)
   | (with_reducible exact spec_l11Anf.mono _ _ _)
   | (with_reducible exact spec_l2Count.mono _ _)
   | (with_reducible exact LeO.refl _)
   | (with_reducible exact LeO.none _)
   | (with_reducible refine LeO.ite ?_ ?_)
   | (with_reducible refine LeO.bind ?_ (fun _ => ?_))
   | exact ih0 _ _ _ _ _
   | exact spec_l11Anf.mono _ _ _
   | exact spec_l2Count.mono _ _
   | exact LeO.none _
   | refine LeO.ite ?_ ?_
   | refine LeO.bind ?_ (fun _ => ?_)
theorem spec_DegreeMod2.mono : ∀ a0 a1 k, LeO (spec_DegreeMod2.f k a0 a1) (spec_DegreeMod2.f (k + 1) a0 a1) := by
 intro a0 a1 k
 have ih0 := spec_DegreeMod2.mono_l k
 unfold spec_DegreeMod2.f
 repeat' first
   | (with_reducible exact ih0 _ _ _ _ _)
   | (with_reducible exact spec_l11Anf.mono _ _ _)
   | (with_reducible exact spec_l2Count.mono _ _)
   | (with_reducible exact LeO.refl _)
   | (with_reducible exact LeO.none _)
   | (with_reducible refine LeO.ite ?_ ?_)
   | (with_reducible refine LeO.bind ?_ (fun _ => ?_))
   | exact ih0 _ _ _ _ _
   | exact spec_l11Anf.mono _ _ _
   | exact spec_l2Count.mono _ _
   | exact LeO.none _
   | refine LeO.ite ?_ ?_
   | refine LeO.bind ?_ (fun _ => ?_)
set_option maxHeartbeats 8000000 in
set_option maxRecDepth 100000 in
theorem spec_DegreeMod2.calls (k : Nat) (a0_0 : Int) (a0_1 : Int) (r : Int) (w : World) (h : spec_DegreeMod2.f k a0_0 a0_1 = some r) :
  Calls Tryd.prog 16 #[.agg #[.int .i64 a0_0, .int .i64 a0_1]] w fun e w' => e = .returned (.int .i64 r) ∧ Below w.heap.size w w' := by
 have hu23 := Tryd.underlying23
 have HB := Aside0.mk (Below.refl w.heap.size w)
 have H : ((spec_IsTable.f a0_0 a0_1).bind fun t708 => (if t708 = true then ((spec_l11Anf.f k a0_0 a0_1).bind fun t709 => (spec_DegreeMod2.l0 k t709 (-1) 0 a0_0 a0_1)) else (some (-2)))) = some r := h
 clear h
 replace H := Option.bind_eq_some_iff.mp H
 obtain ⟨t708, A20, H⟩ := H
 have A2 := Aside0.mk A20
 clear A20
 by_cases c3 : t708 = true
 ·subst c3
  rw [if_pos rfl] at H
  replace H := Option.bind_eq_some_iff.mp H
  obtain ⟨t709, A40, H⟩ := H
  have A4 := Aside0.mk A40
  clear A40
  have H' := Aside0.mk H
  clear H
  go_enter Tryd.func16, Tryd.ntmps16
  go_wp2_with (first | ((with_reducible refine gate_dst (N := 1) rfl ?_); refine bx_ 1 #[.int .i64 a0_0, .int .i64 a0_1] 23 ?_; intro gb707 hg w5 hbox hb; have BK707 := Aside0.mk (hbox); have GW707 := gw_ hg (below_size (bv_ HB)); have GE707 := GW707; replace HB := Aside0.mk (below_step (bv_ HB) hb); clear hb hbox hg; obtain ⟨hcz6_0, hcz6_1, hfz6_0, hfz6_1⟩ := c2_ BK707) | ((with_reducible refine gate_callee (f := 38) rfl ?_); refine gl_ 7 Tryd.func38 #[.agg #[.int .i64 a0_0, .int .i64 a0_1]] rfl mp_ ?_; (with_reducible refine (spec_IsTable.calls a0_0 a0_1 true _ A2.out).mono ?_); rintro e w7 ⟨rfl, hb⟩; refine ⟨_, rfl, ?_⟩; replace BK707 := kb_ BK707 hb; replace HB := Aside0.mk (below_step (bv1_ HB GE707) hb); (try clear hb); (try clear hb2); (try clear hk); (try clear hi); obtain ⟨hcz8_0, hcz8_1, hfz8_0, hfz8_1⟩ := c2_ BK707) | ((with_reducible refine gate_callee (f := 30) rfl ?_); refine gl_ 10 Tryd.func30 #[.agg #[.int .i64 a0_0, .int .i64 a0_1]] rfl mp_ ?_; (with_reducible refine (spec_l11Anf.calls k a0_0 a0_1 t709 _ A4.out).mono ?_); rintro e w9 ⟨rfl, hb⟩; refine ⟨_, rfl, ?_⟩; replace BK707 := kb_ BK707 hb; replace HB := Aside0.mk (below_step (bv1_ HB GE707) hb); (try clear hb); (try clear hb2); (try clear hk); (try clear hi)))
  go_loopg [4, 5] k (fun kq v4 v5 w' => ∃ (x4_1 : Int) (x5_1 : Int), v4 = .int .i64 x4_1 ∧ v5 = .int .i64 x5_1 ∧ Aside0 (spec_DegreeMod2.l0 kq t709 x4_1 x5_1 a0_0 a0_1 = some r) ∧ Aside0 (kq ≤ k) ∧ Aside0 (w'.heap[gb707]? = some (.cells #[.int .i64 a0_0, .int .i64 a0_1] 23 (0, 0))) ∧ Aside0 (Below w.heap.size w w'))
  case atStart => exact ⟨((-1)), (0), (by first | rfl | (simp; done) | (simp [*]; done)), (by first | rfl | (simp; done) | (simp [*]; done)), H', ⟨Nat.le_refl _⟩, ⟨by (with_reducible repeat (first | refine blk_drewN ?_ _ | refine blk_drew ?_ | refine blk_alloc ?_ _)); exact BK707.out⟩, ⟨bv1_ HB GE707⟩⟩
  case round =>
   clear H'
   try clear c1
   try clear p2
   try clear c3
   try clear hcz6_0
   try clear hcz6_1
   try clear hcz8_0
   try clear hcz8_1
   try clear hfz6_0
   try clear hfz6_1
   try clear hfz8_0
   try clear hfz8_1
   obtain ⟨x4_1, x5_1, rfl, rfl, HA, HK1, BK707, HB⟩ := hrel
   cases gk with
   | zero => exact absurd HA.out (by simp [spec_DegreeMod2.l0])
   | succ k1 =>
    have H := HA.out
    clear HA
    simp only [spec_DegreeMod2.l0] at H
    by_cases c10 : 0 ≤ a0_0
    ·rw [if_pos c10] at H
     have c10b0 := eq_true c10
     have c10b1 : decide (0 ≤ a0_0) = true := decide_eq_true c10
     clear c10
     obtain ⟨ji11, hji11⟩ : ∃ j_ : Int, (shl .i64 1 a0_0) = j_ := ⟨_, rfl⟩
     replace H : (if x5_1 < (ji11) then (if 0 ≤ x5_1 then (if (Go.bits .and .i64 (shr .i64 t709 x5_1) 1) = 1 then ((spec_l2Count.f k1 x5_1).bind fun t710 => (spec_DegreeMod2.l0 k1 t709 (mx x4_1 t710) (wrap64 (x5_1 + 1)) a0_0 a0_1)) else (spec_DegreeMod2.l0 k1 t709 x4_1 (wrap64 (x5_1 + 1)) a0_0 a0_1)) else (none)) else (some x4_1)) = some r := by first | (rw [hji11] at H; exact H) | (simp only [hji11] at H ⊢; exact H)
     have hji11_ : (IntKind.i64.wrap (1 * 2 ^ min a0_0.toNat 64)) = ji11 := hji11
     have hji11z : a0_0 ≤ 64 → (IntKind.i64.wrap (1 * 2 ^ a0_0.toNat)) = ji11 := shl_small hji11
     have hji11u : (IntKind.i64.wrap (2 ^ min a0_0.toNat 64)) = ji11 := by have h_ := hji11_; rw [Int.one_mul] at h_; exact h_
     have hji11v : a0_0 ≤ 64 → (IntKind.i64.wrap (2 ^ a0_0.toNat)) = ji11 := fun hle_ => by have h_ := hji11z hle_; rw [Int.one_mul] at h_; exact h_
     have hji11y : (wrap64 (1 * 2 ^ min a0_0.toNat 64)) = ji11 := (i64_w _).symm.trans hji11_
     have hji11x : a0_0 ≤ 64 → (wrap64 (1 * 2 ^ a0_0.toNat)) = ji11 := fun h_ => (i64_w _).symm.trans (hji11z h_)
     by_cases c12 : x5_1 < (ji11)
     ·rw [if_pos c12] at H
      have c12b0 : decide (x5_1 < (ji11)) = true := decide_eq_true c12
      clear c12
      by_cases c13 : 0 ≤ x5_1
      ·rw [if_pos c13] at H
       have c13b0 := eq_true c13
       have c13b1 : decide (0 ≤ x5_1) = true := decide_eq_true c13
       clear c13
       obtain ⟨ji14, hji14⟩ : ∃ j_ : Int, (shr .i64 t709 x5_1) = j_ := ⟨_, rfl⟩
       replace H : (if (Go.bits .and .i64 (ji14) 1) = 1 then ((spec_l2Count.f k1 x5_1).bind fun t710 => (spec_DegreeMod2.l0 k1 t709 (mx x4_1 t710) (wrap64 (x5_1 + 1)) a0_0 a0_1)) else (spec_DegreeMod2.l0 k1 t709 x4_1 (wrap64 (x5_1 + 1)) a0_0 a0_1)) = some r := by first | (rw [hji14] at H; exact H) | (simp only [hji14] at H ⊢; exact H)
       have hji14_ : (t709 / 2 ^ min x5_1.toNat 64) = ji14 := hji14
       have hji14z : x5_1 ≤ 64 → (t709 / 2 ^ x5_1.toNat) = ji14 := shr_small hji14
       by_cases c15 : (Go.bits .and .i64 (ji14) 1) = 1
       ·rw [if_pos c15] at H
        have c15b0 : ((Go.bits .and .i64 (ji14) 1) == 1) = true := beq_iff_eq.mpr c15
        have c15b1 : ((Go.bits .and .i64 (ji14) 1) != 1) = false := bne_eq_false_iff_eq.mpr c15
        clear c15
        replace H := Option.bind_eq_some_iff.mp H
        obtain ⟨t710, A160, H⟩ := H
        have A16 := Aside0.mk A160
        clear A160
        obtain ⟨ji17, hji17⟩ : ∃ j_ : Int, (mx x4_1 t710) = j_ := ⟨_, rfl⟩
        replace H : (spec_DegreeMod2.l0 k1 t709 ji17 (wrap64 (x5_1 + 1)) a0_0 a0_1) = some r := by first | (rw [hji17] at H; exact H) | (simp only [hji17] at H ⊢; exact H)
        (try rw [hji17] at A16)
        have hji17_ : (if x4_1 < t710 then t710 else x4_1) = ji17 := hji17
        have H' := Aside0.mk H
        clear H
        obtain ⟨hcz18_0, hcz18_1, hfz18_0, hfz18_1⟩ := c2_ BK707
        go_wp2_with (first | ((with_reducible refine gate_callee (f := 40) rfl ?_); refine gl_ 25 Tryd.func40 #[.int .i64 x5_1] rfl mp_ ?_; (with_reducible refine (spec_l2Count.calls k1 x5_1 t710 _ A16.out).mono ?_); rintro e w' ⟨rfl, ⟨nd, rfl⟩⟩; refine ⟨_, rfl, ?_⟩))
        go_roundg k1
        case measure => have := HK1.out; omega
        case rel => exact ⟨(ji17), (wrap64 (x5_1 + 1)), (by first | rfl | (simp; done) | (simp only [← hji17] <;> (first | rfl | simp)) | (simp [*]; done)), (by first | rfl | (simp; done) | (simp [*]; done)), H', ⟨by have := HK1.out; omega⟩, ⟨by (with_reducible repeat (first | refine blk_drewN ?_ _ | refine blk_drew ?_ | refine blk_alloc ?_ _)); exact BK707.out⟩, ⟨bv1_ HB GE707⟩⟩
       ·rw [if_neg c15] at H
        have c15b0 : ((Go.bits .and .i64 (ji14) 1) == 1) = false := beq_eq_false_iff_ne.mpr c15
        have c15b1 : ((Go.bits .and .i64 (ji14) 1) != 1) = true := bne_iff_ne.mpr c15
        have H' := Aside0.mk H
        clear H
        obtain ⟨hcz19_0, hcz19_1, hfz19_0, hfz19_1⟩ := c2_ BK707
        go_wp2
        go_roundg k1
        case measure => have := HK1.out; omega
        case rel => exact ⟨(x4_1), (wrap64 (x5_1 + 1)), (by first | rfl | (simp; done) | (simp [*]; done)), (by first | rfl | (simp; done) | (simp [*]; done)), H', ⟨by have := HK1.out; omega⟩, ⟨by (with_reducible repeat (first | refine blk_drewN ?_ _ | refine blk_drew ?_ | refine blk_alloc ?_ _)); exact BK707.out⟩, ⟨bv1_ HB GE707⟩⟩
      ·rw [if_neg c13] at H
       exact absurd H (by simp)
     ·rw [if_neg c12] at H
      have c12b0 : decide (x5_1 < (ji11)) = false := decide_eq_false c12
      clear c12
      obtain rfl := Option.some.inj H
      obtain ⟨hcz20_0, hcz20_1, hfz20_0, hfz20_1⟩ := c2_ BK707
      go_wp2
      go_ret
      exact ⟨by first | rfl | (simp [errW_none, errW_some] <;> rfl) | (simp only [← hji11]; first | rfl | (simp [errW_none, errW_some] <;> rfl)) | (simp [*, errW_none, errW_some] <;> rfl), bv1_ HB GE707⟩
    ·rw [if_neg c10] at H
     exact absurd H (by simp)
 ·replace c3 := Bool.eq_false_iff.mpr c3
  subst c3
  rw [if_neg (show ¬ (false = true) by decide)] at H
  obtain rfl := Option.some.inj H
  go_enter Tryd.func16, Tryd.ntmps16
  go_wp2_with (first | ((with_reducible refine gate_dst (N := 1) rfl ?_); refine bx_ 1 #[.int .i64 a0_0, .int .i64 a0_1] 23 ?_; intro gb707 hg w21 hbox hb; have BK707 := Aside0.mk (hbox); have GW707 := gw_ hg (below_size (bv_ HB)); have GE707 := GW707; replace HB := Aside0.mk (below_step (bv_ HB) hb); clear hb hbox hg; obtain ⟨hcz22_0, hcz22_1, hfz22_0, hfz22_1⟩ := c2_ BK707) | ((with_reducible refine gate_callee (f := 38) rfl ?_); refine gl_ 7 Tryd.func38 #[.agg #[.int .i64 a0_0, .int .i64 a0_1]] rfl mp_ ?_; (with_reducible refine (spec_IsTable.calls a0_0 a0_1 false _ A2.out).mono ?_); rintro e w23 ⟨rfl, hb⟩; refine ⟨_, rfl, ?_⟩; replace BK707 := kb_ BK707 hb; replace HB := Aside0.mk (below_step (bv1_ HB GE707) hb); (try clear hb); (try clear hb2); (try clear hk); (try clear hi)))
  go_ret
  exact ⟨er_, bv1_ HB GE707⟩


/-! ### impl_RealDegree: function 17 -/
def impl_RealDegree.f (k : Nat) (a0_0 a0_1 : Int) : Option Int :=
  (impl_IsTable.f a0_0 a0_1).bind fun t => if t = true then ((impl_Table_coefficients.f k a0_0 a0_1).bind fun c => if (0 ≤ a0_0 ∧ a0_0 ≤ 5) ∧ c.length = 2 ^ a0_0.toNat then some (impl_degree.most (fun m => rd c (m : Int) != 0) (2 ^ a0_0.toNat)) else none) else some (-2)
theorem impl_RealDegree.mono : ∀ a0 a1 k, LeO (impl_RealDegree.f k a0 a1) (impl_RealDegree.f (k + 1) a0 a1) := by
  intro a0 a1 k
  unfold impl_RealDegree.f
  repeat' first
      | (with_reducible exact impl_Table_coefficients.mono _ _ _)
      | (with_reducible exact LeO.refl _)
      | (with_reducible exact LeO.none _)
      | (with_reducible refine LeO.ite ?_ ?_)
      | (with_reducible refine LeO.bind ?_ (fun _ => ?_))
      | exact impl_Table_coefficients.mono _ _ _
      | exact LeO.none _
      | refine LeO.ite ?_ ?_
      | refine LeO.bind ?_ (fun _ => ?_)
set_option maxHeartbeats 4000000 in
set_option maxRecDepth 100000 in
theorem impl_RealDegree.in_calls (c : List Int) (v : Value) (base B : Nat) (ok : Nat → Prop) (m : Nat) (W : World) (hB : W.heap[B]? = some (.cells #[v] 32 (0, 0))) (hR : Kd.R (Kd.int .i64) 3 W base ok v c) (hm : m < c.length) :
    Calls Tryd.prog 44 #[.int .i64 (m : Int), .pointer (some ⟨B, 0, none⟩)] W fun e w' => e = .returned (.bool (rd c (m : Int) != 0)) ∧ Below W.heap.size W w' := by
  obtain ⟨Ao, co, rfl⟩ := Kd.R_slice hR
  obtain ⟨_, _, hC⟩ := Kd.R_reads' hR
  obtain ⟨ad, rfl, hx⟩ := Kd.at_int hC (m : Int) (Int.natCast_nonneg m) (by omega)
  have hlt : (m : Int) < (c.length : Int) := by omega
  have hc0 := blk_cell hB 0
  replace hc0 : W.cell? ⟨B, 0, none⟩ = some (.slice (some ad) c.length co) := hc0
  rw [Int.toNat_natCast] at hx
  clear hC hR hB
  generalize rd c (m : Int) = z at hx ⊢
  generalize c.length = N at *
  go_enter Tryd.func44, Tryd.ntmps44
  go_wp2
  go_ret
  exact ⟨by first | rfl | (simp; done), Below.refl _ _⟩
set_option maxHeartbeats 4000000 in
set_option maxRecDepth 100000 in
theorem impl_RealDegree.calls (k : Nat) (a0_0 a0_1 r : Int) (w : World) (h : impl_RealDegree.f k a0_0 a0_1 = some r) :
    Calls Tryd.prog 17 #[.agg #[.int .i64 a0_0, .int .i64 a0_1]] w fun e w' => e = .returned (.int .i64 r) ∧ Below w.heap.size w w' := by
  unfold impl_RealDegree.f at h
  obtain ⟨t, ht, h⟩ := Option.bind_eq_some_iff.mp h
  have A1 := Aside0.mk ht
  clear ht
  have hu := Tryd.underlying23
  cases t with
  | false =>
    rw [if_neg (by decide)] at h
    obtain rfl := Option.some.inj h
    go_enter Tryd.func17, Tryd.ntmps17
    go_wp2_with (go_at_call 37; refine (impl_IsTable.calls a0_0 a0_1 _ _ A1.out).mono ?_; rintro e w1 ⟨rfl, hb1⟩)
    go_ret
    exact ⟨rfl, (((Below.refl w.heap.size w).alloc (Nat.le_refl _) (Obj.cells #[Value.int IntKind.i64 a0_0, Value.int IntKind.i64 a0_1] 23))).trans (hb1.mono (by simp))⟩
  | true =>
    rw [if_pos rfl] at h
    obtain ⟨c, hg, h⟩ := Option.bind_eq_some_iff.mp h
    by_cases hb : (0 ≤ a0_0 ∧ a0_0 ≤ 5) ∧ c.length = 2 ^ a0_0.toNat
    case neg => rw [if_neg hb] at h; exact absurd h (by simp)
    rw [if_pos hb] at h
    have hr := Aside0.mk (Option.some.inj h)
    have A2 := Aside0.mk hg
    have hln := Aside0.mk hb.2
    have hb0 := Aside0.mk hb.1
    clear h hg hb
    go_enter Tryd.func17, Tryd.ntmps17
    go_wp2_with fail
    (with_reducible refine (impl_IsTable.calls a0_0 a0_1 _ _ A1.out).mono ?_)
    rintro e w1 ⟨rfl, hb1⟩
    have BK := Aside0.mk (blk_below (blk_new w (Obj.cells #[Value.int IntKind.i64 a0_0, Value.int IntKind.i64 a0_1] 23)) hb1)
    have HB := Aside0.mk ((((Below.refl w.heap.size w).alloc (Nat.le_refl _) (Obj.cells #[Value.int IntKind.i64 a0_0, Value.int IntKind.i64 a0_1] 23))).trans (hb1.mono (by simp)))
    clear hb1 A1
    have hc0 := (blk_cell BK.out 0).trans rfl
    have hc1 := (blk_cell BK.out 1).trans rfl
    go_wp2_with fail
    (with_reducible refine (impl_Table_coefficients.calls _ a0_0 a0_1 _ _ A2.out).mono ?_)
    rintro e w2 ⟨v0, rfl, hR0, hb2⟩
    obtain ⟨Ao, co, rfl⟩ := Kd.R_slice hR0
    have BK2 := Aside0.mk (blk_below BK.out hb2)
    have HB2 := Aside0.mk (below_step HB.out hb2)
    have HR := Aside0.mk hR0
    clear hb2 A2 BK HB hc0 hc1 hR0
    have hc0 : (w2.alloc (Obj.cells #[Value.slice Ao c.length co] 32)).cell? ⟨w.heap.size, 0, none⟩ = some (.int .i64 a0_0) := (blk_cell (blk_alloc BK2.out (Obj.cells #[Value.slice Ao c.length co] 32)) 0).trans rfl
    have hcall := impl_degree.calls44 a0_0 hb0.out #[.pointer (some ⟨w2.heap.size, 0, none⟩)] (fun m => rd c (m : Int) != 0) (w2.alloc (Obj.cells #[Value.slice Ao c.length co] 32))
      (fun W x hW hx => impl_RealDegree.in_calls c _ _ w2.heap.size _ x W (blk_below (blk_new w2 (Obj.cells #[Value.slice Ao c.length co] 32)) hW) (Kd.R_below (Kd.R_alloc HR.out _) hW) (by rw [hln.out]; exact hx))
    rw [hr.out] at hcall
    clear hr
    generalize c.length = N at hcall hc0 HR ⊢
    go_wp2_with (go_at_call 41; refine hcall.mono ?_; rintro e w3 ⟨rfl, hb3⟩)
    go_ret
    exact ⟨rfl, (HB2.out.alloc (below_size HB2.out) _).trans (hb3.mono (by have := below_size HB2.out; simp; omega))⟩


/-! ### spec_RealDegree: function 18 -/
def spec_RealDegree.l0 : Nat → List Int → Int → Int → Option (Int)
 | 0, _, _, _ => none
 | k + 1, x3, x4, x5 => if x5 < (x3.length : Int) then (if 0 ≤ x5 then (if (rd x3 x5) = 0 then (spec_RealDegree.l0 k x3 x4 (wrap64 (x5 + 1))) else ((spec_l2Count.f k x5).bind fun t757 => (spec_RealDegree.l0 k x3 (mx x4 t757) (wrap64 (x5 + 1))))) else (none)) else (some x4)
def spec_RealDegree.f (k : Nat) (a0_0 : Int) (a0_1 : Int) : Option (Int) := (spec_IsTable.f a0_0 a0_1).bind fun t752 => (if t752 = true then ((spec_RealCoefficients.f k a0_0 a0_1).bind fun t753 => (spec_RealDegree.l0 k t753 (-1) 0)) else (some (-2)))
theorem spec_RealDegree.mono_l : ∀ k, (∀ y0 y1 y2, LeO (spec_RealDegree.l0 k y0 y1 y2) (spec_RealDegree.l0 (k + 1) y0 y1 y2))
 | 0 => fun _ _ _ r h => by simp [spec_RealDegree.l0] at h
 | k + 1 => by
  have ih0 := spec_RealDegree.mono_l k
  ·intro y0 y1 y2
   unfold spec_RealDegree.l0
   repeat' first
   | (with_reducible exact ih0 _ _ _)
   | (with_reducible exact spec_RealCoefficients.mono _ _ _)
   | (with_reducible exact spec_l2Count.mono _ _)
   | (with_reducible exact LeO.refl _)
   | (with_reducible exact LeO.none _)
   | (with_reducible refine LeO.ite ?_ ?_)
   | (with_reducible refine LeO.bind ?_ (fun _ => ?_))
   | exact ih0 _ _ _
   | exact spec_RealCoefficients.mono _ _ _
   | exact spec_l2Count.mono _ _
   | exact LeO.none _
   | refine LeO.ite ?_ ?_
   | refine LeO.bind ?_ (fun _ => ?_)
theorem spec_RealDegree.mono : ∀ a0 a1 k, LeO (spec_RealDegree.f k a0 a1) (spec_RealDegree.f (k + 1) a0 a1) := by
 intro a0 a1 k
 have ih0 := spec_RealDegree.mono_l k
 unfold spec_RealDegree.f
 repeat' first
   | (with_reducible exact ih0 _ _ _)
   | (with_reducible exact spec_RealCoefficients.mono _ _ _)
   | (with_reducible exact spec_l2Count.mono _ _)
   | (with_reducible exact LeO.refl _)
   | (with_reducible exact LeO.none _)
   | (with_reducible refine LeO.ite ?_ ?_)
   | (with_reducible refine LeO.bind ?_ (fun _ => ?_))
   | exact ih0 _ _ _
   | exact spec_RealCoefficients.mono _ _ _
   | exact spec_l2Count.mono _ _
   | exact LeO.none _
   | refine LeO.ite ?_ ?_
   | refine LeO.bind ?_ (fun _ => ?_)
set_option maxHeartbeats 8000000 in
set_option maxRecDepth 100000 in
theorem spec_RealDegree.calls (k : Nat) (a0_0 : Int) (a0_1 : Int) (r : Int) (w : World) (h : spec_RealDegree.f k a0_0 a0_1 = some r) :
  Calls Tryd.prog 18 #[.agg #[.int .i64 a0_0, .int .i64 a0_1]] w fun e w' => e = .returned (.int .i64 r) ∧ Below w.heap.size w w' := by
 have hu23 := Tryd.underlying23
 have HB := Aside0.mk (Below.refl w.heap.size w)
 have H : ((spec_IsTable.f a0_0 a0_1).bind fun t752 => (if t752 = true then ((spec_RealCoefficients.f k a0_0 a0_1).bind fun t753 => (spec_RealDegree.l0 k t753 (-1) 0)) else (some (-2)))) = some r := h
 clear h
 replace H := Option.bind_eq_some_iff.mp H
 obtain ⟨t752, A20, H⟩ := H
 have A2 := Aside0.mk A20
 clear A20
 by_cases c3 : t752 = true
 ·subst c3
  rw [if_pos rfl] at H
  replace H := Option.bind_eq_some_iff.mp H
  obtain ⟨t753, A40, H⟩ := H
  have A4 := Aside0.mk A40
  clear A40
  have H' := Aside0.mk H
  clear H
  go_enter Tryd.func18, Tryd.ntmps18
  go_wp2_with (first | ((with_reducible refine gate_dst (N := 1) rfl ?_); refine bx_ 1 #[.int .i64 a0_0, .int .i64 a0_1] 23 ?_; intro gb751 hg w5 hbox hb; have BK751 := Aside0.mk (hbox); have GW751 := gw_ hg (below_size (bv_ HB)); have GE751 := GW751; replace HB := Aside0.mk (below_step (bv_ HB) hb); clear hb hbox hg; obtain ⟨hcz6_0, hcz6_1, hfz6_0, hfz6_1⟩ := c2_ BK751) | ((with_reducible refine gate_callee (f := 38) rfl ?_); refine gl_ 7 Tryd.func38 #[.agg #[.int .i64 a0_0, .int .i64 a0_1]] rfl mp_ ?_; (with_reducible refine (spec_IsTable.calls a0_0 a0_1 true _ A2.out).mono ?_); rintro e w7 ⟨rfl, hb⟩; refine ⟨_, rfl, ?_⟩; replace BK751 := kb_ BK751 hb; replace HB := Aside0.mk (below_step (bv1_ HB GE751) hb); (try clear hb); (try clear hb2); (try clear hk); (try clear hi); obtain ⟨hcz8_0, hcz8_1, hfz8_0, hfz8_1⟩ := c2_ BK751) | ((with_reducible refine gate_callee (f := 14) rfl ?_); refine gl_ 10 Tryd.func14 #[.agg #[.int .i64 a0_0, .int .i64 a0_1]] rfl mp_ ?_; (with_reducible refine (spec_RealCoefficients.calls k a0_0 a0_1 t753 _ A4.out).mono ?_); rintro e w9 ⟨v754, rfl, ho0, hb⟩; refine ⟨_, rfl, ?_⟩; have HO755 := Aside0.mk (Kd.R_lower ho0 (below_size (bv1_ HB GE751))); replace BK751 := kb_ BK751 hb; replace HB := Aside0.mk (below_step (bv1_ HB GE751) hb); (try clear hb); (try clear hb2); (try clear hk); (try clear hi); (try clear ho0)))
  go_loopg [4, 5] k (fun kq v4 v5 w' => ∃ (x4_1 : Int) (x5_1 : Int), v4 = .int .i64 x4_1 ∧ v5 = .int .i64 x5_1 ∧ Aside0 (spec_RealDegree.l0 kq t753 x4_1 x5_1 = some r) ∧ Aside0 (kq ≤ k) ∧ Aside0 (Kd.R (Kd.int .i64) 3 w' w.heap.size (fun _ => True) v754 t753) ∧ Aside0 (w'.heap[gb751]? = some (.cells #[.int .i64 a0_0, .int .i64 a0_1] 23 (0, 0))) ∧ Aside0 (Below w.heap.size w w'))
  case atStart => exact ⟨((-1)), (0), (by first | rfl | (simp; done) | (simp [*]; done)), (by first | rfl | (simp; done) | (simp [*]; done)), H', ⟨Nat.le_refl _⟩, ⟨by (with_reducible repeat (first | apply Kd.R_alloc | apply Kd.R_drewN | apply Kd.R_drew)); exact HO755.out⟩, ⟨by (with_reducible repeat (first | refine blk_drewN ?_ _ | refine blk_drew ?_ | refine blk_alloc ?_ _)); exact BK751.out⟩, ⟨bv1_ HB GE751⟩⟩
  case round =>
   clear H'
   try clear c1
   try clear p2
   try clear c3
   try clear hcz6_0
   try clear hcz6_1
   try clear hcz8_0
   try clear hcz8_1
   try clear hfz6_0
   try clear hfz6_1
   try clear hfz8_0
   try clear hfz8_1
   obtain ⟨x4_1, x5_1, rfl, rfl, HA, HK1, HO_3, BK751, HB⟩ := hrel
   cases gk with
   | zero => exact absurd HA.out (by simp [spec_RealDegree.l0])
   | succ k1 =>
    have H := HA.out
    clear HA
    simp only [spec_RealDegree.l0] at H
    by_cases c10 : x5_1 < (t753.length : Int)
    ·rw [if_pos c10] at H
     have c10b0 : decide (x5_1 < (t753.length : Int)) = true := decide_eq_true c10
     clear c10
     by_cases c11 : 0 ≤ x5_1
     ·rw [if_pos c11] at H
      have c11b0 : decide (0 ≤ x5_1) = true := decide_eq_true c11
      clear c11
      by_cases c12 : (rd t753 x5_1) = 0
      ·rw [if_pos c12] at H
       have c12b0 : ((rd t753 x5_1) == 0) = true := beq_iff_eq.mpr c12
       have c12b1 : ((rd t753 x5_1) != 0) = false := bne_eq_false_iff_eq.mpr c12
       clear c12
       have H' := Aside0.mk H
       clear H
       obtain ⟨Ao13, co13, eo13⟩ := Kd.R_slice HO_3.out
       subst eo13
       have p756 : 0 ≤ (x5_1 : Int) := of_decide_eq_true (by first | (with_reducible assumption) | assumption)
       have q756 : x5_1 < (t753.length : Int) := of_decide_eq_true (by first | (with_reducible assumption) | assumption)
       obtain ⟨ad756, e756, hx756_0⟩ := Kd.at_int (Kd.R_reads' HO_3.out).2.2 x5_1 p756 q756
       cases e756
       replace p756 := eq_true p756
       replace q756 := eq_true q756
       go_wp2
       go_roundg k1
       case measure => have := HK1.out; omega
       case rel => exact ⟨(x4_1), (wrap64 (x5_1 + 1)), (by first | rfl | (simp; done) | (simp [*]; done)), (by first | rfl | (simp; done) | (simp [*]; done)), H', ⟨by have := HK1.out; omega⟩, ⟨by (with_reducible repeat (first | apply Kd.R_alloc | apply Kd.R_drewN | apply Kd.R_drew)); exact HO_3.out⟩, ⟨by (with_reducible repeat (first | refine blk_drewN ?_ _ | refine blk_drew ?_ | refine blk_alloc ?_ _)); exact BK751.out⟩, ⟨bv1_ HB GE751⟩⟩
      ·rw [if_neg c12] at H
       have c12b0 : ((rd t753 x5_1) == 0) = false := beq_eq_false_iff_ne.mpr c12
       have c12b1 : ((rd t753 x5_1) != 0) = true := bne_iff_ne.mpr c12
       replace H := Option.bind_eq_some_iff.mp H
       obtain ⟨t757, A140, H⟩ := H
       have A14 := Aside0.mk A140
       clear A140
       obtain ⟨ji15, hji15⟩ : ∃ j_ : Int, (mx x4_1 t757) = j_ := ⟨_, rfl⟩
       replace H : (spec_RealDegree.l0 k1 t753 ji15 (wrap64 (x5_1 + 1))) = some r := by first | (rw [hji15] at H; exact H) | (simp only [hji15] at H ⊢; exact H)
       (try rw [hji15] at A14)
       have hji15_ : (if x4_1 < t757 then t757 else x4_1) = ji15 := hji15
       have H' := Aside0.mk H
       clear H
       obtain ⟨Ao16, co16, eo16⟩ := Kd.R_slice HO_3.out
       subst eo16
       have p756 : 0 ≤ (x5_1 : Int) := of_decide_eq_true (by first | (with_reducible assumption) | assumption)
       have q756 : x5_1 < (t753.length : Int) := of_decide_eq_true (by first | (with_reducible assumption) | assumption)
       obtain ⟨ad756, e756, hx756_0⟩ := Kd.at_int (Kd.R_reads' HO_3.out).2.2 x5_1 p756 q756
       cases e756
       replace p756 := eq_true p756
       replace q756 := eq_true q756
       go_wp2_with (first | ((with_reducible refine gate_callee (f := 40) rfl ?_); refine gl_ 24 Tryd.func40 #[.int .i64 x5_1] rfl mp_ ?_; (with_reducible refine (spec_l2Count.calls k1 x5_1 t757 _ A14.out).mono ?_); rintro e w' ⟨rfl, ⟨nd, rfl⟩⟩; refine ⟨_, rfl, ?_⟩))
       go_roundg k1
       case measure => have := HK1.out; omega
       case rel => exact ⟨(ji15), (wrap64 (x5_1 + 1)), (by first | rfl | (simp; done) | (simp only [← hji15] <;> (first | rfl | simp)) | (simp [*]; done)), (by first | rfl | (simp; done) | (simp [*]; done)), H', ⟨by have := HK1.out; omega⟩, ⟨by (with_reducible repeat (first | apply Kd.R_alloc | apply Kd.R_drewN | apply Kd.R_drew)); exact HO_3.out⟩, ⟨by (with_reducible repeat (first | refine blk_drewN ?_ _ | refine blk_drew ?_ | refine blk_alloc ?_ _)); exact BK751.out⟩, ⟨bv1_ HB GE751⟩⟩
     ·rw [if_neg c11] at H
      exact absurd H (by simp)
    ·rw [if_neg c10] at H
     have c10b0 : decide (x5_1 < (t753.length : Int)) = false := decide_eq_false c10
     clear c10
     obtain rfl := Option.some.inj H
     obtain ⟨Ao17, co17, eo17⟩ := Kd.R_slice HO_3.out
     subst eo17
     go_wp2
     go_ret
     exact ⟨er_, bv1_ HB GE751⟩
 ·replace c3 := Bool.eq_false_iff.mpr c3
  subst c3
  rw [if_neg (show ¬ (false = true) by decide)] at H
  obtain rfl := Option.some.inj H
  go_enter Tryd.func18, Tryd.ntmps18
  go_wp2_with (first | ((with_reducible refine gate_dst (N := 1) rfl ?_); refine bx_ 1 #[.int .i64 a0_0, .int .i64 a0_1] 23 ?_; intro gb751 hg w18 hbox hb; have BK751 := Aside0.mk (hbox); have GW751 := gw_ hg (below_size (bv_ HB)); have GE751 := GW751; replace HB := Aside0.mk (below_step (bv_ HB) hb); clear hb hbox hg; obtain ⟨hcz19_0, hcz19_1, hfz19_0, hfz19_1⟩ := c2_ BK751) | ((with_reducible refine gate_callee (f := 38) rfl ?_); refine gl_ 7 Tryd.func38 #[.agg #[.int .i64 a0_0, .int .i64 a0_1]] rfl mp_ ?_; (with_reducible refine (spec_IsTable.calls a0_0 a0_1 false _ A2.out).mono ?_); rintro e w20 ⟨rfl, hb⟩; refine ⟨_, rfl, ?_⟩; replace BK751 := kb_ BK751 hb; replace HB := Aside0.mk (below_step (bv1_ HB GE751) hb); (try clear hb); (try clear hb2); (try clear hk); (try clear hi)))
  go_ret
  exact ⟨er_, bv1_ HB GE751⟩


/-! ### impl_bitsOf: function 45 -/
def impl_bitsOf.l0 : Nat → Int → Int → Option (Int × Bool)
 | 0, _, _ => none
 | k + 1, x0, x5 => if x5 < 6 then (if 0 ≤ x5 then (if x0 = (shl .i64 1 x5) then (some (x5, true)) else (impl_bitsOf.l0 k x0 (wrap64 (x5 + 1)))) else (none)) else (some (0, false))
def impl_bitsOf.f (k : Nat) (a0 : Int) : Option (Int × Bool) := impl_bitsOf.l0 k a0 0
theorem impl_bitsOf.mono_l : ∀ k, (∀ y0 y1, LeO (impl_bitsOf.l0 k y0 y1) (impl_bitsOf.l0 (k + 1) y0 y1))
 | 0 => fun _ _ r h => by simp [impl_bitsOf.l0] at h
 | k + 1 => by
  have ih0 := impl_bitsOf.mono_l k
  ·intro y0 y1
   unfold impl_bitsOf.l0
   repeat' first
   | (with_reducible exact ih0 _ _)
   | (with_reducible exact LeO.refl _)
   | (with_reducible exact LeO.none _)
   | (with_reducible refine LeO.ite ?_ ?_)
   | (with_reducible refine LeO.bind ?_ (fun _ => ?_))
   | exact ih0 _ _
   | exact LeO.none _
   | refine LeO.ite ?_ ?_
   | refine LeO.bind ?_ (fun _ => ?_)
theorem impl_bitsOf.mono : ∀ a0 k, LeO (impl_bitsOf.f k a0) (impl_bitsOf.f (k + 1) a0) := by
 intro a0 k
 have ih0 := impl_bitsOf.mono_l k
 unfold impl_bitsOf.f
 repeat' first
   | (with_reducible exact ih0 _ _)
   | (with_reducible exact LeO.refl _)
   | (with_reducible exact LeO.none _)
   | (with_reducible refine LeO.ite ?_ ?_)
   | (with_reducible refine LeO.bind ?_ (fun _ => ?_))
   | exact ih0 _ _
   | exact LeO.none _
   | refine LeO.ite ?_ ?_
   | refine LeO.bind ?_ (fun _ => ?_)
set_option maxHeartbeats 8000000 in
set_option maxRecDepth 100000 in
theorem impl_bitsOf.calls (k : Nat) (a0 : Int) (r1 : Int) (r2 : Bool) (w : World) (h : impl_bitsOf.f k a0 = some (r1, r2)) :
  Calls Tryd.prog 45 #[.int .i64 a0] w fun e w' => e = .returned (.tuple #[.int .i64 r1, .bool r2]) ∧ Drawn0 w w' := by
 have H : (impl_bitsOf.l0 k a0 0) = some (r1, r2) := h
 clear h
 have H' := Aside0.mk H
 clear H
 go_enter Tryd.func45, Tryd.ntmps45
 go_wp2
 go_loopg [5] k (fun kq v5 w' => ∃ (x5_1 : Int), v5 = .int .i64 x5_1 ∧ Aside0 (impl_bitsOf.l0 kq a0 x5_1 = some (r1, r2)) ∧ Aside0 (kq ≤ k) ∧ Drawn0 w w')
 case atStart => exact ⟨(0), (by first | rfl | (simp; done) | (simp [*]; done)), H', ⟨Nat.le_refl _⟩, by repeat (first | exact Drawn0.refl _ | apply Drawn0.step)⟩
 case round =>
  clear H'
  obtain ⟨x5_1, rfl, HA, HK1, ⟨m1, rfl⟩⟩ := hrel
  cases gk with
  | zero => exact absurd HA.out (by simp [impl_bitsOf.l0])
  | succ k1 =>
   have H := HA.out
   clear HA
   simp only [impl_bitsOf.l0] at H
   by_cases c2 : x5_1 < 6
   ·rw [if_pos c2] at H
    have c2b0 : decide (x5_1 < 6) = true := decide_eq_true c2
    clear c2
    by_cases c3 : 0 ≤ x5_1
    ·rw [if_pos c3] at H
     have c3b0 := eq_true c3
     have c3b1 : decide (0 ≤ x5_1) = true := decide_eq_true c3
     clear c3
     obtain ⟨ji4, hji4⟩ : ∃ j_ : Int, (shl .i64 1 x5_1) = j_ := ⟨_, rfl⟩
     replace H : (if a0 = (ji4) then (some (x5_1, true)) else (impl_bitsOf.l0 k1 a0 (wrap64 (x5_1 + 1)))) = some (r1, r2) := by first | (rw [hji4] at H; exact H) | (simp only [hji4] at H ⊢; exact H)
     have hji4_ : (IntKind.i64.wrap (1 * 2 ^ min x5_1.toNat 64)) = ji4 := hji4
     have hji4z : x5_1 ≤ 64 → (IntKind.i64.wrap (1 * 2 ^ x5_1.toNat)) = ji4 := shl_small hji4
     have hji4u : (IntKind.i64.wrap (2 ^ min x5_1.toNat 64)) = ji4 := by have h_ := hji4_; rw [Int.one_mul] at h_; exact h_
     have hji4v : x5_1 ≤ 64 → (IntKind.i64.wrap (2 ^ x5_1.toNat)) = ji4 := fun hle_ => by have h_ := hji4z hle_; rw [Int.one_mul] at h_; exact h_
     have hji4y : (wrap64 (1 * 2 ^ min x5_1.toNat 64)) = ji4 := (i64_w _).symm.trans hji4_
     have hji4x : x5_1 ≤ 64 → (wrap64 (1 * 2 ^ x5_1.toNat)) = ji4 := fun h_ => (i64_w _).symm.trans (hji4z h_)
     by_cases c5 : a0 = (ji4)
     ·rw [if_pos c5] at H
      have c5b0 : (a0 == (ji4)) = true := beq_iff_eq.mpr c5
      have c5b1 : (a0 != (ji4)) = false := bne_eq_false_iff_eq.mpr c5
      clear c5
      simp only [Option.some.injEq, Prod.mk.injEq] at H
      obtain ⟨rfl, rfl⟩ := H
      go_wp2
      go_ret2
      exact ⟨by first | rfl | (simp; done) | (simp only [← hji4] <;> (first | rfl | simp)) | (simp [*]; done), by repeat (first | exact Drawn0.refl _ | apply Drawn0.step)⟩
     ·rw [if_neg c5] at H
      have c5b0 : (a0 == (ji4)) = false := beq_eq_false_iff_ne.mpr c5
      have c5b1 : (a0 != (ji4)) = true := bne_iff_ne.mpr c5
      have H' := Aside0.mk H
      clear H
      go_wp2
      go_roundg k1
      case measure => have := HK1.out; omega
      case rel => exact ⟨(wrap64 (x5_1 + 1)), (by first | rfl | (simp; done) | (simp [*]; done)), H', ⟨by have := HK1.out; omega⟩, by repeat (first | exact Drawn0.refl _ | apply Drawn0.step)⟩
    ·rw [if_neg c3] at H
     exact absurd H (by simp)
   ·rw [if_neg c2] at H
    have c2b0 : decide (x5_1 < 6) = false := decide_eq_false c2
    clear c2
    simp only [Option.some.injEq, Prod.mk.injEq] at H
    obtain ⟨rfl, rfl⟩ := H
    go_wp2
    go_ret2
    exact ⟨by first | rfl | (simp; done) | (simp [*]; done), by repeat (first | exact Drawn0.refl _ | apply Drawn0.step)⟩


end Go.Proofs.YteljkpglgjjnlaaDoor.P
