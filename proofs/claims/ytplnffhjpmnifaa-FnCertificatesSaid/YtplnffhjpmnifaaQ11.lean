-- Out of the translation, by this session's program over the printer's; Lean checks it.
import Derived.Test.YtplnffhjpmnifaaSh
import Derived.Test.YtplnffhjpmnifaaQ0
import Derived.Test.YtplnffhjpmnifaaQ3
import Derived.Test.YtplnffhjpmnifaaQ4
import Derived.Test.YtplnffhjpmnifaaQ5
import Derived.Test.YtplnffhjpmnifaaQ10
namespace Go.Proofs.Ytplnffhjpmnifaa.P
open Go.RowKit Go.Proofs.YtplnffhjpmnifaaW.PrintWords Go.Proofs.YtplnffhjpmnifaaW.PrintLast Go.Proofs.YtplnffhjpmnifaaW.PrintMore
attribute [local go_sem] max2_int min2_int max_two min_two max_three min_three max_four min_four
set_option linter.unusedVariables false
set_option linter.unusedSimpArgs false

/-! ### spec_BlockSensitivityOf: function 51 -/
def spec_BlockSensitivityOf.l0 : Nat → Int → Int → Int → Int → Option (Int)
 | 0, _, _, _, _ => none
 | k + 1, x3, x4, x800000, x800001 => if 0 ≤ x800000 then (if x4 < (shl .i64 1 x800000) then ((spec_BlockSensitivityAt.f k x800000 x800001 x4).bind fun t801 => (spec_BlockSensitivityOf.l0 k (mx x3 t801) (wrap64 (x4 + 1)) x800000 x800001)) else (some x3)) else (none)
def spec_BlockSensitivityOf.f (k : Nat) (a0_0 : Int) (a0_1 : Int) : Option (Int) := (spec_IsTable.f a0_0 a0_1).bind fun t800 => (if t800 = true then (spec_BlockSensitivityOf.l0 k 0 0 a0_0 a0_1) else (some (-1)))
theorem spec_BlockSensitivityOf.mono_l : ∀ k, (∀ y0 y1 y2 y3, LeO (spec_BlockSensitivityOf.l0 k y0 y1 y2 y3) (spec_BlockSensitivityOf.l0 (k + 1) y0 y1 y2 y3))
 | 0 => fun _ _ _ _ r h => by simp [spec_BlockSensitivityOf.l0] at h
 | k + 1 => by
  have ih0 := spec_BlockSensitivityOf.mono_l k
  ·intro y0 y1 y2 y3
   unfold spec_BlockSensitivityOf.l0
   repeat' first
   | (with_reducible exact ih0 _ _ _ _)
   | (with_reducible exact spec_BlockSensitivityAt.mono _ _ _ _)
   | (with_reducible exact LeO.refl _)
   | (with_reducible exact LeO.none _)
   | (with_reducible refine LeO.ite ?_ ?_)
   | (with_reducible refine LeO.bind ?_ (fun _ => ?_))
   | exact ih0 _ _ _ _
   | exact spec_BlockSensitivityAt.mono _ _ _ _
   | exact LeO.none _
   | refine LeO.ite ?_ ?_
   | refine LeO.bind ?_ (fun _ => ?_)
theorem spec_BlockSensitivityOf.mono : ∀ a0 a1 k, LeO (spec_BlockSensitivityOf.f k a0 a1) (spec_BlockSensitivityOf.f (k + 1) a0 a1) := by
 intro a0 a1 k
 have ih0 := spec_BlockSensitivityOf.mono_l k
 unfold spec_BlockSensitivityOf.f
 repeat' first
   | (with_reducible exact ih0 _ _ _ _)
   | (with_reducible exact spec_BlockSensitivityAt.mono _ _ _ _)
   | (with_reducible exact LeO.refl _)
   | (with_reducible exact LeO.none _)
   | (with_reducible refine LeO.ite ?_ ?_)
   | (with_reducible refine LeO.bind ?_ (fun _ => ?_))
   | exact ih0 _ _ _ _
   | exact spec_BlockSensitivityAt.mono _ _ _ _
   | exact LeO.none _
   | refine LeO.ite ?_ ?_
   | refine LeO.bind ?_ (fun _ => ?_)
set_option maxHeartbeats 8000000 in
set_option maxRecDepth 100000 in
theorem spec_BlockSensitivityOf.calls (k : Nat) (a0_0 : Int) (a0_1 : Int) (r : Int) (w : World) (h : spec_BlockSensitivityOf.f k a0_0 a0_1 = some r) :
  Calls Try.prog 51 #[.agg #[.int .i64 a0_0, .int .i64 a0_1]] w fun e w' => e = .returned (.int .i64 r) ∧ Below w.heap.size w w' := by
 have hu25 := Try.underlying25
 have HB := Aside0.mk (Below.refl w.heap.size w)
 have H : ((spec_IsTable.f a0_0 a0_1).bind fun t800 => (if t800 = true then (spec_BlockSensitivityOf.l0 k 0 0 a0_0 a0_1) else (some (-1)))) = some r := h
 clear h
 replace H := Option.bind_eq_some_iff.mp H
 obtain ⟨t800, A20, H⟩ := H
 have A2 := Aside0.mk A20
 clear A20
 by_cases c3 : t800 = true
 ·subst c3
  rw [if_pos rfl] at H
  have H' := Aside0.mk H
  clear H
  go_enter Try.func51, Try.ntmps51
  go_wp2_with (first | ((with_reducible refine gate_dst (N := 1) rfl ?_); refine bx_ 1 #[.int .i64 a0_0, .int .i64 a0_1] 25 ?_; intro gb799 hg w4 hbox hb; have BK799 := Aside0.mk (hbox); have GW799 := gw_ hg (below_size (bv_ HB)); have GE799 := GW799; replace HB := Aside0.mk (below_step (bv_ HB) hb); clear hb hbox hg; obtain ⟨hcz5_0, hcz5_1, hfz5_0, hfz5_1⟩ := c2_ BK799) | ((with_reducible refine gate_callee (f := 67) rfl ?_); refine gl_ 6 Try.func67 #[.agg #[.int .i64 a0_0, .int .i64 a0_1]] rfl mp_ ?_; (with_reducible refine (spec_IsTable.calls a0_0 a0_1 true _ A2.out).mono ?_); rintro e w6 ⟨rfl, hb⟩; refine ⟨_, rfl, ?_⟩; replace BK799 := kb_ BK799 hb; replace HB := Aside0.mk (below_step (bv1_ HB GE799) hb); (try clear hb); (try clear hb2); (try clear hk); (try clear hi)))
  go_loopg [3, 4] k (fun kq v3 v4 w' => ∃ (x3_1 : Int) (x4_1 : Int), v3 = .int .i64 x3_1 ∧ v4 = .int .i64 x4_1 ∧ Aside0 (spec_BlockSensitivityOf.l0 kq x3_1 x4_1 a0_0 a0_1 = some r) ∧ Aside0 (kq ≤ k) ∧ Aside0 (w'.heap[gb799]? = some (.cells #[.int .i64 a0_0, .int .i64 a0_1] 25 (0, 0))) ∧ Aside0 (Below w.heap.size w w'))
  case atStart => exact ⟨(0), (0), (by first | rfl | (simp; done) | (simp [*]; done)), (by first | rfl | (simp; done) | (simp [*]; done)), H', ⟨Nat.le_refl _⟩, ⟨by (with_reducible repeat (first | refine blk_drewN ?_ _ | refine blk_drew ?_ | refine blk_alloc ?_ _)); exact BK799.out⟩, ⟨bv1_ HB GE799⟩⟩
  case round =>
   clear H'
   try clear p2
   try clear c3
   try clear c5
   try clear c6
   try clear hcz5_0
   try clear hcz5_1
   try clear hfz5_0
   try clear hfz5_1
   obtain ⟨x3_1, x4_1, rfl, rfl, HA, HK1, BK799, HB⟩ := hrel
   cases gk with
   | zero => exact absurd HA.out (by simp [spec_BlockSensitivityOf.l0])
   | succ k1 =>
    have H := HA.out
    clear HA
    simp only [spec_BlockSensitivityOf.l0] at H
    by_cases c7 : 0 ≤ a0_0
    ·rw [if_pos c7] at H
     have c7b0 := eq_true c7
     have c7b1 : decide (0 ≤ a0_0) = true := decide_eq_true c7
     clear c7
     obtain ⟨ji8, hji8⟩ : ∃ j_ : Int, (shl .i64 1 a0_0) = j_ := ⟨_, rfl⟩
     replace H : (if x4_1 < (ji8) then ((spec_BlockSensitivityAt.f k1 a0_0 a0_1 x4_1).bind fun t801 => (spec_BlockSensitivityOf.l0 k1 (mx x3_1 t801) (wrap64 (x4_1 + 1)) a0_0 a0_1)) else (some x3_1)) = some r := by first | (rw [hji8] at H; exact H) | (simp only [hji8] at H ⊢; exact H)
     have hji8_ : (IntKind.i64.wrap (1 * 2 ^ min a0_0.toNat 64)) = ji8 := hji8
     have hji8z : a0_0 ≤ 64 → (IntKind.i64.wrap (1 * 2 ^ a0_0.toNat)) = ji8 := shl_small hji8
     have hji8u : (IntKind.i64.wrap (2 ^ min a0_0.toNat 64)) = ji8 := by have h_ := hji8_; rw [Int.one_mul] at h_; exact h_
     have hji8v : a0_0 ≤ 64 → (IntKind.i64.wrap (2 ^ a0_0.toNat)) = ji8 := fun hle_ => by have h_ := hji8z hle_; rw [Int.one_mul] at h_; exact h_
     have hji8y : (wrap64 (1 * 2 ^ min a0_0.toNat 64)) = ji8 := (i64_w _).symm.trans hji8_
     have hji8x : a0_0 ≤ 64 → (wrap64 (1 * 2 ^ a0_0.toNat)) = ji8 := fun h_ => (i64_w _).symm.trans (hji8z h_)
     by_cases c9 : x4_1 < (ji8)
     ·rw [if_pos c9] at H
      have c9b0 : decide (x4_1 < (ji8)) = true := decide_eq_true c9
      clear c9
      replace H := Option.bind_eq_some_iff.mp H
      obtain ⟨t801, A100, H⟩ := H
      have A10 := Aside0.mk A100
      clear A100
      obtain ⟨ji11, hji11⟩ : ∃ j_ : Int, (mx x3_1 t801) = j_ := ⟨_, rfl⟩
      replace H : (spec_BlockSensitivityOf.l0 k1 ji11 (wrap64 (x4_1 + 1)) a0_0 a0_1) = some r := by first | (rw [hji11] at H; exact H) | (simp only [hji11] at H ⊢; exact H)
      (try rw [hji11] at A10)
      have hji11_ : (if x3_1 < t801 then t801 else x3_1) = ji11 := hji11
      have H' := Aside0.mk H
      clear H
      obtain ⟨hcz12_0, hcz12_1, hfz12_0, hfz12_1⟩ := c2_ BK799
      go_wp2_with (first | ((with_reducible refine gate_callee (f := 56) rfl ?_); refine gl_ 18 Try.func56 #[.agg #[.int .i64 a0_0, .int .i64 a0_1], .int .i64 x4_1] rfl mp_ ?_; (with_reducible refine (spec_BlockSensitivityAt.calls k1 a0_0 a0_1 x4_1 t801 _ A10.out).mono ?_); rintro e w13 ⟨rfl, hb⟩; refine ⟨_, rfl, ?_⟩; have n0_ := kb_ BK799 hb; have n1_ := Aside0.mk (below_step (bv1_ HB GE799) hb); clear BK799; clear HB; have BK799 := n0_; have HB := n1_; clear n0_ n1_; (try clear hb); (try clear hb2); (try clear hk); (try clear hi)))
      go_roundg k1
      case measure => have := HK1.out; omega
      case rel => exact ⟨(ji11), (wrap64 (x4_1 + 1)), (by first | rfl | (simp; done) | (simp only [← hji11] <;> (first | rfl | simp)) | (simp [*]; done)), (by first | rfl | (simp; done) | (simp [*]; done)), H', ⟨by have := HK1.out; omega⟩, ⟨by (with_reducible repeat (first | refine blk_drewN ?_ _ | refine blk_drew ?_ | refine blk_alloc ?_ _)); exact BK799.out⟩, ⟨bv1_ HB GE799⟩⟩
     ·rw [if_neg c9] at H
      have c9b0 : decide (x4_1 < (ji8)) = false := decide_eq_false c9
      clear c9
      obtain rfl := Option.some.inj H
      obtain ⟨hcz14_0, hcz14_1, hfz14_0, hfz14_1⟩ := c2_ BK799
      go_wp2
      go_ret
      exact ⟨by first | rfl | (simp [errW_none, errW_some] <;> rfl) | (simp only [← hji8]; first | rfl | (simp [errW_none, errW_some] <;> rfl)) | (simp [*, errW_none, errW_some] <;> rfl), bv1_ HB GE799⟩
    ·rw [if_neg c7] at H
     exact absurd H (by simp)
 ·replace c3 := Bool.eq_false_iff.mpr c3
  subst c3
  rw [if_neg (show ¬ (false = true) by decide)] at H
  obtain rfl := Option.some.inj H
  go_enter Try.func51, Try.ntmps51
  go_wp2_with (first | ((with_reducible refine gate_dst (N := 1) rfl ?_); refine bx_ 1 #[.int .i64 a0_0, .int .i64 a0_1] 25 ?_; intro gb799 hg w15 hbox hb; have BK799 := Aside0.mk (hbox); have GW799 := gw_ hg (below_size (bv_ HB)); have GE799 := GW799; replace HB := Aside0.mk (below_step (bv_ HB) hb); clear hb hbox hg; obtain ⟨hcz16_0, hcz16_1, hfz16_0, hfz16_1⟩ := c2_ BK799) | ((with_reducible refine gate_callee (f := 67) rfl ?_); refine gl_ 6 Try.func67 #[.agg #[.int .i64 a0_0, .int .i64 a0_1]] rfl mp_ ?_; (with_reducible refine (spec_IsTable.calls a0_0 a0_1 false _ A2.out).mono ?_); rintro e w17 ⟨rfl, hb⟩; refine ⟨_, rfl, ?_⟩; replace BK799 := kb_ BK799 hb; replace HB := Aside0.mk (below_step (bv1_ HB GE799) hb); (try clear hb); (try clear hb2); (try clear hk); (try clear hi)))
  go_ret
  exact ⟨by first | rfl | (simp [errW_none, errW_some] <;> rfl) | (simp [*, errW_none, errW_some] <;> rfl), bv1_ HB GE799⟩


/-! ### impl_SensitivityOf: function 52 -/
def impl_SensitivityOf.l0 : Nat → Int → Int → Int → Int → Int → Option (Int)
 | 0, _, _, _, _, _ => none
 | k + 1, x3, x9, x10, x803000, x803001 => if x10 < x9 then ((impl_Table_sensitivity.f k x803000 x803001 x10).bind fun t805 => (impl_SensitivityOf.l0 k (mx x3 t805) x9 (wrap64 (x10 + 1)) x803000 x803001)) else (some x3)
def impl_SensitivityOf.f (k : Nat) (a0_0 : Int) (a0_1 : Int) : Option (Int) := (impl_IsTable.f a0_0 a0_1).bind fun t803 => (if t803 = true then ((impl_Table_size.f a0_0 a0_1).bind fun t804 => (impl_SensitivityOf.l0 k 0 t804 0 a0_0 a0_1)) else (some (-1)))
theorem impl_SensitivityOf.mono_l : ∀ k, (∀ y0 y1 y2 y3 y4, LeO (impl_SensitivityOf.l0 k y0 y1 y2 y3 y4) (impl_SensitivityOf.l0 (k + 1) y0 y1 y2 y3 y4))
 | 0 => fun _ _ _ _ _ r h => by simp [impl_SensitivityOf.l0] at h
 | k + 1 => by
  have ih0 := impl_SensitivityOf.mono_l k
  ·intro y0 y1 y2 y3 y4
   unfold impl_SensitivityOf.l0
   repeat' first
   | (with_reducible exact ih0 _ _ _ _ _)
   | (with_reducible exact impl_Table_sensitivity.mono _ _ _ _)
   | (with_reducible exact LeO.refl _)
   | (with_reducible exact LeO.none _)
   | (with_reducible refine LeO.ite ?_ ?_)
   | (with_reducible refine LeO.bind ?_ (fun _ => ?_))
   | exact ih0 _ _ _ _ _
   | exact impl_Table_sensitivity.mono _ _ _ _
   | exact LeO.none _
   | refine LeO.ite ?_ ?_
   | refine LeO.bind ?_ (fun _ => ?_)
theorem impl_SensitivityOf.mono : ∀ a0 a1 k, LeO (impl_SensitivityOf.f k a0 a1) (impl_SensitivityOf.f (k + 1) a0 a1) := by
 intro a0 a1 k
 have ih0 := impl_SensitivityOf.mono_l k
 unfold impl_SensitivityOf.f
 repeat' first
   | (with_reducible exact ih0 _ _ _ _ _)
   | (with_reducible exact impl_Table_sensitivity.mono _ _ _ _)
   | (with_reducible exact LeO.refl _)
   | (with_reducible exact LeO.none _)
   | (with_reducible refine LeO.ite ?_ ?_)
   | (with_reducible refine LeO.bind ?_ (fun _ => ?_))
   | exact ih0 _ _ _ _ _
   | exact impl_Table_sensitivity.mono _ _ _ _
   | exact LeO.none _
   | refine LeO.ite ?_ ?_
   | refine LeO.bind ?_ (fun _ => ?_)
set_option maxHeartbeats 8000000 in
set_option maxRecDepth 100000 in
theorem impl_SensitivityOf.calls (k : Nat) (a0_0 : Int) (a0_1 : Int) (r : Int) (w : World) (h : impl_SensitivityOf.f k a0_0 a0_1 = some r) :
  Calls Try.prog 52 #[.agg #[.int .i64 a0_0, .int .i64 a0_1]] w fun e w' => e = .returned (.int .i64 r) ∧ Below w.heap.size w w' := by
 have hu25 := Try.underlying25
 have HB := Aside0.mk (Below.refl w.heap.size w)
 have H : ((impl_IsTable.f a0_0 a0_1).bind fun t803 => (if t803 = true then ((impl_Table_size.f a0_0 a0_1).bind fun t804 => (impl_SensitivityOf.l0 k 0 t804 0 a0_0 a0_1)) else (some (-1)))) = some r := h
 clear h
 replace H := Option.bind_eq_some_iff.mp H
 obtain ⟨t803, A20, H⟩ := H
 have A2 := Aside0.mk A20
 clear A20
 by_cases c3 : t803 = true
 ·subst c3
  rw [if_pos rfl] at H
  replace H := Option.bind_eq_some_iff.mp H
  obtain ⟨t804, A40, H⟩ := H
  have A4 := Aside0.mk A40
  clear A40
  have H' := Aside0.mk H
  clear H
  go_enter Try.func52, Try.ntmps52
  go_wp2_with (first | ((with_reducible refine gate_dst (N := 1) rfl ?_); refine bx_ 1 #[.int .i64 a0_0, .int .i64 a0_1] 25 ?_; intro gb802 hg w5 hbox hb; have BK802 := Aside0.mk (hbox); have GW802 := gw_ hg (below_size (bv_ HB)); have GE802 := GW802; replace HB := Aside0.mk (below_step (bv_ HB) hb); clear hb hbox hg; obtain ⟨hcz6_0, hcz6_1, hfz6_0, hfz6_1⟩ := c2_ BK802) | ((with_reducible refine gate_callee (f := 61) rfl ?_); refine gl_ 6 Try.func61 #[.agg #[.int .i64 a0_0, .int .i64 a0_1]] rfl mp_ ?_; (with_reducible refine (impl_IsTable.calls a0_0 a0_1 true _ A2.out).mono ?_); rintro e w7 ⟨rfl, hb⟩; refine ⟨_, rfl, ?_⟩; replace BK802 := kb_ BK802 hb; replace HB := Aside0.mk (below_step (bv1_ HB GE802) hb); (try clear hb); (try clear hb2); (try clear hk); (try clear hi); obtain ⟨hcz8_0, hcz8_1, hfz8_0, hfz8_1⟩ := c2_ BK802) | ((with_reducible refine gate_callee (f := 65) rfl ?_); refine gl_ 9 Try.func65 #[.agg #[.int .i64 a0_0, .int .i64 a0_1]] rfl mp_ ?_; (with_reducible refine (impl_Table_size.calls a0_0 a0_1 t804 _ A4.out).mono ?_); rintro e w9 ⟨rfl, hb⟩; refine ⟨_, rfl, ?_⟩; replace BK802 := kb_ BK802 hb; replace HB := Aside0.mk (below_step (bv1_ HB GE802) hb); (try clear hb); (try clear hb2); (try clear hk); (try clear hi)))
  go_loopg [3, 10] k (fun kq v3 v10 w' => ∃ (x3_1 : Int) (x10_1 : Int), v3 = .int .i64 x3_1 ∧ v10 = .int .i64 x10_1 ∧ Aside0 (impl_SensitivityOf.l0 kq x3_1 t804 x10_1 a0_0 a0_1 = some r) ∧ Aside0 (kq ≤ k) ∧ Aside0 (w'.heap[gb802]? = some (.cells #[.int .i64 a0_0, .int .i64 a0_1] 25 (0, 0))) ∧ Aside0 (Below w.heap.size w w'))
  case atStart => exact ⟨(0), (0), (by first | rfl | (simp; done) | (simp [*]; done)), (by first | rfl | (simp; done) | (simp [*]; done)), H', ⟨Nat.le_refl _⟩, ⟨by (with_reducible repeat (first | refine blk_drewN ?_ _ | refine blk_drew ?_ | refine blk_alloc ?_ _)); exact BK802.out⟩, ⟨bv1_ HB GE802⟩⟩
  case round =>
   clear H'
   try clear p2
   try clear c3
   try clear c5
   try clear c6
   try clear hcz6_0
   try clear hcz6_1
   try clear hcz8_0
   try clear hcz8_1
   try clear hfz6_0
   try clear hfz6_1
   try clear hfz8_0
   try clear hfz8_1
   obtain ⟨x3_1, x10_1, rfl, rfl, HA, HK1, BK802, HB⟩ := hrel
   cases gk with
   | zero => exact absurd HA.out (by simp [impl_SensitivityOf.l0])
   | succ k1 =>
    have H := HA.out
    clear HA
    simp only [impl_SensitivityOf.l0] at H
    by_cases c10 : x10_1 < t804
    ·rw [if_pos c10] at H
     have c10b0 : decide (x10_1 < t804) = true := decide_eq_true c10
     clear c10
     replace H := Option.bind_eq_some_iff.mp H
     obtain ⟨t805, A110, H⟩ := H
     have A11 := Aside0.mk A110
     clear A110
     obtain ⟨ji12, hji12⟩ : ∃ j_ : Int, (mx x3_1 t805) = j_ := ⟨_, rfl⟩
     replace H : (impl_SensitivityOf.l0 k1 ji12 t804 (wrap64 (x10_1 + 1)) a0_0 a0_1) = some r := by first | (rw [hji12] at H; exact H) | (simp only [hji12] at H ⊢; exact H)
     (try rw [hji12] at A11)
     have hji12_ : (if x3_1 < t805 then t805 else x3_1) = ji12 := hji12
     have H' := Aside0.mk H
     clear H
     obtain ⟨hcz13_0, hcz13_1, hfz13_0, hfz13_1⟩ := c2_ BK802
     go_wp2_with (first | ((with_reducible refine gate_callee (f := 82) rfl ?_); refine gl_ 16 Try.func82 #[.agg #[.int .i64 a0_0, .int .i64 a0_1], .int .i64 x10_1] rfl mp_ ?_; (with_reducible refine (impl_Table_sensitivity.calls k1 a0_0 a0_1 x10_1 t805 _ A11.out).mono ?_); rintro e w14 ⟨rfl, hb⟩; refine ⟨_, rfl, ?_⟩; have n0_ := kb_ BK802 hb; have n1_ := Aside0.mk (below_step (bv1_ HB GE802) hb); clear BK802; clear HB; have BK802 := n0_; have HB := n1_; clear n0_ n1_; (try clear hb); (try clear hb2); (try clear hk); (try clear hi)))
     go_roundg k1
     case measure => have := HK1.out; omega
     case rel => exact ⟨(ji12), (wrap64 (x10_1 + 1)), (by first | rfl | (simp; done) | (simp only [← hji12] <;> (first | rfl | simp)) | (simp [*]; done)), (by first | rfl | (simp; done) | (simp [*]; done)), H', ⟨by have := HK1.out; omega⟩, ⟨by (with_reducible repeat (first | refine blk_drewN ?_ _ | refine blk_drew ?_ | refine blk_alloc ?_ _)); exact BK802.out⟩, ⟨bv1_ HB GE802⟩⟩
    ·rw [if_neg c10] at H
     have c10b0 : decide (x10_1 < t804) = false := decide_eq_false c10
     clear c10
     obtain rfl := Option.some.inj H
     go_wp2
     go_ret
     exact ⟨by first | rfl | (simp [errW_none, errW_some] <;> rfl) | (simp [*, errW_none, errW_some] <;> rfl), bv1_ HB GE802⟩
 ·replace c3 := Bool.eq_false_iff.mpr c3
  subst c3
  rw [if_neg (show ¬ (false = true) by decide)] at H
  obtain rfl := Option.some.inj H
  go_enter Try.func52, Try.ntmps52
  go_wp2_with (first | ((with_reducible refine gate_dst (N := 1) rfl ?_); refine bx_ 1 #[.int .i64 a0_0, .int .i64 a0_1] 25 ?_; intro gb802 hg w15 hbox hb; have BK802 := Aside0.mk (hbox); have GW802 := gw_ hg (below_size (bv_ HB)); have GE802 := GW802; replace HB := Aside0.mk (below_step (bv_ HB) hb); clear hb hbox hg; obtain ⟨hcz16_0, hcz16_1, hfz16_0, hfz16_1⟩ := c2_ BK802) | ((with_reducible refine gate_callee (f := 61) rfl ?_); refine gl_ 6 Try.func61 #[.agg #[.int .i64 a0_0, .int .i64 a0_1]] rfl mp_ ?_; (with_reducible refine (impl_IsTable.calls a0_0 a0_1 false _ A2.out).mono ?_); rintro e w17 ⟨rfl, hb⟩; refine ⟨_, rfl, ?_⟩; replace BK802 := kb_ BK802 hb; replace HB := Aside0.mk (below_step (bv1_ HB GE802) hb); (try clear hb); (try clear hb2); (try clear hk); (try clear hi)))
  go_ret
  exact ⟨by first | rfl | (simp [errW_none, errW_some] <;> rfl) | (simp [*, errW_none, errW_some] <;> rfl), bv1_ HB GE802⟩


/-! ### spec_SensitivityOf: function 53 -/
def spec_SensitivityOf.l0 : Nat → Int → Int → Int → Int → Option (Int)
 | 0, _, _, _, _ => none
 | k + 1, x3, x4, x807000, x807001 => if 0 ≤ x807000 then (if x4 < (shl .i64 1 x807000) then ((spec_l10At.f k x807000 x807001 x4).bind fun t808 => (spec_SensitivityOf.l0 k (mx x3 t808) (wrap64 (x4 + 1)) x807000 x807001)) else (some x3)) else (none)
def spec_SensitivityOf.f (k : Nat) (a0_0 : Int) (a0_1 : Int) : Option (Int) := (spec_IsTable.f a0_0 a0_1).bind fun t807 => (if t807 = true then (spec_SensitivityOf.l0 k 0 0 a0_0 a0_1) else (some (-1)))
theorem spec_SensitivityOf.mono_l : ∀ k, (∀ y0 y1 y2 y3, LeO (spec_SensitivityOf.l0 k y0 y1 y2 y3) (spec_SensitivityOf.l0 (k + 1) y0 y1 y2 y3))
 | 0 => fun _ _ _ _ r h => by simp [spec_SensitivityOf.l0] at h
 | k + 1 => by
  have ih0 := spec_SensitivityOf.mono_l k
  ·intro y0 y1 y2 y3
   unfold spec_SensitivityOf.l0
   repeat' first
   | (with_reducible exact ih0 _ _ _ _)
   | (with_reducible exact spec_l10At.mono _ _ _ _)
   | (with_reducible exact LeO.refl _)
   | (with_reducible exact LeO.none _)
   | (with_reducible refine LeO.ite ?_ ?_)
   | (with_reducible refine LeO.bind ?_ (fun _ => ?_))
   | exact ih0 _ _ _ _
   | exact spec_l10At.mono _ _ _ _
   | exact LeO.none _
   | refine LeO.ite ?_ ?_
   | refine LeO.bind ?_ (fun _ => ?_)
theorem spec_SensitivityOf.mono : ∀ a0 a1 k, LeO (spec_SensitivityOf.f k a0 a1) (spec_SensitivityOf.f (k + 1) a0 a1) := by
 intro a0 a1 k
 have ih0 := spec_SensitivityOf.mono_l k
 unfold spec_SensitivityOf.f
 repeat' first
   | (with_reducible exact ih0 _ _ _ _)
   | (with_reducible exact spec_l10At.mono _ _ _ _)
   | (with_reducible exact LeO.refl _)
   | (with_reducible exact LeO.none _)
   | (with_reducible refine LeO.ite ?_ ?_)
   | (with_reducible refine LeO.bind ?_ (fun _ => ?_))
   | exact ih0 _ _ _ _
   | exact spec_l10At.mono _ _ _ _
   | exact LeO.none _
   | refine LeO.ite ?_ ?_
   | refine LeO.bind ?_ (fun _ => ?_)
set_option maxHeartbeats 8000000 in
set_option maxRecDepth 100000 in
theorem spec_SensitivityOf.calls (k : Nat) (a0_0 : Int) (a0_1 : Int) (r : Int) (w : World) (h : spec_SensitivityOf.f k a0_0 a0_1 = some r) :
  Calls Try.prog 53 #[.agg #[.int .i64 a0_0, .int .i64 a0_1]] w fun e w' => e = .returned (.int .i64 r) ∧ Below w.heap.size w w' := by
 have hu25 := Try.underlying25
 have HB := Aside0.mk (Below.refl w.heap.size w)
 have H : ((spec_IsTable.f a0_0 a0_1).bind fun t807 => (if t807 = true then (spec_SensitivityOf.l0 k 0 0 a0_0 a0_1) else (some (-1)))) = some r := h
 clear h
 replace H := Option.bind_eq_some_iff.mp H
 obtain ⟨t807, A20, H⟩ := H
 have A2 := Aside0.mk A20
 clear A20
 by_cases c3 : t807 = true
 ·subst c3
  rw [if_pos rfl] at H
  have H' := Aside0.mk H
  clear H
  go_enter Try.func53, Try.ntmps53
  go_wp2_with (first | ((with_reducible refine gate_dst (N := 1) rfl ?_); refine bx_ 1 #[.int .i64 a0_0, .int .i64 a0_1] 25 ?_; intro gb806 hg w4 hbox hb; have BK806 := Aside0.mk (hbox); have GW806 := gw_ hg (below_size (bv_ HB)); have GE806 := GW806; replace HB := Aside0.mk (below_step (bv_ HB) hb); clear hb hbox hg; obtain ⟨hcz5_0, hcz5_1, hfz5_0, hfz5_1⟩ := c2_ BK806) | ((with_reducible refine gate_callee (f := 67) rfl ?_); refine gl_ 6 Try.func67 #[.agg #[.int .i64 a0_0, .int .i64 a0_1]] rfl mp_ ?_; (with_reducible refine (spec_IsTable.calls a0_0 a0_1 true _ A2.out).mono ?_); rintro e w6 ⟨rfl, hb⟩; refine ⟨_, rfl, ?_⟩; replace BK806 := kb_ BK806 hb; replace HB := Aside0.mk (below_step (bv1_ HB GE806) hb); (try clear hb); (try clear hb2); (try clear hk); (try clear hi)))
  go_loopg [3, 4] k (fun kq v3 v4 w' => ∃ (x3_1 : Int) (x4_1 : Int), v3 = .int .i64 x3_1 ∧ v4 = .int .i64 x4_1 ∧ Aside0 (spec_SensitivityOf.l0 kq x3_1 x4_1 a0_0 a0_1 = some r) ∧ Aside0 (kq ≤ k) ∧ Aside0 (w'.heap[gb806]? = some (.cells #[.int .i64 a0_0, .int .i64 a0_1] 25 (0, 0))) ∧ Aside0 (Below w.heap.size w w'))
  case atStart => exact ⟨(0), (0), (by first | rfl | (simp; done) | (simp [*]; done)), (by first | rfl | (simp; done) | (simp [*]; done)), H', ⟨Nat.le_refl _⟩, ⟨by (with_reducible repeat (first | refine blk_drewN ?_ _ | refine blk_drew ?_ | refine blk_alloc ?_ _)); exact BK806.out⟩, ⟨bv1_ HB GE806⟩⟩
  case round =>
   clear H'
   try clear p2
   try clear c3
   try clear c5
   try clear c6
   try clear hcz5_0
   try clear hcz5_1
   try clear hfz5_0
   try clear hfz5_1
   obtain ⟨x3_1, x4_1, rfl, rfl, HA, HK1, BK806, HB⟩ := hrel
   cases gk with
   | zero => exact absurd HA.out (by simp [spec_SensitivityOf.l0])
   | succ k1 =>
    have H := HA.out
    clear HA
    simp only [spec_SensitivityOf.l0] at H
    by_cases c7 : 0 ≤ a0_0
    ·rw [if_pos c7] at H
     have c7b0 := eq_true c7
     have c7b1 : decide (0 ≤ a0_0) = true := decide_eq_true c7
     clear c7
     obtain ⟨ji8, hji8⟩ : ∃ j_ : Int, (shl .i64 1 a0_0) = j_ := ⟨_, rfl⟩
     replace H : (if x4_1 < (ji8) then ((spec_l10At.f k1 a0_0 a0_1 x4_1).bind fun t808 => (spec_SensitivityOf.l0 k1 (mx x3_1 t808) (wrap64 (x4_1 + 1)) a0_0 a0_1)) else (some x3_1)) = some r := by first | (rw [hji8] at H; exact H) | (simp only [hji8] at H ⊢; exact H)
     have hji8_ : (IntKind.i64.wrap (1 * 2 ^ min a0_0.toNat 64)) = ji8 := hji8
     have hji8z : a0_0 ≤ 64 → (IntKind.i64.wrap (1 * 2 ^ a0_0.toNat)) = ji8 := shl_small hji8
     have hji8u : (IntKind.i64.wrap (2 ^ min a0_0.toNat 64)) = ji8 := by have h_ := hji8_; rw [Int.one_mul] at h_; exact h_
     have hji8v : a0_0 ≤ 64 → (IntKind.i64.wrap (2 ^ a0_0.toNat)) = ji8 := fun hle_ => by have h_ := hji8z hle_; rw [Int.one_mul] at h_; exact h_
     have hji8y : (wrap64 (1 * 2 ^ min a0_0.toNat 64)) = ji8 := (i64_w _).symm.trans hji8_
     have hji8x : a0_0 ≤ 64 → (wrap64 (1 * 2 ^ a0_0.toNat)) = ji8 := fun h_ => (i64_w _).symm.trans (hji8z h_)
     by_cases c9 : x4_1 < (ji8)
     ·rw [if_pos c9] at H
      have c9b0 : decide (x4_1 < (ji8)) = true := decide_eq_true c9
      clear c9
      replace H := Option.bind_eq_some_iff.mp H
      obtain ⟨t808, A100, H⟩ := H
      have A10 := Aside0.mk A100
      clear A100
      obtain ⟨ji11, hji11⟩ : ∃ j_ : Int, (mx x3_1 t808) = j_ := ⟨_, rfl⟩
      replace H : (spec_SensitivityOf.l0 k1 ji11 (wrap64 (x4_1 + 1)) a0_0 a0_1) = some r := by first | (rw [hji11] at H; exact H) | (simp only [hji11] at H ⊢; exact H)
      (try rw [hji11] at A10)
      have hji11_ : (if x3_1 < t808 then t808 else x3_1) = ji11 := hji11
      have H' := Aside0.mk H
      clear H
      obtain ⟨hcz12_0, hcz12_1, hfz12_0, hfz12_1⟩ := c2_ BK806
      go_wp2_with (first | ((with_reducible refine gate_callee (f := 90) rfl ?_); refine gl_ 18 Try.func90 #[.agg #[.int .i64 a0_0, .int .i64 a0_1], .int .i64 x4_1] rfl mp_ ?_; (with_reducible refine (spec_l10At.calls k1 a0_0 a0_1 x4_1 t808 _ A10.out).mono ?_); rintro e w13 ⟨rfl, hb⟩; refine ⟨_, rfl, ?_⟩; have n0_ := kb_ BK806 hb; have n1_ := Aside0.mk (below_step (bv1_ HB GE806) hb); clear BK806; clear HB; have BK806 := n0_; have HB := n1_; clear n0_ n1_; (try clear hb); (try clear hb2); (try clear hk); (try clear hi)))
      go_roundg k1
      case measure => have := HK1.out; omega
      case rel => exact ⟨(ji11), (wrap64 (x4_1 + 1)), (by first | rfl | (simp; done) | (simp only [← hji11] <;> (first | rfl | simp)) | (simp [*]; done)), (by first | rfl | (simp; done) | (simp [*]; done)), H', ⟨by have := HK1.out; omega⟩, ⟨by (with_reducible repeat (first | refine blk_drewN ?_ _ | refine blk_drew ?_ | refine blk_alloc ?_ _)); exact BK806.out⟩, ⟨bv1_ HB GE806⟩⟩
     ·rw [if_neg c9] at H
      have c9b0 : decide (x4_1 < (ji8)) = false := decide_eq_false c9
      clear c9
      obtain rfl := Option.some.inj H
      obtain ⟨hcz14_0, hcz14_1, hfz14_0, hfz14_1⟩ := c2_ BK806
      go_wp2
      go_ret
      exact ⟨by first | rfl | (simp [errW_none, errW_some] <;> rfl) | (simp only [← hji8]; first | rfl | (simp [errW_none, errW_some] <;> rfl)) | (simp [*, errW_none, errW_some] <;> rfl), bv1_ HB GE806⟩
    ·rw [if_neg c7] at H
     exact absurd H (by simp)
 ·replace c3 := Bool.eq_false_iff.mpr c3
  subst c3
  rw [if_neg (show ¬ (false = true) by decide)] at H
  obtain rfl := Option.some.inj H
  go_enter Try.func53, Try.ntmps53
  go_wp2_with (first | ((with_reducible refine gate_dst (N := 1) rfl ?_); refine bx_ 1 #[.int .i64 a0_0, .int .i64 a0_1] 25 ?_; intro gb806 hg w15 hbox hb; have BK806 := Aside0.mk (hbox); have GW806 := gw_ hg (below_size (bv_ HB)); have GE806 := GW806; replace HB := Aside0.mk (below_step (bv_ HB) hb); clear hb hbox hg; obtain ⟨hcz16_0, hcz16_1, hfz16_0, hfz16_1⟩ := c2_ BK806) | ((with_reducible refine gate_callee (f := 67) rfl ?_); refine gl_ 6 Try.func67 #[.agg #[.int .i64 a0_0, .int .i64 a0_1]] rfl mp_ ?_; (with_reducible refine (spec_IsTable.calls a0_0 a0_1 false _ A2.out).mono ?_); rintro e w17 ⟨rfl, hb⟩; refine ⟨_, rfl, ?_⟩; replace BK806 := kb_ BK806 hb; replace HB := Aside0.mk (below_step (bv1_ HB GE806) hb); (try clear hb); (try clear hb2); (try clear hk); (try clear hi)))
  go_ret
  exact ⟨by first | rfl | (simp [errW_none, errW_some] <;> rfl) | (simp [*, errW_none, errW_some] <;> rfl), bv1_ HB GE806⟩


/-! ### spec_MeetingOf: function 55 -/
mutual
def spec_MeetingOf.l0 : Nat → Int → Int → Int → Option (Bool)
 | 0, _, _, _ => none
 | k + 1, x3, x810000, x810001 => (spec_IsTable.f x810000 x810001).bind fun t810 => (if t810 = true then (if 0 ≤ x810000 then (spec_MeetingOf.j1 k x3 (decide (x3 < (shl .i64 1 x810000))) x810000 x810001) else (none)) else (spec_MeetingOf.j1 k x3 false x810000 x810001))
def spec_MeetingOf.j1 : Nat → Int → Bool → Int → Int → Option (Bool)
 | 0, _, _, _, _ => none
 | k + 1, x3, x13, x810000, x810001 => if x13 = true then (spec_MeetingOf.l1 k x3 0 x810000 x810001) else ((spec_IsTable.f x810000 x810001).bind fun t811 => (some t811))
def spec_MeetingOf.l1 : Nat → Int → Int → Int → Int → Option (Bool)
 | 0, _, _, _, _ => none
 | k + 1, x3, x4, x810000, x810001 => if 0 ≤ x810000 then (if x4 < (shl .i64 1 x810000) then (if 0 ≤ x3 then (if 0 ≤ x4 then (if (Go.bits .and .i64 (shr .i64 x810001 x3) 1) = (Go.bits .and .i64 (shr .i64 x810001 x4) 1) then (spec_MeetingOf.l1 k x3 (wrap64 (x4 + 1)) x810000 x810001) else ((spec_l9Set.f k x810000 x810001 x3).bind fun t812 => ((spec_l9Set.f k x810000 x810001 x4).bind fun t813 => (if (Go.bits .and .i64 (Go.bits .and .i64 t812 t813) (Go.bits .xor .i64 x3 x4)) = 0 then (some false) else (spec_MeetingOf.l1 k x3 (wrap64 (x4 + 1)) x810000 x810001))))) else (none)) else (none)) else (spec_MeetingOf.l0 k (wrap64 (x3 + 1)) x810000 x810001)) else (none)
end
def spec_MeetingOf.f (k : Nat) (a0_0 : Int) (a0_1 : Int) : Option (Bool) := spec_MeetingOf.l0 k 0 a0_0 a0_1
theorem spec_MeetingOf.mono_l : ∀ k, (∀ y0 y1 y2, LeO (spec_MeetingOf.l0 k y0 y1 y2) (spec_MeetingOf.l0 (k + 1) y0 y1 y2)) ∧ (∀ y0 y1 y2 y3, LeO (spec_MeetingOf.j1 k y0 y1 y2 y3) (spec_MeetingOf.j1 (k + 1) y0 y1 y2 y3)) ∧ (∀ y0 y1 y2 y3, LeO (spec_MeetingOf.l1 k y0 y1 y2 y3) (spec_MeetingOf.l1 (k + 1) y0 y1 y2 y3))
 | 0 => ⟨fun _ _ _ r h => by simp [spec_MeetingOf.l0] at h, fun _ _ _ _ r h => by simp [spec_MeetingOf.j1] at h, fun _ _ _ _ r h => by simp [spec_MeetingOf.l1] at h⟩
 | k + 1 => by
  obtain ⟨ih0, ih1, ih2⟩ := spec_MeetingOf.mono_l k
  refine ⟨?_, ?_, ?_⟩
  ·intro y0 y1 y2
   unfold spec_MeetingOf.l0
   repeat' first
   | (with_reducible exact ih0 _ _ _)
   | (with_reducible exact ih1 _ _ _ _)
   | (with_reducible exact ih2 _ _ _ _)
   | (with_reducible exact spec_l9Set.mono _ _ _ _)
   | (with_reducible exact LeO.refl _)
   | (with_reducible exact LeO.none _)
   | (with_reducible refine LeO.ite ?_ ?_)
   | (with_reducible refine LeO.bind ?_ (fun _ => ?_))
   | exact ih0 _ _ _
   | exact ih1 _ _ _ _
   | exact ih2 _ _ _ _
   | exact spec_l9Set.mono _ _ _ _
   | exact LeO.none _
   | refine LeO.ite ?_ ?_
   | refine LeO.bind ?_ (fun _ => ?_)
  ·intro y0 y1 y2 y3
   unfold spec_MeetingOf.j1
   repeat' first
   | (with_reducible exact ih0 _ _ _)
   | (with_reducible exact ih1 _ _ _ _)
   | (with_reducible exact ih2 _ _ _ _)
   | (with_reducible exact spec_l9Set.mono _ _ _ _)
   | (with_reducible exact LeO.refl _)
   | (with_reducible exact LeO.none _)
   | (with_reducible refine LeO.ite ?_ ?_)
   | (with_reducible refine LeO.bind ?_ (fun _ => ?_))
   | exact ih0 _ _ _
   | exact ih1 _ _ _ _
   | exact ih2 _ _ _ _
   | exact spec_l9Set.mono _ _ _ _
   | exact LeO.none _
   | refine LeO.ite ?_ ?_
   | refine LeO.bind ?_ (fun _ => ?_)
  ·intro y0 y1 y2 y3
   unfold spec_MeetingOf.l1
   repeat' first
   | (with_reducible exact ih0 _ _ _)
   | (with_reducible exact ih1 _ _ _ _)
   | (with_reducible exact ih2 _ _ _ _)
   | (with_reducible exact spec_l9Set.mono _ _ _ _)
   | (with_reducible exact LeO.refl _)
   | (with_reducible exact LeO.none _)
   | (with_reducible refine LeO.ite ?_ ?_)
   | (with_reducible refine LeO.bind ?_ (fun _ => ?_))
   | exact ih0 _ _ _
   | exact ih1 _ _ _ _
   | exact ih2 _ _ _ _
   | exact spec_l9Set.mono _ _ _ _
   | exact LeO.none _
   | refine LeO.ite ?_ ?_
   | refine LeO.bind ?_ (fun _ => ?_)
theorem spec_MeetingOf.mono : ∀ a0 a1 k, LeO (spec_MeetingOf.f k a0 a1) (spec_MeetingOf.f (k + 1) a0 a1) := by
 intro a0 a1 k
 obtain ⟨ih0, ih1, ih2⟩ := spec_MeetingOf.mono_l k
 unfold spec_MeetingOf.f
 repeat' first
   | (with_reducible exact ih0 _ _ _)
   | (with_reducible exact ih1 _ _ _ _)
   | (with_reducible exact ih2 _ _ _ _)
   | (with_reducible exact spec_l9Set.mono _ _ _ _)
   | (with_reducible exact LeO.refl _)
   | (with_reducible exact LeO.none _)
   | (with_reducible refine LeO.ite ?_ ?_)
   | (with_reducible refine LeO.bind ?_ (fun _ => ?_))
   | exact ih0 _ _ _
   | exact ih1 _ _ _ _
   | exact ih2 _ _ _ _
   | exact spec_l9Set.mono _ _ _ _
   | exact LeO.none _
   | refine LeO.ite ?_ ?_
   | refine LeO.bind ?_ (fun _ => ?_)
def spec_MeetingOf.T7 : Bool × List (List Nat × List Nat) := (true, [([], []), ([0], [0]), ([], []), ([1, 2], [1, 2]), ([3], [3]), ([], []), ([5], [5]), ([], []), ([6, 7], [6, 7]), ([8], [8]), ([4, 9], [4, 9]), ([10], [10]), ([11], [11]), ([11], [11]), ([12, 13, 11, 11], [11, 12, 13]), ([11], [11]), ([11], [11]), ([15, 16, 14, 11], [11, 15, 16]), ([14, 17, 11], [11, 14, 17]), ([11], [11]), ([11], [11]), ([19, 20, 11], [11, 19, 20]), ([18, 21, 11], [11, 18, 21]), ([22, 11], [11, 22]), ([11, 23], [11, 23])])
def spec_MeetingOf.B7 : List Nat := [0, 1, 0, 7, 15, 0, 32, 0, 224, 480, 1023, 2047, 4095, 4095, 16383, 4095, 4095, 131071, 262143, 4095, 4095, 1576959, 4194303, 8388607, 16777215]
theorem spec_MeetingOf.tab7 : rtab .any (opsOf Try.f55 7) = spec_MeetingOf.T7 := by kernel_rfl
theorem spec_MeetingOf.bits7 : waitsOk spec_MeetingOf.T7.2 spec_MeetingOf.B7 = true := by kernel_rfl
set_option maxHeartbeats 8000000 in
set_option maxRecDepth 100000 in
theorem spec_MeetingOf.calls (k : Nat) (a0_0 : Int) (a0_1 : Int) (r : Bool) (w : World) (h : spec_MeetingOf.f k a0_0 a0_1 = some r) :
  Calls Try.prog 55 #[.agg #[.int .i64 a0_0, .int .i64 a0_1]] w fun e w' => e = .returned (.bool r) ∧ Below w.heap.size w w' := by
 have hu25 := Try.underlying25
 have HB := Aside0.mk (Below.refl w.heap.size w)
 have H : (spec_MeetingOf.l0 k 0 a0_0 a0_1) = some r := h
 clear h
 have H' := Aside0.mk H
 clear H
 go_enter Try.func55, Try.ntmps55
 go_wp2_with (first | ((with_reducible refine gate_dst (N := 1) rfl ?_); refine bx_ 1 #[.int .i64 a0_0, .int .i64 a0_1] 25 ?_; intro gb809 hg w2 hbox hb; have BK809 := Aside0.mk (hbox); have GW809 := gw_ hg (below_size (bv_ HB)); have GE809 := GW809; replace HB := Aside0.mk (below_step (bv_ HB) hb); clear hb hbox hg))
 go_loopg [3] k (fun kq v3 w' => ∃ (x3_1 : Int), v3 = .int .i64 x3_1 ∧ Aside0 (spec_MeetingOf.l0 kq x3_1 a0_0 a0_1 = some r) ∧ Aside0 (kq ≤ k) ∧ Aside0 (w'.heap[gb809]? = some (.cells #[.int .i64 a0_0, .int .i64 a0_1] 25 (0, 0))) ∧ Aside0 (Below w.heap.size w w'))
 case atStart => exact ⟨(0), (by first | rfl | (simp; done) | (simp [*]; done)), H', ⟨Nat.le_refl _⟩, ⟨by (with_reducible repeat (first | refine blk_drewN ?_ _ | refine blk_drew ?_ | refine blk_alloc ?_ _)); exact BK809.out⟩, ⟨bv1_ HB GE809⟩⟩
 case round =>
  clear H'
  try clear p2
  obtain ⟨x3_1, rfl, HA, HK1, BK809, HB⟩ := hrel
  cases gk with
  | zero => exact absurd HA.out (by simp [spec_MeetingOf.l0])
  | succ k1 =>
   have H := HA.out
   clear HA
   simp only [spec_MeetingOf.l0] at H
   have HC3 := Aside0.mk H
   clear H
   go_upto_region 2 with (fail)
   go_cut [13] (fun v13 wc => ∃ (kq : Nat) (x13_2 : Bool), v13 = .bool x13_2 ∧ Aside0 (spec_MeetingOf.j1 kq x3_1 x13_2 a0_0 a0_1 = some r) ∧ Aside0 (kq ≤ k1) ∧ Aside0 (wc.heap[gb809]? = some (.cells #[.int .i64 a0_0, .int .i64 a0_1] 25 (0, 0))) ∧ Aside0 (Below w.heap.size w wc))
   case first =>
    have H := HC3.out
    clear HC3
    replace H := Option.bind_eq_some_iff.mp H
    obtain ⟨t810, A40, H⟩ := H
    have A4 := Aside0.mk A40
    clear A40
    by_cases c5 : t810 = true
    ·subst c5
     rw [if_pos rfl] at H
     by_cases c6 : 0 ≤ a0_0
     ·rw [if_pos c6] at H
      have c6b0 := eq_true c6
      have c6b1 : decide (0 ≤ a0_0) = true := decide_eq_true c6
      clear c6
      obtain ⟨ji7, hji7⟩ : ∃ j_ : Int, (shl .i64 1 a0_0) = j_ := ⟨_, rfl⟩
      replace H : (spec_MeetingOf.j1 k1 x3_1 (decide (x3_1 < (ji7))) a0_0 a0_1) = some r := by first | (rw [hji7] at H; exact H) | (simp only [hji7] at H ⊢; exact H)
      (try rw [hji7] at A4)
      have hji7_ : (IntKind.i64.wrap (1 * 2 ^ min a0_0.toNat 64)) = ji7 := hji7
      have hji7z : a0_0 ≤ 64 → (IntKind.i64.wrap (1 * 2 ^ a0_0.toNat)) = ji7 := shl_small hji7
      have hji7u : (IntKind.i64.wrap (2 ^ min a0_0.toNat 64)) = ji7 := by have h_ := hji7_; rw [Int.one_mul] at h_; exact h_
      have hji7v : a0_0 ≤ 64 → (IntKind.i64.wrap (2 ^ a0_0.toNat)) = ji7 := fun hle_ => by have h_ := hji7z hle_; rw [Int.one_mul] at h_; exact h_
      have hji7y : (wrap64 (1 * 2 ^ min a0_0.toNat 64)) = ji7 := (i64_w _).symm.trans hji7_
      have hji7x : a0_0 ≤ 64 → (wrap64 (1 * 2 ^ a0_0.toNat)) = ji7 := fun h_ => (i64_w _).symm.trans (hji7z h_)
      have H' := Aside0.mk H
      clear H
      obtain ⟨hcz8_0, hcz8_1, hfz8_0, hfz8_1⟩ := c2_ BK809
      go_wp2_with (first | ((with_reducible refine gate_callee (f := 67) rfl ?_); refine gl_ 6 Try.func67 #[.agg #[.int .i64 a0_0, .int .i64 a0_1]] rfl mp_ ?_; (with_reducible refine (spec_IsTable.calls a0_0 a0_1 true _ A4.out).mono ?_); rintro e w9 ⟨rfl, hb⟩; refine ⟨_, rfl, ?_⟩; have n0_ := kb_ BK809 hb; have n1_ := Aside0.mk (below_step (bv1_ HB GE809) hb); clear BK809; clear HB; have BK809 := n0_; have HB := n1_; clear n0_ n1_; (try clear hb); (try clear hb2); (try clear hk); (try clear hi); have hcz10_0 : w9.cell? ⟨gb809, 0, none⟩ = some (.int .i64 a0_0) := (blk_cell BK809.out 0).trans rfl; have hcz10_1 : w9.cell? ⟨gb809, 1, none⟩ = some (.int .i64 a0_1) := (blk_cell BK809.out 1).trans rfl; have hfz10_0 := blk_frozen BK809.out 0; have hfz10_1 := blk_frozen BK809.out 1))
      go_meet
      case rel => exact ⟨_, (decide (x3_1 < (ji7))), (by first | rfl | (simp; done) | (simp only [← hji7] <;> (first | rfl | simp)) | (simp [*]; done)), H', ⟨by have := HK1.out; first | omega | exact Nat.le_refl _⟩, ⟨by (with_reducible repeat (first | refine blk_drewN ?_ _ | refine blk_drew ?_ | refine blk_alloc ?_ _)); exact BK809.out⟩, ⟨bv1_ HB GE809⟩⟩
     ·rw [if_neg c6] at H
      exact absurd H (by simp)
    ·replace c5 := Bool.eq_false_iff.mpr c5
     subst c5
     rw [if_neg (show ¬ (false = true) by decide)] at H
     have H' := Aside0.mk H
     clear H
     obtain ⟨hcz11_0, hcz11_1, hfz11_0, hfz11_1⟩ := c2_ BK809
     go_wp2_with (first | ((with_reducible refine gate_callee (f := 67) rfl ?_); refine gl_ 6 Try.func67 #[.agg #[.int .i64 a0_0, .int .i64 a0_1]] rfl mp_ ?_; (with_reducible refine (spec_IsTable.calls a0_0 a0_1 false _ A4.out).mono ?_); rintro e w12 ⟨rfl, hb⟩; refine ⟨_, rfl, ?_⟩; have n0_ := kb_ BK809 hb; have n1_ := Aside0.mk (below_step (bv1_ HB GE809) hb); clear BK809; clear HB; have BK809 := n0_; have HB := n1_; clear n0_ n1_; (try clear hb); (try clear hb2); (try clear hk); (try clear hi)))
     go_meet
     case rel => exact ⟨_, (false), (by first | rfl | (simp; done) | (simp [*]; done)), H', ⟨by have := HK1.out; first | omega | exact Nat.le_refl _⟩, ⟨by (with_reducible repeat (first | refine blk_drewN ?_ _ | refine blk_drew ?_ | refine blk_alloc ?_ _)); exact BK809.out⟩, ⟨bv1_ HB GE809⟩⟩
   case rest =>
    clear HC3
    try clear p2
    try clear c5
    try clear c6
    try clear c6b0
    try clear c6b1
    try clear p6
    try clear hcz10_0
    try clear hcz10_1
    try clear hcz11_0
    try clear hcz11_1
    try clear hcz8_0
    try clear hcz8_1
    try clear hfz10_0
    try clear hfz10_1
    try clear hfz11_0
    try clear hfz11_1
    try clear hfz8_0
    try clear hfz8_1
    try clear p2
    obtain ⟨kq, x13_2, rfl, HA, HJ2, BK809, HB⟩ := hcut
    cases kq with
    | zero => exact absurd HA.out (by simp [spec_MeetingOf.j1])
    | succ kj2 =>
     have H := HA.out
     clear HA
     simp only [spec_MeetingOf.j1] at H
     by_cases c13 : x13_2 = true
     ·subst c13
      rw [if_pos rfl] at H
      have H' := Aside0.mk H
      clear H
      go_wp2
      go_loopg [4] kj2 (fun kq v4 w' => ∃ (x4_3 : Int), v4 = .int .i64 x4_3 ∧ Aside0 (spec_MeetingOf.l1 kq x3_1 x4_3 a0_0 a0_1 = some r) ∧ Aside0 (kq ≤ kj2) ∧ Aside0 (w'.heap[gb809]? = some (.cells #[.int .i64 a0_0, .int .i64 a0_1] 25 (0, 0))) ∧ Aside0 (Below w.heap.size w w'))
      case atStart => exact ⟨(0), (by first | rfl | (simp; done) | (simp [*]; done)), H', ⟨Nat.le_refl _⟩, ⟨by (with_reducible repeat (first | refine blk_drewN ?_ _ | refine blk_drew ?_ | refine blk_alloc ?_ _)); exact BK809.out⟩, ⟨bv1_ HB GE809⟩⟩
      case round =>
       clear H'
       try clear c1
       try clear p2
       try clear c5
       try clear c6
       try clear c6b0
       try clear c6b1
       try clear p6
       try clear c13
       try clear hcz10_0
       try clear hcz10_1
       try clear hcz11_0
       try clear hcz11_1
       try clear hcz8_0
       try clear hcz8_1
       try clear hfz10_0
       try clear hfz10_1
       try clear hfz11_0
       try clear hfz11_1
       try clear hfz8_0
       try clear hfz8_1
       try clear p2
       try clear p6
       obtain ⟨x4_3, rfl, HA, HK3, BK809, HB⟩ := hrel
       cases gk with
       | zero => exact absurd HA.out (by simp [spec_MeetingOf.l1])
       | succ k3 =>
        have H := HA.out
        clear HA
        simp only [spec_MeetingOf.l1] at H
        by_cases c14 : 0 ≤ a0_0
        ·rw [if_pos c14] at H
         have c14b0 := eq_true c14
         have c14b1 : decide (0 ≤ a0_0) = true := decide_eq_true c14
         clear c14
         obtain ⟨ji15, hji15⟩ : ∃ j_ : Int, (shl .i64 1 a0_0) = j_ := ⟨_, rfl⟩
         replace H : (if x4_3 < (ji15) then (if 0 ≤ x3_1 then (if 0 ≤ x4_3 then (if (Go.bits .and .i64 (shr .i64 a0_1 x3_1) 1) = (Go.bits .and .i64 (shr .i64 a0_1 x4_3) 1) then (spec_MeetingOf.l1 k3 x3_1 (wrap64 (x4_3 + 1)) a0_0 a0_1) else ((spec_l9Set.f k3 a0_0 a0_1 x3_1).bind fun t812 => ((spec_l9Set.f k3 a0_0 a0_1 x4_3).bind fun t813 => (if (Go.bits .and .i64 (Go.bits .and .i64 t812 t813) (Go.bits .xor .i64 x3_1 x4_3)) = 0 then (some false) else (spec_MeetingOf.l1 k3 x3_1 (wrap64 (x4_3 + 1)) a0_0 a0_1))))) else (none)) else (none)) else (spec_MeetingOf.l0 k3 (wrap64 (x3_1 + 1)) a0_0 a0_1)) = some r := by first | (rw [hji15] at H; exact H) | (simp only [hji15] at H ⊢; exact H)
         have hji15_ : (IntKind.i64.wrap (1 * 2 ^ min a0_0.toNat 64)) = ji15 := hji15
         have hji15z : a0_0 ≤ 64 → (IntKind.i64.wrap (1 * 2 ^ a0_0.toNat)) = ji15 := shl_small hji15
         have hji15u : (IntKind.i64.wrap (2 ^ min a0_0.toNat 64)) = ji15 := by have h_ := hji15_; rw [Int.one_mul] at h_; exact h_
         have hji15v : a0_0 ≤ 64 → (IntKind.i64.wrap (2 ^ a0_0.toNat)) = ji15 := fun hle_ => by have h_ := hji15z hle_; rw [Int.one_mul] at h_; exact h_
         have hji15y : (wrap64 (1 * 2 ^ min a0_0.toNat 64)) = ji15 := (i64_w _).symm.trans hji15_
         have hji15x : a0_0 ≤ 64 → (wrap64 (1 * 2 ^ a0_0.toNat)) = ji15 := fun h_ => (i64_w _).symm.trans (hji15z h_)
         by_cases c16 : x4_3 < (ji15)
         ·rw [if_pos c16] at H
          have c16b0 : decide (x4_3 < (ji15)) = true := decide_eq_true c16
          clear c16
          by_cases c17 : 0 ≤ x3_1
          ·rw [if_pos c17] at H
           have c17b0 := eq_true c17
           have c17b1 : decide (0 ≤ x3_1) = true := decide_eq_true c17
           clear c17
           obtain ⟨ji18, hji18⟩ : ∃ j_ : Int, (shr .i64 a0_1 x3_1) = j_ := ⟨_, rfl⟩
           replace H : (if 0 ≤ x4_3 then (if (Go.bits .and .i64 (ji18) 1) = (Go.bits .and .i64 (shr .i64 a0_1 x4_3) 1) then (spec_MeetingOf.l1 k3 x3_1 (wrap64 (x4_3 + 1)) a0_0 a0_1) else ((spec_l9Set.f k3 a0_0 a0_1 x3_1).bind fun t812 => ((spec_l9Set.f k3 a0_0 a0_1 x4_3).bind fun t813 => (if (Go.bits .and .i64 (Go.bits .and .i64 t812 t813) (Go.bits .xor .i64 x3_1 x4_3)) = 0 then (some false) else (spec_MeetingOf.l1 k3 x3_1 (wrap64 (x4_3 + 1)) a0_0 a0_1))))) else (none)) = some r := by first | (rw [hji18] at H; exact H) | (simp only [hji18] at H ⊢; exact H)
           have hji18_ : (a0_1 / 2 ^ min x3_1.toNat 64) = ji18 := hji18
           have hji18z : x3_1 ≤ 64 → (a0_1 / 2 ^ x3_1.toNat) = ji18 := shr_small hji18
           by_cases c19 : 0 ≤ x4_3
           ·rw [if_pos c19] at H
            have c19b0 := eq_true c19
            have c19b1 : decide (0 ≤ x4_3) = true := decide_eq_true c19
            clear c19
            obtain ⟨ji20, hji20⟩ : ∃ j_ : Int, (shr .i64 a0_1 x4_3) = j_ := ⟨_, rfl⟩
            replace H : (if (Go.bits .and .i64 (ji18) 1) = (Go.bits .and .i64 (ji20) 1) then (spec_MeetingOf.l1 k3 x3_1 (wrap64 (x4_3 + 1)) a0_0 a0_1) else ((spec_l9Set.f k3 a0_0 a0_1 x3_1).bind fun t812 => ((spec_l9Set.f k3 a0_0 a0_1 x4_3).bind fun t813 => (if (Go.bits .and .i64 (Go.bits .and .i64 t812 t813) (Go.bits .xor .i64 x3_1 x4_3)) = 0 then (some false) else (spec_MeetingOf.l1 k3 x3_1 (wrap64 (x4_3 + 1)) a0_0 a0_1))))) = some r := by first | (rw [hji20] at H; exact H) | (simp only [hji20] at H ⊢; exact H)
            have hji20_ : (a0_1 / 2 ^ min x4_3.toNat 64) = ji20 := hji20
            have hji20z : x4_3 ≤ 64 → (a0_1 / 2 ^ x4_3.toNat) = ji20 := shr_small hji20
            by_cases c21 : (Go.bits .and .i64 (ji18) 1) = (Go.bits .and .i64 (ji20) 1)
            ·rw [if_pos c21] at H
             have c21b0 : ((Go.bits .and .i64 (ji18) 1) == (Go.bits .and .i64 (ji20) 1)) = true := beq_iff_eq.mpr c21
             have c21b1 : ((Go.bits .and .i64 (ji18) 1) != (Go.bits .and .i64 (ji20) 1)) = false := bne_eq_false_iff_eq.mpr c21
             clear c21
             have H' := Aside0.mk H
             clear H
             obtain ⟨hcz22_0, hcz22_1, hfz22_0, hfz22_1⟩ := c2_ BK809
             try go_wp2
             replace BK809 := Aside0.mk (blk_drew BK809.out)
             replace HB := Aside0.mk (below_drew1 HB.out)
             refine start_ (n := 25) (S := fun w' => w'.cell? ⟨gb809, 0, none⟩ = some (.int .i64 a0_0) ∧ w'.cell? ⟨gb809, 1, none⟩ = some (.int .i64 a0_1)) (ds := []) (bs 25 0) (by kernel_rfl) rfl (by kernel_rfl) ⟨(blk_cell BK809.out 0).trans rfl, (blk_cell BK809.out 1).trans rfl⟩ (fun hHeld => ?_); refine with_tabW spec_MeetingOf.tab7 spec_MeetingOf.bits7 (fun HT_ HW_ => ?_)
             generalize wr.drew = w23 at BK809 HB hHeld ⊢
             refine pu_ HT_ 0 23 (bs 25 1) ?_
             refine pu_ HT_ 2 25 (bs 25 5) ?_
             refine pu_ HT_ 5 28 (bs 25 37) ?_
             refine pu_ HT_ 7 30 (bs 25 165) ?_
             refine ta2_ HT_ HW_ 1 24 (bs 25 167) hHeld ?_
             refine pu_ HT_ 3 26 (bs 25 175) ?_
             refine pu_ HT_ 4 27 (bs 25 191) ?_
             refine ta2_ HT_ HW_ 6 29 (bs 25 255) hHeld ?_
             refine pu_ HT_ 8 31 (bs 25 511) ?_
             refine pu_ HT_ 9 32 (bs 25 1023) ?_
             refine pu_ HT_ 10 33 (bs 25 2047) ?_
             refine pu_ HT_ 11 34 (bs 25 4095) ?_
             refine pure_ (i := 12) (N := some 35) (v := undef) (a' := ?_) (bs 25 8191) rfl rfl (any_of HT_.out (by kernel_rfl)) (fun _ _ _ h => h) (Or.inr ⟨by rfl, rfl⟩) ?_ ?_
             rotate_left
             ·simp only [Act.put, List.setIfInBounds_toArray, List.set_cons_zero, List.set_cons_succ, i64_w, i32_w]
              rfl
             refine pure_ (i := 13) (N := some 36) (v := undef) (a' := ?_) (bs 25 16383) rfl rfl (any_of HT_.out (by kernel_rfl)) (fun _ _ _ h => h) (Or.inr ⟨by rfl, rfl⟩) ?_ ?_
             rotate_left
             ·simp only [Act.put, List.setIfInBounds_toArray, List.set_cons_zero, List.set_cons_succ, i64_w, i32_w]
              rfl
             refine pure_ (i := 14) (N := some 37) (v := undef) (a' := ?_) (bs 25 32767) rfl rfl (any_of HT_.out (by kernel_rfl)) (fun _ _ _ h => h) (Or.inr ⟨by rfl, rfl⟩) ?_ ?_
             rotate_left
             ·simp only [Act.put, List.setIfInBounds_toArray, List.set_cons_zero, List.set_cons_succ, i64_w, i32_w]
              rfl
             refine pure_ (i := 15) (N := some 38) (v := undef) (a' := ?_) (bs 25 65535) rfl rfl (any_of HT_.out (by kernel_rfl)) (fun _ _ _ h => h) (Or.inr ⟨by rfl, rfl⟩) ?_ ?_
             rotate_left
             ·simp only [Act.put, List.setIfInBounds_toArray, List.set_cons_zero, List.set_cons_succ, i64_w, i32_w]
              rfl
             refine pure_ (i := 16) (N := some 39) (v := undef) (a' := ?_) (bs 25 131071) rfl rfl (any_of HT_.out (by kernel_rfl)) (fun _ _ _ h => h) (Or.inr ⟨by rfl, rfl⟩) ?_ ?_
             rotate_left
             ·simp only [Act.put, List.setIfInBounds_toArray, List.set_cons_zero, List.set_cons_succ, i64_w, i32_w]
              rfl
             refine pure_ (i := 17) (N := some 40) (v := undef) (a' := ?_) (bs 25 262143) rfl rfl (any_of HT_.out (by kernel_rfl)) (fun _ _ _ h => h) (Or.inr ⟨by rfl, rfl⟩) ?_ ?_
             rotate_left
             ·simp only [Act.put, List.setIfInBounds_toArray, List.set_cons_zero, List.set_cons_succ, i64_w, i32_w]
              rfl
             refine pure_ (i := 18) (N := some 41) (v := undef) (a' := ?_) (bs 25 524287) rfl rfl (any_of HT_.out (by kernel_rfl)) (fun _ _ _ h => h) (Or.inr ⟨by rfl, rfl⟩) ?_ ?_
             rotate_left
             ·simp only [Act.put, List.setIfInBounds_toArray, List.set_cons_zero, List.set_cons_succ, i64_w, i32_w]
              rfl
             refine pure_ (i := 19) (N := some 42) (v := undef) (a' := ?_) (bs 25 1048575) rfl rfl (any_of HT_.out (by kernel_rfl)) (fun _ _ _ h => h) (Or.inr ⟨by rfl, rfl⟩) ?_ ?_
             rotate_left
             ·simp only [Act.put, List.setIfInBounds_toArray, List.set_cons_zero, List.set_cons_succ, i64_w, i32_w]
              rfl
             refine pure_ (i := 20) (N := some 43) (v := undef) (a' := ?_) (bs 25 2097151) rfl rfl (any_of HT_.out (by kernel_rfl)) (fun _ _ _ h => h) (Or.inr ⟨by rfl, rfl⟩) ?_ ?_
             rotate_left
             ·simp only [Act.put, List.setIfInBounds_toArray, List.set_cons_zero, List.set_cons_succ, i64_w, i32_w]
              rfl
             refine pure_ (i := 21) (N := some 44) (v := undef) (a' := ?_) (bs 25 4194303) rfl rfl (any_of HT_.out (by kernel_rfl)) (fun _ _ _ h => h) (Or.inr ⟨by rfl, rfl⟩) ?_ ?_
             rotate_left
             ·simp only [Act.put, List.setIfInBounds_toArray, List.set_cons_zero, List.set_cons_succ, i64_w, i32_w]
              rfl
             refine pure_ (i := 22) (N := some 45) (v := undef) (a' := ?_) (bs 25 8388607) rfl rfl (any_of HT_.out (by kernel_rfl)) (fun _ _ _ h => h) (Or.inr ⟨by rfl, rfl⟩) ?_ ?_
             rotate_left
             ·simp only [Act.put, List.setIfInBounds_toArray, List.set_cons_zero, List.set_cons_succ, i64_w, i32_w]
              rfl
             refine pure_ (i := 23) (N := some 46) (v := undef) (a' := ?_) (bs 25 16777215) rfl rfl (any_of HT_.out (by kernel_rfl)) (fun _ _ _ h => h) (Or.inr ⟨by rfl, rfl⟩) ?_ ?_
             rotate_left
             ·simp only [Act.put, List.setIfInBounds_toArray, List.set_cons_zero, List.set_cons_succ, i64_w, i32_w]
              rfl
             refine pu_ HT_ 24 47 (bs 25 33554431) ?_
             refine done_ (done_of HT_.out (by kernel_rfl)) ?_
             try go_wp2
             go_roundg k3
             case measure => have := HK1.out; have := HJ2.out; have := HK3.out; omega
             case rel => exact ⟨(wrap64 (x4_3 + 1)), (by first | rfl | (simp; done) | (simp [*]; done)), H', ⟨by have := HK1.out; have := HJ2.out; have := HK3.out; omega⟩, ⟨by (with_reducible repeat (first | refine blk_drewN ?_ _ | refine blk_drew ?_ | refine blk_alloc ?_ _)); exact BK809.out⟩, ⟨bv1_ HB GE809⟩⟩
            ·rw [if_neg c21] at H
             have c21b0 : ((Go.bits .and .i64 (ji18) 1) == (Go.bits .and .i64 (ji20) 1)) = false := beq_eq_false_iff_ne.mpr c21
             have c21b1 : ((Go.bits .and .i64 (ji18) 1) != (Go.bits .and .i64 (ji20) 1)) = true := bne_iff_ne.mpr c21
             replace H := Option.bind_eq_some_iff.mp H
             obtain ⟨t812, A240, H⟩ := H
             have A24 := Aside0.mk A240
             clear A240
             replace H := Option.bind_eq_some_iff.mp H
             obtain ⟨t813, A250, H⟩ := H
             have A25 := Aside0.mk A250
             clear A250
             by_cases c26 : (Go.bits .and .i64 (Go.bits .and .i64 t812 t813) (Go.bits .xor .i64 x3_1 x4_3)) = 0
             ·rw [if_pos c26] at H
              have c26b0 : ((Go.bits .and .i64 (Go.bits .and .i64 t812 t813) (Go.bits .xor .i64 x3_1 x4_3)) == 0) = true := beq_iff_eq.mpr c26
              have c26b1 : ((Go.bits .and .i64 (Go.bits .and .i64 t812 t813) (Go.bits .xor .i64 x3_1 x4_3)) != 0) = false := bne_eq_false_iff_eq.mpr c26
              clear c26
              obtain rfl := Option.some.inj H
              obtain ⟨hcz27_0, hcz27_1, hfz27_0, hfz27_1⟩ := c2_ BK809
              try go_wp2
              replace BK809 := Aside0.mk (blk_drew BK809.out)
              replace HB := Aside0.mk (below_drew1 HB.out)
              refine start_ (n := 25) (S := fun w' => w'.cell? ⟨gb809, 0, none⟩ = some (.int .i64 a0_0) ∧ w'.cell? ⟨gb809, 1, none⟩ = some (.int .i64 a0_1)) (ds := []) (bs 25 0) (by kernel_rfl) rfl (by kernel_rfl) ⟨(blk_cell BK809.out 0).trans rfl, (blk_cell BK809.out 1).trans rfl⟩ (fun hHeld => ?_); refine with_tabW spec_MeetingOf.tab7 spec_MeetingOf.bits7 (fun HT_ HW_ => ?_)
              generalize wr.drew = w28 at BK809 HB hHeld ⊢
              refine pu_ HT_ 0 23 (bs 25 1) ?_
              refine pu_ HT_ 2 25 (bs 25 5) ?_
              refine pu_ HT_ 5 28 (bs 25 37) ?_
              refine pu_ HT_ 7 30 (bs 25 165) ?_
              refine ta2_ HT_ HW_ 1 24 (bs 25 167) hHeld ?_
              refine pu_ HT_ 3 26 (bs 25 175) ?_
              refine pu_ HT_ 4 27 (bs 25 191) ?_
              refine ta2_ HT_ HW_ 6 29 (bs 25 255) hHeld ?_
              refine pu_ HT_ 8 31 (bs 25 511) ?_
              refine pu_ HT_ 9 32 (bs 25 1023) ?_
              refine pu_ HT_ 10 33 (bs 25 2047) ?_
              refine pu_ HT_ 11 34 (bs 25 4095) ?_
              refine pu_ HT_ 13 36 (bs 25 12287) ?_
              refine pu_ HT_ 16 39 (bs 25 77823) ?_
              refine pu_ HT_ 19 42 (bs 25 602111) ?_
              refine pu_ HT_ 20 43 (bs 25 1650687) ?_
              refine pu_ HT_ 21 44 (bs 25 3747839) ?_
              refine ta2_ HT_ HW_ 12 35 (bs 25 3751935) hHeld ?_
              refine ta2_ HT_ HW_ 15 38 (bs 25 3784703) hHeld ?_
              refine on_ HT_ 14 37 (bs 25 3801087) (fun K hK => ?_)
              refine goes_ Try.func80 (by kernel_rfl) rfl #[.agg #[.int .i64 a0_0, .int .i64 a0_1], .int .i64 x3_1] (by rfl) rfl rfl mp_ ?_
              with_reducible refine (spec_l9Set.calls k3 a0_0 a0_1 x3_1 t812 _ A24.out).mono ?_
              rintro e w29 ⟨rfl, hb⟩
              refine ⟨_, rfl, ?_⟩
              replace BK809 := kb_ BK809 hb
              replace HB := Aside0.mk (below_step (bv1_ HB GE809) hb)
              (try clear hb)
              (try clear hb2)
              (try clear hk)
              (try clear hi)
              refine hK.out _ _ ⟨(blk_cell BK809.out 0).trans rfl, (blk_cell BK809.out 1).trans rfl⟩ (fun hHeld => ?_)
              clear hK K
              refine no_ 37 ?_
              refine on_ HT_ 17 40 (bs 25 3932159) (fun K hK => ?_)
              refine goes_ Try.func80 (by kernel_rfl) rfl #[.agg #[.int .i64 a0_0, .int .i64 a0_1], .int .i64 x4_3] (by rfl) rfl rfl mp_ ?_
              with_reducible refine (spec_l9Set.calls k3 a0_0 a0_1 x4_3 t813 _ A25.out).mono ?_
              rintro e w30 ⟨rfl, hb⟩
              refine ⟨_, rfl, ?_⟩
              replace BK809 := kb_ BK809 hb
              replace HB := Aside0.mk (below_step (bv1_ HB GE809) hb)
              (try clear hb)
              (try clear hb2)
              (try clear hk)
              (try clear hi)
              refine hK.out _ _ ⟨(blk_cell BK809.out 0).trans rfl, (blk_cell BK809.out 1).trans rfl⟩ (fun hHeld => ?_)
              clear hK K
              refine no_ 40 ?_
              refine pu_ HT_ 18 41 (bs 25 4194303) ?_
              refine pu_ HT_ 22 45 (bs 25 8388607) ?_
              refine pu_ HT_ 23 46 (bs 25 16777215) ?_
              refine pu_ HT_ 24 47 (bs 25 33554431) ?_
              refine done_ (done_of HT_.out (by kernel_rfl)) ?_
              try go_wp2
              go_ret
              exact ⟨by first | rfl | (simp [errW_none, errW_some] <;> rfl) | (simp only [← hji15, ← hji18, ← hji20]; first | rfl | (simp [errW_none, errW_some] <;> rfl)) | (simp [*, errW_none, errW_some] <;> rfl), bv1_ HB GE809⟩
             ·rw [if_neg c26] at H
              have c26b0 : ((Go.bits .and .i64 (Go.bits .and .i64 t812 t813) (Go.bits .xor .i64 x3_1 x4_3)) == 0) = false := beq_eq_false_iff_ne.mpr c26
              have c26b1 : ((Go.bits .and .i64 (Go.bits .and .i64 t812 t813) (Go.bits .xor .i64 x3_1 x4_3)) != 0) = true := bne_iff_ne.mpr c26
              have H' := Aside0.mk H
              clear H
              obtain ⟨hcz31_0, hcz31_1, hfz31_0, hfz31_1⟩ := c2_ BK809
              try go_wp2
              replace BK809 := Aside0.mk (blk_drew BK809.out)
              replace HB := Aside0.mk (below_drew1 HB.out)
              refine start_ (n := 25) (S := fun w' => w'.cell? ⟨gb809, 0, none⟩ = some (.int .i64 a0_0) ∧ w'.cell? ⟨gb809, 1, none⟩ = some (.int .i64 a0_1)) (ds := []) (bs 25 0) (by kernel_rfl) rfl (by kernel_rfl) ⟨(blk_cell BK809.out 0).trans rfl, (blk_cell BK809.out 1).trans rfl⟩ (fun hHeld => ?_); refine with_tabW spec_MeetingOf.tab7 spec_MeetingOf.bits7 (fun HT_ HW_ => ?_)
              generalize wr.drew = w32 at BK809 HB hHeld ⊢
              refine pu_ HT_ 0 23 (bs 25 1) ?_
              refine pu_ HT_ 2 25 (bs 25 5) ?_
              refine pu_ HT_ 5 28 (bs 25 37) ?_
              refine pu_ HT_ 7 30 (bs 25 165) ?_
              refine ta2_ HT_ HW_ 1 24 (bs 25 167) hHeld ?_
              refine pu_ HT_ 3 26 (bs 25 175) ?_
              refine pu_ HT_ 4 27 (bs 25 191) ?_
              refine ta2_ HT_ HW_ 6 29 (bs 25 255) hHeld ?_
              refine pu_ HT_ 8 31 (bs 25 511) ?_
              refine pu_ HT_ 9 32 (bs 25 1023) ?_
              refine pu_ HT_ 10 33 (bs 25 2047) ?_
              refine pu_ HT_ 11 34 (bs 25 4095) ?_
              refine pu_ HT_ 13 36 (bs 25 12287) ?_
              refine pu_ HT_ 16 39 (bs 25 77823) ?_
              refine pu_ HT_ 19 42 (bs 25 602111) ?_
              refine pu_ HT_ 20 43 (bs 25 1650687) ?_
              refine pu_ HT_ 21 44 (bs 25 3747839) ?_
              refine ta2_ HT_ HW_ 12 35 (bs 25 3751935) hHeld ?_
              refine ta2_ HT_ HW_ 15 38 (bs 25 3784703) hHeld ?_
              refine on_ HT_ 14 37 (bs 25 3801087) (fun K hK => ?_)
              refine goes_ Try.func80 (by kernel_rfl) rfl #[.agg #[.int .i64 a0_0, .int .i64 a0_1], .int .i64 x3_1] (by rfl) rfl rfl mp_ ?_
              with_reducible refine (spec_l9Set.calls k3 a0_0 a0_1 x3_1 t812 _ A24.out).mono ?_
              rintro e w33 ⟨rfl, hb⟩
              refine ⟨_, rfl, ?_⟩
              replace BK809 := kb_ BK809 hb
              replace HB := Aside0.mk (below_step (bv1_ HB GE809) hb)
              (try clear hb)
              (try clear hb2)
              (try clear hk)
              (try clear hi)
              refine hK.out _ _ ⟨(blk_cell BK809.out 0).trans rfl, (blk_cell BK809.out 1).trans rfl⟩ (fun hHeld => ?_)
              clear hK K
              refine no_ 37 ?_
              refine on_ HT_ 17 40 (bs 25 3932159) (fun K hK => ?_)
              refine goes_ Try.func80 (by kernel_rfl) rfl #[.agg #[.int .i64 a0_0, .int .i64 a0_1], .int .i64 x4_3] (by rfl) rfl rfl mp_ ?_
              with_reducible refine (spec_l9Set.calls k3 a0_0 a0_1 x4_3 t813 _ A25.out).mono ?_
              rintro e w34 ⟨rfl, hb⟩
              refine ⟨_, rfl, ?_⟩
              replace BK809 := kb_ BK809 hb
              replace HB := Aside0.mk (below_step (bv1_ HB GE809) hb)
              (try clear hb)
              (try clear hb2)
              (try clear hk)
              (try clear hi)
              refine hK.out _ _ ⟨(blk_cell BK809.out 0).trans rfl, (blk_cell BK809.out 1).trans rfl⟩ (fun hHeld => ?_)
              clear hK K
              refine no_ 40 ?_
              refine pu_ HT_ 18 41 (bs 25 4194303) ?_
              refine pu_ HT_ 22 45 (bs 25 8388607) ?_
              refine pu_ HT_ 23 46 (bs 25 16777215) ?_
              refine pu_ HT_ 24 47 (bs 25 33554431) ?_
              refine done_ (done_of HT_.out (by kernel_rfl)) ?_
              try go_wp2
              go_roundg k3
              case measure => have := HK1.out; have := HJ2.out; have := HK3.out; omega
              case rel => exact ⟨(wrap64 (x4_3 + 1)), (by first | rfl | (simp; done) | (simp [*]; done)), H', ⟨by have := HK1.out; have := HJ2.out; have := HK3.out; omega⟩, ⟨by (with_reducible repeat (first | refine blk_drewN ?_ _ | refine blk_drew ?_ | refine blk_alloc ?_ _)); exact BK809.out⟩, ⟨bv1_ HB GE809⟩⟩
           ·rw [if_neg c19] at H
            exact absurd H (by simp)
          ·rw [if_neg c17] at H
           exact absurd H (by simp)
         ·rw [if_neg c16] at H
          have c16b0 : decide (x4_3 < (ji15)) = false := decide_eq_false c16
          clear c16
          have H' := Aside0.mk H
          clear H
          obtain ⟨hcz35_0, hcz35_1, hfz35_0, hfz35_1⟩ := c2_ BK809
          go_wp2
          go_roundg k3
          case measure => have := HK1.out; have := HJ2.out; have := HK3.out; omega
          case rel => exact ⟨(wrap64 (x3_1 + 1)), (by first | rfl | (simp; done) | (simp [*]; done)), H', ⟨by have := HK1.out; have := HJ2.out; have := HK3.out; omega⟩, ⟨by (with_reducible repeat (first | refine blk_drewN ?_ _ | refine blk_drew ?_ | refine blk_alloc ?_ _)); exact BK809.out⟩, ⟨bv1_ HB GE809⟩⟩
        ·rw [if_neg c14] at H
         exact absurd H (by simp)
     ·replace c13 := Bool.eq_false_iff.mpr c13
      subst c13
      rw [if_neg (show ¬ (false = true) by decide)] at H
      replace H := Option.bind_eq_some_iff.mp H
      obtain ⟨t811, A360, H⟩ := H
      have A36 := Aside0.mk A360
      clear A360
      obtain rfl := Option.some.inj H
      obtain ⟨hcz37_0, hcz37_1, hfz37_0, hfz37_1⟩ := c2_ BK809
      go_wp2_with (first | ((with_reducible refine gate_callee (f := 67) rfl ?_); refine gl_ 49 Try.func67 #[.agg #[.int .i64 a0_0, .int .i64 a0_1]] rfl mp_ ?_; (with_reducible refine (spec_IsTable.calls a0_0 a0_1 t811 _ A36.out).mono ?_); rintro e w38 ⟨rfl, hb⟩; refine ⟨_, rfl, ?_⟩; have n0_ := kb_ BK809 hb; have n1_ := Aside0.mk (below_step (bv1_ HB GE809) hb); clear BK809; clear HB; have BK809 := n0_; have HB := n1_; clear n0_ n1_; (try clear hb); (try clear hb2); (try clear hk); (try clear hi)))
      go_ret
      exact ⟨by first | rfl | (simp [errW_none, errW_some] <;> rfl) | (simp [*, errW_none, errW_some] <;> rfl), bv1_ HB GE809⟩


/-! ### spec_SensitivityAt: function 57 -/
def spec_SensitivityAt.f (k : Nat) (a0_0 : Int) (a0_1 : Int) (a1 : Int) : Option (Int) := (spec_l9In.f a0_0 a0_1 a1).bind fun t815 => (if t815 = true then ((spec_l10At.f k a0_0 a0_1 a1).bind fun t816 => (some t816)) else (some (-1)))
theorem spec_SensitivityAt.mono : ∀ a0 a1 a2 k, LeO (spec_SensitivityAt.f k a0 a1 a2) (spec_SensitivityAt.f (k + 1) a0 a1 a2) := by
 intro a0 a1 a2 k
 unfold spec_SensitivityAt.f
 repeat' first
   | (with_reducible exact spec_l10At.mono _ _ _ _)
   | (with_reducible exact LeO.refl _)
   | (with_reducible exact LeO.none _)
   | (with_reducible refine LeO.ite ?_ ?_)
   | (with_reducible refine LeO.bind ?_ (fun _ => ?_))
   | exact spec_l10At.mono _ _ _ _
   | exact LeO.none _
   | refine LeO.ite ?_ ?_
   | refine LeO.bind ?_ (fun _ => ?_)
set_option maxHeartbeats 8000000 in
set_option maxRecDepth 100000 in
theorem spec_SensitivityAt.calls (k : Nat) (a0_0 : Int) (a0_1 : Int) (a1 : Int) (r : Int) (w : World) (h : spec_SensitivityAt.f k a0_0 a0_1 a1 = some r) :
  Calls Try.prog 57 #[.agg #[.int .i64 a0_0, .int .i64 a0_1], .int .i64 a1] w fun e w' => e = .returned (.int .i64 r) ∧ Below w.heap.size w w' := by
 have hu25 := Try.underlying25
 have HB := Aside0.mk (Below.refl w.heap.size w)
 have H : ((spec_l9In.f a0_0 a0_1 a1).bind fun t815 => (if t815 = true then ((spec_l10At.f k a0_0 a0_1 a1).bind fun t816 => (some t816)) else (some (-1)))) = some r := h
 clear h
 replace H := Option.bind_eq_some_iff.mp H
 obtain ⟨t815, A30, H⟩ := H
 have A3 := Aside0.mk A30
 clear A30
 by_cases c4 : t815 = true
 ·subst c4
  rw [if_pos rfl] at H
  replace H := Option.bind_eq_some_iff.mp H
  obtain ⟨t816, A50, H⟩ := H
  have A5 := Aside0.mk A50
  clear A50
  obtain rfl := Option.some.inj H
  go_enter Try.func57, Try.ntmps57
  go_wp2_with (first | ((with_reducible refine gate_dst (N := 2) rfl ?_); refine bx_ 2 #[.int .i64 a0_0, .int .i64 a0_1] 25 ?_; intro gb814 hg w6 hbox hb; have BK814 := Aside0.mk (hbox); have GW814 := gw_ hg (below_size (bv_ HB)); have GE814 := GW814; replace HB := Aside0.mk (below_step (bv_ HB) hb); clear hb hbox hg; obtain ⟨hcz7_0, hcz7_1, hfz7_0, hfz7_1⟩ := c2_ BK814) | ((with_reducible refine gate_callee (f := 79) rfl ?_); refine gl_ 7 Try.func79 #[.agg #[.int .i64 a0_0, .int .i64 a0_1], .int .i64 a1] rfl mp_ ?_; (with_reducible refine (spec_l9In.calls a0_0 a0_1 a1 true _ A3.out).mono ?_); rintro e w8 ⟨rfl, hb⟩; refine ⟨_, rfl, ?_⟩; replace BK814 := kb_ BK814 hb; replace HB := Aside0.mk (below_step (bv1_ HB GE814) hb); (try clear hb); (try clear hb2); (try clear hk); (try clear hi); obtain ⟨hcz9_0, hcz9_1, hfz9_0, hfz9_1⟩ := c2_ BK814) | ((with_reducible refine gate_callee (f := 90) rfl ?_); refine gl_ 11 Try.func90 #[.agg #[.int .i64 a0_0, .int .i64 a0_1], .int .i64 a1] rfl mp_ ?_; (with_reducible refine (spec_l10At.calls k a0_0 a0_1 a1 t816 _ A5.out).mono ?_); rintro e w10 ⟨rfl, hb⟩; refine ⟨_, rfl, ?_⟩; replace BK814 := kb_ BK814 hb; replace HB := Aside0.mk (below_step (bv1_ HB GE814) hb); (try clear hb); (try clear hb2); (try clear hk); (try clear hi)))
  go_ret
  exact ⟨by first | rfl | (simp [errW_none, errW_some] <;> rfl) | (simp [*, errW_none, errW_some] <;> rfl), bv1_ HB GE814⟩
 ·replace c4 := Bool.eq_false_iff.mpr c4
  subst c4
  rw [if_neg (show ¬ (false = true) by decide)] at H
  obtain rfl := Option.some.inj H
  go_enter Try.func57, Try.ntmps57
  go_wp2_with (first | ((with_reducible refine gate_dst (N := 2) rfl ?_); refine bx_ 2 #[.int .i64 a0_0, .int .i64 a0_1] 25 ?_; intro gb814 hg w11 hbox hb; have BK814 := Aside0.mk (hbox); have GW814 := gw_ hg (below_size (bv_ HB)); have GE814 := GW814; replace HB := Aside0.mk (below_step (bv_ HB) hb); clear hb hbox hg; obtain ⟨hcz12_0, hcz12_1, hfz12_0, hfz12_1⟩ := c2_ BK814) | ((with_reducible refine gate_callee (f := 79) rfl ?_); refine gl_ 7 Try.func79 #[.agg #[.int .i64 a0_0, .int .i64 a0_1], .int .i64 a1] rfl mp_ ?_; (with_reducible refine (spec_l9In.calls a0_0 a0_1 a1 false _ A3.out).mono ?_); rintro e w13 ⟨rfl, hb⟩; refine ⟨_, rfl, ?_⟩; replace BK814 := kb_ BK814 hb; replace HB := Aside0.mk (below_step (bv1_ HB GE814) hb); (try clear hb); (try clear hb2); (try clear hk); (try clear hi)))
  go_ret
  exact ⟨by first | rfl | (simp [errW_none, errW_some] <;> rfl) | (simp [*, errW_none, errW_some] <;> rfl), bv1_ HB GE814⟩

-- NOT PRINTED: function 3 (laws_FnInfluences)

-- NOT PRINTED: function 4 (laws_FnCertificates)


end Go.Proofs.Ytplnffhjpmnifaa.P
