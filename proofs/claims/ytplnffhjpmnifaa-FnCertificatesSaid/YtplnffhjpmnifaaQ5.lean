-- Out of the translation, by this session's program over the printer's; Lean checks it.
import Derived.Test.YtplnffhjpmnifaaSh
import Derived.Test.YtplnffhjpmnifaaQ0
import Derived.Test.YtplnffhjpmnifaaQ3
import Derived.Test.YtplnffhjpmnifaaQ4
namespace Go.Proofs.Ytplnffhjpmnifaa.P
open Go.RowKit Go.Proofs.YtplnffhjpmnifaaW.PrintWords Go.Proofs.YtplnffhjpmnifaaW.PrintLast Go.Proofs.YtplnffhjpmnifaaW.PrintMore
attribute [local go_sem] max2_int min2_int max_two min_two max_three min_three max_four min_four
set_option linter.unusedVariables false
set_option linter.unusedSimpArgs false

/-! ### impl_CertificateAt: function 28 -/
def impl_CertificateAt.f (k : Nat) (a0_0 : Int) (a0_1 : Int) (a1 : Int) : Option (Int) := (impl_hasInput.f a0_0 a0_1 a1).bind fun t628 => (if t628 = true then ((impl_Table_certificate.f k a0_0 a0_1 a1).bind fun t629 => ((impl_ones.f t629).bind fun t630 => (some t630))) else (some (-1)))
theorem impl_CertificateAt.mono : ∀ a0 a1 a2 k, LeO (impl_CertificateAt.f k a0 a1 a2) (impl_CertificateAt.f (k + 1) a0 a1 a2) := by
 intro a0 a1 a2 k
 unfold impl_CertificateAt.f
 repeat' first
   | (with_reducible exact impl_Table_certificate.mono _ _ _ _)
   | (with_reducible exact LeO.refl _)
   | (with_reducible exact LeO.none _)
   | (with_reducible refine LeO.ite ?_ ?_)
   | (with_reducible refine LeO.bind ?_ (fun _ => ?_))
   | exact impl_Table_certificate.mono _ _ _ _
   | exact LeO.none _
   | refine LeO.ite ?_ ?_
   | refine LeO.bind ?_ (fun _ => ?_)
set_option maxHeartbeats 8000000 in
set_option maxRecDepth 100000 in
theorem impl_CertificateAt.calls (k : Nat) (a0_0 : Int) (a0_1 : Int) (a1 : Int) (r : Int) (w : World) (h : impl_CertificateAt.f k a0_0 a0_1 a1 = some r) :
  Calls Try.prog 28 #[.agg #[.int .i64 a0_0, .int .i64 a0_1], .int .i64 a1] w fun e w' => e = .returned (.int .i64 r) ∧ Below w.heap.size w w' := by
 have hu25 := Try.underlying25
 have HB := Aside0.mk (Below.refl w.heap.size w)
 have H : ((impl_hasInput.f a0_0 a0_1 a1).bind fun t628 => (if t628 = true then ((impl_Table_certificate.f k a0_0 a0_1 a1).bind fun t629 => ((impl_ones.f t629).bind fun t630 => (some t630))) else (some (-1)))) = some r := h
 clear h
 replace H := Option.bind_eq_some_iff.mp H
 obtain ⟨t628, A30, H⟩ := H
 have A3 := Aside0.mk A30
 clear A30
 by_cases c4 : t628 = true
 ·subst c4
  rw [if_pos rfl] at H
  replace H := Option.bind_eq_some_iff.mp H
  obtain ⟨t629, A50, H⟩ := H
  have A5 := Aside0.mk A50
  clear A50
  replace H := Option.bind_eq_some_iff.mp H
  obtain ⟨t630, A60, H⟩ := H
  have A6 := Aside0.mk A60
  clear A60
  obtain rfl := Option.some.inj H
  go_enter Try.func28, Try.ntmps28
  go_wp2_with (first | ((with_reducible refine gate_dst (N := 2) rfl ?_); refine bx_ 2 #[.int .i64 a0_0, .int .i64 a0_1] 25 ?_; intro gb627 hg w7 hbox hb; have BK627 := Aside0.mk (hbox); have GW627 := gw_ hg (below_size (bv_ HB)); have GE627 := GW627; replace HB := Aside0.mk (below_step (bv_ HB) hb); clear hb hbox hg; obtain ⟨hcz8_0, hcz8_1, hfz8_0, hfz8_1⟩ := c2_ BK627) | ((with_reducible refine gate_callee (f := 77) rfl ?_); refine gl_ 7 Try.func77 #[.agg #[.int .i64 a0_0, .int .i64 a0_1], .int .i64 a1] rfl mp_ ?_; (with_reducible refine (impl_hasInput.calls a0_0 a0_1 a1 true _ A3.out).mono ?_); rintro e w9 ⟨rfl, hb⟩; refine ⟨_, rfl, ?_⟩; replace BK627 := kb_ BK627 hb; replace HB := Aside0.mk (below_step (bv1_ HB GE627) hb); (try clear hb); (try clear hb2); (try clear hk); (try clear hi); obtain ⟨hcz10_0, hcz10_1, hfz10_0, hfz10_1⟩ := c2_ BK627) | ((with_reducible refine gate_callee (f := 78) rfl ?_); refine gl_ 11 Try.func78 #[.agg #[.int .i64 a0_0, .int .i64 a0_1], .int .i64 a1] rfl mp_ ?_; (with_reducible refine (impl_Table_certificate.calls k a0_0 a0_1 a1 t629 _ A5.out).mono ?_); rintro e w11 ⟨rfl, hb⟩; refine ⟨_, rfl, ?_⟩; replace BK627 := kb_ BK627 hb; replace HB := Aside0.mk (below_step (bv1_ HB GE627) hb); (try clear hb); (try clear hb2); (try clear hk); (try clear hi)) | ((with_reducible refine gate_callee (f := 64) rfl ?_); refine gl_ 12 Try.func64 #[.int .i64 t629] rfl mp_ ?_; (with_reducible refine (impl_ones.calls t629 t630 _ A6.out).mono ?_); rintro e w' ⟨rfl, ⟨nd, rfl⟩⟩; refine ⟨_, rfl, ?_⟩))
  go_ret
  exact ⟨by first | rfl | (simp [errW_none, errW_some] <;> rfl) | (simp [*, errW_none, errW_some] <;> rfl), bv1_ HB GE627⟩
 ·replace c4 := Bool.eq_false_iff.mpr c4
  subst c4
  rw [if_neg (show ¬ (false = true) by decide)] at H
  obtain rfl := Option.some.inj H
  go_enter Try.func28, Try.ntmps28
  go_wp2_with (first | ((with_reducible refine gate_dst (N := 2) rfl ?_); refine bx_ 2 #[.int .i64 a0_0, .int .i64 a0_1] 25 ?_; intro gb627 hg w12 hbox hb; have BK627 := Aside0.mk (hbox); have GW627 := gw_ hg (below_size (bv_ HB)); have GE627 := GW627; replace HB := Aside0.mk (below_step (bv_ HB) hb); clear hb hbox hg; obtain ⟨hcz13_0, hcz13_1, hfz13_0, hfz13_1⟩ := c2_ BK627) | ((with_reducible refine gate_callee (f := 77) rfl ?_); refine gl_ 7 Try.func77 #[.agg #[.int .i64 a0_0, .int .i64 a0_1], .int .i64 a1] rfl mp_ ?_; (with_reducible refine (impl_hasInput.calls a0_0 a0_1 a1 false _ A3.out).mono ?_); rintro e w14 ⟨rfl, hb⟩; refine ⟨_, rfl, ?_⟩; replace BK627 := kb_ BK627 hb; replace HB := Aside0.mk (below_step (bv1_ HB GE627) hb); (try clear hb); (try clear hb2); (try clear hk); (try clear hi)))
  go_ret
  exact ⟨by first | rfl | (simp [errW_none, errW_some] <;> rfl) | (simp [*, errW_none, errW_some] <;> rfl), bv1_ HB GE627⟩


/-! ### impl_Table_blocks: function 83 -/
mutual
def impl_Table_blocks.l0 : Nat → Int → List Int → Int → Int → Int → Int → Option (List Int)
 | 0, _, _, _, _, _, _ => none
 | k + 1, x1, x5, x10, x11, x632000, x632001 => if x11 < x10 then ((impl_Table_changes.f x632000 x632001 x1 x11).bind fun t633 => (impl_Table_blocks.l1 k x1 x5 x11 t633 (Go.bits .and .i64 (wrap64 (x11 - 1)) x11) x10 x11 x632000 x632001)) else (some x5)
def impl_Table_blocks.l1 : Nat → Int → List Int → Int → Bool → Int → Int → Int → Int → Int → Option (List Int)
 | 0, _, _, _, _, _, _, _, _, _ => none
 | k + 1, x1, x5, x6, x7, x8, x10, x11, x632000, x632001 => if x7 = true then (if x8 > 0 then ((impl_Table_changes.f x632000 x632001 x1 x8).bind fun t634 => (impl_Table_blocks.l1 k x1 x5 x6 (!t634) (Go.bits .and .i64 (wrap64 (x8 - 1)) x6) x10 x11 x632000 x632001)) else (if x5.length < 17592186044416 then (impl_Table_blocks.l0 k x1 (x5 ++ [x6]) x10 (wrap64 (x11 + 1)) x632000 x632001) else (none))) else (impl_Table_blocks.l0 k x1 x5 x10 (wrap64 (x11 + 1)) x632000 x632001)
end
def impl_Table_blocks.f (k : Nat) (a0_0 : Int) (a0_1 : Int) (a1 : Int) : Option (List Int) := (impl_Table_size.f a0_0 a0_1).bind fun t632 => (impl_Table_blocks.l0 k a1 ([] : List Int) t632 0 a0_0 a0_1)
theorem impl_Table_blocks.mono_l : ∀ k, (∀ y0 y1 y2 y3 y4 y5, LeO (impl_Table_blocks.l0 k y0 y1 y2 y3 y4 y5) (impl_Table_blocks.l0 (k + 1) y0 y1 y2 y3 y4 y5)) ∧ (∀ y0 y1 y2 y3 y4 y5 y6 y7 y8, LeO (impl_Table_blocks.l1 k y0 y1 y2 y3 y4 y5 y6 y7 y8) (impl_Table_blocks.l1 (k + 1) y0 y1 y2 y3 y4 y5 y6 y7 y8))
 | 0 => ⟨fun _ _ _ _ _ _ r h => by simp [impl_Table_blocks.l0] at h, fun _ _ _ _ _ _ _ _ _ r h => by simp [impl_Table_blocks.l1] at h⟩
 | k + 1 => by
  obtain ⟨ih0, ih1⟩ := impl_Table_blocks.mono_l k
  refine ⟨?_, ?_⟩
  ·intro y0 y1 y2 y3 y4 y5
   unfold impl_Table_blocks.l0
   repeat' first
   | (with_reducible exact ih0 _ _ _ _ _ _)
   | (with_reducible exact ih1 _ _ _ _ _ _ _ _ _)
   | (with_reducible exact LeO.refl _)
   | (with_reducible exact LeO.none _)
   | (with_reducible refine LeO.ite ?_ ?_)
   | (with_reducible refine LeO.bind ?_ (fun _ => ?_))
   | exact ih0 _ _ _ _ _ _
   | exact ih1 _ _ _ _ _ _ _ _ _
   | exact LeO.none _
   | refine LeO.ite ?_ ?_
   | refine LeO.bind ?_ (fun _ => ?_)
  ·intro y0 y1 y2 y3 y4 y5 y6 y7 y8
   unfold impl_Table_blocks.l1
   repeat' first
   | (with_reducible exact ih0 _ _ _ _ _ _)
   | (with_reducible exact ih1 _ _ _ _ _ _ _ _ _)
   | (with_reducible exact LeO.refl _)
   | (with_reducible exact LeO.none _)
   | (with_reducible refine LeO.ite ?_ ?_)
   | (with_reducible refine LeO.bind ?_ (fun _ => ?_))
   | exact ih0 _ _ _ _ _ _
   | exact ih1 _ _ _ _ _ _ _ _ _
   | exact LeO.none _
   | refine LeO.ite ?_ ?_
   | refine LeO.bind ?_ (fun _ => ?_)
theorem impl_Table_blocks.mono : ∀ a0 a1 a2 k, LeO (impl_Table_blocks.f k a0 a1 a2) (impl_Table_blocks.f (k + 1) a0 a1 a2) := by
 intro a0 a1 a2 k
 obtain ⟨ih0, ih1⟩ := impl_Table_blocks.mono_l k
 unfold impl_Table_blocks.f
 repeat' first
   | (with_reducible exact ih0 _ _ _ _ _ _)
   | (with_reducible exact ih1 _ _ _ _ _ _ _ _ _)
   | (with_reducible exact LeO.refl _)
   | (with_reducible exact LeO.none _)
   | (with_reducible refine LeO.ite ?_ ?_)
   | (with_reducible refine LeO.bind ?_ (fun _ => ?_))
   | exact ih0 _ _ _ _ _ _
   | exact ih1 _ _ _ _ _ _ _ _ _
   | exact LeO.none _
   | refine LeO.ite ?_ ?_
   | refine LeO.bind ?_ (fun _ => ?_)
set_option maxHeartbeats 8000000 in
set_option maxRecDepth 100000 in
theorem impl_Table_blocks.calls (k : Nat) (a0_0 : Int) (a0_1 : Int) (a1 : Int) (r : List Int) (w : World) (h : impl_Table_blocks.f k a0_0 a0_1 a1 = some r) :
  Calls Try.prog 83 #[.agg #[.int .i64 a0_0, .int .i64 a0_1], .int .i64 a1] w fun e w' => ∃ v0_ : Value, e = .returned (v0_) ∧ Kd.R (Kd.int .i64) 3 w' w.heap.size (fun _ => True) v0_ r ∧ Below w.heap.size w w' := by
 have hu25 := Try.underlying25
 have HB := Aside0.mk (Below.refl w.heap.size w)
 have H : ((impl_Table_size.f a0_0 a0_1).bind fun t632 => (impl_Table_blocks.l0 k a1 ([] : List Int) t632 0 a0_0 a0_1)) = some r := h
 clear h
 replace H := Option.bind_eq_some_iff.mp H
 obtain ⟨t632, A30, H⟩ := H
 have A3 := Aside0.mk A30
 clear A30
 have H' := Aside0.mk H
 clear H
 go_enter Try.func83, Try.ntmps83
 go_wp2_with (first | ((with_reducible refine gate_dst (N := 2) rfl ?_); refine bx_ 2 #[.int .i64 a0_0, .int .i64 a0_1] 25 ?_; intro gb631 hg w4 hbox hb; have BK631 := Aside0.mk (hbox); have GW631 := gw_ hg (below_size (bv_ HB)); have GE631 := GW631; replace HB := Aside0.mk (below_step (bv_ HB) hb); clear hb hbox hg; obtain ⟨hcz5_0, hcz5_1, hfz5_0, hfz5_1⟩ := c2_ BK631) | ((with_reducible refine gate_callee (f := 65) rfl ?_); refine gl_ 10 Try.func65 #[.agg #[.int .i64 a0_0, .int .i64 a0_1]] rfl mp_ ?_; (with_reducible refine (impl_Table_size.calls a0_0 a0_1 t632 _ A3.out).mono ?_); rintro e w6 ⟨rfl, hb⟩; refine ⟨_, rfl, ?_⟩; replace BK631 := kb_ BK631 hb; replace HB := Aside0.mk (below_step (bv1_ HB GE631) hb); (try clear hb); (try clear hb2); (try clear hk); (try clear hi)))
 go_loopg [5, 11] k (fun kq v5 v11 w' => ∃ (x5_1 : List Int) (x11_1 : Int), v11 = .int .i64 x11_1 ∧ Aside0 (impl_Table_blocks.l0 kq a1 x5_1 t632 x11_1 a0_0 a0_1 = some r) ∧ Aside0 (kq ≤ k) ∧ Aside0 (Kd.R (Kd.int .i64) 3 w' w.heap.size (fun _ => True) v5 x5_1) ∧ Aside0 (w'.heap[gb631]? = some (.cells #[.int .i64 a0_0, .int .i64 a0_1] 25 (0, 0))) ∧ Aside0 (Below w.heap.size w w'))
 case atStart => exact ⟨(([] : List Int)), (0), (by first | rfl | (simp; done) | (simp [*]; done)), H', ⟨Nat.le_refl _⟩, ⟨by first | exact Kd.R_nil _ _ _ _ _ | exact Kd.N_nil _ _ _ _ _ | exact Kd.V_nil _ _ _ _ _ | exact Kd.Q_nil _ _ _ _ _ | exact Kd.S_nil _ _ _ _ _⟩, ⟨by (with_reducible repeat (first | refine blk_drewN ?_ _ | refine blk_drew ?_ | refine blk_alloc ?_ _)); exact BK631.out⟩, ⟨bv1_ HB GE631⟩⟩
 case round =>
  clear H'
  try clear p2
  try clear c6
  try clear hcz5_0
  try clear hcz5_1
  try clear hfz5_0
  try clear hfz5_1
  obtain ⟨x5_1, x11_1, rfl, HA, HK1, HO_5, BK631, HB⟩ := hrel
  cases gk with
  | zero => exact absurd HA.out (by simp [impl_Table_blocks.l0])
  | succ k1 =>
   have H := HA.out
   clear HA
   simp only [impl_Table_blocks.l0] at H
   by_cases c7 : x11_1 < t632
   ·rw [if_pos c7] at H
    have c7b0 : decide (x11_1 < t632) = true := decide_eq_true c7
    clear c7
    replace H := Option.bind_eq_some_iff.mp H
    obtain ⟨t633, A80, H⟩ := H
    have A8 := Aside0.mk A80
    clear A80
    have H' := Aside0.mk H
    clear H
    obtain ⟨hcz9_0, hcz9_1, hfz9_0, hfz9_1⟩ := c2_ BK631
    go_wp2_with (first | ((with_reducible refine gate_callee (f := 87) rfl ?_); refine gl_ 17 Try.func87 #[.agg #[.int .i64 a0_0, .int .i64 a0_1], .int .i64 a1, .int .i64 x11_1] rfl mp_ ?_; (with_reducible refine (impl_Table_changes.calls a0_0 a0_1 a1 x11_1 t633 _ A8.out).mono ?_); rintro e w10 ⟨rfl, hb⟩; refine ⟨_, rfl, ?_⟩; have n0_ := Aside0.mk (Kd.R_below (rv_ HO_5) hb); have n1_ := kb_ BK631 hb; have n2_ := Aside0.mk (below_step (bv1_ HB GE631) hb); clear HO_5; clear BK631; clear HB; have HO_5 := n0_; have BK631 := n1_; have HB := n2_; clear n0_ n1_ n2_; (try clear hb); (try clear hb2); (try clear hk); (try clear hi)))
    go_loopg [7, 8] k1 (fun kq v7 v8 w' => ∃ (x7_2 : Bool) (x8_2 : Int), v7 = .bool x7_2 ∧ v8 = .int .i64 x8_2 ∧ Aside0 (impl_Table_blocks.l1 kq a1 x5_1 x11_1 x7_2 x8_2 t632 x11_1 a0_0 a0_1 = some r) ∧ Aside0 (kq ≤ k1) ∧ Aside0 (Kd.R (Kd.int .i64) 3 w' w.heap.size (fun _ => True) u5 x5_1) ∧ Aside0 (w'.heap[gb631]? = some (.cells #[.int .i64 a0_0, .int .i64 a0_1] 25 (0, 0))) ∧ Aside0 (Below w.heap.size w w'))
    case atStart => exact ⟨(t633), (Go.bits .and .i64 (wrap64 (x11_1 - 1)) x11_1), (by first | rfl | (simp; done) | (simp [*]; done)), (by first | rfl | (simp; done) | (simp [*]; done)), H', ⟨Nat.le_refl _⟩, ⟨by (with_reducible repeat (first | apply Kd.R_alloc | apply Kd.R_drewN | apply Kd.R_drew)); exact HO_5.out⟩, ⟨by (with_reducible repeat (first | refine blk_drewN ?_ _ | refine blk_drew ?_ | refine blk_alloc ?_ _)); exact BK631.out⟩, ⟨bv1_ HB GE631⟩⟩
    case round =>
     clear H'
     try clear p2
     try clear c6
     try clear p6
     try clear c7
     try clear c7b0
     try clear c8
     try clear hcz5_0
     try clear hcz5_1
     try clear hcz9_0
     try clear hcz9_1
     try clear hfz5_0
     try clear hfz5_1
     try clear hfz9_0
     try clear hfz9_1
     try clear p2
     obtain ⟨x7_2, x8_2, rfl, rfl, HA, HK2, HO_5, BK631, HB⟩ := hrel
     cases gk with
     | zero => exact absurd HA.out (by simp [impl_Table_blocks.l1])
     | succ k2 =>
      have H := HA.out
      clear HA
      simp only [impl_Table_blocks.l1] at H
      by_cases c11 : x7_2 = true
      ·subst c11
       rw [if_pos rfl] at H
       by_cases c12 : x8_2 > 0
       ·rw [if_pos c12] at H
        have c12b0 : decide (0 < x8_2) = true := decide_eq_true c12
        clear c12
        replace H := Option.bind_eq_some_iff.mp H
        obtain ⟨t634, A130, H⟩ := H
        have A13 := Aside0.mk A130
        clear A130
        have H' := Aside0.mk H
        clear H
        obtain ⟨hcz14_0, hcz14_1, hfz14_0, hfz14_1⟩ := c2_ BK631
        go_wp2_with (first | ((with_reducible refine gate_callee (f := 87) rfl ?_); refine gl_ 34 Try.func87 #[.agg #[.int .i64 a0_0, .int .i64 a0_1], .int .i64 a1, .int .i64 x8_2] rfl mp_ ?_; (with_reducible refine (impl_Table_changes.calls a0_0 a0_1 a1 x8_2 t634 _ A13.out).mono ?_); rintro e w15 ⟨rfl, hb⟩; refine ⟨_, rfl, ?_⟩; have n0_ := Aside0.mk (Kd.R_below (rv_ HO_5) hb); have n1_ := kb_ BK631 hb; have n2_ := Aside0.mk (below_step (bv1_ HB GE631) hb); clear HO_5; clear BK631; clear HB; have HO_5 := n0_; have BK631 := n1_; have HB := n2_; clear n0_ n1_ n2_; (try clear hb); (try clear hb2); (try clear hk); (try clear hi)))
        go_roundg k2
        case measure => have := HK1.out; have := HK2.out; omega
        case rel => exact ⟨(!t634), (Go.bits .and .i64 (wrap64 (x8_2 - 1)) x11_1), (by first | rfl | (simp; done) | (simp [*]; done)), (by first | rfl | (simp; done) | (simp [*]; done)), H', ⟨by have := HK1.out; have := HK2.out; omega⟩, ⟨by (with_reducible repeat (first | apply Kd.R_alloc | apply Kd.R_drewN | apply Kd.R_drew)); exact HO_5.out⟩, ⟨by (with_reducible repeat (first | refine blk_drewN ?_ _ | refine blk_drew ?_ | refine blk_alloc ?_ _)); exact BK631.out⟩, ⟨bv1_ HB GE631⟩⟩
       ·rw [if_neg c12] at H
        have c12b0 : decide (0 < x8_2) = false := decide_eq_false c12
        clear c12
        by_cases c16 : x5_1.length < 17592186044416
        ·rw [if_pos c16] at H
         have LMc16 := Aside0.mk c16
         clear c16
         obtain ⟨y635, hy635⟩ : ∃ y_ : List Int, y_ = (x5_1 ++ [x11_1]) := ⟨_, rfl⟩
         replace H : (impl_Table_blocks.l0 k2 a1 y635 t632 (wrap64 (x11_1 + 1)) a0_0 a0_1) = some r := by first | (rw [hy635]; with_reducible exact H) | (have H2_ := (Option.bind_some _ _).symm.trans H; rw [hy635]; with_reducible exact H2_) | (have H2_ := (Option.bind_some _ _).symm.trans H; with_reducible exact H2_) | with_reducible exact H | (rw [hy635]; exact H) | exact H
         have Ny635 := Aside0.mk hy635
         clear hy635
         have H' := Aside0.mk H
         clear H
         go_wp2_with (first | ((with_reducible refine gate_builtin (b := .append) (xs := #[.tmp 37, .tmp 39]) rfl ?_); at_builtin; refine Kd.R_append (Kd.int .i64) (w0 := w) w.heap.size rfl (.tmp 37) (.tmp 39) 28 3 (.int .i64 0) 8 rfl Try.underlying28 info3 rfl (by decide) (by omega) u5 x5_1 x11_1 [.int .i64 x11_1] (fun _ => True) (fun _ => False) rfl rfl ?aP (fun _ hk => hk.elim) ?aF ?aO ?aB ?aS ?aL ?_; (case aP => exact rfl); (case aB => exact (bv1_ HB GE631)); (case aF => exact (fun _ _ => trivial)); (case aO => exact (rv_ HO_5)); (case aS => exact (below_size (bv1_ HB GE631))); (case aL => have := LMc16.out; omega); intro v636 w17 ho hb hg hat; rw [← Ny635.out] at ho; have n0_ := Aside0.mk (blk_grown (g := gb631) (o := .cells #[.int .i64 a0_0, .int .i64 a0_1] 25 (0, 0)) (kv_ BK631) hg (Kd.R_ne HO_5.out BK631.out (by decide))); have n1_ := Aside0.mk (hb); have n2_ := Aside0.mk (ho); clear BK631; clear HB; clear HO_5; have BK631 := n0_; have HB := n1_; have HO637 := n2_; clear n0_ n1_ n2_; clear ho hb hg hat))
         go_roundg k2
         case measure => have := HK1.out; have := HK2.out; omega
         case rel => exact ⟨(y635), (wrap64 (x11_1 + 1)), (by first | rfl | (simp; done) | (simp [*]; done)), H', ⟨by have := HK1.out; have := HK2.out; omega⟩, ⟨by (with_reducible repeat (first | apply Kd.R_alloc | apply Kd.R_drewN | apply Kd.R_drew)); exact HO637.out⟩, ⟨by (with_reducible repeat (first | refine blk_drewN ?_ _ | refine blk_drew ?_ | refine blk_alloc ?_ _)); exact BK631.out⟩, ⟨bv1_ HB GE631⟩⟩
        ·rw [if_neg c16] at H
         exact absurd H (by simp)
      ·replace c11 := Bool.eq_false_iff.mpr c11
       subst c11
       rw [if_neg (show ¬ (false = true) by decide)] at H
       have H' := Aside0.mk H
       clear H
       go_wp2
       go_roundg k2
       case measure => have := HK1.out; have := HK2.out; omega
       case rel => exact ⟨(x5_1), (wrap64 (x11_1 + 1)), (by first | rfl | (simp; done) | (simp [*]; done)), H', ⟨by have := HK1.out; have := HK2.out; omega⟩, ⟨by (with_reducible repeat (first | apply Kd.R_alloc | apply Kd.R_drewN | apply Kd.R_drew)); exact HO_5.out⟩, ⟨by (with_reducible repeat (first | refine blk_drewN ?_ _ | refine blk_drew ?_ | refine blk_alloc ?_ _)); exact BK631.out⟩, ⟨bv1_ HB GE631⟩⟩
   ·rw [if_neg c7] at H
    have c7b0 : decide (x11_1 < t632) = false := decide_eq_false c7
    clear c7
    obtain rfl := Option.some.inj H
    go_wp2
    go_ret
    exact ⟨_, by first | rfl | (simp [errW_none, errW_some] <;> rfl) | (simp [*, errW_none, errW_some] <;> rfl), by (with_reducible repeat (first | apply Kd.R_alloc | apply Kd.R_drewN | apply Kd.R_drew)); exact HO_5.out, bv1_ HB GE631⟩


/-! ### impl_Table_apart: function 81 -/
mutual
def impl_Table_apart.l0 : Nat → List Int → List Int → Int → Int → Int → Int → Option (Int)
 | 0, _, _, _, _, _, _ => none
 | k + 1, x5, x6, x17, x18, x639000, x639001 => if x18 < x17 then (impl_Table_apart.l1 k x5 x6 x18 x17 x18 x5 (x5.length : Int) 0 x639000 x639001) else ((impl_Table_size.f x639000 x639001).bind fun t646 => (if 0 ≤ (wrap64 (t646 - 1)) then (if (wrap64 (t646 - 1)) < (x6.length : Int) then (some (rd x6 (wrap64 (t646 - 1)))) else (none)) else (none)))
def impl_Table_apart.l1 : Nat → List Int → List Int → Int → Int → Int → List Int → Int → Int → Int → Int → Option (Int)
 | 0, _, _, _, _, _, _, _, _, _, _ => none
 | k + 1, x5, x6, x7, x17, x18, x21, x22, x23, x639000, x639001 => if x23 < x22 then (if 0 ≤ x23 then (if x23 < (x21.length : Int) then (if (Go.bits .andNot .i64 (rd x21 x23) x7) = 0 then (if 0 ≤ x7 then (if x7 < (x6.length : Int) then (if 0 ≤ (Go.bits .andNot .i64 x7 (rd x21 x23)) then (if (Go.bits .andNot .i64 x7 (rd x21 x23)) < (x6.length : Int) then (impl_Table_apart.l1 k x5 (x6.set (x7 : Int).toNat (mx (rd x6 x7) (wrap64 (1 + (rd x6 (Go.bits .andNot .i64 x7 (rd x21 x23))))))) x7 x17 x18 x21 x22 (wrap64 (x23 + 1)) x639000 x639001) else (none)) else (none)) else (none)) else (none)) else (impl_Table_apart.l1 k x5 x6 x7 x17 x18 x21 x22 (wrap64 (x23 + 1)) x639000 x639001)) else (none)) else (none)) else (impl_Table_apart.l0 k x5 x6 x17 (wrap64 (x18 + 1)) x639000 x639001)
end
def impl_Table_apart.f (k : Nat) (a0_0 : Int) (a0_1 : Int) (a1 : Int) : Option (Int) := (impl_Table_blocks.f k a0_0 a0_1 a1).bind fun t639 => ((impl_Table_size.f a0_0 a0_1).bind fun t642 => (if 0 ≤ t642 then (if (t642 : Int).toNat ≤ 35184372088832 then ((some (List.replicate (t642 : Int).toNat 0 : List Int)).bind fun y643 => (impl_Table_apart.l0 k t639 y643 (y643.length : Int) 0 a0_0 a0_1)) else (none)) else (none)))
theorem impl_Table_apart.mono_l : ∀ k, (∀ y0 y1 y2 y3 y4 y5, LeO (impl_Table_apart.l0 k y0 y1 y2 y3 y4 y5) (impl_Table_apart.l0 (k + 1) y0 y1 y2 y3 y4 y5)) ∧ (∀ y0 y1 y2 y3 y4 y5 y6 y7 y8 y9, LeO (impl_Table_apart.l1 k y0 y1 y2 y3 y4 y5 y6 y7 y8 y9) (impl_Table_apart.l1 (k + 1) y0 y1 y2 y3 y4 y5 y6 y7 y8 y9))
 | 0 => ⟨fun _ _ _ _ _ _ r h => by simp [impl_Table_apart.l0] at h, fun _ _ _ _ _ _ _ _ _ _ r h => by simp [impl_Table_apart.l1] at h⟩
 | k + 1 => by
  obtain ⟨ih0, ih1⟩ := impl_Table_apart.mono_l k
  refine ⟨?_, ?_⟩
  ·intro y0 y1 y2 y3 y4 y5
   unfold impl_Table_apart.l0
   repeat' first
   | (with_reducible exact ih0 _ _ _ _ _ _)
   | (with_reducible exact ih1 _ _ _ _ _ _ _ _ _ _)
   | (with_reducible exact impl_Table_blocks.mono _ _ _ _)
   | (with_reducible exact LeO.refl _)
   | (with_reducible exact LeO.none _)
   | (with_reducible refine LeO.ite ?_ ?_)
   | (with_reducible refine LeO.bind ?_ (fun _ => ?_))
   | exact ih0 _ _ _ _ _ _
   | exact ih1 _ _ _ _ _ _ _ _ _ _
   | exact impl_Table_blocks.mono _ _ _ _
   | exact LeO.none _
   | refine LeO.ite ?_ ?_
   | refine LeO.bind ?_ (fun _ => ?_)
  ·intro y0 y1 y2 y3 y4 y5 y6 y7 y8 y9
   unfold impl_Table_apart.l1
   repeat' first
   | (with_reducible exact ih0 _ _ _ _ _ _)
   | (with_reducible exact ih1 _ _ _ _ _ _ _ _ _ _)
   | (with_reducible exact impl_Table_blocks.mono _ _ _ _)
   | (with_reducible exact LeO.refl _)
   | (with_reducible exact LeO.none _)
   | (with_reducible refine LeO.ite ?_ ?_)
   | (with_reducible refine LeO.bind ?_ (fun _ => ?_))
   | exact ih0 _ _ _ _ _ _
   | exact ih1 _ _ _ _ _ _ _ _ _ _
   | exact impl_Table_blocks.mono _ _ _ _
   | exact LeO.none _
   | refine LeO.ite ?_ ?_
   | refine LeO.bind ?_ (fun _ => ?_)
theorem impl_Table_apart.mono : ∀ a0 a1 a2 k, LeO (impl_Table_apart.f k a0 a1 a2) (impl_Table_apart.f (k + 1) a0 a1 a2) := by
 intro a0 a1 a2 k
 obtain ⟨ih0, ih1⟩ := impl_Table_apart.mono_l k
 unfold impl_Table_apart.f
 repeat' first
   | (with_reducible exact ih0 _ _ _ _ _ _)
   | (with_reducible exact ih1 _ _ _ _ _ _ _ _ _ _)
   | (with_reducible exact impl_Table_blocks.mono _ _ _ _)
   | (with_reducible exact LeO.refl _)
   | (with_reducible exact LeO.none _)
   | (with_reducible refine LeO.ite ?_ ?_)
   | (with_reducible refine LeO.bind ?_ (fun _ => ?_))
   | exact ih0 _ _ _ _ _ _
   | exact ih1 _ _ _ _ _ _ _ _ _ _
   | exact impl_Table_blocks.mono _ _ _ _
   | exact LeO.none _
   | refine LeO.ite ?_ ?_
   | refine LeO.bind ?_ (fun _ => ?_)
def impl_Table_apart.T10 : Bool × List (List Nat × List Nat) := (true, [([], []), ([], []), ([], []), ([], []), ([2, 3], [2, 3]), ([4], [4]), ([], []), ([], []), ([], []), ([7, 8], [7, 8]), ([6, 9], [6, 9]), ([10], [10]), ([11], [11]), ([5, 12], [5, 12]), ([0, 1, 0, 1, 2, 3, 4, 5, 6, 7, 8, 9, 10, 11, 12, 13], [0, 1]), ([14, 13, 0, 1, 2, 3, 4, 5, 6, 7, 8, 9, 10, 11, 12, 13], [13, 14])])
def impl_Table_apart.B10 : List Nat := [0, 0, 0, 0, 12, 28, 0, 0, 0, 384, 960, 1984, 4032, 8188, 16383, 32767]
theorem impl_Table_apart.tab10 : rtab .any (opsOf Try.f81 10) = impl_Table_apart.T10 := by kernel_rfl
theorem impl_Table_apart.bits10 : waitsOk impl_Table_apart.T10.2 impl_Table_apart.B10 = true := by kernel_rfl
set_option maxHeartbeats 8000000 in
set_option maxRecDepth 100000 in
theorem impl_Table_apart.calls (k : Nat) (a0_0 : Int) (a0_1 : Int) (a1 : Int) (r : Int) (w : World) (h : impl_Table_apart.f k a0_0 a0_1 a1 = some r) :
  Calls Try.prog 81 #[.agg #[.int .i64 a0_0, .int .i64 a0_1], .int .i64 a1] w fun e w' => e = .returned (.int .i64 r) ∧ Below w.heap.size w w' := by
 have hu25 := Try.underlying25
 have HB := Aside0.mk (Below.refl w.heap.size w)
 have H : ((impl_Table_blocks.f k a0_0 a0_1 a1).bind fun t639 => ((impl_Table_size.f a0_0 a0_1).bind fun t642 => (if 0 ≤ t642 then (if (t642 : Int).toNat ≤ 35184372088832 then ((some (List.replicate (t642 : Int).toNat 0 : List Int)).bind fun y643 => (impl_Table_apart.l0 k t639 y643 (y643.length : Int) 0 a0_0 a0_1)) else (none)) else (none)))) = some r := h
 clear h
 replace H := Option.bind_eq_some_iff.mp H
 obtain ⟨t639, A30, H⟩ := H
 have A3 := Aside0.mk A30
 clear A30
 replace H := Option.bind_eq_some_iff.mp H
 obtain ⟨t642, A40, H⟩ := H
 have A4 := Aside0.mk A40
 clear A40
 by_cases c5 : 0 ≤ t642
 ·rw [if_pos c5] at H
  have c5b0 := eq_true c5
  have c5b1 : decide (0 ≤ t642) = true := decide_eq_true c5
  clear c5
  by_cases c6 : (t642 : Int).toNat ≤ 35184372088832
  ·rw [if_pos c6] at H
   have c6b0 := eq_true c6
   have c6b1 : decide ((t642 : Int).toNat ≤ 35184372088832) = true := decide_eq_true c6
   clear c6
   obtain ⟨y643, hy643⟩ : ∃ y_ : List Int, y_ = (List.replicate (t642 : Int).toNat 0) := ⟨_, rfl⟩
   replace H : (impl_Table_apart.l0 k t639 y643 (y643.length : Int) 0 a0_0 a0_1) = some r := by first | (rw [hy643]; with_reducible exact H) | (have H2_ := (Option.bind_some _ _).symm.trans H; rw [hy643]; with_reducible exact H2_) | (have H2_ := (Option.bind_some _ _).symm.trans H; with_reducible exact H2_) | with_reducible exact H | (rw [hy643]; exact H) | exact H
   have Ny643 := Aside0.mk hy643
   clear hy643
   have H' := Aside0.mk H
   clear H
   go_enter Try.func81, Try.ntmps81
   go_wp2_with (first | ((with_reducible refine gate_dst (N := 2) rfl ?_); refine bx_ 2 #[.int .i64 a0_0, .int .i64 a0_1] 25 ?_; intro gb638 hg w7 hbox hb; have BK638 := Aside0.mk (hbox); have GW638 := gw_ hg (below_size (bv_ HB)); have GE638 := GW638; replace HB := Aside0.mk (below_step (bv_ HB) hb); clear hb hbox hg; obtain ⟨hcz8_0, hcz8_1, hfz8_0, hfz8_1⟩ := c2_ BK638) | ((with_reducible refine gate_callee (f := 83) rfl ?_); refine gl_ 12 Try.func83 #[.agg #[.int .i64 a0_0, .int .i64 a0_1], .int .i64 a1] rfl mp_ ?_; (with_reducible refine (impl_Table_blocks.calls k a0_0 a0_1 a1 t639 _ A3.out).mono ?_); rintro e w9 ⟨v640, rfl, ho0, hb⟩; refine ⟨_, rfl, ?_⟩; have HO641 := Aside0.mk (Kd.R_lower ho0 (below_size (bv1_ HB GE638))); replace BK638 := kb_ BK638 hb; replace HB := Aside0.mk (below_step (bv1_ HB GE638) hb); (try clear hb); (try clear hb2); (try clear hk); (try clear hi); (try clear ho0); obtain ⟨hcz10_0, hcz10_1, hfz10_0, hfz10_1⟩ := c2_ BK638) | ((with_reducible refine gate_callee (f := 65) rfl ?_); refine gl_ 14 Try.func65 #[.agg #[.int .i64 a0_0, .int .i64 a0_1]] rfl mp_ ?_; (with_reducible refine (impl_Table_size.calls a0_0 a0_1 t642 _ A4.out).mono ?_); rintro e w11 ⟨rfl, hb⟩; refine ⟨_, rfl, ?_⟩; replace HO641 := Aside0.mk (Kd.R_below (rv_ HO641) hb); replace BK638 := kb_ BK638 hb; replace HB := Aside0.mk (below_step (bv1_ HB GE638) hb); (try clear hb); (try clear hb2); (try clear hk); (try clear hi)) | ((with_reducible refine gate_dst (N := 15) rfl ?_); refine Kd.R_make (Kd.int .i64) _ 3 rfl (N := 15) rfl 28 _ _ rfl t642 rfl rfl Try.underlying28 (.int .i64 0) 8 info3 rfl (by decide) (by omega) 0 (ok := fun _ => True) (okp := fun _ => True) rfl (fun _ hk => hk) trivial (of_decide_eq_true (by first | (with_reducible assumption) | assumption)) (Nat.le_trans (Nat.mul_le_mul_right _ (of_decide_eq_true (by first | (with_reducible assumption) | assumption) : t642.toNat ≤ 35184372088832)) (by omega)) (Below.refl _ _) (Nat.le_refl _) ?_; intro v644 w12 ho13 hb hg_ hnew_; clear hg_ hnew_; (first | rw [← Ny643.out] at ho13 | (simp only [Int.reduceToNat] at ho13; rw [← Ny643.out] at ho13)); have HO645 := Aside0.mk (Kd.R_lower (Kd.R_new' ho13 (Kd.R_lt (rv_ HO641))) (below_size (bv1_ HB GE638))); replace HO641 := Aside0.mk (Kd.R_elder' (rv_ HO641) (Kd.R_base ho13) hb); replace BK638 := kb_ BK638 hb; replace HB := Aside0.mk (below_step (bv1_ HB GE638) hb); clear hb ho13; obtain ⟨Ao14, co14, eo14⟩ := Kd.R_slice HO645.out; subst eo14))
   go_loopg [18] k (fun kq v18 w' => ∃ (x6_1 : List Int) (x18_1 : Int), v18 = .int .i64 x18_1 ∧ Aside0 (impl_Table_apart.l0 kq t639 x6_1 (y643.length : Int) x18_1 a0_0 a0_1 = some r) ∧ Aside0 (kq ≤ k) ∧ Aside0 (Kd.R (Kd.int .i64) 3 w' w.heap.size (fun k_ => some k_ ≠ ((.slice Ao14 y643.length co14) : Value).ownBlock) v640 t639) ∧ Aside0 (Kd.R (Kd.int .i64) 3 w' w.heap.size (fun k_ => some k_ ≠ (v640 : Value).ownBlock) (.slice Ao14 y643.length co14) x6_1) ∧ Aside0 (w'.heap[gb638]? = some (.cells #[.int .i64 a0_0, .int .i64 a0_1] 25 (0, 0))) ∧ Aside0 (Below w.heap.size w w'))
   case atStart => exact ⟨(y643), (0), (by first | rfl | (simp; done) | (simp [*]; done)), H', ⟨Nat.le_refl _⟩, ⟨by (with_reducible repeat (first | apply Kd.R_alloc | apply Kd.R_drewN | apply Kd.R_drew)); exact Kd.R_mono HO641.out (fun _ hk => hk.2)⟩, ⟨by (with_reducible repeat (first | apply Kd.R_alloc | apply Kd.R_drewN | apply Kd.R_drew)); exact Kd.R_mono HO645.out (fun _ hk => hk.2)⟩, ⟨by (with_reducible repeat (first | refine blk_drewN ?_ _ | refine blk_drew ?_ | refine blk_alloc ?_ _)); exact BK638.out⟩, ⟨bv1_ HB GE638⟩⟩
   case round =>
    clear H'
    try clear p2
    try clear c5
    try clear c5b0
    try clear c5b1
    try clear c6
    try clear c6b0
    try clear c6b1
    try clear c8
    try clear hcz10_0
    try clear hcz10_1
    try clear hcz8_0
    try clear hcz8_1
    try clear hfz10_0
    try clear hfz10_1
    try clear hfz8_0
    try clear hfz8_1
    obtain ⟨x6_1, x18_1, rfl, HA, HK1, HO_5, HO_6, BK638, HB⟩ := hrel
    have hl6_1 := (Kd.R_reads' HO_6.out).1
    rw [hl6_1] at HO_6
    (try simp only [hl6_1])
    (try simp only [hl6_1] at BK638)
    (try simp only [hl6_1] at HO_5)
    cases gk with
    | zero => exact absurd HA.out (by simp [impl_Table_apart.l0])
    | succ k1 =>
     have H := HA.out
     clear HA
     simp only [impl_Table_apart.l0] at H
     by_cases c15 : x18_1 < (y643.length : Int)
     ·rw [if_pos c15] at H
      have c15b0 : decide (x18_1 < (y643.length : Int)) = true := decide_eq_true c15
      (try simp only [hl6_1] at c15b0)
      clear c15
      have H' := Aside0.mk H
      clear H
      obtain ⟨Ao16, co16, eo16⟩ := Kd.R_slice HO_5.out
      subst eo16
      go_wp2
      go_loopg [23] k1 (fun kq v23 w' => ∃ (x6_2 : List Int) (x23_2 : Int), v23 = .int .i64 x23_2 ∧ Aside0 (impl_Table_apart.l1 kq t639 x6_2 x18_1 (y643.length : Int) x18_1 t639 (t639.length : Int) x23_2 a0_0 a0_1 = some r) ∧ Aside0 (kq ≤ k1) ∧ Aside0 (Kd.R (Kd.int .i64) 3 w' w.heap.size (fun k_ => some k_ ≠ ((.slice Ao14 x6_1.length co14) : Value).ownBlock) (.slice Ao16 t639.length co16) t639) ∧ Aside0 (Kd.R (Kd.int .i64) 3 w' w.heap.size (fun k_ => some k_ ≠ ((.slice Ao16 t639.length co16) : Value).ownBlock ∧ some k_ ≠ ((.slice Ao16 t639.length co16) : Value).ownBlock) (.slice Ao14 x6_1.length co14) x6_2) ∧ Aside0 (Kd.R (Kd.int .i64) 3 w' w.heap.size (fun k_ => some k_ ≠ ((.slice Ao14 x6_1.length co14) : Value).ownBlock) (.slice Ao16 t639.length co16) t639) ∧ Aside0 (w'.heap[gb638]? = some (.cells #[.int .i64 a0_0, .int .i64 a0_1] 25 (0, 0))) ∧ Aside0 (Below w.heap.size w w'))
      case atStart => exact ⟨(x6_1), (0), (by first | rfl | (simp; done) | (simp [*]; done)), H', ⟨Nat.le_refl _⟩, ⟨by (try simp only [hl6_1]); (with_reducible repeat (first | apply Kd.R_alloc | apply Kd.R_drewN | apply Kd.R_drew)); exact HO_5.out⟩, ⟨by (try simp only [hl6_1]); (with_reducible repeat (first | apply Kd.R_alloc | apply Kd.R_drewN | apply Kd.R_drew)); exact Kd.R_mono HO_6.out (fun _ hk => ⟨hk, hk⟩)⟩, ⟨by (try simp only [hl6_1]); (with_reducible repeat (first | apply Kd.R_alloc | apply Kd.R_drewN | apply Kd.R_drew)); exact HO_5.out⟩, ⟨by (try simp only [hl6_1]); (with_reducible repeat (first | refine blk_drewN ?_ _ | refine blk_drew ?_ | refine blk_alloc ?_ _)); exact BK638.out⟩, ⟨bv1_ HB GE638⟩⟩
      case round =>
       clear H'
       try clear c1
       try clear p2
       try clear c5
       try clear c5b0
       try clear c5b1
       try clear c6
       try clear c6b0
       try clear c6b1
       try clear c8
       try clear c15
       try clear c15b0
       try clear hcz10_0
       try clear hcz10_1
       try clear hcz8_0
       try clear hcz8_1
       try clear hfz10_0
       try clear hfz10_1
       try clear hfz8_0
       try clear hfz8_1
       try clear p2
       obtain ⟨x6_2, x23_2, rfl, HA, HK2, HO_5, HO_6, HO_21, BK638, HB⟩ := hrel
       have hl6_2 := (Kd.R_reads' HO_6.out).1
       rw [hl6_2] at HO_6
       (try simp only [hl6_2])
       (try simp only [hl6_2] at BK638)
       (try simp only [hl6_2] at HO_5)
       (try simp only [hl6_2] at HO_21)
       cases gk with
       | zero => exact absurd HA.out (by simp [impl_Table_apart.l1])
       | succ k2 =>
        have H := HA.out
        clear HA
        simp only [impl_Table_apart.l1] at H
        by_cases c17 : x23_2 < (t639.length : Int)
        ·rw [if_pos c17] at H
         have c17b0 : decide (x23_2 < (t639.length : Int)) = true := decide_eq_true c17
         (try simp only [hl6_1] at c17b0)
         (try simp only [hl6_2] at c17b0)
         clear c17
         by_cases c18 : 0 ≤ x23_2
         ·rw [if_pos c18] at H
          have c18b0 : decide (0 ≤ x23_2) = true := decide_eq_true c18
          (try simp only [hl6_1] at c18b0)
          (try simp only [hl6_2] at c18b0)
          clear c18
          by_cases c19 : x23_2 < (t639.length : Int)
          ·rw [if_pos c19] at H
           have c19b0 : decide (x23_2 < (t639.length : Int)) = true := decide_eq_true c19
           (try simp only [hl6_1] at c19b0)
           (try simp only [hl6_2] at c19b0)
           clear c19
           by_cases c20 : (Go.bits .andNot .i64 (rd t639 x23_2) x18_1) = 0
           ·rw [if_pos c20] at H
            have c20b0 : ((Go.bits .andNot .i64 (rd t639 x23_2) x18_1) == 0) = true := beq_iff_eq.mpr c20
            have c20b1 : ((Go.bits .andNot .i64 (rd t639 x23_2) x18_1) != 0) = false := bne_eq_false_iff_eq.mpr c20
            clear c20
            by_cases c21 : 0 ≤ x18_1
            ·rw [if_pos c21] at H
             have c21b0 : decide (0 ≤ x18_1) = true := decide_eq_true c21
             (try simp only [hl6_1] at c21b0)
             (try simp only [hl6_2] at c21b0)
             clear c21
             by_cases c22 : x18_1 < (x6_2.length : Int)
             ·rw [if_pos c22] at H
              have c22b0 : decide (x18_1 < (x6_2.length : Int)) = true := decide_eq_true c22
              (try simp only [hl6_1] at c22b0)
              (try simp only [hl6_2] at c22b0)
              clear c22
              by_cases c23 : 0 ≤ (Go.bits .andNot .i64 x18_1 (rd t639 x23_2))
              ·rw [if_pos c23] at H
               have c23b0 : decide (0 ≤ (Go.bits .andNot .i64 x18_1 (rd t639 x23_2))) = true := decide_eq_true c23
               (try simp only [hl6_1] at c23b0)
               (try simp only [hl6_2] at c23b0)
               clear c23
               by_cases c24 : (Go.bits .andNot .i64 x18_1 (rd t639 x23_2)) < (x6_2.length : Int)
               ·rw [if_pos c24] at H
                have c24b0 : decide ((Go.bits .andNot .i64 x18_1 (rd t639 x23_2)) < (x6_2.length : Int)) = true := decide_eq_true c24
                (try simp only [hl6_1] at c24b0)
                (try simp only [hl6_2] at c24b0)
                clear c24
                obtain ⟨ji25, hji25⟩ : ∃ j_ : Int, (mx (rd x6_2 x18_1) (wrap64 (1 + (rd x6_2 (Go.bits .andNot .i64 x18_1 (rd t639 x23_2)))))) = j_ := ⟨_, rfl⟩
                replace H : (impl_Table_apart.l1 k2 t639 (x6_2.set (x18_1 : Int).toNat (ji25)) x18_1 (y643.length : Int) x18_1 t639 (t639.length : Int) (wrap64 (x23_2 + 1)) a0_0 a0_1) = some r := by first | (rw [hji25] at H; exact H) | (simp only [hji25] at H ⊢; exact H)
                have hji25_ : (if (rd x6_2 x18_1) < (wrap64 (1 + (rd x6_2 (Go.bits .andNot .i64 x18_1 (rd t639 x23_2))))) then (wrap64 (1 + (rd x6_2 (Go.bits .andNot .i64 x18_1 (rd t639 x23_2))))) else (rd x6_2 x18_1)) = ji25 := hji25
                obtain ⟨y651, hy651⟩ : ∃ y_ : List Int, y_ = (x6_2.set (x18_1 : Int).toNat (ji25)) := ⟨_, rfl⟩
                replace H : (impl_Table_apart.l1 k2 t639 y651 x18_1 (y643.length : Int) x18_1 t639 (t639.length : Int) (wrap64 (x23_2 + 1)) a0_0 a0_1) = some r := by first | (rw [hy651]; with_reducible exact H) | (have H2_ := (Option.bind_some _ _).symm.trans H; rw [hy651]; with_reducible exact H2_) | (have H2_ := (Option.bind_some _ _).symm.trans H; with_reducible exact H2_) | with_reducible exact H | (rw [hy651]; exact H) | exact H
                have Ny651 := Aside0.mk hy651
                clear hy651
                have H' := Aside0.mk H
                clear H
                have p648 : 0 ≤ (x23_2 : Int) := of_decide_eq_true (by first | (with_reducible assumption) | assumption)
                have q648 : x23_2 < (t639.length : Int) := of_decide_eq_true (by first | (with_reducible assumption) | assumption)
                obtain ⟨ad648, e648, hx648_0⟩ := Kd.at_int (Kd.R_reads' HO_21.out).2.2 x23_2 p648 q648
                cases e648
                replace p648 := eq_true p648
                replace q648 := eq_true q648
                try go_wp2
                replace HO_5 := Aside0.mk (Kd.R_drew HO_5.out)
                replace HO_6 := Aside0.mk (Kd.R_drew HO_6.out)
                replace HO_21 := Aside0.mk (Kd.R_drew HO_21.out)
                replace BK638 := Aside0.mk (blk_drew BK638.out)
                replace HB := Aside0.mk (below_drew1 HB.out)
                have p649 : 0 ≤ (x18_1 : Int) := of_decide_eq_true (by first | (with_reducible assumption) | assumption)
                have q649 : x18_1 < (x6_2.length : Int) := of_decide_eq_true (by first | (with_reducible assumption) | assumption)
                obtain ⟨ad649, e649, hx649_0⟩ := Kd.at_int (Kd.R_reads' HO_6.out).2.2 x18_1 p649 q649
                cases e649
                replace p649 := eq_true p649
                replace q649 := eq_true q649
                have p650 : 0 ≤ ((Go.bits .andNot .i64 x18_1 (rd t639 x23_2)) : Int) := of_decide_eq_true (by first | (with_reducible assumption) | assumption)
                have q650 : (Go.bits .andNot .i64 x18_1 (rd t639 x23_2)) < (x6_2.length : Int) := of_decide_eq_true (by first | (with_reducible assumption) | assumption)
                obtain ⟨ad650, e650, hx650_0⟩ := Kd.at_int (Kd.R_reads' HO_6.out).2.2 (Go.bits .andNot .i64 x18_1 (rd t639 x23_2)) p650 q650
                obtain rfl : ad649 = ad650 := (by injection e650)
                replace p650 := eq_true p650
                replace q650 := eq_true q650
                have p26 : 0 ≤ (x18_1 : Int) := of_decide_eq_true (by first | (with_reducible assumption) | assumption)
                have q26 : (x18_1 : Int) < ((x6_2.length : Int) : Int) := of_decide_eq_true (by first | (with_reducible assumption) | assumption)
                obtain ⟨go26, co26, eo26, gb26, gl26, cl26, HG26⟩ := Kd.R_form HO_6.out (by omega)
                (first | cases eo26 | (injection eo26 with ea_ en_ ec_; (first | subst ea_ | (injection ea_ with ea_; subst ea_)); subst ec_; clear en_))
                have GB26 := Aside0.mk gb26
                have GG26 := Aside0.mk HG26
                clear gb26 gl26 HG26
                (first | simp only [add_plain] at hx649_0 | skip)
                (first | simp only [add_plain] at hx650_0 | skip)
                obtain ⟨hx26_0, hf26_0⟩ := Kd.R_celln 0 HO_6.out (x18_1 : Int) p26 q26
                replace p26 := eq_true p26
                replace q26 := eq_true q26
                have HP28 := Kd.R_putn HO_6.out (x18_1 : Int) ji25
                rw [← Ny651.out] at HP28
                have HQ28 := Aside0.mk HP28
                clear HP28
                refine start_ (n := 16) (S := fun w' => w'.cell? ⟨go26, (x18_1).toNat, none⟩ = some (.int .i64 (rd x6_2 x18_1)) ∧ w'.cell? ⟨go26, ((Go.bits .andNot .i64 x18_1 (rd t639 x23_2))).toNat, none⟩ = some (.int .i64 (rd x6_2 (Go.bits .andNot .i64 x18_1 (rd t639 x23_2))))) (ds := [15]) (bs 16 0) (by kernel_rfl) rfl (by kernel_rfl) ⟨hx649_0, hx650_0⟩ (fun hHeld => ?_); refine with_tabW impl_Table_apart.tab10 impl_Table_apart.bits10 (fun HT_ HW_ => ?_)
                generalize wr.drew = w27 at HO_5 HO_6 HO_21 BK638 HB GG26 HQ28 hf26_0 hx26_0 hx649_0 hx650_0 hHeld ⊢
                refine pu_ HT_ 0 31 (bs 16 1) ?_
                refine pu_ HT_ 1 32 (bs 16 3) ?_
                refine pu_ HT_ 2 33 (bs 16 7) ?_
                refine pu_ HT_ 3 34 (bs 16 15) ?_
                refine pu_ HT_ 4 35 (bs 16 31) ?_
                refine pu_ HT_ 6 37 (bs 16 95) ?_
                refine pu_ HT_ 7 38 (bs 16 223) ?_
                refine pu_ HT_ 8 39 (bs 16 479) ?_
                refine pu_ HT_ 9 40 (bs 16 991) ?_
                refine pu_ HT_ 10 41 (bs 16 2015) ?_
                refine ta2_ HT_ HW_ 5 36 (bs 16 2047) hHeld ?_
                refine ta2_ HT_ HW_ 11 42 (bs 16 4095) hHeld ?_
                refine pu_ HT_ 12 43 (bs 16 8191) ?_
                refine pu_ HT_ 13 44 (bs 16 16383) ?_
                refine pu_ HT_ 14 45 (bs 16 32767) ?_
                refine last_ (i := 15) (N := none) (bs 16 65535) rfl rfl (one_of HT_.out (by kernel_rfl)) (by decide) (fun K hK => ?_)
                refine skip_ (w1 := ?_) (by rfl) rfl ?_ ?_
                rotate_left
                ·go_simp
                 rfl
                refine hK.out _ _ ?_
                clear hK K
                refine done_ (done_of HT_.out (by kernel_rfl)) ?_
                try go_wp2
                (try simp only [← hl6_2])
                go_roundg k2
                case measure => have := HK1.out; have := HK2.out; omega
                case rel => exact ⟨(y651), (wrap64 (x23_2 + 1)), (by first | rfl | (simp; done) | (simp [*]; done)), H', ⟨by have := HK1.out; have := HK2.out; omega⟩, ⟨by (try simp only [hl6_1]); (try simp only [hl6_2]); (with_reducible repeat (first | apply Kd.R_alloc | apply Kd.R_drewN | apply Kd.R_drew)); exact Kd.R_mono (Kd.R_far (p := ⟨go26, (x18_1 : Int).toNat, none⟩) (Kd.R_mono HO_5.out (fun k_ hk => (⟨hk, fun e_ => hk (by rw [e_]; rfl)⟩ : _ ∧ k_ ≠ go26))) (fun _ hk => hk.2) (.int .i64 ji25)) (fun _ hk => hk.1)⟩, ⟨by (try simp only [hl6_1]); (try simp only [hl6_2]); (with_reducible repeat (first | apply Kd.R_alloc | apply Kd.R_drewN | apply Kd.R_drew)); exact HQ28.out⟩, ⟨by (try simp only [hl6_1]); (try simp only [hl6_2]); (with_reducible repeat (first | apply Kd.R_alloc | apply Kd.R_drewN | apply Kd.R_drew)); exact Kd.R_mono (Kd.R_far (p := ⟨go26, (x18_1 : Int).toNat, none⟩) (Kd.R_mono HO_21.out (fun k_ hk => (⟨hk, fun e_ => hk (by rw [e_]; rfl)⟩ : _ ∧ k_ ≠ go26))) (fun _ hk => hk.2) (.int .i64 ji25)) (fun _ hk => hk.1)⟩, ⟨by (try simp only [hl6_1]); (try simp only [hl6_2]); (with_reducible repeat (first | refine blk_drewN ?_ _ | refine blk_drew ?_ | refine blk_alloc ?_ _)); refine blk_far ?_ (by have h_ := Kd.R_ne HO_6.out BK638.out (by decide); intro e_; exact h_ (by rw [e_]; rfl)) _; (with_reducible repeat (first | refine blk_drewN ?_ _ | refine blk_drew ?_ | refine blk_alloc ?_ _)); exact BK638.out⟩, ⟨bv2_ HB GB26 GE638⟩⟩
               ·rw [if_neg c24] at H
                exact absurd H (by simp)
              ·rw [if_neg c23] at H
               exact absurd H (by simp)
             ·rw [if_neg c22] at H
              exact absurd H (by simp)
            ·rw [if_neg c21] at H
             exact absurd H (by simp)
           ·rw [if_neg c20] at H
            have c20b0 : ((Go.bits .andNot .i64 (rd t639 x23_2) x18_1) == 0) = false := beq_eq_false_iff_ne.mpr c20
            have c20b1 : ((Go.bits .andNot .i64 (rd t639 x23_2) x18_1) != 0) = true := bne_iff_ne.mpr c20
            have H' := Aside0.mk H
            clear H
            have p648 : 0 ≤ (x23_2 : Int) := of_decide_eq_true (by first | (with_reducible assumption) | assumption)
            have q648 : x23_2 < (t639.length : Int) := of_decide_eq_true (by first | (with_reducible assumption) | assumption)
            obtain ⟨ad648, e648, hx648_0⟩ := Kd.at_int (Kd.R_reads' HO_21.out).2.2 x23_2 p648 q648
            cases e648
            replace p648 := eq_true p648
            replace q648 := eq_true q648
            go_wp2
            (try simp only [← hl6_2])
            go_roundg k2
            case measure => have := HK1.out; have := HK2.out; omega
            case rel => exact ⟨(x6_2), (wrap64 (x23_2 + 1)), (by first | rfl | (simp; done) | (simp [*]; done)), H', ⟨by have := HK1.out; have := HK2.out; omega⟩, ⟨by (try simp only [hl6_1]); (try simp only [hl6_2]); (with_reducible repeat (first | apply Kd.R_alloc | apply Kd.R_drewN | apply Kd.R_drew)); exact HO_5.out⟩, ⟨by (try simp only [hl6_1]); (try simp only [hl6_2]); (with_reducible repeat (first | apply Kd.R_alloc | apply Kd.R_drewN | apply Kd.R_drew)); exact HO_6.out⟩, ⟨by (try simp only [hl6_1]); (try simp only [hl6_2]); (with_reducible repeat (first | apply Kd.R_alloc | apply Kd.R_drewN | apply Kd.R_drew)); exact HO_21.out⟩, ⟨by (try simp only [hl6_1]); (try simp only [hl6_2]); (with_reducible repeat (first | refine blk_drewN ?_ _ | refine blk_drew ?_ | refine blk_alloc ?_ _)); exact BK638.out⟩, ⟨bv1_ HB GE638⟩⟩
          ·rw [if_neg c19] at H
           exact absurd H (by simp)
         ·rw [if_neg c18] at H
          exact absurd H (by simp)
        ·rw [if_neg c17] at H
         have c17b0 : decide (x23_2 < (t639.length : Int)) = false := decide_eq_false c17
         (try simp only [hl6_1] at c17b0)
         (try simp only [hl6_2] at c17b0)
         clear c17
         have H' := Aside0.mk H
         clear H
         go_wp2
         (try simp only [← hl6_1, ← hl6_2])
         go_roundg k2
         case measure => have := HK1.out; have := HK2.out; omega
         case rel => exact ⟨(x6_2), (wrap64 (x18_1 + 1)), (by first | rfl | (simp; done) | (simp [*]; done)), H', ⟨by have := HK1.out; have := HK2.out; omega⟩, ⟨by (try simp only [hl6_1]); (try simp only [hl6_2]); (with_reducible repeat (first | apply Kd.R_alloc | apply Kd.R_drewN | apply Kd.R_drew)); exact HO_5.out⟩, ⟨by (try simp only [hl6_1]); (try simp only [hl6_2]); (with_reducible repeat (first | apply Kd.R_alloc | apply Kd.R_drewN | apply Kd.R_drew)); exact Kd.R_mono HO_6.out (fun _ hk => hk.1)⟩, ⟨by (try simp only [hl6_1]); (try simp only [hl6_2]); (with_reducible repeat (first | refine blk_drewN ?_ _ | refine blk_drew ?_ | refine blk_alloc ?_ _)); exact BK638.out⟩, ⟨bv1_ HB GE638⟩⟩
     ·rw [if_neg c15] at H
      have c15b0 : decide (x18_1 < (y643.length : Int)) = false := decide_eq_false c15
      (try simp only [hl6_1] at c15b0)
      clear c15
      replace H := Option.bind_eq_some_iff.mp H
      obtain ⟨t646, A290, H⟩ := H
      have A29 := Aside0.mk A290
      clear A290
      obtain ⟨ji30, hji30⟩ : ∃ j_ : Int, (wrap64 (t646 - 1)) = j_ := ⟨_, rfl⟩
      replace H : (if 0 ≤ (ji30) then (if (ji30) < (x6_1.length : Int) then (some (rd x6_1 (ji30))) else (none)) else (none)) = some r := by first | (rw [hji30] at H; exact H) | (simp only [hji30] at H ⊢; exact H)
      (try rw [hji30] at A29)
      have hji30w : (IntKind.i64.wrap (t646 - 1)) = ji30 := (i64_w _).trans hji30
      by_cases c31 : 0 ≤ (ji30)
      ·rw [if_pos c31] at H
       have c31b0 : decide (0 ≤ (ji30)) = true := decide_eq_true c31
       (try simp only [hl6_1] at c31b0)
       clear c31
       by_cases c32 : (ji30) < (x6_1.length : Int)
       ·rw [if_pos c32] at H
        have c32b0 : decide ((ji30) < (x6_1.length : Int)) = true := decide_eq_true c32
        (try simp only [hl6_1] at c32b0)
        clear c32
        obtain rfl := Option.some.inj H
        obtain ⟨hcz33_0, hcz33_1, hfz33_0, hfz33_1⟩ := c2_ BK638
        go_wp2_with (first | ((with_reducible refine gate_callee (f := 65) rfl ?_); refine gl_ 50 Try.func65 #[.agg #[.int .i64 a0_0, .int .i64 a0_1]] rfl mp_ ?_; (with_reducible refine (impl_Table_size.calls a0_0 a0_1 t646 _ A29.out).mono ?_); rintro e w34 ⟨rfl, hb⟩; refine ⟨_, rfl, ?_⟩; have n0_ := Aside0.mk (Kd.R_below (rv_ HO_5) hb); have n1_ := Aside0.mk (Kd.R_below (rv_ HO_6) hb); have n2_ := kb_ BK638 hb; have n3_ := Aside0.mk (below_step (bv1_ HB GE638) hb); clear HO_5; clear HO_6; clear BK638; clear HB; have HO_5 := n0_; have HO_6 := n1_; have BK638 := n2_; have HB := n3_; clear n0_ n1_ n2_ n3_; (try clear hb); (try clear hb2); (try clear hk); (try clear hi); have p647 : 0 ≤ ((ji30) : Int) := of_decide_eq_true (by first | (with_reducible assumption) | assumption); have q647 : (ji30) < (x6_1.length : Int) := of_decide_eq_true (by first | (with_reducible assumption) | assumption); obtain ⟨ad647, e647, hx647_0⟩ := Kd.at_int (Kd.R_reads' HO_6.out).2.2 (ji30) p647 q647; cases e647; replace p647 := eq_true p647; replace q647 := eq_true q647))
        go_ret
        exact ⟨by first | rfl | (simp [errW_none, errW_some] <;> rfl) | (simp only [← hji30]; first | rfl | (simp [errW_none, errW_some] <;> rfl)) | (simp [*, errW_none, errW_some] <;> rfl), bv1_ HB GE638⟩
       ·rw [if_neg c32] at H
        exact absurd H (by simp)
      ·rw [if_neg c31] at H
       exact absurd H (by simp)
  ·rw [if_neg c6] at H
   exact absurd H (by simp)
 ·rw [if_neg c5] at H
  exact absurd H (by simp)


/-! ### impl_BlockSensitivityAt: function 29 -/
def impl_BlockSensitivityAt.f (k : Nat) (a0_0 : Int) (a0_1 : Int) (a1 : Int) : Option (Int) := (impl_hasInput.f a0_0 a0_1 a1).bind fun t653 => (if t653 = true then ((impl_Table_apart.f k a0_0 a0_1 a1).bind fun t654 => (some t654)) else (some (-1)))
theorem impl_BlockSensitivityAt.mono : ∀ a0 a1 a2 k, LeO (impl_BlockSensitivityAt.f k a0 a1 a2) (impl_BlockSensitivityAt.f (k + 1) a0 a1 a2) := by
 intro a0 a1 a2 k
 unfold impl_BlockSensitivityAt.f
 repeat' first
   | (with_reducible exact impl_Table_apart.mono _ _ _ _)
   | (with_reducible exact LeO.refl _)
   | (with_reducible exact LeO.none _)
   | (with_reducible refine LeO.ite ?_ ?_)
   | (with_reducible refine LeO.bind ?_ (fun _ => ?_))
   | exact impl_Table_apart.mono _ _ _ _
   | exact LeO.none _
   | refine LeO.ite ?_ ?_
   | refine LeO.bind ?_ (fun _ => ?_)
set_option maxHeartbeats 8000000 in
set_option maxRecDepth 100000 in
theorem impl_BlockSensitivityAt.calls (k : Nat) (a0_0 : Int) (a0_1 : Int) (a1 : Int) (r : Int) (w : World) (h : impl_BlockSensitivityAt.f k a0_0 a0_1 a1 = some r) :
  Calls Try.prog 29 #[.agg #[.int .i64 a0_0, .int .i64 a0_1], .int .i64 a1] w fun e w' => e = .returned (.int .i64 r) ∧ Below w.heap.size w w' := by
 have hu25 := Try.underlying25
 have HB := Aside0.mk (Below.refl w.heap.size w)
 have H : ((impl_hasInput.f a0_0 a0_1 a1).bind fun t653 => (if t653 = true then ((impl_Table_apart.f k a0_0 a0_1 a1).bind fun t654 => (some t654)) else (some (-1)))) = some r := h
 clear h
 replace H := Option.bind_eq_some_iff.mp H
 obtain ⟨t653, A30, H⟩ := H
 have A3 := Aside0.mk A30
 clear A30
 by_cases c4 : t653 = true
 ·subst c4
  rw [if_pos rfl] at H
  replace H := Option.bind_eq_some_iff.mp H
  obtain ⟨t654, A50, H⟩ := H
  have A5 := Aside0.mk A50
  clear A50
  obtain rfl := Option.some.inj H
  go_enter Try.func29, Try.ntmps29
  go_wp2_with (first | ((with_reducible refine gate_dst (N := 2) rfl ?_); refine bx_ 2 #[.int .i64 a0_0, .int .i64 a0_1] 25 ?_; intro gb652 hg w6 hbox hb; have BK652 := Aside0.mk (hbox); have GW652 := gw_ hg (below_size (bv_ HB)); have GE652 := GW652; replace HB := Aside0.mk (below_step (bv_ HB) hb); clear hb hbox hg; obtain ⟨hcz7_0, hcz7_1, hfz7_0, hfz7_1⟩ := c2_ BK652) | ((with_reducible refine gate_callee (f := 77) rfl ?_); refine gl_ 7 Try.func77 #[.agg #[.int .i64 a0_0, .int .i64 a0_1], .int .i64 a1] rfl mp_ ?_; (with_reducible refine (impl_hasInput.calls a0_0 a0_1 a1 true _ A3.out).mono ?_); rintro e w8 ⟨rfl, hb⟩; refine ⟨_, rfl, ?_⟩; replace BK652 := kb_ BK652 hb; replace HB := Aside0.mk (below_step (bv1_ HB GE652) hb); (try clear hb); (try clear hb2); (try clear hk); (try clear hi); obtain ⟨hcz9_0, hcz9_1, hfz9_0, hfz9_1⟩ := c2_ BK652) | ((with_reducible refine gate_callee (f := 81) rfl ?_); refine gl_ 11 Try.func81 #[.agg #[.int .i64 a0_0, .int .i64 a0_1], .int .i64 a1] rfl mp_ ?_; (with_reducible refine (impl_Table_apart.calls k a0_0 a0_1 a1 t654 _ A5.out).mono ?_); rintro e w10 ⟨rfl, hb⟩; refine ⟨_, rfl, ?_⟩; replace BK652 := kb_ BK652 hb; replace HB := Aside0.mk (below_step (bv1_ HB GE652) hb); (try clear hb); (try clear hb2); (try clear hk); (try clear hi)))
  go_ret
  exact ⟨by first | rfl | (simp [errW_none, errW_some] <;> rfl) | (simp [*, errW_none, errW_some] <;> rfl), bv1_ HB GE652⟩
 ·replace c4 := Bool.eq_false_iff.mpr c4
  subst c4
  rw [if_neg (show ¬ (false = true) by decide)] at H
  obtain rfl := Option.some.inj H
  go_enter Try.func29, Try.ntmps29
  go_wp2_with (first | ((with_reducible refine gate_dst (N := 2) rfl ?_); refine bx_ 2 #[.int .i64 a0_0, .int .i64 a0_1] 25 ?_; intro gb652 hg w11 hbox hb; have BK652 := Aside0.mk (hbox); have GW652 := gw_ hg (below_size (bv_ HB)); have GE652 := GW652; replace HB := Aside0.mk (below_step (bv_ HB) hb); clear hb hbox hg; obtain ⟨hcz12_0, hcz12_1, hfz12_0, hfz12_1⟩ := c2_ BK652) | ((with_reducible refine gate_callee (f := 77) rfl ?_); refine gl_ 7 Try.func77 #[.agg #[.int .i64 a0_0, .int .i64 a0_1], .int .i64 a1] rfl mp_ ?_; (with_reducible refine (impl_hasInput.calls a0_0 a0_1 a1 false _ A3.out).mono ?_); rintro e w13 ⟨rfl, hb⟩; refine ⟨_, rfl, ?_⟩; replace BK652 := kb_ BK652 hb; replace HB := Aside0.mk (below_step (bv1_ HB GE652) hb); (try clear hb); (try clear hb2); (try clear hk); (try clear hi)))
  go_ret
  exact ⟨by first | rfl | (simp [errW_none, errW_some] <;> rfl) | (simp [*, errW_none, errW_some] <;> rfl), bv1_ HB GE652⟩


/-! ### impl_Table_sensitivity: function 82 -/
def impl_Table_sensitivity.l0 : Nat → Int → Int → Int → Int → Int → Int → Option (Int)
 | 0, _, _, _, _, _, _ => none
 | k + 1, x1, x5, x8, x9, x656000, x656001 => if x9 < x8 then (if 0 ≤ x9 then ((impl_Table_changes.f x656000 x656001 x1 (shl .i64 1 x9)).bind fun t656 => (if t656 = true then (impl_Table_sensitivity.l0 k x1 (wrap64 (x5 + 1)) x8 (wrap64 (x9 + 1)) x656000 x656001) else (impl_Table_sensitivity.l0 k x1 x5 x8 (wrap64 (x9 + 1)) x656000 x656001))) else (none)) else (some x5)
def impl_Table_sensitivity.f (k : Nat) (a0_0 : Int) (a0_1 : Int) (a1 : Int) : Option (Int) := impl_Table_sensitivity.l0 k a1 0 a0_0 0 a0_0 a0_1
theorem impl_Table_sensitivity.mono_l : ∀ k, (∀ y0 y1 y2 y3 y4 y5, LeO (impl_Table_sensitivity.l0 k y0 y1 y2 y3 y4 y5) (impl_Table_sensitivity.l0 (k + 1) y0 y1 y2 y3 y4 y5))
 | 0 => fun _ _ _ _ _ _ r h => by simp [impl_Table_sensitivity.l0] at h
 | k + 1 => by
  have ih0 := impl_Table_sensitivity.mono_l k
  ·intro y0 y1 y2 y3 y4 y5
   unfold impl_Table_sensitivity.l0
   repeat' first
   | (with_reducible exact ih0 _ _ _ _ _ _)
   | (with_reducible exact LeO.refl _)
   | (with_reducible exact LeO.none _)
   | (with_reducible refine LeO.ite ?_ ?_)
   | (with_reducible refine LeO.bind ?_ (fun _ => ?_))
   | exact ih0 _ _ _ _ _ _
   | exact LeO.none _
   | refine LeO.ite ?_ ?_
   | refine LeO.bind ?_ (fun _ => ?_)
theorem impl_Table_sensitivity.mono : ∀ a0 a1 a2 k, LeO (impl_Table_sensitivity.f k a0 a1 a2) (impl_Table_sensitivity.f (k + 1) a0 a1 a2) := by
 intro a0 a1 a2 k
 have ih0 := impl_Table_sensitivity.mono_l k
 unfold impl_Table_sensitivity.f
 repeat' first
   | (with_reducible exact ih0 _ _ _ _ _ _)
   | (with_reducible exact LeO.refl _)
   | (with_reducible exact LeO.none _)
   | (with_reducible refine LeO.ite ?_ ?_)
   | (with_reducible refine LeO.bind ?_ (fun _ => ?_))
   | exact ih0 _ _ _ _ _ _
   | exact LeO.none _
   | refine LeO.ite ?_ ?_
   | refine LeO.bind ?_ (fun _ => ?_)
set_option maxHeartbeats 8000000 in
set_option maxRecDepth 100000 in
theorem impl_Table_sensitivity.calls (k : Nat) (a0_0 : Int) (a0_1 : Int) (a1 : Int) (r : Int) (w : World) (h : impl_Table_sensitivity.f k a0_0 a0_1 a1 = some r) :
  Calls Try.prog 82 #[.agg #[.int .i64 a0_0, .int .i64 a0_1], .int .i64 a1] w fun e w' => e = .returned (.int .i64 r) ∧ Below w.heap.size w w' := by
 have hu25 := Try.underlying25
 have HB := Aside0.mk (Below.refl w.heap.size w)
 have H : (impl_Table_sensitivity.l0 k a1 0 a0_0 0 a0_0 a0_1) = some r := h
 clear h
 have H' := Aside0.mk H
 clear H
 go_enter Try.func82, Try.ntmps82
 go_wp2_with (first | ((with_reducible refine gate_dst (N := 2) rfl ?_); refine bx_ 2 #[.int .i64 a0_0, .int .i64 a0_1] 25 ?_; intro gb655 hg w3 hbox hb; have BK655 := Aside0.mk (hbox); have GW655 := gw_ hg (below_size (bv_ HB)); have GE655 := GW655; replace HB := Aside0.mk (below_step (bv_ HB) hb); clear hb hbox hg; obtain ⟨hcz4_0, hcz4_1, hfz4_0, hfz4_1⟩ := c2_ BK655))
 go_loopg [5, 9] k (fun kq v5 v9 w' => ∃ (x5_1 : Int) (x9_1 : Int), v5 = .int .i64 x5_1 ∧ v9 = .int .i64 x9_1 ∧ Aside0 (impl_Table_sensitivity.l0 kq a1 x5_1 a0_0 x9_1 a0_0 a0_1 = some r) ∧ Aside0 (kq ≤ k) ∧ Aside0 (w'.heap[gb655]? = some (.cells #[.int .i64 a0_0, .int .i64 a0_1] 25 (0, 0))) ∧ Aside0 (Below w.heap.size w w'))
 case atStart => exact ⟨(0), (0), (by first | rfl | (simp; done) | (simp [*]; done)), (by first | rfl | (simp; done) | (simp [*]; done)), H', ⟨Nat.le_refl _⟩, ⟨by (with_reducible repeat (first | refine blk_drewN ?_ _ | refine blk_drew ?_ | refine blk_alloc ?_ _)); exact BK655.out⟩, ⟨bv1_ HB GE655⟩⟩
 case round =>
  clear H'
  try clear p2
  try clear hcz4_0
  try clear hcz4_1
  try clear hfz4_0
  try clear hfz4_1
  obtain ⟨x5_1, x9_1, rfl, rfl, HA, HK1, BK655, HB⟩ := hrel
  cases gk with
  | zero => exact absurd HA.out (by simp [impl_Table_sensitivity.l0])
  | succ k1 =>
   have H := HA.out
   clear HA
   simp only [impl_Table_sensitivity.l0] at H
   by_cases c5 : x9_1 < a0_0
   ·rw [if_pos c5] at H
    have c5b0 : decide (x9_1 < a0_0) = true := decide_eq_true c5
    clear c5
    by_cases c6 : 0 ≤ x9_1
    ·rw [if_pos c6] at H
     have c6b0 := eq_true c6
     have c6b1 : decide (0 ≤ x9_1) = true := decide_eq_true c6
     clear c6
     obtain ⟨ji7, hji7⟩ : ∃ j_ : Int, (shl .i64 1 x9_1) = j_ := ⟨_, rfl⟩
     replace H : ((impl_Table_changes.f a0_0 a0_1 a1 (ji7)).bind fun t656 => (if t656 = true then (impl_Table_sensitivity.l0 k1 a1 (wrap64 (x5_1 + 1)) a0_0 (wrap64 (x9_1 + 1)) a0_0 a0_1) else (impl_Table_sensitivity.l0 k1 a1 x5_1 a0_0 (wrap64 (x9_1 + 1)) a0_0 a0_1))) = some r := by first | (rw [hji7] at H; exact H) | (simp only [hji7] at H ⊢; exact H)
     have hji7_ : (IntKind.i64.wrap (1 * 2 ^ min x9_1.toNat 64)) = ji7 := hji7
     have hji7z : x9_1 ≤ 64 → (IntKind.i64.wrap (1 * 2 ^ x9_1.toNat)) = ji7 := shl_small hji7
     have hji7u : (IntKind.i64.wrap (2 ^ min x9_1.toNat 64)) = ji7 := by have h_ := hji7_; rw [Int.one_mul] at h_; exact h_
     have hji7v : x9_1 ≤ 64 → (IntKind.i64.wrap (2 ^ x9_1.toNat)) = ji7 := fun hle_ => by have h_ := hji7z hle_; rw [Int.one_mul] at h_; exact h_
     have hji7y : (wrap64 (1 * 2 ^ min x9_1.toNat 64)) = ji7 := (i64_w _).symm.trans hji7_
     have hji7x : x9_1 ≤ 64 → (wrap64 (1 * 2 ^ x9_1.toNat)) = ji7 := fun h_ => (i64_w _).symm.trans (hji7z h_)
     replace H := Option.bind_eq_some_iff.mp H
     obtain ⟨t656, A80, H⟩ := H
     have A8 := Aside0.mk A80
     clear A80
     by_cases c9 : t656 = true
     ·subst c9
      rw [if_pos rfl] at H
      have H' := Aside0.mk H
      clear H
      try go_wp2
      replace BK655 := Aside0.mk (blk_drew BK655.out)
      replace HB := Aside0.mk (below_drew1 HB.out)
      refine start_ (n := 5) (S := fun w' => w'.cell? ⟨gb655, 0, none⟩ = some (.int .i64 a0_0) ∧ w'.cell? ⟨gb655, 1, none⟩ = some (.int .i64 a0_1)) (ds := []) (bs 5 0) (by kernel_rfl) rfl (by kernel_rfl) ⟨(blk_cell BK655.out 0).trans rfl, (blk_cell BK655.out 1).trans rfl⟩ (fun hHeld => ?_)
      generalize wr.drew = w10 at BK655 HB hHeld ⊢
      refine pure_ (i := 1) (N := some 13) (v := ?_) (a' := ?_) (bs 5 2) rfl rfl (by kernel_rfl) (fun _ _ _ h => h) (Or.inl ⟨by rfl, ?_⟩) ?_ ?_
      rotate_left
      ·intro w'
       go_simp
       with_reducible rfl
      rotate_left
      ·simp only [Act.put, List.setIfInBounds_toArray, List.set_cons_zero, List.set_cons_succ, i64_w, i32_w]
       rfl
      refine pure_ (i := 2) (N := some 14) (v := ?_) (a' := ?_) (bs 5 6) rfl rfl (by kernel_rfl) (fun _ _ _ h => h) (Or.inl ⟨by rfl, ?_⟩) ?_ ?_
      rotate_left
      ·intro w'
       go_simp
       with_reducible rfl
      rotate_left
      ·simp only [Act.put, List.setIfInBounds_toArray, List.set_cons_zero, List.set_cons_succ, i64_w, i32_w]
       rfl
      refine pure_ (i := 3) (N := some 15) (v := ?_) (a' := ?_) (bs 5 14) rfl rfl (by kernel_rfl) (fun _ _ _ h => h) (Or.inl ⟨by rfl, ?_⟩) ?_ ?_
      rotate_left
      ·intro w'
       go_simp
       with_reducible rfl
      rotate_left
      ·simp only [Act.put, List.setIfInBounds_toArray, List.set_cons_zero, List.set_cons_succ, i64_w, i32_w]
       rfl
      refine take_ (i := 0) (N := some 12) (v := ?_) (a' := ?_) (bs 5 15) rfl rfl (by kernel_rfl) (fun _ _ _ h => h) (Or.inl ⟨by rfl, ?_⟩) hHeld ?_ ?_
      rotate_left
      ·rintro w' ⟨s0, s1⟩
       go_simp
       with_reducible rfl
      rotate_left
      ·simp only [Act.put, List.setIfInBounds_toArray, List.set_cons_zero, List.set_cons_succ, i64_w, i32_w]
       rfl
      refine one_ (i := 4) (N := some 16) (bs 5 31) rfl rfl (by kernel_rfl) (by decide) (fun K hK => ?_)
      refine goes_ Try.func87 (by kernel_rfl) rfl #[.agg #[.int .i64 a0_0, .int .i64 a0_1], .int .i64 a1, .int .i64 ji7] (by rfl) rfl rfl (by (try simp only [List.map_toArray, List.map_cons, List.map_nil]); first | done | (simp only [hji7]; rfl) | rfl | (simp only [List.length_drop, List.length_take]; rfl)) ?_
      with_reducible refine (impl_Table_changes.calls a0_0 a0_1 a1 ji7 true _ A8.out).mono ?_
      rintro e w11 ⟨rfl, hb⟩
      refine ⟨_, rfl, ?_⟩
      replace BK655 := kb_ BK655 hb
      replace HB := Aside0.mk (below_step (bv1_ HB GE655) hb)
      (try clear hb)
      (try clear hb2)
      (try clear hk)
      (try clear hi)
      refine hK.out _ _ ⟨(blk_cell BK655.out 0).trans rfl, (blk_cell BK655.out 1).trans rfl⟩ (fun hHeld => ?_)
      clear hK K
      refine no_ 16 ?_
      refine done_ (by kernel_rfl) ?_
      try go_wp2
      go_roundg k1
      case measure => have := HK1.out; omega
      case rel => exact ⟨(wrap64 (x5_1 + 1)), (wrap64 (x9_1 + 1)), (by first | rfl | (simp; done) | (simp [*]; done)), (by first | rfl | (simp; done) | (simp [*]; done)), H', ⟨by have := HK1.out; omega⟩, ⟨by (with_reducible repeat (first | refine blk_drewN ?_ _ | refine blk_drew ?_ | refine blk_alloc ?_ _)); exact BK655.out⟩, ⟨bv1_ HB GE655⟩⟩
     ·replace c9 := Bool.eq_false_iff.mpr c9
      subst c9
      rw [if_neg (show ¬ (false = true) by decide)] at H
      have H' := Aside0.mk H
      clear H
      try go_wp2
      replace BK655 := Aside0.mk (blk_drew BK655.out)
      replace HB := Aside0.mk (below_drew1 HB.out)
      refine start_ (n := 5) (S := fun w' => w'.cell? ⟨gb655, 0, none⟩ = some (.int .i64 a0_0) ∧ w'.cell? ⟨gb655, 1, none⟩ = some (.int .i64 a0_1)) (ds := []) (bs 5 0) (by kernel_rfl) rfl (by kernel_rfl) ⟨(blk_cell BK655.out 0).trans rfl, (blk_cell BK655.out 1).trans rfl⟩ (fun hHeld => ?_)
      generalize wr.drew = w12 at BK655 HB hHeld ⊢
      refine pure_ (i := 1) (N := some 13) (v := ?_) (a' := ?_) (bs 5 2) rfl rfl (by kernel_rfl) (fun _ _ _ h => h) (Or.inl ⟨by rfl, ?_⟩) ?_ ?_
      rotate_left
      ·intro w'
       go_simp
       with_reducible rfl
      rotate_left
      ·simp only [Act.put, List.setIfInBounds_toArray, List.set_cons_zero, List.set_cons_succ, i64_w, i32_w]
       rfl
      refine pure_ (i := 2) (N := some 14) (v := ?_) (a' := ?_) (bs 5 6) rfl rfl (by kernel_rfl) (fun _ _ _ h => h) (Or.inl ⟨by rfl, ?_⟩) ?_ ?_
      rotate_left
      ·intro w'
       go_simp
       with_reducible rfl
      rotate_left
      ·simp only [Act.put, List.setIfInBounds_toArray, List.set_cons_zero, List.set_cons_succ, i64_w, i32_w]
       rfl
      refine pure_ (i := 3) (N := some 15) (v := ?_) (a' := ?_) (bs 5 14) rfl rfl (by kernel_rfl) (fun _ _ _ h => h) (Or.inl ⟨by rfl, ?_⟩) ?_ ?_
      rotate_left
      ·intro w'
       go_simp
       with_reducible rfl
      rotate_left
      ·simp only [Act.put, List.setIfInBounds_toArray, List.set_cons_zero, List.set_cons_succ, i64_w, i32_w]
       rfl
      refine take_ (i := 0) (N := some 12) (v := ?_) (a' := ?_) (bs 5 15) rfl rfl (by kernel_rfl) (fun _ _ _ h => h) (Or.inl ⟨by rfl, ?_⟩) hHeld ?_ ?_
      rotate_left
      ·rintro w' ⟨s0, s1⟩
       go_simp
       with_reducible rfl
      rotate_left
      ·simp only [Act.put, List.setIfInBounds_toArray, List.set_cons_zero, List.set_cons_succ, i64_w, i32_w]
       rfl
      refine one_ (i := 4) (N := some 16) (bs 5 31) rfl rfl (by kernel_rfl) (by decide) (fun K hK => ?_)
      refine goes_ Try.func87 (by kernel_rfl) rfl #[.agg #[.int .i64 a0_0, .int .i64 a0_1], .int .i64 a1, .int .i64 ji7] (by rfl) rfl rfl (by (try simp only [List.map_toArray, List.map_cons, List.map_nil]); first | done | (simp only [hji7]; rfl) | rfl | (simp only [List.length_drop, List.length_take]; rfl)) ?_
      with_reducible refine (impl_Table_changes.calls a0_0 a0_1 a1 ji7 false _ A8.out).mono ?_
      rintro e w13 ⟨rfl, hb⟩
      refine ⟨_, rfl, ?_⟩
      replace BK655 := kb_ BK655 hb
      replace HB := Aside0.mk (below_step (bv1_ HB GE655) hb)
      (try clear hb)
      (try clear hb2)
      (try clear hk)
      (try clear hi)
      refine hK.out _ _ ⟨(blk_cell BK655.out 0).trans rfl, (blk_cell BK655.out 1).trans rfl⟩ (fun hHeld => ?_)
      clear hK K
      refine no_ 16 ?_
      refine done_ (by kernel_rfl) ?_
      try go_wp2
      go_roundg k1
      case measure => have := HK1.out; omega
      case rel => exact ⟨(x5_1), (wrap64 (x9_1 + 1)), (by first | rfl | (simp; done) | (simp [*]; done)), (by first | rfl | (simp; done) | (simp [*]; done)), H', ⟨by have := HK1.out; omega⟩, ⟨by (with_reducible repeat (first | refine blk_drewN ?_ _ | refine blk_drew ?_ | refine blk_alloc ?_ _)); exact BK655.out⟩, ⟨bv1_ HB GE655⟩⟩
    ·rw [if_neg c6] at H
     exact absurd H (by simp)
   ·rw [if_neg c5] at H
    have c5b0 : decide (x9_1 < a0_0) = false := decide_eq_false c5
    clear c5
    obtain rfl := Option.some.inj H
    go_wp2
    go_ret
    exact ⟨by first | rfl | (simp [errW_none, errW_some] <;> rfl) | (simp [*, errW_none, errW_some] <;> rfl), bv1_ HB GE655⟩


end Go.Proofs.Ytplnffhjpmnifaa.P
