-- Out of the translation, by this session's program over the printer's; Lean checks it.
import Derived.Test.YtplnffhjpmnifaaSh
import Derived.Test.YtplnffhjpmnifaaQ0
import Derived.Test.YtplnffhjpmnifaaQ3
namespace Go.Proofs.Ytplnffhjpmnifaa.P
open Go.RowKit Go.Proofs.YtplnffhjpmnifaaW.PrintWords Go.Proofs.YtplnffhjpmnifaaW.PrintLast Go.Proofs.YtplnffhjpmnifaaW.PrintMore
attribute [local go_sem] max2_int min2_int max_two min_two max_three min_three max_four min_four
set_option linter.unusedVariables false
set_option linter.unusedSimpArgs false

/-! ### impl_Table_spectrum: function 63 -/
mutual
def impl_Table_spectrum.l0 : Nat → List Int → Int → Int → Int → Int → Option (List Int)
 | 0, _, _, _, _, _ => none
 | k + 1, x3, x10, x11, x248000, x248001 => if x11 < x10 then ((impl_Table_size.f x248000 x248001).bind fun t252 => (impl_Table_spectrum.l1 k x3 x11 x10 x11 t252 0 x248000 x248001)) else (some x3)
def impl_Table_spectrum.l1 : Nat → List Int → Int → Int → Int → Int → Int → Int → Int → Option (List Int)
 | 0, _, _, _, _, _, _, _, _ => none
 | k + 1, x3, x4, x10, x11, x15, x16, x248000, x248001 => if x16 < x15 then (if 0 ≤ x4 then (if x4 < (x3.length : Int) then ((impl_Table_at.f x248000 x248001 x16).bind fun t254 => ((impl_ones.f (Go.bits .and .i64 x4 x16)).bind fun t255 => ((impl_sign.f (wrap64 (t254 + t255))).bind fun t256 => (impl_Table_spectrum.l1 k (x3.set (x4 : Int).toNat (wrap64 ((rd x3 x4) + t256))) x4 x10 x11 x15 (wrap64 (x16 + 1)) x248000 x248001)))) else (none)) else (none)) else (impl_Table_spectrum.l0 k x3 x10 (wrap64 (x11 + 1)) x248000 x248001)
end
def impl_Table_spectrum.f (k : Nat) (a0_0 : Int) (a0_1 : Int) : Option (List Int) := (impl_Table_size.f a0_0 a0_1).bind fun t248 => (if 0 ≤ t248 then (if (t248 : Int).toNat ≤ 35184372088832 then ((some (List.replicate (t248 : Int).toNat 0 : List Int)).bind fun y249 => (impl_Table_spectrum.l0 k y249 (y249.length : Int) 0 a0_0 a0_1)) else (none)) else (none))
theorem impl_Table_spectrum.mono_l : ∀ k, (∀ y0 y1 y2 y3 y4, LeO (impl_Table_spectrum.l0 k y0 y1 y2 y3 y4) (impl_Table_spectrum.l0 (k + 1) y0 y1 y2 y3 y4)) ∧ (∀ y0 y1 y2 y3 y4 y5 y6 y7, LeO (impl_Table_spectrum.l1 k y0 y1 y2 y3 y4 y5 y6 y7) (impl_Table_spectrum.l1 (k + 1) y0 y1 y2 y3 y4 y5 y6 y7))
 | 0 => ⟨fun _ _ _ _ _ r h => by simp [impl_Table_spectrum.l0] at h, fun _ _ _ _ _ _ _ _ r h => by simp [impl_Table_spectrum.l1] at h⟩
 | k + 1 => by
  obtain ⟨ih0, ih1⟩ := impl_Table_spectrum.mono_l k
  refine ⟨?_, ?_⟩
  ·intro y0 y1 y2 y3 y4
   unfold impl_Table_spectrum.l0
   repeat' first
   | (with_reducible exact ih0 _ _ _ _ _)
   | (with_reducible exact ih1 _ _ _ _ _ _ _ _)
   | (with_reducible exact LeO.refl _)
   | (with_reducible exact LeO.none _)
   | (with_reducible refine LeO.ite ?_ ?_)
   | (with_reducible refine LeO.bind ?_ (fun _ => ?_))
   | exact ih0 _ _ _ _ _
   | exact ih1 _ _ _ _ _ _ _ _
   | exact LeO.none _
   | refine LeO.ite ?_ ?_
   | refine LeO.bind ?_ (fun _ => ?_)
  ·intro y0 y1 y2 y3 y4 y5 y6 y7
   unfold impl_Table_spectrum.l1
   repeat' first
   | (with_reducible exact ih0 _ _ _ _ _)
   | (with_reducible exact ih1 _ _ _ _ _ _ _ _)
   | (with_reducible exact LeO.refl _)
   | (with_reducible exact LeO.none _)
   | (with_reducible refine LeO.ite ?_ ?_)
   | (with_reducible refine LeO.bind ?_ (fun _ => ?_))
   | exact ih0 _ _ _ _ _
   | exact ih1 _ _ _ _ _ _ _ _
   | exact LeO.none _
   | refine LeO.ite ?_ ?_
   | refine LeO.bind ?_ (fun _ => ?_)
theorem impl_Table_spectrum.mono : ∀ a0 a1 k, LeO (impl_Table_spectrum.f k a0 a1) (impl_Table_spectrum.f (k + 1) a0 a1) := by
 intro a0 a1 k
 obtain ⟨ih0, ih1⟩ := impl_Table_spectrum.mono_l k
 unfold impl_Table_spectrum.f
 repeat' first
   | (with_reducible exact ih0 _ _ _ _ _)
   | (with_reducible exact ih1 _ _ _ _ _ _ _ _)
   | (with_reducible exact LeO.refl _)
   | (with_reducible exact LeO.none _)
   | (with_reducible refine LeO.ite ?_ ?_)
   | (with_reducible refine LeO.bind ?_ (fun _ => ?_))
   | exact ih0 _ _ _ _ _
   | exact ih1 _ _ _ _ _ _ _ _
   | exact LeO.none _
   | refine LeO.ite ?_ ?_
   | refine LeO.bind ?_ (fun _ => ?_)
def impl_Table_spectrum.T8 : Bool × List (List Nat × List Nat) := (true, [([], []), ([], []), ([0, 1], [0, 1]), ([2], [2]), ([], []), ([], []), ([4, 5], [4, 5]), ([], []), ([], []), ([7, 8], [7, 8]), ([9, 6], [9]), ([6, 10], [6, 10]), ([11, 10], [11]), ([3, 12], [3, 12]), ([0, 1, 0, 1, 2, 3, 4, 5, 6, 7, 8, 9, 10, 11, 12, 13], [0, 1]), ([14, 13, 12, 0, 1, 2, 3, 4, 5, 6, 7, 8, 9, 10, 11, 12, 13], [13, 14])])
def impl_Table_spectrum.B8 : List Nat := [0, 0, 3, 7, 0, 0, 48, 0, 0, 384, 1008, 2032, 4080, 8191, 16383, 32767]
theorem impl_Table_spectrum.tab8 : rtab .any (opsOf Try.f63 8) = impl_Table_spectrum.T8 := by kernel_rfl
theorem impl_Table_spectrum.bits8 : waitsOk impl_Table_spectrum.T8.2 impl_Table_spectrum.B8 = true := by kernel_rfl
set_option maxHeartbeats 8000000 in
set_option maxRecDepth 100000 in
theorem impl_Table_spectrum.calls (k : Nat) (a0_0 : Int) (a0_1 : Int) (r : List Int) (w : World) (h : impl_Table_spectrum.f k a0_0 a0_1 = some r) :
  Calls Try.prog 63 #[.agg #[.int .i64 a0_0, .int .i64 a0_1]] w fun e w' => ∃ v0_ : Value, e = .returned (v0_) ∧ Kd.R (Kd.int .i64) 3 w' w.heap.size (fun _ => True) v0_ r ∧ Below w.heap.size w w' := by
 have hu25 := Try.underlying25
 have HB := Aside0.mk (Below.refl w.heap.size w)
 have H : ((impl_Table_size.f a0_0 a0_1).bind fun t248 => (if 0 ≤ t248 then (if (t248 : Int).toNat ≤ 35184372088832 then ((some (List.replicate (t248 : Int).toNat 0 : List Int)).bind fun y249 => (impl_Table_spectrum.l0 k y249 (y249.length : Int) 0 a0_0 a0_1)) else (none)) else (none))) = some r := h
 clear h
 replace H := Option.bind_eq_some_iff.mp H
 obtain ⟨t248, A20, H⟩ := H
 have A2 := Aside0.mk A20
 clear A20
 by_cases c3 : 0 ≤ t248
 ·rw [if_pos c3] at H
  have c3b0 := eq_true c3
  have c3b1 : decide (0 ≤ t248) = true := decide_eq_true c3
  clear c3
  by_cases c4 : (t248 : Int).toNat ≤ 35184372088832
  ·rw [if_pos c4] at H
   have c4b0 := eq_true c4
   have c4b1 : decide ((t248 : Int).toNat ≤ 35184372088832) = true := decide_eq_true c4
   clear c4
   obtain ⟨y249, hy249⟩ : ∃ y_ : List Int, y_ = (List.replicate (t248 : Int).toNat 0) := ⟨_, rfl⟩
   replace H : (impl_Table_spectrum.l0 k y249 (y249.length : Int) 0 a0_0 a0_1) = some r := by first | (rw [hy249]; with_reducible exact H) | (have H2_ := (Option.bind_some _ _).symm.trans H; rw [hy249]; with_reducible exact H2_) | (have H2_ := (Option.bind_some _ _).symm.trans H; with_reducible exact H2_) | with_reducible exact H | (rw [hy249]; exact H) | exact H
   have Ny249 := Aside0.mk hy249
   clear hy249
   have H' := Aside0.mk H
   clear H
   go_enter Try.func63, Try.ntmps63
   go_wp2_with (first | ((with_reducible refine gate_dst (N := 1) rfl ?_); refine bx_ 1 #[.int .i64 a0_0, .int .i64 a0_1] 25 ?_; intro gb247 hg w5 hbox hb; have BK247 := Aside0.mk (hbox); have GW247 := gw_ hg (below_size (bv_ HB)); have GE247 := GW247; replace HB := Aside0.mk (below_step (bv_ HB) hb); clear hb hbox hg; obtain ⟨hcz6_0, hcz6_1, hfz6_0, hfz6_1⟩ := c2_ BK247) | ((with_reducible refine gate_callee (f := 65) rfl ?_); refine gl_ 7 Try.func65 #[.agg #[.int .i64 a0_0, .int .i64 a0_1]] rfl mp_ ?_; (with_reducible refine (impl_Table_size.calls a0_0 a0_1 t248 _ A2.out).mono ?_); rintro e w7 ⟨rfl, hb⟩; refine ⟨_, rfl, ?_⟩; replace BK247 := Aside0.mk (blk_below (g := gb247) (o := .cells #[.int .i64 a0_0, .int .i64 a0_1] 25 (0, 0)) (kv_ BK247) hb); replace HB := Aside0.mk (below_step (bv1_ HB GE247) hb); (try clear hb); (try clear hb2); (try clear hk); (try clear hi)) | ((with_reducible refine gate_dst (N := 8) rfl ?_); refine Kd.R_make (Kd.int .i64) _ 3 rfl (N := 8) rfl 28 _ _ rfl t248 rfl rfl Try.underlying28 (.int .i64 0) 8 info3 rfl (by decide) (by omega) 0 (ok := fun _ => True) (okp := fun _ => True) rfl (fun _ hk => hk) trivial (of_decide_eq_true (by first | (with_reducible assumption) | assumption)) (Nat.le_trans (Nat.mul_le_mul_right _ (of_decide_eq_true (by first | (with_reducible assumption) | assumption) : t248.toNat ≤ 35184372088832)) (by omega)) (Below.refl _ _) (Nat.le_refl _) ?_; intro v250 w8 ho9 hb hg_ hnew_; clear hg_ hnew_; (first | rw [← Ny249.out] at ho9 | (simp only [Int.reduceToNat] at ho9; rw [← Ny249.out] at ho9)); have HO251 := Aside0.mk (Kd.R_lower ho9 (below_size (bv1_ HB GE247))); replace BK247 := Aside0.mk (blk_below (g := gb247) (o := .cells #[.int .i64 a0_0, .int .i64 a0_1] 25 (0, 0)) (kv_ BK247) hb); replace HB := Aside0.mk (below_step (bv1_ HB GE247) hb); clear hb ho9; obtain ⟨Ao10, co10, eo10⟩ := Kd.R_slice HO251.out; subst eo10))
   go_loopg [11] k (fun kq v11 w' => ∃ (x3_1 : List Int) (x11_1 : Int), v11 = .int .i64 x11_1 ∧ Aside0 (impl_Table_spectrum.l0 kq x3_1 (y249.length : Int) x11_1 a0_0 a0_1 = some r) ∧ Aside0 (kq ≤ k) ∧ Aside0 (Kd.R (Kd.int .i64) 3 w' w.heap.size (fun _ => True) (.slice Ao10 y249.length co10) x3_1) ∧ Aside0 (w'.heap[gb247]? = some (.cells #[.int .i64 a0_0, .int .i64 a0_1] 25 (0, 0))) ∧ Aside0 (Below w.heap.size w w'))
   case atStart => exact ⟨(y249), (0), (by first | rfl | (simp; done) | (simp [*]; done)), H', ⟨Nat.le_refl _⟩, ⟨by (with_reducible repeat (first | apply Kd.R_alloc | apply Kd.R_drewN | apply Kd.R_drew)); exact HO251.out⟩, ⟨by (with_reducible repeat (first | refine blk_drewN ?_ _ | refine blk_drew ?_ | refine blk_alloc ?_ _)); exact BK247.out⟩, ⟨bv1_ HB GE247⟩⟩
   case round =>
    clear H'
    try clear p2
    try clear c3
    try clear c3b0
    try clear c3b1
    try clear c4
    try clear c4b0
    try clear c4b1
    try clear c6
    try clear hcz6_0
    try clear hcz6_1
    try clear hfz6_0
    try clear hfz6_1
    obtain ⟨x3_1, x11_1, rfl, HA, HK1, HO_3, BK247, HB⟩ := hrel
    have hl3_1 := (Kd.R_reads' HO_3.out).1
    rw [hl3_1] at HO_3
    (try simp only [hl3_1])
    (try simp only [hl3_1] at BK247)
    cases gk with
    | zero => exact absurd HA.out (by simp [impl_Table_spectrum.l0])
    | succ k1 =>
     have H := HA.out
     clear HA
     simp only [impl_Table_spectrum.l0] at H
     by_cases c11 : x11_1 < (y249.length : Int)
     ·rw [if_pos c11] at H
      have c11b0 : decide (x11_1 < (y249.length : Int)) = true := decide_eq_true c11
      (try simp only [hl3_1] at c11b0)
      clear c11
      replace H := Option.bind_eq_some_iff.mp H
      obtain ⟨t252, A120, H⟩ := H
      have A12 := Aside0.mk A120
      clear A120
      have H' := Aside0.mk H
      clear H
      obtain ⟨hcz13_0, hcz13_1, hfz13_0, hfz13_1⟩ := c2_ BK247
      go_wp2_with (first | ((with_reducible refine gate_callee (f := 65) rfl ?_); refine gl_ 15 Try.func65 #[.agg #[.int .i64 a0_0, .int .i64 a0_1]] rfl mp_ ?_; (with_reducible refine (impl_Table_size.calls a0_0 a0_1 t252 _ A12.out).mono ?_); rintro e w14 ⟨rfl, hb⟩; refine ⟨_, rfl, ?_⟩; have n0_ := Aside0.mk (Kd.R_below (rv_ HO_3) hb); have n1_ := Aside0.mk (blk_below (g := gb247) (o := .cells #[.int .i64 a0_0, .int .i64 a0_1] 25 (0, 0)) (kv_ BK247) hb); have n2_ := Aside0.mk (below_step (bv1_ HB GE247) hb); clear HO_3; clear BK247; clear HB; have HO_3 := n0_; have BK247 := n1_; have HB := n2_; clear n0_ n1_ n2_; (try clear hb); (try clear hb2); (try clear hk); (try clear hi)))
      go_loopg [16] k1 (fun kq v16 w' => ∃ (x3_2 : List Int) (x16_2 : Int), v16 = .int .i64 x16_2 ∧ Aside0 (impl_Table_spectrum.l1 kq x3_2 x11_1 (y249.length : Int) x11_1 t252 x16_2 a0_0 a0_1 = some r) ∧ Aside0 (kq ≤ k1) ∧ Aside0 (Kd.R (Kd.int .i64) 3 w' w.heap.size (fun _ => True) (.slice Ao10 x3_1.length co10) x3_2) ∧ Aside0 (w'.heap[gb247]? = some (.cells #[.int .i64 a0_0, .int .i64 a0_1] 25 (0, 0))) ∧ Aside0 (Below w.heap.size w w'))
      case atStart => exact ⟨(x3_1), (0), (by first | rfl | (simp; done) | (simp [*]; done)), H', ⟨Nat.le_refl _⟩, ⟨by (try simp only [hl3_1]); (with_reducible repeat (first | apply Kd.R_alloc | apply Kd.R_drewN | apply Kd.R_drew)); exact HO_3.out⟩, ⟨by (try simp only [hl3_1]); (with_reducible repeat (first | refine blk_drewN ?_ _ | refine blk_drew ?_ | refine blk_alloc ?_ _)); exact BK247.out⟩, ⟨bv1_ HB GE247⟩⟩
      case round =>
       clear H'
       try clear c1
       try clear p2
       try clear c3
       try clear c3b0
       try clear c3b1
       try clear c4
       try clear c4b0
       try clear c4b1
       try clear c6
       try clear c11
       try clear c11b0
       try clear hcz13_0
       try clear hcz13_1
       try clear hcz6_0
       try clear hcz6_1
       try clear hfz13_0
       try clear hfz13_1
       try clear hfz6_0
       try clear hfz6_1
       try clear p2
       obtain ⟨x3_2, x16_2, rfl, HA, HK2, HO_3, BK247, HB⟩ := hrel
       have hl3_2 := (Kd.R_reads' HO_3.out).1
       rw [hl3_2] at HO_3
       (try simp only [hl3_2])
       (try simp only [hl3_2] at BK247)
       cases gk with
       | zero => exact absurd HA.out (by simp [impl_Table_spectrum.l1])
       | succ k2 =>
        have H := HA.out
        clear HA
        simp only [impl_Table_spectrum.l1] at H
        by_cases c15 : x16_2 < t252
        ·rw [if_pos c15] at H
         have c15b0 : decide (x16_2 < t252) = true := decide_eq_true c15
         (try simp only [hl3_1] at c15b0)
         (try simp only [hl3_2] at c15b0)
         clear c15
         by_cases c16 : 0 ≤ x11_1
         ·rw [if_pos c16] at H
          have c16b0 : decide (0 ≤ x11_1) = true := decide_eq_true c16
          (try simp only [hl3_1] at c16b0)
          (try simp only [hl3_2] at c16b0)
          clear c16
          by_cases c17 : x11_1 < (x3_2.length : Int)
          ·rw [if_pos c17] at H
           have c17b0 : decide (x11_1 < (x3_2.length : Int)) = true := decide_eq_true c17
           (try simp only [hl3_1] at c17b0)
           (try simp only [hl3_2] at c17b0)
           clear c17
           replace H := Option.bind_eq_some_iff.mp H
           obtain ⟨t254, A180, H⟩ := H
           have A18 := Aside0.mk A180
           clear A180
           replace H := Option.bind_eq_some_iff.mp H
           obtain ⟨t255, A190, H⟩ := H
           have A19 := Aside0.mk A190
           clear A190
           replace H := Option.bind_eq_some_iff.mp H
           obtain ⟨t256, A200, H⟩ := H
           have A20 := Aside0.mk A200
           clear A200
           obtain ⟨y257, hy257⟩ : ∃ y_ : List Int, y_ = (x3_2.set (x11_1 : Int).toNat (wrap64 ((rd x3_2 x11_1) + t256))) := ⟨_, rfl⟩
           replace H : (impl_Table_spectrum.l1 k2 y257 x11_1 (y249.length : Int) x11_1 t252 (wrap64 (x16_2 + 1)) a0_0 a0_1) = some r := by first | (rw [hy257]; with_reducible exact H) | (have H2_ := (Option.bind_some _ _).symm.trans H; rw [hy257]; with_reducible exact H2_) | (have H2_ := (Option.bind_some _ _).symm.trans H; with_reducible exact H2_) | with_reducible exact H | (rw [hy257]; exact H) | exact H
           have Ny257 := Aside0.mk hy257
           clear hy257
           have H' := Aside0.mk H
           clear H
           try go_wp2
           replace HO_3 := Aside0.mk (Kd.R_drew HO_3.out)
           replace BK247 := Aside0.mk (blk_drew BK247.out)
           replace HB := Aside0.mk (below_drew1 HB.out)
           have p253 : 0 ≤ (x11_1 : Int) := of_decide_eq_true (by first | (with_reducible assumption) | assumption)
           have q253 : x11_1 < (x3_2.length : Int) := of_decide_eq_true (by first | (with_reducible assumption) | assumption)
           obtain ⟨ad253, e253, hx253_0⟩ := Kd.at_int (Kd.R_reads' HO_3.out).2.2 x11_1 p253 q253
           cases e253
           replace p253 := eq_true p253
           replace q253 := eq_true q253
           refine start_ (n := 16) (S := fun w' => w'.cell? ⟨gb247, 0, none⟩ = some (.int .i64 a0_0) ∧ w'.cell? ⟨gb247, 1, none⟩ = some (.int .i64 a0_1) ∧ w'.cell? (ad253.add (x11_1).toNat) = some (.int .i64 (rd x3_2 x11_1))) (ds := [15]) (bs 16 0) (by kernel_rfl) rfl (by kernel_rfl) ⟨(blk_cell BK247.out 0).trans rfl, (blk_cell BK247.out 1).trans rfl, hx253_0⟩ (fun hHeld => ?_); refine with_tabW impl_Table_spectrum.tab8 impl_Table_spectrum.bits8 (fun HT_ HW_ => ?_)
           generalize wr.drew = w22 at HO_3 BK247 HB hx253_0 hHeld ⊢
           refine pu_ HT_ 0 19 (bs 16 1) ?_
           refine pu_ HT_ 1 20 (bs 16 3) ?_
           refine pu_ HT_ 2 21 (bs 16 7) ?_
           refine pu_ HT_ 5 24 (bs 16 39) ?_
           refine pu_ HT_ 7 26 (bs 16 167) ?_
           refine pu_ HT_ 8 27 (bs 16 423) ?_
           refine pu_ HT_ 9 28 (bs 16 935) ?_
           refine ta3_ HT_ HW_ 3 22 (bs 16 943) hHeld ?_
           refine ta3_ HT_ HW_ 4 23 (bs 16 959) hHeld ?_
           refine on_ HT_ 6 25 (bs 16 1023) (fun K hK => ?_)
           refine goes_ Try.func66 (by kernel_rfl) rfl #[.agg #[.int .i64 a0_0, .int .i64 a0_1], .int .i64 x16_2] (by rfl) rfl rfl mp_ ?_
           with_reducible refine (impl_Table_at.calls a0_0 a0_1 x16_2 t254 _ A18.out).mono ?_
           rintro e w23 ⟨rfl, hb⟩
           have HS2_ := (hb.cell (World.block_lt_of_cell? _ _ (hHeld.2.2))).trans (hHeld.2.2)
           refine ⟨_, rfl, ?_⟩
           replace HO_3 := Aside0.mk (Kd.R_below (rv_ HO_3) hb)
           replace BK247 := Aside0.mk (blk_below (g := gb247) (o := .cells #[.int .i64 a0_0, .int .i64 a0_1] 25 (0, 0)) (kv_ BK247) hb)
           replace HB := Aside0.mk (below_step (bv1_ HB GE247) hb)
           (try clear hb)
           (try clear hb2)
           (try clear hk)
           (try clear hi)
           refine hK.out _ _ ⟨(blk_cell BK247.out 0).trans rfl, (blk_cell BK247.out 1).trans rfl, HS2_⟩ (fun hHeld => ?_)
           clear hK K
           refine no_ 25 ?_
           refine on_ HT_ 10 29 (bs 16 2047) (fun K hK => ?_)
           refine goes_ Try.func64 (by kernel_rfl) rfl #[.int .i64 (Go.bits .and .i64 x11_1 x16_2)] (by rfl) rfl rfl mp_ ?_
           with_reducible refine (impl_ones.calls (Go.bits .and .i64 x11_1 x16_2) t255 _ A19.out).mono ?_
           rintro e w' ⟨rfl, ⟨nd, rfl⟩⟩
           refine ⟨_, rfl, ?_⟩
           refine hK.out _ _ ⟨(blk_cell BK247.out 0).trans rfl, (blk_cell BK247.out 1).trans rfl, hHeld.2.2⟩ (fun hHeld => ?_)
           clear hK K
           refine no_ 29 ?_
           refine pu_ HT_ 11 30 (bs 16 4095) ?_
           refine on_ HT_ 12 31 (bs 16 8191) (fun K hK => ?_)
           refine goes_ Try.func96 (by kernel_rfl) rfl #[.int .i64 (wrap64 (t254 + t255))] (by rfl) rfl rfl mp_ ?_
           with_reducible refine (impl_sign.calls (wrap64 (t254 + t255)) t256 _ A20.out).mono ?_
           rintro e w' ⟨rfl, ⟨nd, rfl⟩⟩
           refine ⟨_, rfl, ?_⟩
           have p21 : 0 ≤ (x11_1 : Int) := of_decide_eq_true (by first | (with_reducible assumption) | assumption)
           have q21 : (x11_1 : Int) < ((x3_2.length : Int) : Int) := of_decide_eq_true (by first | (with_reducible assumption) | assumption)
           obtain ⟨go21, co21, eo21, gb21, gl21, cl21, HG21⟩ := Kd.R_form HO_3.out (by omega)
           (first | cases eo21 | (injection eo21 with ea_ en_ ec_; (first | subst ea_ | (injection ea_ with ea_; subst ea_)); subst ec_; clear en_))
           have GB21 := Aside0.mk gb21
           have GG21 := Aside0.mk HG21
           clear gb21 gl21 HG21
           (first | simp only [add_plain] at hx253_0 | skip)
           obtain ⟨hx21_0, hf21_0⟩ := Kd.R_celln 0 HO_3.out (x11_1 : Int) p21 q21
           replace p21 := eq_true p21
           replace q21 := eq_true q21
           have HP24 := Kd.R_putn HO_3.out (x11_1 : Int) (wrap64 ((rd x3_2 x11_1) + t256))
           rw [← Ny257.out] at HP24
           have HQ24 := Aside0.mk HP24
           clear HP24
           refine hK.out _ _ ⟨(blk_cell BK247.out 0).trans rfl, (blk_cell BK247.out 1).trans rfl, hHeld.2.2⟩ (fun hHeld => ?_)
           clear hK K
           refine no_ 31 ?_
           refine pu_ HT_ 13 32 (bs 16 16383) ?_
           refine pu_ HT_ 14 33 (bs 16 32767) ?_
           refine last_ (i := 15) (N := none) (bs 16 65535) rfl rfl (one_of HT_.out (by kernel_rfl)) (by decide) (fun K hK => ?_)
           refine skip_ (w1 := ?_) (by rfl) rfl ?_ ?_
           rotate_left
           ·go_simp
            rfl
           refine hK.out _ _ ?_
           clear hK K
           refine done_ (done_of HT_.out (by kernel_rfl)) ?_
           try go_wp2
           (try simp only [← hl3_2])
           go_roundg k2
           case measure => have := HK1.out; have := HK2.out; omega
           case rel => exact ⟨(y257), (wrap64 (x16_2 + 1)), (by first | rfl | (simp; done) | (simp [*]; done)), H', ⟨by have := HK1.out; have := HK2.out; omega⟩, ⟨by (try simp only [hl3_1]); (try simp only [hl3_2]); (with_reducible repeat (first | apply Kd.R_alloc | apply Kd.R_drewN | apply Kd.R_drew)); exact HQ24.out⟩, ⟨by (try simp only [hl3_1]); (try simp only [hl3_2]); (with_reducible repeat (first | refine blk_drewN ?_ _ | refine blk_drew ?_ | refine blk_alloc ?_ _)); refine blk_far ?_ (by have h_ := Kd.R_ne HO_3.out BK247.out (by decide); intro e_; exact h_ (by rw [e_]; rfl)) _; (with_reducible repeat (first | refine blk_drewN ?_ _ | refine blk_drew ?_ | refine blk_alloc ?_ _)); exact BK247.out⟩, ⟨bv2_ HB GB21 GE247⟩⟩
          ·rw [if_neg c17] at H
           exact absurd H (by simp)
         ·rw [if_neg c16] at H
          exact absurd H (by simp)
        ·rw [if_neg c15] at H
         have c15b0 : decide (x16_2 < t252) = false := decide_eq_false c15
         (try simp only [hl3_1] at c15b0)
         (try simp only [hl3_2] at c15b0)
         clear c15
         have H' := Aside0.mk H
         clear H
         go_wp2
         (try simp only [← hl3_1, ← hl3_2])
         go_roundg k2
         case measure => have := HK1.out; have := HK2.out; omega
         case rel => exact ⟨(x3_2), (wrap64 (x11_1 + 1)), (by first | rfl | (simp; done) | (simp [*]; done)), H', ⟨by have := HK1.out; have := HK2.out; omega⟩, ⟨by (try simp only [hl3_1]); (try simp only [hl3_2]); (with_reducible repeat (first | apply Kd.R_alloc | apply Kd.R_drewN | apply Kd.R_drew)); exact HO_3.out⟩, ⟨by (try simp only [hl3_1]); (try simp only [hl3_2]); (with_reducible repeat (first | refine blk_drewN ?_ _ | refine blk_drew ?_ | refine blk_alloc ?_ _)); exact BK247.out⟩, ⟨bv1_ HB GE247⟩⟩
     ·rw [if_neg c11] at H
      have c11b0 : decide (x11_1 < (y249.length : Int)) = false := decide_eq_false c11
      (try simp only [hl3_1] at c11b0)
      clear c11
      obtain rfl := Option.some.inj H
      go_wp2
      go_ret
      exact ⟨_, by first | rfl | (simp [errW_none, errW_some] <;> rfl) | (simp [*, errW_none, errW_some] <;> rfl), by (with_reducible repeat (first | apply Kd.R_alloc | apply Kd.R_drewN | apply Kd.R_drew)); exact HO_3.out, bv1_ HB GE247⟩
  ·rw [if_neg c4] at H
   exact absurd H (by simp)
 ·rw [if_neg c3] at H
  exact absurd H (by simp)


/-! ### impl_EnergyByLevel: function 8 -/
def impl_EnergyByLevel.l0 : Nat → List Int → List Int → Int → Int → Option (List Int)
 | 0, _, _, _, _ => none
 | k + 1, x3, x14, x15, x16 => if x16 < x15 then (if 0 ≤ x16 then (if x16 < (x14.length : Int) then ((impl_ones.f x16).bind fun t267 => (if 0 ≤ t267 then (if t267 < (x3.length : Int) then (impl_EnergyByLevel.l0 k (x3.set (t267 : Int).toNat (wrap64 ((rd x3 t267) + (wrap64 ((rd x14 x16) * (rd x14 x16)))))) x14 x15 (wrap64 (x16 + 1))) else (none)) else (none))) else (none)) else (none)) else (some x3)
def impl_EnergyByLevel.f (k : Nat) (a0_0 : Int) (a0_1 : Int) : Option (List Int) := (impl_IsTable.f a0_0 a0_1).bind fun t259 => (if t259 = true then (if 0 ≤ (wrap64 (a0_0 + 1)) then (if (wrap64 (a0_0 + 1) : Int).toNat ≤ 35184372088832 then ((impl_Table_spectrum.f k a0_0 a0_1).bind fun t263 => (impl_EnergyByLevel.l0 k (List.replicate (wrap64 (a0_0 + 1) : Int).toNat 0) t263 (t263.length : Int) 0)) else (none)) else (none)) else (some ([] : List Int)))
theorem impl_EnergyByLevel.mono_l : ∀ k, (∀ y0 y1 y2 y3, LeO (impl_EnergyByLevel.l0 k y0 y1 y2 y3) (impl_EnergyByLevel.l0 (k + 1) y0 y1 y2 y3))
 | 0 => fun _ _ _ _ r h => by simp [impl_EnergyByLevel.l0] at h
 | k + 1 => by
  have ih0 := impl_EnergyByLevel.mono_l k
  ·intro y0 y1 y2 y3
   unfold impl_EnergyByLevel.l0
   repeat' first
   | (with_reducible exact ih0 _ _ _ _)
   | (with_reducible exact impl_Table_spectrum.mono _ _ _)
   | (with_reducible exact LeO.refl _)
   | (with_reducible exact LeO.none _)
   | (with_reducible refine LeO.ite ?_ ?_)
   | (with_reducible refine LeO.bind ?_ (fun _ => ?_))
   | exact ih0 _ _ _ _
   | exact impl_Table_spectrum.mono _ _ _
   | exact LeO.none _
   | refine LeO.ite ?_ ?_
   | refine LeO.bind ?_ (fun _ => ?_)
theorem impl_EnergyByLevel.mono : ∀ a0 a1 k, LeO (impl_EnergyByLevel.f k a0 a1) (impl_EnergyByLevel.f (k + 1) a0 a1) := by
 intro a0 a1 k
 have ih0 := impl_EnergyByLevel.mono_l k
 unfold impl_EnergyByLevel.f
 repeat' first
   | (with_reducible exact ih0 _ _ _ _)
   | (with_reducible exact impl_Table_spectrum.mono _ _ _)
   | (with_reducible exact LeO.refl _)
   | (with_reducible exact LeO.none _)
   | (with_reducible refine LeO.ite ?_ ?_)
   | (with_reducible refine LeO.bind ?_ (fun _ => ?_))
   | exact ih0 _ _ _ _
   | exact impl_Table_spectrum.mono _ _ _
   | exact LeO.none _
   | refine LeO.ite ?_ ?_
   | refine LeO.bind ?_ (fun _ => ?_)
set_option maxHeartbeats 8000000 in
set_option maxRecDepth 100000 in
theorem impl_EnergyByLevel.calls (k : Nat) (a0_0 : Int) (a0_1 : Int) (r : List Int) (w : World) (h : impl_EnergyByLevel.f k a0_0 a0_1 = some r) :
  Calls Try.prog 8 #[.agg #[.int .i64 a0_0, .int .i64 a0_1]] w fun e w' => ∃ v0_ : Value, e = .returned (v0_) ∧ Kd.R (Kd.int .i64) 3 w' w.heap.size (fun _ => True) v0_ r ∧ Below w.heap.size w w' := by
 have hu25 := Try.underlying25
 have HB := Aside0.mk (Below.refl w.heap.size w)
 have H : ((impl_IsTable.f a0_0 a0_1).bind fun t259 => (if t259 = true then (if 0 ≤ (wrap64 (a0_0 + 1)) then (if (wrap64 (a0_0 + 1) : Int).toNat ≤ 35184372088832 then ((impl_Table_spectrum.f k a0_0 a0_1).bind fun t263 => (impl_EnergyByLevel.l0 k (List.replicate (wrap64 (a0_0 + 1) : Int).toNat 0) t263 (t263.length : Int) 0)) else (none)) else (none)) else (some ([] : List Int)))) = some r := h
 clear h
 replace H := Option.bind_eq_some_iff.mp H
 obtain ⟨t259, A20, H⟩ := H
 have A2 := Aside0.mk A20
 clear A20
 by_cases c3 : t259 = true
 ·subst c3
  have H1 : (if 0 ≤ (wrap64 (a0_0 + 1)) then (if (wrap64 (a0_0 + 1) : Int).toNat ≤ 35184372088832 then ((impl_Table_spectrum.f k a0_0 a0_1).bind fun t263 => (impl_EnergyByLevel.l0 k (List.replicate (wrap64 (a0_0 + 1) : Int).toNat 0) t263 (t263.length : Int) 0)) else (none)) else (none)) = some r := by rw [if_pos rfl] at H; exact H
  clear H
  have H := H1
  clear H1
  obtain ⟨ji4, hji4⟩ : ∃ j_ : Int, (wrap64 (a0_0 + 1)) = j_ := ⟨_, rfl⟩
  replace H : (if 0 ≤ (ji4) then (if (ji4 : Int).toNat ≤ 35184372088832 then ((impl_Table_spectrum.f k a0_0 a0_1).bind fun t263 => (impl_EnergyByLevel.l0 k (List.replicate (ji4 : Int).toNat 0) t263 (t263.length : Int) 0)) else (none)) else (none)) = some r := by first | (rw [hji4] at H; exact H) | (simp only [hji4] at H ⊢; exact H)
  (try rw [hji4] at A2)
  have hji4w : (IntKind.i64.wrap (a0_0 + 1)) = ji4 := (i64_w _).trans hji4
  by_cases c5 : 0 ≤ (ji4)
  ·rw [if_pos c5] at H
   have c5b0 := eq_true c5
   have c5b1 : decide (0 ≤ (ji4)) = true := decide_eq_true c5
   clear c5
   by_cases c6 : (ji4 : Int).toNat ≤ 35184372088832
   ·rw [if_pos c6] at H
    have c6b0 := eq_true c6
    have c6b1 : decide ((ji4 : Int).toNat ≤ 35184372088832) = true := decide_eq_true c6
    clear c6
    obtain ⟨y260, hy260⟩ : ∃ y_ : List Int, y_ = (List.replicate (ji4 : Int).toNat 0) := ⟨_, rfl⟩
    replace H : ((impl_Table_spectrum.f k a0_0 a0_1).bind fun t263 => (impl_EnergyByLevel.l0 k y260 t263 (t263.length : Int) 0)) = some r := by first | (rw [hy260]; with_reducible exact H) | (have H2_ := (Option.bind_some _ _).symm.trans H; rw [hy260]; with_reducible exact H2_) | (have H2_ := (Option.bind_some _ _).symm.trans H; with_reducible exact H2_) | with_reducible exact H | (rw [hy260]; exact H) | exact H
    have Ny260 := Aside0.mk hy260
    clear hy260
    replace H := Option.bind_eq_some_iff.mp H
    obtain ⟨t263, A70, H⟩ := H
    have A7 := Aside0.mk A70
    clear A70
    have H' := Aside0.mk H
    clear H
    go_enter Try.func8, Try.ntmps8
    go_wp2_with (first | ((with_reducible refine gate_dst (N := 1) rfl ?_); refine bx_ 1 #[.int .i64 a0_0, .int .i64 a0_1] 25 ?_; intro gb258 hg w8 hbox hb; have BK258 := Aside0.mk (hbox); have GW258 := gw_ hg (below_size (bv_ HB)); have GE258 := GW258; replace HB := Aside0.mk (below_step (bv_ HB) hb); clear hb hbox hg; obtain ⟨hcz9_0, hcz9_1, hfz9_0, hfz9_1⟩ := c2_ BK258) | ((with_reducible refine gate_callee (f := 61) rfl ?_); refine gl_ 7 Try.func61 #[.agg #[.int .i64 a0_0, .int .i64 a0_1]] rfl mp_ ?_; (with_reducible refine (impl_IsTable.calls a0_0 a0_1 true _ A2.out).mono ?_); rintro e w10 ⟨rfl, hb⟩; refine ⟨_, rfl, ?_⟩; replace BK258 := Aside0.mk (blk_below (g := gb258) (o := .cells #[.int .i64 a0_0, .int .i64 a0_1] 25 (0, 0)) (kv_ BK258) hb); replace HB := Aside0.mk (below_step (bv1_ HB GE258) hb); (try clear hb); (try clear hb2); (try clear hk); (try clear hi); obtain ⟨hcz11_0, hcz11_1, hfz11_0, hfz11_1⟩ := c2_ BK258) | ((with_reducible refine gate_dst (N := 12) rfl ?_); refine Kd.R_make (Kd.int .i64) _ 3 rfl (N := 12) rfl 28 _ _ rfl ji4 rfl rfl Try.underlying28 (.int .i64 0) 8 info3 rfl (by decide) (by omega) 0 (ok := fun _ => True) (okp := fun _ => True) rfl (fun _ hk => hk) trivial (of_decide_eq_true (by first | (with_reducible assumption) | assumption)) (Nat.le_trans (Nat.mul_le_mul_right _ (of_decide_eq_true (by first | (with_reducible assumption) | assumption) : ji4.toNat ≤ 35184372088832)) (by omega)) (Below.refl _ _) (Nat.le_refl _) ?_; intro v261 w12 ho13 hb hg_ hnew_; clear hg_ hnew_; (first | rw [← Ny260.out] at ho13 | (simp only [Int.reduceToNat] at ho13; rw [← Ny260.out] at ho13)); have HO262 := Aside0.mk (Kd.R_lower ho13 (below_size (bv1_ HB GE258))); replace BK258 := Aside0.mk (blk_below (g := gb258) (o := .cells #[.int .i64 a0_0, .int .i64 a0_1] 25 (0, 0)) (kv_ BK258) hb); replace HB := Aside0.mk (below_step (bv1_ HB GE258) hb); clear hb ho13; obtain ⟨hcz14_0, hcz14_1, hfz14_0, hfz14_1⟩ := c2_ BK258) | ((with_reducible refine gate_callee (f := 63) rfl ?_); refine gl_ 14 Try.func63 #[.agg #[.int .i64 a0_0, .int .i64 a0_1]] rfl mp_ ?_; (with_reducible refine (impl_Table_spectrum.calls k a0_0 a0_1 t263 _ A7.out).mono ?_); rintro e w15 ⟨v264, rfl, ho0, hb⟩; refine ⟨_, rfl, ?_⟩; have HO265 := Aside0.mk (Kd.R_lower (Kd.R_new' ho0 (Kd.R_lt (rv_ HO262))) (below_size (bv1_ HB GE258))); replace HO262 := Aside0.mk (Kd.R_elder' (rv_ HO262) (Kd.R_base ho0) hb); replace BK258 := Aside0.mk (blk_below (g := gb258) (o := .cells #[.int .i64 a0_0, .int .i64 a0_1] 25 (0, 0)) (kv_ BK258) hb); replace HB := Aside0.mk (below_step (bv1_ HB GE258) hb); (try clear hb); (try clear hb2); (try clear hk); (try clear hi); (try clear ho0); obtain ⟨Ao16, co16, eo16⟩ := Kd.R_slice HO265.out; subst eo16))
    go_loopg [16] k (fun kq v16 w' => ∃ (x3_1 : List Int) (x16_1 : Int), v16 = .int .i64 x16_1 ∧ Aside0 (impl_EnergyByLevel.l0 kq x3_1 t263 (t263.length : Int) x16_1 = some r) ∧ Aside0 (kq ≤ k) ∧ Aside0 (Kd.R (Kd.int .i64) 3 w' w.heap.size (fun k_ => some k_ ≠ ((.slice Ao16 t263.length co16) : Value).ownBlock) v261 x3_1) ∧ Aside0 (Kd.R (Kd.int .i64) 3 w' w.heap.size (fun k_ => some k_ ≠ (v261 : Value).ownBlock) (.slice Ao16 t263.length co16) t263) ∧ Aside0 (w'.heap[gb258]? = some (.cells #[.int .i64 a0_0, .int .i64 a0_1] 25 (0, 0))) ∧ Aside0 (Below w.heap.size w w'))
    case atStart => exact ⟨(y260), (0), (by first | rfl | (simp; done) | (simp [*]; done)), H', ⟨Nat.le_refl _⟩, ⟨by (with_reducible repeat (first | apply Kd.R_alloc | apply Kd.R_drewN | apply Kd.R_drew)); exact Kd.R_mono HO262.out (fun _ hk => hk.2)⟩, ⟨by (with_reducible repeat (first | apply Kd.R_alloc | apply Kd.R_drewN | apply Kd.R_drew)); exact Kd.R_mono HO265.out (fun _ hk => hk.2)⟩, ⟨by (with_reducible repeat (first | refine blk_drewN ?_ _ | refine blk_drew ?_ | refine blk_alloc ?_ _)); exact BK258.out⟩, ⟨bv1_ HB GE258⟩⟩
    case round =>
     clear H'
     try clear p2
     try clear c3
     try clear c5
     try clear c5b0
     try clear c5b1
     try clear c6
     try clear c6b0
     try clear c6b1
     try clear p6
     try clear c8
     try clear hcz11_0
     try clear hcz11_1
     try clear hcz14_0
     try clear hcz14_1
     try clear hcz9_0
     try clear hcz9_1
     try clear hfz11_0
     try clear hfz11_1
     try clear hfz14_0
     try clear hfz14_1
     try clear hfz9_0
     try clear hfz9_1
     obtain ⟨x3_1, x16_1, rfl, HA, HK1, HO_3, HO_14, BK258, HB⟩ := hrel
     cases gk with
     | zero => exact absurd HA.out (by simp [impl_EnergyByLevel.l0])
     | succ k1 =>
      have H := HA.out
      clear HA
      simp only [impl_EnergyByLevel.l0] at H
      by_cases c17 : x16_1 < (t263.length : Int)
      ·rw [if_pos c17] at H
       have c17b0 : decide (x16_1 < (t263.length : Int)) = true := decide_eq_true c17
       clear c17
       by_cases c18 : 0 ≤ x16_1
       ·rw [if_pos c18] at H
        have c18b0 : decide (0 ≤ x16_1) = true := decide_eq_true c18
        clear c18
        by_cases c19 : x16_1 < (t263.length : Int)
        ·rw [if_pos c19] at H
         have c19b0 : decide (x16_1 < (t263.length : Int)) = true := decide_eq_true c19
         clear c19
         replace H := Option.bind_eq_some_iff.mp H
         obtain ⟨t267, A200, H⟩ := H
         have A20 := Aside0.mk A200
         clear A200
         by_cases c21 : 0 ≤ t267
         ·rw [if_pos c21] at H
          have c21b0 : decide (0 ≤ t267) = true := decide_eq_true c21
          clear c21
          by_cases c22 : t267 < (x3_1.length : Int)
          ·rw [if_pos c22] at H
           have c22b0 : decide (t267 < (x3_1.length : Int)) = true := decide_eq_true c22
           clear c22
           obtain ⟨y269, hy269⟩ : ∃ y_ : List Int, y_ = (x3_1.set (t267 : Int).toNat (wrap64 ((rd x3_1 t267) + (wrap64 ((rd t263 x16_1) * (rd t263 x16_1)))))) := ⟨_, rfl⟩
           replace H : (impl_EnergyByLevel.l0 k1 y269 t263 (t263.length : Int) (wrap64 (x16_1 + 1))) = some r := by first | (rw [hy269]; with_reducible exact H) | (have H2_ := (Option.bind_some _ _).symm.trans H; rw [hy269]; with_reducible exact H2_) | (have H2_ := (Option.bind_some _ _).symm.trans H; with_reducible exact H2_) | with_reducible exact H | (rw [hy269]; exact H) | exact H
           have Ny269 := Aside0.mk hy269
           clear hy269
           have H' := Aside0.mk H
           clear H
           have p266 : 0 ≤ (x16_1 : Int) := of_decide_eq_true (by first | (with_reducible assumption) | assumption)
           have q266 : x16_1 < (t263.length : Int) := of_decide_eq_true (by first | (with_reducible assumption) | assumption)
           obtain ⟨ad266, e266, hx266_0⟩ := Kd.at_int (Kd.R_reads' HO_14.out).2.2 x16_1 p266 q266
           cases e266
           replace p266 := eq_true p266
           replace q266 := eq_true q266
           go_wp2_with (first | ((with_reducible refine gate_callee (f := 64) rfl ?_); refine gl_ 23 Try.func64 #[.int .i64 x16_1] rfl mp_ ?_; (with_reducible refine (impl_ones.calls x16_1 t267 _ A20.out).mono ?_); rintro e w' ⟨rfl, ⟨nd, rfl⟩⟩; refine ⟨_, rfl, ?_⟩; (try (rw [drewN_self wr]; generalize hq_ : World.drewN wr _ = wr; have n0_ : Aside0 (Kd.R (Kd.int .i64) 3 wr w.heap.size (fun k_ => some k_ ≠ (v261 : Value).ownBlock) (.slice (some ad266) t263.length co16) t263) := ⟨by rw [← hq_]; exact (rv_ HO_14)⟩; have n1_ : Aside0 (Kd.R (Kd.int .i64) 3 wr w.heap.size (fun k_ => some k_ ≠ (.slice (some ad266) t263.length co16 : Value).ownBlock) v261 x3_1) := ⟨by rw [← hq_]; exact (rv_ HO_3)⟩; have n2_ : Aside0 (wr.heap[gb258]? = some (.cells #[.int .i64 a0_0, .int .i64 a0_1] 25 (0, 0))) := ⟨by rw [← hq_]; exact (kv_ BK258)⟩; have n3_ : Aside0 (Below w.heap.size w wr) := ⟨by rw [← hq_]; exact (bv1_ HB GE258)⟩; clear HO_14 HO_3 BK258 HB hq_; have HO_14 := n0_; have HO_3 := n1_; have BK258 := n2_; have HB := n3_; clear n0_ n1_ n2_ n3_)); obtain ⟨Ao24, co24, eo24⟩ := Kd.R_slice HO_3.out; subst eo24; have p268 : 0 ≤ (t267 : Int) := of_decide_eq_true (by first | (with_reducible assumption) | assumption); have q268 : t267 < (x3_1.length : Int) := of_decide_eq_true (by first | (with_reducible assumption) | assumption); obtain ⟨ad268, e268, hx268_0⟩ := Kd.at_int (Kd.R_reads' HO_3.out).2.2 t267 p268 q268; cases e268; replace p268 := eq_true p268; replace q268 := eq_true q268; have p23 : 0 ≤ (t267 : Int) := of_decide_eq_true (by first | (with_reducible assumption) | assumption); have q23 : (t267 : Int) < ((x3_1.length : Int) : Int) := of_decide_eq_true (by first | (with_reducible assumption) | assumption); obtain ⟨go23, co23, eo23, gb23, gl23, cl23, HG23⟩ := Kd.R_form HO_3.out (by omega); (first | cases eo23 | (injection eo23 with ea_ en_ ec_; (first | subst ea_ | (injection ea_ with ea_; subst ea_)); subst ec_; clear en_)); have GB23 := Aside0.mk gb23; have GG23 := Aside0.mk HG23; clear gb23 gl23 HG23; (first | simp only [add_plain] at hx268_0 | skip); obtain ⟨hx23_0, hf23_0⟩ := Kd.R_celln 0 HO_3.out (t267 : Int) p23 q23; replace p23 := eq_true p23; replace q23 := eq_true q23; obtain ⟨hy25_, hz25_⟩ := Kd.R_celln 0 HO_3.out (t267 : Int) (of_decide_eq_true (by first | (with_reducible assumption) | assumption)) (of_decide_eq_true (by first | (with_reducible assumption) | assumption)); have HP25 := Kd.R_putg HO_3.out (t267 : Int) (wrap64 ((rd x3_1 t267) + (wrap64 ((rd t263 x16_1) * (rd t263 x16_1)))))) | ((with_reducible refine gate_store (t := 3) (p := 30) rfl ?_); refine store_event (t := 3) (p := 30) (v := ?vo_w26) (w1 := (wr.setCell ⟨go23, (t267 : Int).toNat, none⟩ (.int .i64 (wrap64 ((rd x3_1 t267) + (wrap64 ((rd t263 x16_1) * (rd t263 x16_1)))))))) ?hg ?ho ?hn ?hr ?_; (case ho => rfl); (case hg => rfl); (case hn => rfl); (case hr => first | (go_simp; done) | (go_simp; rfl)); intro w26 hw; have hg : wr.grownBy w26 (some go23) := (by rw [hw]; exact HP25.2); have hp_ : Kd.R (Kd.int .i64) 3 w26 w.heap.size (fun k_ => some k_ ≠ (.slice (some ad266) t263.length co16 : Value).ownBlock) (.slice (some ⟨go23, 0, none⟩) x3_1.length co24) y269 := (by rw [hw, Ny269.out]; exact HP25.1); clear HP25; replace HO_14 := Aside0.mk (Kd.R_after (v := (.slice (some ⟨go23, 0, none⟩) x3_1.length co24)) (v1 := (.slice (some ⟨go23, 0, none⟩) x3_1.length co24)) (ok := (fun _ => True)) (by (with_reducible repeat (first | apply Kd.R_alloc | apply Kd.R_drewN | apply Kd.R_drew)); exact Kd.R_mono HO_14.out (fun _ hk => ⟨trivial, hk⟩)) hg (.inl rfl)); replace BK258 := Aside0.mk (blk_grown (g := gb258) (o := .cells #[.int .i64 a0_0, .int .i64 a0_1] 25 (0, 0)) (kv_ BK258) hg (Kd.R_ne HO_3.out BK258.out (by decide))); replace HO_3 := Aside0.mk (hp_); replace HB := Aside0.mk ((by rw [hw]; exact below_set (HB.out) GB23.out : Below w.heap.size w w26)); clear hg hw hp_))
           go_roundg k1
           case measure => have := HK1.out; omega
           case rel => exact ⟨(y269), (wrap64 (x16_1 + 1)), (by first | rfl | (simp; done) | (simp [*]; done)), H', ⟨by have := HK1.out; omega⟩, ⟨by (with_reducible repeat (first | apply Kd.R_alloc | apply Kd.R_drewN | apply Kd.R_drew)); exact HO_3.out⟩, ⟨by (with_reducible repeat (first | apply Kd.R_alloc | apply Kd.R_drewN | apply Kd.R_drew)); exact Kd.R_mono HO_14.out (fun _ hk => hk.2)⟩, ⟨by (with_reducible repeat (first | refine blk_drewN ?_ _ | refine blk_drew ?_ | refine blk_alloc ?_ _)); exact BK258.out⟩, ⟨bv1_ HB GE258⟩⟩
          ·rw [if_neg c22] at H
           exact absurd H (by simp)
         ·rw [if_neg c21] at H
          exact absurd H (by simp)
        ·rw [if_neg c19] at H
         exact absurd H (by simp)
       ·rw [if_neg c18] at H
        exact absurd H (by simp)
      ·rw [if_neg c17] at H
       have c17b0 : decide (x16_1 < (t263.length : Int)) = false := decide_eq_false c17
       clear c17
       obtain rfl := Option.some.inj H
       go_wp2
       go_ret
       exact ⟨_, by first | rfl | (simp [errW_none, errW_some] <;> rfl) | (simp only [← hji4]; first | rfl | (simp [errW_none, errW_some] <;> rfl)) | (simp [*, errW_none, errW_some] <;> rfl), by (with_reducible repeat (first | apply Kd.R_alloc | apply Kd.R_drewN | apply Kd.R_drew)); exact Kd.R_mono HO_3.out (fun _ hk => trivial), bv1_ HB GE258⟩
   ·rw [if_neg c6] at H
    exact absurd H (by simp)
  ·rw [if_neg c5] at H
   exact absurd H (by simp)
 ·replace c3 := Bool.eq_false_iff.mpr c3
  subst c3
  have H1 : (some ([] : List Int)) = some r := by rw [if_neg (show ¬ (false = true) by decide)] at H; exact H
  clear H
  have H := H1
  clear H1
  obtain rfl := Option.some.inj H
  go_enter Try.func8, Try.ntmps8
  go_wp2_with (first | ((with_reducible refine gate_dst (N := 1) rfl ?_); refine bx_ 1 #[.int .i64 a0_0, .int .i64 a0_1] 25 ?_; intro gb258 hg w27 hbox hb; have BK258 := Aside0.mk (hbox); have GW258 := gw_ hg (below_size (bv_ HB)); have GE258 := GW258; replace HB := Aside0.mk (below_step (bv_ HB) hb); clear hb hbox hg; obtain ⟨hcz28_0, hcz28_1, hfz28_0, hfz28_1⟩ := c2_ BK258) | ((with_reducible refine gate_callee (f := 61) rfl ?_); refine gl_ 7 Try.func61 #[.agg #[.int .i64 a0_0, .int .i64 a0_1]] rfl mp_ ?_; (with_reducible refine (impl_IsTable.calls a0_0 a0_1 false _ A2.out).mono ?_); rintro e w29 ⟨rfl, hb⟩; refine ⟨_, rfl, ?_⟩; replace BK258 := Aside0.mk (blk_below (g := gb258) (o := .cells #[.int .i64 a0_0, .int .i64 a0_1] 25 (0, 0)) (kv_ BK258) hb); replace HB := Aside0.mk (below_step (bv1_ HB GE258) hb); (try clear hb); (try clear hb2); (try clear hk); (try clear hi)))
  go_ret
  exact ⟨_, by first | rfl | (simp [errW_none, errW_some] <;> rfl) | (simp [*, errW_none, errW_some] <;> rfl), by first | exact Kd.R_nil _ _ _ _ _ | exact Kd.N_nil _ _ _ _ _ | exact Kd.V_nil _ _ _ _ _ | exact Kd.Q_nil _ _ _ _ _ | exact Kd.S_nil _ _ _ _ _, bv1_ HB GE258⟩


end Go.Proofs.Ytplnffhjpmnifaa.P
