-- Out of the translation, by this session's program over the printer's; Lean checks it.
import Derived.Test.YtplnffhjpmnifaaSh
import Derived.Test.YtplnffhjpmnifaaQ0
import Derived.Test.YtplnffhjpmnifaaQ3
namespace Go.Proofs.Ytplnffhjpmnifaa.P
open Go.RowKit Go.Proofs.YtplnffhjpmnifaaW.PrintWords Go.Proofs.YtplnffhjpmnifaaW.PrintLast Go.Proofs.YtplnffhjpmnifaaW.PrintMore
attribute [local go_sem] max2_int min2_int max_two min_two max_three min_three max_four min_four
set_option linter.unusedVariables false
set_option linter.unusedSimpArgs false

/-! ### impl_PairsAtDistance: function 9 -/
mutual
def impl_PairsAtDistance.l0 : Nat → List Int → Int → Int → Int → Int → Option (List Int)
 | 0, _, _, _, _, _ => none
 | k + 1, x3, x14, x15, x271000, x271001 => if x15 < x14 then (impl_PairsAtDistance.l1 k x3 x15 x14 x15 x15 0 x271000 x271001) else (some x3)
def impl_PairsAtDistance.l1 : Nat → List Int → Int → Int → Int → Int → Int → Int → Int → Option (List Int)
 | 0, _, _, _, _, _, _, _, _ => none
 | k + 1, x3, x4, x14, x15, x18, x19, x271000, x271001 => if x19 < x18 then ((impl_Table_at.f x271000 x271001 x4).bind fun t276 => ((impl_Table_at.f x271000 x271001 x19).bind fun t277 => (if t276 = t277 then (impl_PairsAtDistance.l1 k x3 x4 x14 x15 x18 (wrap64 (x19 + 1)) x271000 x271001) else ((impl_ones.f (Go.bits .xor .i64 x4 x19)).bind fun t278 => (if 0 ≤ t278 then (if t278 < (x3.length : Int) then (impl_PairsAtDistance.l1 k (x3.set (t278 : Int).toNat (wrap64 ((rd x3 t278) + 1))) x4 x14 x15 x18 (wrap64 (x19 + 1)) x271000 x271001) else (none)) else (none)))))) else (impl_PairsAtDistance.l0 k x3 x14 (wrap64 (x15 + 1)) x271000 x271001)
end
def impl_PairsAtDistance.f (k : Nat) (a0_0 : Int) (a0_1 : Int) : Option (List Int) := (impl_IsTable.f a0_0 a0_1).bind fun t271 => (if t271 = true then (if 0 ≤ (wrap64 (a0_0 + 1)) then (if (wrap64 (a0_0 + 1) : Int).toNat ≤ 35184372088832 then ((impl_Table_size.f a0_0 a0_1).bind fun t275 => (impl_PairsAtDistance.l0 k (List.replicate (wrap64 (a0_0 + 1) : Int).toNat 0) t275 0 a0_0 a0_1)) else (none)) else (none)) else (some ([] : List Int)))
theorem impl_PairsAtDistance.mono_l : ∀ k, (∀ y0 y1 y2 y3 y4, LeO (impl_PairsAtDistance.l0 k y0 y1 y2 y3 y4) (impl_PairsAtDistance.l0 (k + 1) y0 y1 y2 y3 y4)) ∧ (∀ y0 y1 y2 y3 y4 y5 y6 y7, LeO (impl_PairsAtDistance.l1 k y0 y1 y2 y3 y4 y5 y6 y7) (impl_PairsAtDistance.l1 (k + 1) y0 y1 y2 y3 y4 y5 y6 y7))
 | 0 => ⟨fun _ _ _ _ _ r h => by simp [impl_PairsAtDistance.l0] at h, fun _ _ _ _ _ _ _ _ r h => by simp [impl_PairsAtDistance.l1] at h⟩
 | k + 1 => by
  obtain ⟨ih0, ih1⟩ := impl_PairsAtDistance.mono_l k
  refine ⟨?_, ?_⟩
  ·intro y0 y1 y2 y3 y4
   unfold impl_PairsAtDistance.l0
   repeat' first
   | (with_reducible exact ih0 _ _ _ _ _)
   | (with_reducible exact ih1 _ _ _ _ _ _ _ _)
   | (with_reducible exact LeO.refl _)
   | (with_reducible exact LeO.none _)
   | (with_reducible refine LeO.ite ?_ ?_)
   | (with_reducible refine LeO.bind ?_ (fun _ => ?_))
   | exact ih0 _ _ _ _ _
   | exact ih1 _ _ _ _ _ _ _ _
   | exact LeO.none _
   | refine LeO.ite ?_ ?_
   | refine LeO.bind ?_ (fun _ => ?_)
  ·intro y0 y1 y2 y3 y4 y5 y6 y7
   unfold impl_PairsAtDistance.l1
   repeat' first
   | (with_reducible exact ih0 _ _ _ _ _)
   | (with_reducible exact ih1 _ _ _ _ _ _ _ _)
   | (with_reducible exact LeO.refl _)
   | (with_reducible exact LeO.none _)
   | (with_reducible refine LeO.ite ?_ ?_)
   | (with_reducible refine LeO.bind ?_ (fun _ => ?_))
   | exact ih0 _ _ _ _ _
   | exact ih1 _ _ _ _ _ _ _ _
   | exact LeO.none _
   | refine LeO.ite ?_ ?_
   | refine LeO.bind ?_ (fun _ => ?_)
theorem impl_PairsAtDistance.mono : ∀ a0 a1 k, LeO (impl_PairsAtDistance.f k a0 a1) (impl_PairsAtDistance.f (k + 1) a0 a1) := by
 intro a0 a1 k
 obtain ⟨ih0, ih1⟩ := impl_PairsAtDistance.mono_l k
 unfold impl_PairsAtDistance.f
 repeat' first
   | (with_reducible exact ih0 _ _ _ _ _)
   | (with_reducible exact ih1 _ _ _ _ _ _ _ _)
   | (with_reducible exact LeO.refl _)
   | (with_reducible exact LeO.none _)
   | (with_reducible refine LeO.ite ?_ ?_)
   | (with_reducible refine LeO.bind ?_ (fun _ => ?_))
   | exact ih0 _ _ _ _ _
   | exact ih1 _ _ _ _ _ _ _ _
   | exact LeO.none _
   | refine LeO.ite ?_ ?_
   | refine LeO.bind ?_ (fun _ => ?_)
set_option maxHeartbeats 8000000 in
set_option maxRecDepth 100000 in
theorem impl_PairsAtDistance.calls (k : Nat) (a0_0 : Int) (a0_1 : Int) (r : List Int) (w : World) (h : impl_PairsAtDistance.f k a0_0 a0_1 = some r) :
  Calls Try.prog 9 #[.agg #[.int .i64 a0_0, .int .i64 a0_1]] w fun e w' => ∃ v0_ : Value, e = .returned (v0_) ∧ Kd.R (Kd.int .i64) 3 w' w.heap.size (fun _ => True) v0_ r ∧ Below w.heap.size w w' := by
 have hu25 := Try.underlying25
 have HB := Aside0.mk (Below.refl w.heap.size w)
 have H : ((impl_IsTable.f a0_0 a0_1).bind fun t271 => (if t271 = true then (if 0 ≤ (wrap64 (a0_0 + 1)) then (if (wrap64 (a0_0 + 1) : Int).toNat ≤ 35184372088832 then ((impl_Table_size.f a0_0 a0_1).bind fun t275 => (impl_PairsAtDistance.l0 k (List.replicate (wrap64 (a0_0 + 1) : Int).toNat 0) t275 0 a0_0 a0_1)) else (none)) else (none)) else (some ([] : List Int)))) = some r := h
 clear h
 replace H := Option.bind_eq_some_iff.mp H
 obtain ⟨t271, A20, H⟩ := H
 have A2 := Aside0.mk A20
 clear A20
 by_cases c3 : t271 = true
 ·subst c3
  have H1 : (if 0 ≤ (wrap64 (a0_0 + 1)) then (if (wrap64 (a0_0 + 1) : Int).toNat ≤ 35184372088832 then ((impl_Table_size.f a0_0 a0_1).bind fun t275 => (impl_PairsAtDistance.l0 k (List.replicate (wrap64 (a0_0 + 1) : Int).toNat 0) t275 0 a0_0 a0_1)) else (none)) else (none)) = some r := by rw [if_pos rfl] at H; exact H
  clear H
  have H := H1
  clear H1
  obtain ⟨ji4, hji4⟩ : ∃ j_ : Int, (wrap64 (a0_0 + 1)) = j_ := ⟨_, rfl⟩
  replace H : (if 0 ≤ (ji4) then (if (ji4 : Int).toNat ≤ 35184372088832 then ((impl_Table_size.f a0_0 a0_1).bind fun t275 => (impl_PairsAtDistance.l0 k (List.replicate (ji4 : Int).toNat 0) t275 0 a0_0 a0_1)) else (none)) else (none)) = some r := by first | (rw [hji4] at H; exact H) | (simp only [hji4] at H ⊢; exact H)
  (try rw [hji4] at A2)
  have hji4w : (IntKind.i64.wrap (a0_0 + 1)) = ji4 := (i64_w _).trans hji4
  by_cases c5 : 0 ≤ (ji4)
  ·rw [if_pos c5] at H
   have c5b0 := eq_true c5
   have c5b1 : decide (0 ≤ (ji4)) = true := decide_eq_true c5
   clear c5
   by_cases c6 : (ji4 : Int).toNat ≤ 35184372088832
   ·rw [if_pos c6] at H
    have c6b0 := eq_true c6
    have c6b1 : decide ((ji4 : Int).toNat ≤ 35184372088832) = true := decide_eq_true c6
    clear c6
    obtain ⟨y272, hy272⟩ : ∃ y_ : List Int, y_ = (List.replicate (ji4 : Int).toNat 0) := ⟨_, rfl⟩
    replace H : ((impl_Table_size.f a0_0 a0_1).bind fun t275 => (impl_PairsAtDistance.l0 k y272 t275 0 a0_0 a0_1)) = some r := by first | (rw [hy272]; with_reducible exact H) | (have H2_ := (Option.bind_some _ _).symm.trans H; rw [hy272]; with_reducible exact H2_) | (have H2_ := (Option.bind_some _ _).symm.trans H; with_reducible exact H2_) | with_reducible exact H | (rw [hy272]; exact H) | exact H
    have Ny272 := Aside0.mk hy272
    clear hy272
    replace H := Option.bind_eq_some_iff.mp H
    obtain ⟨t275, A70, H⟩ := H
    have A7 := Aside0.mk A70
    clear A70
    have H' := Aside0.mk H
    clear H
    go_enter Try.func9, Try.ntmps9
    go_wp2_with (first | ((with_reducible refine gate_dst (N := 1) rfl ?_); refine bx_ 1 #[.int .i64 a0_0, .int .i64 a0_1] 25 ?_; intro gb270 hg w8 hbox hb; have BK270 := Aside0.mk (hbox); have GW270 := gw_ hg (below_size (bv_ HB)); have GE270 := GW270; replace HB := Aside0.mk (below_step (bv_ HB) hb); clear hb hbox hg; obtain ⟨hcz9_0, hcz9_1, hfz9_0, hfz9_1⟩ := c2_ BK270) | ((with_reducible refine gate_callee (f := 61) rfl ?_); refine gl_ 7 Try.func61 #[.agg #[.int .i64 a0_0, .int .i64 a0_1]] rfl mp_ ?_; (with_reducible refine (impl_IsTable.calls a0_0 a0_1 true _ A2.out).mono ?_); rintro e w10 ⟨rfl, hb⟩; refine ⟨_, rfl, ?_⟩; replace BK270 := Aside0.mk (blk_below (g := gb270) (o := .cells #[.int .i64 a0_0, .int .i64 a0_1] 25 (0, 0)) (kv_ BK270) hb); replace HB := Aside0.mk (below_step (bv1_ HB GE270) hb); (try clear hb); (try clear hb2); (try clear hk); (try clear hi); obtain ⟨hcz11_0, hcz11_1, hfz11_0, hfz11_1⟩ := c2_ BK270) | ((with_reducible refine gate_dst (N := 12) rfl ?_); refine Kd.R_make (Kd.int .i64) _ 3 rfl (N := 12) rfl 28 _ _ rfl ji4 rfl rfl Try.underlying28 (.int .i64 0) 8 info3 rfl (by decide) (by omega) 0 (ok := fun _ => True) (okp := fun _ => True) rfl (fun _ hk => hk) trivial (of_decide_eq_true (by first | (with_reducible assumption) | assumption)) (Nat.le_trans (Nat.mul_le_mul_right _ (of_decide_eq_true (by first | (with_reducible assumption) | assumption) : ji4.toNat ≤ 35184372088832)) (by omega)) (Below.refl _ _) (Nat.le_refl _) ?_; intro v273 w12 ho13 hb hg_ hnew_; clear hg_ hnew_; (first | rw [← Ny272.out] at ho13 | (simp only [Int.reduceToNat] at ho13; rw [← Ny272.out] at ho13)); have HO274 := Aside0.mk (Kd.R_lower ho13 (below_size (bv1_ HB GE270))); replace BK270 := Aside0.mk (blk_below (g := gb270) (o := .cells #[.int .i64 a0_0, .int .i64 a0_1] 25 (0, 0)) (kv_ BK270) hb); replace HB := Aside0.mk (below_step (bv1_ HB GE270) hb); clear hb ho13; obtain ⟨hcz14_0, hcz14_1, hfz14_0, hfz14_1⟩ := c2_ BK270) | ((with_reducible refine gate_callee (f := 65) rfl ?_); refine gl_ 14 Try.func65 #[.agg #[.int .i64 a0_0, .int .i64 a0_1]] rfl mp_ ?_; (with_reducible refine (impl_Table_size.calls a0_0 a0_1 t275 _ A7.out).mono ?_); rintro e w15 ⟨rfl, hb⟩; refine ⟨_, rfl, ?_⟩; replace HO274 := Aside0.mk (Kd.R_below (rv_ HO274) hb); replace BK270 := Aside0.mk (blk_below (g := gb270) (o := .cells #[.int .i64 a0_0, .int .i64 a0_1] 25 (0, 0)) (kv_ BK270) hb); replace HB := Aside0.mk (below_step (bv1_ HB GE270) hb); (try clear hb); (try clear hb2); (try clear hk); (try clear hi)))
    go_loopg [15] k (fun kq v15 w' => ∃ (x3_1 : List Int) (x15_1 : Int), v15 = .int .i64 x15_1 ∧ Aside0 (impl_PairsAtDistance.l0 kq x3_1 t275 x15_1 a0_0 a0_1 = some r) ∧ Aside0 (kq ≤ k) ∧ Aside0 (Kd.R (Kd.int .i64) 3 w' w.heap.size (fun _ => True) v273 x3_1) ∧ Aside0 (w'.heap[gb270]? = some (.cells #[.int .i64 a0_0, .int .i64 a0_1] 25 (0, 0))) ∧ Aside0 (Below w.heap.size w w'))
    case atStart => exact ⟨(y272), (0), (by first | rfl | (simp; done) | (simp [*]; done)), H', ⟨Nat.le_refl _⟩, ⟨by (with_reducible repeat (first | apply Kd.R_alloc | apply Kd.R_drewN | apply Kd.R_drew)); exact HO274.out⟩, ⟨by (with_reducible repeat (first | refine blk_drewN ?_ _ | refine blk_drew ?_ | refine blk_alloc ?_ _)); exact BK270.out⟩, ⟨bv1_ HB GE270⟩⟩
    case round =>
     clear H'
     try clear p2
     try clear c3
     try clear c5
     try clear c5b0
     try clear c5b1
     try clear c6
     try clear c6b0
     try clear c6b1
     try clear p6
     try clear c9
     try clear hcz11_0
     try clear hcz11_1
     try clear hcz14_0
     try clear hcz14_1
     try clear hcz9_0
     try clear hcz9_1
     try clear hfz11_0
     try clear hfz11_1
     try clear hfz14_0
     try clear hfz14_1
     try clear hfz9_0
     try clear hfz9_1
     obtain ⟨x3_1, x15_1, rfl, HA, HK1, HO_3, BK270, HB⟩ := hrel
     cases gk with
     | zero => exact absurd HA.out (by simp [impl_PairsAtDistance.l0])
     | succ k1 =>
      have H := HA.out
      clear HA
      simp only [impl_PairsAtDistance.l0] at H
      by_cases c16 : x15_1 < t275
      ·rw [if_pos c16] at H
       have c16b0 : decide (x15_1 < t275) = true := decide_eq_true c16
       clear c16
       have H' := Aside0.mk H
       clear H
       go_wp2
       go_loopg [19] k1 (fun kq v19 w' => ∃ (x3_2 : List Int) (x19_2 : Int), v19 = .int .i64 x19_2 ∧ Aside0 (impl_PairsAtDistance.l1 kq x3_2 x15_1 t275 x15_1 x15_1 x19_2 a0_0 a0_1 = some r) ∧ Aside0 (kq ≤ k1) ∧ Aside0 (Kd.R (Kd.int .i64) 3 w' w.heap.size (fun _ => True) v273 x3_2) ∧ Aside0 (w'.heap[gb270]? = some (.cells #[.int .i64 a0_0, .int .i64 a0_1] 25 (0, 0))) ∧ Aside0 (Below w.heap.size w w'))
       case atStart => exact ⟨(x3_1), (0), (by first | rfl | (simp; done) | (simp [*]; done)), H', ⟨Nat.le_refl _⟩, ⟨by (with_reducible repeat (first | apply Kd.R_alloc | apply Kd.R_drewN | apply Kd.R_drew)); exact HO_3.out⟩, ⟨by (with_reducible repeat (first | refine blk_drewN ?_ _ | refine blk_drew ?_ | refine blk_alloc ?_ _)); exact BK270.out⟩, ⟨bv1_ HB GE270⟩⟩
       case round =>
        clear H'
        try clear c1
        try clear p2
        try clear c3
        try clear c5
        try clear c5b0
        try clear c5b1
        try clear c6
        try clear c6b0
        try clear c6b1
        try clear p6
        try clear c9
        try clear c16
        try clear c16b0
        try clear hcz11_0
        try clear hcz11_1
        try clear hcz14_0
        try clear hcz14_1
        try clear hcz9_0
        try clear hcz9_1
        try clear hfz11_0
        try clear hfz11_1
        try clear hfz14_0
        try clear hfz14_1
        try clear hfz9_0
        try clear hfz9_1
        try clear p2
        try clear p6
        obtain ⟨x3_2, x19_2, rfl, HA, HK2, HO_3, BK270, HB⟩ := hrel
        cases gk with
        | zero => exact absurd HA.out (by simp [impl_PairsAtDistance.l1])
        | succ k2 =>
         have H := HA.out
         clear HA
         simp only [impl_PairsAtDistance.l1] at H
         by_cases c17 : x19_2 < x15_1
         ·rw [if_pos c17] at H
          have c17b0 : decide (x19_2 < x15_1) = true := decide_eq_true c17
          clear c17
          replace H := Option.bind_eq_some_iff.mp H
          obtain ⟨t276, A180, H⟩ := H
          have A18 := Aside0.mk A180
          clear A180
          replace H := Option.bind_eq_some_iff.mp H
          obtain ⟨t277, A190, H⟩ := H
          have A19 := Aside0.mk A190
          clear A190
          by_cases c20 : t276 = t277
          ·rw [if_pos c20] at H
           have c20b0 : (t276 == t277) = true := beq_iff_eq.mpr c20
           have c20b1 : (t276 != t277) = false := bne_eq_false_iff_eq.mpr c20
           clear c20
           have H' := Aside0.mk H
           clear H
           try go_wp2
           replace HO_3 := Aside0.mk (Kd.R_drew HO_3.out)
           replace BK270 := Aside0.mk (blk_drew BK270.out)
           replace HB := Aside0.mk (below_drew1 HB.out)
           refine start_ (n := 7) (S := fun w' => w'.cell? ⟨gb270, 0, none⟩ = some (.int .i64 a0_0) ∧ w'.cell? ⟨gb270, 1, none⟩ = some (.int .i64 a0_1)) (ds := []) (bs 7 0) (by kernel_rfl) rfl (by kernel_rfl) ⟨(blk_cell BK270.out 0).trans rfl, (blk_cell BK270.out 1).trans rfl⟩ (fun hHeld => ?_)
           generalize wr.drew = w21 at HO_3 BK270 HB hHeld ⊢
           refine pure_ (i := 1) (N := some 23) (v := ?_) (a' := ?_) (bs 7 2) rfl rfl (by kernel_rfl) (fun _ _ _ h => h) (Or.inl ⟨by rfl, ?_⟩) ?_ ?_
           rotate_left
           ·intro w'
            go_simp
            with_reducible rfl
           rotate_left
           ·simp only [Act.put, List.setIfInBounds_toArray, List.set_cons_zero, List.set_cons_succ, i64_w, i32_w]
            rfl
           refine pure_ (i := 4) (N := some 26) (v := ?_) (a' := ?_) (bs 7 18) rfl rfl (by kernel_rfl) (fun _ _ _ h => h) (Or.inl ⟨by rfl, ?_⟩) ?_ ?_
           rotate_left
           ·intro w'
            go_simp
            with_reducible rfl
           rotate_left
           ·simp only [Act.put, List.setIfInBounds_toArray, List.set_cons_zero, List.set_cons_succ, i64_w, i32_w]
            rfl
           refine take_ (i := 0) (N := some 22) (v := ?_) (a' := ?_) (bs 7 19) rfl rfl (by kernel_rfl) (fun _ _ _ h => h) (Or.inl ⟨by rfl, ?_⟩) hHeld ?_ ?_
           rotate_left
           ·rintro w' ⟨s0, s1⟩
            go_simp
            with_reducible rfl
           rotate_left
           ·simp only [Act.put, List.setIfInBounds_toArray, List.set_cons_zero, List.set_cons_succ, i64_w, i32_w]
            rfl
           refine take_ (i := 3) (N := some 25) (v := ?_) (a' := ?_) (bs 7 27) rfl rfl (by kernel_rfl) (fun _ _ _ h => h) (Or.inl ⟨by rfl, ?_⟩) hHeld ?_ ?_
           rotate_left
           ·rintro w' ⟨s0, s1⟩
            go_simp
            with_reducible rfl
           rotate_left
           ·simp only [Act.put, List.setIfInBounds_toArray, List.set_cons_zero, List.set_cons_succ, i64_w, i32_w]
            rfl
           refine one_ (i := 2) (N := some 24) (bs 7 31) rfl rfl (by kernel_rfl) (by decide) (fun K hK => ?_)
           refine goes_ Try.func66 (by kernel_rfl) rfl #[.agg #[.int .i64 a0_0, .int .i64 a0_1], .int .i64 x15_1] (by rfl) rfl rfl mp_ ?_
           with_reducible refine (impl_Table_at.calls a0_0 a0_1 x15_1 t276 _ A18.out).mono ?_
           rintro e w22 ⟨rfl, hb⟩
           refine ⟨_, rfl, ?_⟩
           replace HO_3 := Aside0.mk (Kd.R_below (rv_ HO_3) hb)
           replace BK270 := Aside0.mk (blk_below (g := gb270) (o := .cells #[.int .i64 a0_0, .int .i64 a0_1] 25 (0, 0)) (kv_ BK270) hb)
           replace HB := Aside0.mk (below_step (bv1_ HB GE270) hb)
           (try clear hb)
           (try clear hb2)
           (try clear hk)
           (try clear hi)
           refine hK.out _ _ ⟨(blk_cell BK270.out 0).trans rfl, (blk_cell BK270.out 1).trans rfl⟩ (fun hHeld => ?_)
           clear hK K
           refine no_ 24 ?_
           refine one_ (i := 5) (N := some 27) (bs 7 63) rfl rfl (by kernel_rfl) (by decide) (fun K hK => ?_)
           refine goes_ Try.func66 (by kernel_rfl) rfl #[.agg #[.int .i64 a0_0, .int .i64 a0_1], .int .i64 x19_2] (by rfl) rfl rfl mp_ ?_
           with_reducible refine (impl_Table_at.calls a0_0 a0_1 x19_2 t277 _ A19.out).mono ?_
           rintro e w23 ⟨rfl, hb⟩
           refine ⟨_, rfl, ?_⟩
           replace HO_3 := Aside0.mk (Kd.R_below (rv_ HO_3) hb)
           replace BK270 := Aside0.mk (blk_below (g := gb270) (o := .cells #[.int .i64 a0_0, .int .i64 a0_1] 25 (0, 0)) (kv_ BK270) hb)
           replace HB := Aside0.mk (below_step (bv1_ HB GE270) hb)
           (try clear hb)
           (try clear hb2)
           (try clear hk)
           (try clear hi)
           refine hK.out _ _ ⟨(blk_cell BK270.out 0).trans rfl, (blk_cell BK270.out 1).trans rfl⟩ (fun hHeld => ?_)
           clear hK K
           refine no_ 27 ?_
           refine pure_ (i := 6) (N := some 28) (v := ?_) (a' := ?_) (bs 7 127) rfl rfl (by kernel_rfl) (fun _ _ _ h => h) (Or.inl ⟨by rfl, ?_⟩) ?_ ?_
           rotate_left
           ·intro w'
            go_simp
            with_reducible rfl
           rotate_left
           ·simp only [Act.put, List.setIfInBounds_toArray, List.set_cons_zero, List.set_cons_succ, i64_w, i32_w]
            rfl
           refine done_ (by kernel_rfl) ?_
           try go_wp2
           go_roundg k2
           case measure => have := HK1.out; have := HK2.out; omega
           case rel => exact ⟨(x3_2), (wrap64 (x19_2 + 1)), (by first | rfl | (simp; done) | (simp [*]; done)), H', ⟨by have := HK1.out; have := HK2.out; omega⟩, ⟨by (with_reducible repeat (first | apply Kd.R_alloc | apply Kd.R_drewN | apply Kd.R_drew)); exact HO_3.out⟩, ⟨by (with_reducible repeat (first | refine blk_drewN ?_ _ | refine blk_drew ?_ | refine blk_alloc ?_ _)); exact BK270.out⟩, ⟨bv1_ HB GE270⟩⟩
          ·rw [if_neg c20] at H
           have c20b0 : (t276 == t277) = false := beq_eq_false_iff_ne.mpr c20
           have c20b1 : (t276 != t277) = true := bne_iff_ne.mpr c20
           replace H := Option.bind_eq_some_iff.mp H
           obtain ⟨t278, A240, H⟩ := H
           have A24 := Aside0.mk A240
           clear A240
           by_cases c25 : 0 ≤ t278
           ·rw [if_pos c25] at H
            have c25b0 : decide (0 ≤ t278) = true := decide_eq_true c25
            clear c25
            by_cases c26 : t278 < (x3_2.length : Int)
            ·rw [if_pos c26] at H
             have c26b0 : decide (t278 < (x3_2.length : Int)) = true := decide_eq_true c26
             clear c26
             obtain ⟨y280, hy280⟩ : ∃ y_ : List Int, y_ = (x3_2.set (t278 : Int).toNat (wrap64 ((rd x3_2 t278) + 1))) := ⟨_, rfl⟩
             replace H : (impl_PairsAtDistance.l1 k2 y280 x15_1 t275 x15_1 x15_1 (wrap64 (x19_2 + 1)) a0_0 a0_1) = some r := by first | (rw [hy280]; with_reducible exact H) | (have H2_ := (Option.bind_some _ _).symm.trans H; rw [hy280]; with_reducible exact H2_) | (have H2_ := (Option.bind_some _ _).symm.trans H; with_reducible exact H2_) | with_reducible exact H | (rw [hy280]; exact H) | exact H
             have Ny280 := Aside0.mk hy280
             clear hy280
             have H' := Aside0.mk H
             clear H
             try go_wp2
             replace HO_3 := Aside0.mk (Kd.R_drew HO_3.out)
             replace BK270 := Aside0.mk (blk_drew BK270.out)
             replace HB := Aside0.mk (below_drew1 HB.out)
             refine start_ (n := 7) (S := fun w' => w'.cell? ⟨gb270, 0, none⟩ = some (.int .i64 a0_0) ∧ w'.cell? ⟨gb270, 1, none⟩ = some (.int .i64 a0_1)) (ds := []) (bs 7 0) (by kernel_rfl) rfl (by kernel_rfl) ⟨(blk_cell BK270.out 0).trans rfl, (blk_cell BK270.out 1).trans rfl⟩ (fun hHeld => ?_)
             generalize wr.drew = w28 at HO_3 BK270 HB hHeld ⊢
             refine pure_ (i := 1) (N := some 23) (v := ?_) (a' := ?_) (bs 7 2) rfl rfl (by kernel_rfl) (fun _ _ _ h => h) (Or.inl ⟨by rfl, ?_⟩) ?_ ?_
             rotate_left
             ·intro w'
              go_simp
              with_reducible rfl
             rotate_left
             ·simp only [Act.put, List.setIfInBounds_toArray, List.set_cons_zero, List.set_cons_succ, i64_w, i32_w]
              rfl
             refine pure_ (i := 4) (N := some 26) (v := ?_) (a' := ?_) (bs 7 18) rfl rfl (by kernel_rfl) (fun _ _ _ h => h) (Or.inl ⟨by rfl, ?_⟩) ?_ ?_
             rotate_left
             ·intro w'
              go_simp
              with_reducible rfl
             rotate_left
             ·simp only [Act.put, List.setIfInBounds_toArray, List.set_cons_zero, List.set_cons_succ, i64_w, i32_w]
              rfl
             refine take_ (i := 0) (N := some 22) (v := ?_) (a' := ?_) (bs 7 19) rfl rfl (by kernel_rfl) (fun _ _ _ h => h) (Or.inl ⟨by rfl, ?_⟩) hHeld ?_ ?_
             rotate_left
             ·rintro w' ⟨s0, s1⟩
              go_simp
              with_reducible rfl
             rotate_left
             ·simp only [Act.put, List.setIfInBounds_toArray, List.set_cons_zero, List.set_cons_succ, i64_w, i32_w]
              rfl
             refine take_ (i := 3) (N := some 25) (v := ?_) (a' := ?_) (bs 7 27) rfl rfl (by kernel_rfl) (fun _ _ _ h => h) (Or.inl ⟨by rfl, ?_⟩) hHeld ?_ ?_
             rotate_left
             ·rintro w' ⟨s0, s1⟩
              go_simp
              with_reducible rfl
             rotate_left
             ·simp only [Act.put, List.setIfInBounds_toArray, List.set_cons_zero, List.set_cons_succ, i64_w, i32_w]
              rfl
             refine one_ (i := 2) (N := some 24) (bs 7 31) rfl rfl (by kernel_rfl) (by decide) (fun K hK => ?_)
             refine goes_ Try.func66 (by kernel_rfl) rfl #[.agg #[.int .i64 a0_0, .int .i64 a0_1], .int .i64 x15_1] (by rfl) rfl rfl mp_ ?_
             with_reducible refine (impl_Table_at.calls a0_0 a0_1 x15_1 t276 _ A18.out).mono ?_
             rintro e w29 ⟨rfl, hb⟩
             refine ⟨_, rfl, ?_⟩
             replace HO_3 := Aside0.mk (Kd.R_below (rv_ HO_3) hb)
             replace BK270 := Aside0.mk (blk_below (g := gb270) (o := .cells #[.int .i64 a0_0, .int .i64 a0_1] 25 (0, 0)) (kv_ BK270) hb)
             replace HB := Aside0.mk (below_step (bv1_ HB GE270) hb)
             (try clear hb)
             (try clear hb2)
             (try clear hk)
             (try clear hi)
             refine hK.out _ _ ⟨(blk_cell BK270.out 0).trans rfl, (blk_cell BK270.out 1).trans rfl⟩ (fun hHeld => ?_)
             clear hK K
             refine no_ 24 ?_
             refine one_ (i := 5) (N := some 27) (bs 7 63) rfl rfl (by kernel_rfl) (by decide) (fun K hK => ?_)
             refine goes_ Try.func66 (by kernel_rfl) rfl #[.agg #[.int .i64 a0_0, .int .i64 a0_1], .int .i64 x19_2] (by rfl) rfl rfl mp_ ?_
             with_reducible refine (impl_Table_at.calls a0_0 a0_1 x19_2 t277 _ A19.out).mono ?_
             rintro e w30 ⟨rfl, hb⟩
             refine ⟨_, rfl, ?_⟩
             replace HO_3 := Aside0.mk (Kd.R_below (rv_ HO_3) hb)
             replace BK270 := Aside0.mk (blk_below (g := gb270) (o := .cells #[.int .i64 a0_0, .int .i64 a0_1] 25 (0, 0)) (kv_ BK270) hb)
             replace HB := Aside0.mk (below_step (bv1_ HB GE270) hb)
             (try clear hb)
             (try clear hb2)
             (try clear hk)
             (try clear hi)
             refine hK.out _ _ ⟨(blk_cell BK270.out 0).trans rfl, (blk_cell BK270.out 1).trans rfl⟩ (fun hHeld => ?_)
             clear hK K
             refine no_ 27 ?_
             refine pure_ (i := 6) (N := some 28) (v := ?_) (a' := ?_) (bs 7 127) rfl rfl (by kernel_rfl) (fun _ _ _ h => h) (Or.inl ⟨by rfl, ?_⟩) ?_ ?_
             rotate_left
             ·intro w'
              go_simp
              with_reducible rfl
             rotate_left
             ·simp only [Act.put, List.setIfInBounds_toArray, List.set_cons_zero, List.set_cons_succ, i64_w, i32_w]
              rfl
             refine done_ (by kernel_rfl) ?_
             try go_wp2_with (first | ((with_reducible refine gate_callee (f := 64) rfl ?_); refine gl_ 33 Try.func64 #[.int .i64 (Go.bits .xor .i64 x15_1 x19_2)] rfl mp_ ?_; (with_reducible refine (impl_ones.calls (Go.bits .xor .i64 x15_1 x19_2) t278 _ A24.out).mono ?_); rintro e w' ⟨rfl, ⟨nd, rfl⟩⟩; refine ⟨_, rfl, ?_⟩; (try (rw [drewN_self w30]; generalize hq_ : World.drewN w30 _ = w30; have n0_ : Aside0 (Kd.R (Kd.int .i64) 3 w30 w.heap.size (fun _ => True) v273 x3_2) := ⟨by rw [← hq_]; exact (rv_ HO_3)⟩; have n1_ : Aside0 (w30.heap[gb270]? = some (.cells #[.int .i64 a0_0, .int .i64 a0_1] 25 (0, 0))) := ⟨by rw [← hq_]; exact (kv_ BK270)⟩; have n2_ : Aside0 (Below w.heap.size w w30) := ⟨by rw [← hq_]; exact (bv1_ HB GE270)⟩; clear HO_3 BK270 HB hq_; have HO_3 := n0_; have BK270 := n1_; have HB := n2_; clear n0_ n1_ n2_)); obtain ⟨Ao31, co31, eo31⟩ := Kd.R_slice HO_3.out; subst eo31; have p279 : 0 ≤ (t278 : Int) := of_decide_eq_true (by first | (with_reducible assumption) | assumption); have q279 : t278 < (x3_2.length : Int) := of_decide_eq_true (by first | (with_reducible assumption) | assumption); obtain ⟨ad279, e279, hx279_0⟩ := Kd.at_int (Kd.R_reads' HO_3.out).2.2 t278 p279 q279; cases e279; replace p279 := eq_true p279; replace q279 := eq_true q279; have p27 : 0 ≤ (t278 : Int) := of_decide_eq_true (by first | (with_reducible assumption) | assumption); have q27 : (t278 : Int) < ((x3_2.length : Int) : Int) := of_decide_eq_true (by first | (with_reducible assumption) | assumption); obtain ⟨go27, co27, eo27, gb27, gl27, cl27, HG27⟩ := Kd.R_form HO_3.out (by omega); (first | cases eo27 | (injection eo27 with ea_ en_ ec_; (first | subst ea_ | (injection ea_ with ea_; subst ea_)); subst ec_; clear en_)); have GB27 := Aside0.mk gb27; have GG27 := Aside0.mk HG27; clear gb27 gl27 HG27; (first | simp only [add_plain] at hx279_0 | skip); obtain ⟨hx27_0, hf27_0⟩ := Kd.R_celln 0 HO_3.out (t278 : Int) p27 q27; replace p27 := eq_true p27; replace q27 := eq_true q27; obtain ⟨hy32_, hz32_⟩ := Kd.R_celln 0 HO_3.out (t278 : Int) (of_decide_eq_true (by first | (with_reducible assumption) | assumption)) (of_decide_eq_true (by first | (with_reducible assumption) | assumption)); have HP32 := Kd.R_putg HO_3.out (t278 : Int) (wrap64 ((rd x3_2 t278) + 1))) | ((with_reducible refine gate_store (t := 3) (p := 37) rfl ?_); refine store_event (t := 3) (p := 37) (v := ?vo_w33) (w1 := (w30.setCell ⟨go27, (t278 : Int).toNat, none⟩ (.int .i64 (wrap64 ((rd x3_2 t278) + 1))))) ?hg ?ho ?hn ?hr ?_; (case ho => rfl); (case hg => rfl); (case hn => rfl); (case hr => first | (go_simp; done) | (go_simp; rfl)); intro w33 hw; have hg : w30.grownBy w33 (some go27) := (by rw [hw]; exact HP32.2); have hp_ : Kd.R (Kd.int .i64) 3 w33 w.heap.size (fun _ => True) (.slice (some ⟨go27, 0, none⟩) x3_2.length co31) y280 := (by rw [hw, Ny280.out]; exact HP32.1); clear HP32; replace BK270 := Aside0.mk (blk_grown (g := gb270) (o := .cells #[.int .i64 a0_0, .int .i64 a0_1] 25 (0, 0)) (kv_ BK270) hg (Kd.R_ne HO_3.out BK270.out (by decide))); replace HO_3 := Aside0.mk (hp_); replace HB := Aside0.mk ((by rw [hw]; exact below_set (HB.out) GB27.out : Below w.heap.size w w33)); clear hg hw hp_))
             go_roundg k2
             case measure => have := HK1.out; have := HK2.out; omega
             case rel => exact ⟨(y280), (wrap64 (x19_2 + 1)), (by first | rfl | (simp; done) | (simp [*]; done)), H', ⟨by have := HK1.out; have := HK2.out; omega⟩, ⟨by (with_reducible repeat (first | apply Kd.R_alloc | apply Kd.R_drewN | apply Kd.R_drew)); exact HO_3.out⟩, ⟨by (with_reducible repeat (first | refine blk_drewN ?_ _ | refine blk_drew ?_ | refine blk_alloc ?_ _)); exact BK270.out⟩, ⟨bv1_ HB GE270⟩⟩
            ·rw [if_neg c26] at H
             exact absurd H (by simp)
           ·rw [if_neg c25] at H
            exact absurd H (by simp)
         ·rw [if_neg c17] at H
          have c17b0 : decide (x19_2 < x15_1) = false := decide_eq_false c17
          clear c17
          have H' := Aside0.mk H
          clear H
          go_wp2
          go_roundg k2
          case measure => have := HK1.out; have := HK2.out; omega
          case rel => exact ⟨(x3_2), (wrap64 (x15_1 + 1)), (by first | rfl | (simp; done) | (simp [*]; done)), H', ⟨by have := HK1.out; have := HK2.out; omega⟩, ⟨by (with_reducible repeat (first | apply Kd.R_alloc | apply Kd.R_drewN | apply Kd.R_drew)); exact HO_3.out⟩, ⟨by (with_reducible repeat (first | refine blk_drewN ?_ _ | refine blk_drew ?_ | refine blk_alloc ?_ _)); exact BK270.out⟩, ⟨bv1_ HB GE270⟩⟩
      ·rw [if_neg c16] at H
       have c16b0 : decide (x15_1 < t275) = false := decide_eq_false c16
       clear c16
       obtain rfl := Option.some.inj H
       go_wp2
       go_ret
       exact ⟨_, by first | rfl | (simp [errW_none, errW_some] <;> rfl) | (simp only [← hji4]; first | rfl | (simp [errW_none, errW_some] <;> rfl)) | (simp [*, errW_none, errW_some] <;> rfl), by (with_reducible repeat (first | apply Kd.R_alloc | apply Kd.R_drewN | apply Kd.R_drew)); exact HO_3.out, bv1_ HB GE270⟩
   ·rw [if_neg c6] at H
    exact absurd H (by simp)
  ·rw [if_neg c5] at H
   exact absurd H (by simp)
 ·replace c3 := Bool.eq_false_iff.mpr c3
  subst c3
  have H1 : (some ([] : List Int)) = some r := by rw [if_neg (show ¬ (false = true) by decide)] at H; exact H
  clear H
  have H := H1
  clear H1
  obtain rfl := Option.some.inj H
  go_enter Try.func9, Try.ntmps9
  go_wp2_with (first | ((with_reducible refine gate_dst (N := 1) rfl ?_); refine bx_ 1 #[.int .i64 a0_0, .int .i64 a0_1] 25 ?_; intro gb270 hg w34 hbox hb; have BK270 := Aside0.mk (hbox); have GW270 := gw_ hg (below_size (bv_ HB)); have GE270 := GW270; replace HB := Aside0.mk (below_step (bv_ HB) hb); clear hb hbox hg; obtain ⟨hcz35_0, hcz35_1, hfz35_0, hfz35_1⟩ := c2_ BK270) | ((with_reducible refine gate_callee (f := 61) rfl ?_); refine gl_ 7 Try.func61 #[.agg #[.int .i64 a0_0, .int .i64 a0_1]] rfl mp_ ?_; (with_reducible refine (impl_IsTable.calls a0_0 a0_1 false _ A2.out).mono ?_); rintro e w36 ⟨rfl, hb⟩; refine ⟨_, rfl, ?_⟩; replace BK270 := Aside0.mk (blk_below (g := gb270) (o := .cells #[.int .i64 a0_0, .int .i64 a0_1] 25 (0, 0)) (kv_ BK270) hb); replace HB := Aside0.mk (below_step (bv1_ HB GE270) hb); (try clear hb); (try clear hb2); (try clear hk); (try clear hi)))
  go_ret
  exact ⟨_, by first | rfl | (simp [errW_none, errW_some] <;> rfl) | (simp [*, errW_none, errW_some] <;> rfl), by first | exact Kd.R_nil _ _ _ _ _ | exact Kd.N_nil _ _ _ _ _ | exact Kd.V_nil _ _ _ _ _ | exact Kd.Q_nil _ _ _ _ _ | exact Kd.S_nil _ _ _ _ _, bv1_ HB GE270⟩


/-! ### spec_l1In: function 75 -/
def spec_l1In.f (a0 : Int) (a1 : Int) (a2 : Int) : Option (Bool) := if a0 ≥ a1 then (some (decide (a0 ≤ a2))) else (some false)
set_option maxHeartbeats 8000000 in
set_option maxRecDepth 100000 in
theorem spec_l1In.calls (a0 : Int) (a1 : Int) (a2 : Int) (r : Bool) (w : World) (h : spec_l1In.f a0 a1 a2 = some r) :
  Calls Try.prog 75 #[.int .i64 a0, .int .i64 a1, .int .i64 a2] w fun e w' => e = .returned (.bool r) ∧ Drawn0 w w' := by
 have H : (if a0 ≥ a1 then (some (decide (a0 ≤ a2))) else (some false)) = some r := h
 clear h
 by_cases c4 : a0 ≥ a1
 ·rw [if_pos c4] at H
  have c4b0 : decide (a1 ≤ a0) = true := decide_eq_true c4
  clear c4
  obtain rfl := Option.some.inj H
  go_enter Try.func75, Try.ntmps75
  go_wp2
  go_ret
  exact ⟨by first | rfl | (simp; done) | (simp [*]; done), by repeat (first | exact Drawn0.refl _ | apply Drawn0.step)⟩
 ·rw [if_neg c4] at H
  have c4b0 : decide (a1 ≤ a0) = false := decide_eq_false c4
  clear c4
  obtain rfl := Option.some.inj H
  go_enter Try.func75, Try.ntmps75
  go_wp2
  go_ret
  exact ⟨by first | rfl | (simp; done) | (simp [*]; done), by repeat (first | exact Drawn0.refl _ | apply Drawn0.step)⟩


/-! ### spec_IsTable: function 67 -/
def spec_IsTable.f (a0_0 : Int) (a0_1 : Int) : Option (Bool) := some (decide (0 ≤ a0_0 ∧ a0_0 ≤ 5 ∧ 0 ≤ a0_1 ∧ a0_1 < 2 ^ 2 ^ a0_0.toNat))
theorem spec_IsTable.l1 (x c : Int) (b : Bool) (h : b = decide (0 ≤ x ∧ x ≤ c)) : spec_l1In.f x 0 c = some b := by
 subst h
 unfold spec_l1In.f
 split
 ·rename_i h
  simp [show 0 ≤ x from h]
 ·rename_i h
  have : ¬ (0 ≤ x) := h
  simp [this]
set_option maxHeartbeats 8000000 in
set_option maxRecDepth 100000 in
theorem spec_IsTable.calls (a0_0 : Int) (a0_1 : Int) (r : Bool) (w : World) (h : spec_IsTable.f a0_0 a0_1 = some r) :
  Calls Try.prog 67 #[.agg #[.int .i64 a0_0, .int .i64 a0_1]] w fun e w' => e = .returned (.bool r) ∧ Below w.heap.size w w' := by
 have hu := Try.underlying25
 have HB := Aside0.mk (Below.refl w.heap.size w)
 unfold spec_IsTable.f at h
 obtain rfl := Option.some.inj h
 clear h
 by_cases hb : 0 ≤ a0_0 ∧ a0_0 ≤ 5
 ·rcases (by omega : a0_0 = 0 ∨ a0_0 = 1 ∨ a0_0 = 2 ∨ a0_0 = 3 ∨ a0_0 = 4 ∨ a0_0 = 5) with rfl | rfl | rfl | rfl | rfl | rfl
  ·have A2 := Aside0.mk (spec_IsTable.l1 0 5 true (by decide))
   have A7 := Aside0.mk (spec_IsTable.l1 a0_1 1 (decide ((0 : Int) ≤ 0 ∧ (0 : Int) ≤ 5 ∧ 0 ≤ a0_1 ∧ a0_1 < 2 ^ 2 ^ (0 : Int).toNat)) (decide_eq_decide.mpr ⟨fun h => ⟨h.2.2.1, by have := h.2.2.2; simp at this; omega⟩, fun h => ⟨by omega, by omega, h.1, by have := h.2; simp; omega⟩⟩))
   clear hb
   generalize (decide ((0 : Int) ≤ 0 ∧ (0 : Int) ≤ 5 ∧ 0 ≤ a0_1 ∧ a0_1 < 2 ^ 2 ^ (0 : Int).toNat)) = r at *
   go_enter Try.func67, Try.ntmps67
   go_wp2_with fail
   go_quiet (first | (go_at_call 75; (with_reducible refine (spec_l1In.calls 0 0 5 true _ A2.out).mono ?_); rintro e w' ⟨rfl, ⟨nd, rfl⟩⟩; (try first | exact ⟨rfl, _, World.drewN_drewN _ _ _⟩ | exact ⟨rfl, _, Eq.trans (World.drewN_drewN _ _ _) (congrArg (World.drewN _) (Nat.add_assoc _ _ _))⟩)) | (go_at_call 75; (with_reducible refine (spec_l1In.calls a0_1 0 1 r _ A7.out).mono ?_); rintro e w' ⟨rfl, ⟨nd, rfl⟩⟩; (try first | exact ⟨rfl, _, World.drewN_drewN _ _ _⟩ | exact ⟨rfl, _, Eq.trans (World.drewN_drewN _ _ _) (congrArg (World.drewN _) (Nat.add_assoc _ _ _))⟩)))
   go_wp2
   go_ret
   exact ⟨rfl, bv_ HB⟩
  ·have A2 := Aside0.mk (spec_IsTable.l1 1 5 true (by decide))
   have A7 := Aside0.mk (spec_IsTable.l1 a0_1 3 (decide ((0 : Int) ≤ 1 ∧ (1 : Int) ≤ 5 ∧ 0 ≤ a0_1 ∧ a0_1 < 2 ^ 2 ^ (1 : Int).toNat)) (decide_eq_decide.mpr ⟨fun h => ⟨h.2.2.1, by have := h.2.2.2; simp at this; omega⟩, fun h => ⟨by omega, by omega, h.1, by have := h.2; simp; omega⟩⟩))
   clear hb
   generalize (decide ((0 : Int) ≤ 1 ∧ (1 : Int) ≤ 5 ∧ 0 ≤ a0_1 ∧ a0_1 < 2 ^ 2 ^ (1 : Int).toNat)) = r at *
   go_enter Try.func67, Try.ntmps67
   go_wp2_with fail
   go_quiet (first | (go_at_call 75; (with_reducible refine (spec_l1In.calls 1 0 5 true _ A2.out).mono ?_); rintro e w' ⟨rfl, ⟨nd, rfl⟩⟩; (try first | exact ⟨rfl, _, World.drewN_drewN _ _ _⟩ | exact ⟨rfl, _, Eq.trans (World.drewN_drewN _ _ _) (congrArg (World.drewN _) (Nat.add_assoc _ _ _))⟩)) | (go_at_call 75; (with_reducible refine (spec_l1In.calls a0_1 0 3 r _ A7.out).mono ?_); rintro e w' ⟨rfl, ⟨nd, rfl⟩⟩; (try first | exact ⟨rfl, _, World.drewN_drewN _ _ _⟩ | exact ⟨rfl, _, Eq.trans (World.drewN_drewN _ _ _) (congrArg (World.drewN _) (Nat.add_assoc _ _ _))⟩)))
   go_wp2
   go_ret
   exact ⟨rfl, bv_ HB⟩
  ·have A2 := Aside0.mk (spec_IsTable.l1 2 5 true (by decide))
   have A7 := Aside0.mk (spec_IsTable.l1 a0_1 15 (decide ((0 : Int) ≤ 2 ∧ (2 : Int) ≤ 5 ∧ 0 ≤ a0_1 ∧ a0_1 < 2 ^ 2 ^ (2 : Int).toNat)) (decide_eq_decide.mpr ⟨fun h => ⟨h.2.2.1, by have := h.2.2.2; simp at this; omega⟩, fun h => ⟨by omega, by omega, h.1, by have := h.2; simp; omega⟩⟩))
   clear hb
   generalize (decide ((0 : Int) ≤ 2 ∧ (2 : Int) ≤ 5 ∧ 0 ≤ a0_1 ∧ a0_1 < 2 ^ 2 ^ (2 : Int).toNat)) = r at *
   go_enter Try.func67, Try.ntmps67
   go_wp2_with fail
   go_quiet (first | (go_at_call 75; (with_reducible refine (spec_l1In.calls 2 0 5 true _ A2.out).mono ?_); rintro e w' ⟨rfl, ⟨nd, rfl⟩⟩; (try first | exact ⟨rfl, _, World.drewN_drewN _ _ _⟩ | exact ⟨rfl, _, Eq.trans (World.drewN_drewN _ _ _) (congrArg (World.drewN _) (Nat.add_assoc _ _ _))⟩)) | (go_at_call 75; (with_reducible refine (spec_l1In.calls a0_1 0 15 r _ A7.out).mono ?_); rintro e w' ⟨rfl, ⟨nd, rfl⟩⟩; (try first | exact ⟨rfl, _, World.drewN_drewN _ _ _⟩ | exact ⟨rfl, _, Eq.trans (World.drewN_drewN _ _ _) (congrArg (World.drewN _) (Nat.add_assoc _ _ _))⟩)))
   go_wp2
   go_ret
   exact ⟨rfl, bv_ HB⟩
  ·have A2 := Aside0.mk (spec_IsTable.l1 3 5 true (by decide))
   have A7 := Aside0.mk (spec_IsTable.l1 a0_1 255 (decide ((0 : Int) ≤ 3 ∧ (3 : Int) ≤ 5 ∧ 0 ≤ a0_1 ∧ a0_1 < 2 ^ 2 ^ (3 : Int).toNat)) (decide_eq_decide.mpr ⟨fun h => ⟨h.2.2.1, by have := h.2.2.2; simp at this; omega⟩, fun h => ⟨by omega, by omega, h.1, by have := h.2; simp; omega⟩⟩))
   clear hb
   generalize (decide ((0 : Int) ≤ 3 ∧ (3 : Int) ≤ 5 ∧ 0 ≤ a0_1 ∧ a0_1 < 2 ^ 2 ^ (3 : Int).toNat)) = r at *
   go_enter Try.func67, Try.ntmps67
   go_wp2_with fail
   go_quiet (first | (go_at_call 75; (with_reducible refine (spec_l1In.calls 3 0 5 true _ A2.out).mono ?_); rintro e w' ⟨rfl, ⟨nd, rfl⟩⟩; (try first | exact ⟨rfl, _, World.drewN_drewN _ _ _⟩ | exact ⟨rfl, _, Eq.trans (World.drewN_drewN _ _ _) (congrArg (World.drewN _) (Nat.add_assoc _ _ _))⟩)) | (go_at_call 75; (with_reducible refine (spec_l1In.calls a0_1 0 255 r _ A7.out).mono ?_); rintro e w' ⟨rfl, ⟨nd, rfl⟩⟩; (try first | exact ⟨rfl, _, World.drewN_drewN _ _ _⟩ | exact ⟨rfl, _, Eq.trans (World.drewN_drewN _ _ _) (congrArg (World.drewN _) (Nat.add_assoc _ _ _))⟩)))
   go_wp2
   go_ret
   exact ⟨rfl, bv_ HB⟩
  ·have A2 := Aside0.mk (spec_IsTable.l1 4 5 true (by decide))
   have A7 := Aside0.mk (spec_IsTable.l1 a0_1 65535 (decide ((0 : Int) ≤ 4 ∧ (4 : Int) ≤ 5 ∧ 0 ≤ a0_1 ∧ a0_1 < 2 ^ 2 ^ (4 : Int).toNat)) (decide_eq_decide.mpr ⟨fun h => ⟨h.2.2.1, by have := h.2.2.2; simp at this; omega⟩, fun h => ⟨by omega, by omega, h.1, by have := h.2; simp; omega⟩⟩))
   clear hb
   generalize (decide ((0 : Int) ≤ 4 ∧ (4 : Int) ≤ 5 ∧ 0 ≤ a0_1 ∧ a0_1 < 2 ^ 2 ^ (4 : Int).toNat)) = r at *
   go_enter Try.func67, Try.ntmps67
   go_wp2_with fail
   go_quiet (first | (go_at_call 75; (with_reducible refine (spec_l1In.calls 4 0 5 true _ A2.out).mono ?_); rintro e w' ⟨rfl, ⟨nd, rfl⟩⟩; (try first | exact ⟨rfl, _, World.drewN_drewN _ _ _⟩ | exact ⟨rfl, _, Eq.trans (World.drewN_drewN _ _ _) (congrArg (World.drewN _) (Nat.add_assoc _ _ _))⟩)) | (go_at_call 75; (with_reducible refine (spec_l1In.calls a0_1 0 65535 r _ A7.out).mono ?_); rintro e w' ⟨rfl, ⟨nd, rfl⟩⟩; (try first | exact ⟨rfl, _, World.drewN_drewN _ _ _⟩ | exact ⟨rfl, _, Eq.trans (World.drewN_drewN _ _ _) (congrArg (World.drewN _) (Nat.add_assoc _ _ _))⟩)))
   go_wp2
   go_ret
   exact ⟨rfl, bv_ HB⟩
  ·have A2 := Aside0.mk (spec_IsTable.l1 5 5 true (by decide))
   have A7 := Aside0.mk (spec_IsTable.l1 a0_1 4294967295 (decide ((0 : Int) ≤ 5 ∧ (5 : Int) ≤ 5 ∧ 0 ≤ a0_1 ∧ a0_1 < 2 ^ 2 ^ (5 : Int).toNat)) (decide_eq_decide.mpr ⟨fun h => ⟨h.2.2.1, by have := h.2.2.2; simp at this; omega⟩, fun h => ⟨by omega, by omega, h.1, by have := h.2; simp; omega⟩⟩))
   clear hb
   generalize (decide ((0 : Int) ≤ 5 ∧ (5 : Int) ≤ 5 ∧ 0 ≤ a0_1 ∧ a0_1 < 2 ^ 2 ^ (5 : Int).toNat)) = r at *
   go_enter Try.func67, Try.ntmps67
   go_wp2_with fail
   go_quiet (first | (go_at_call 75; (with_reducible refine (spec_l1In.calls 5 0 5 true _ A2.out).mono ?_); rintro e w' ⟨rfl, ⟨nd, rfl⟩⟩; (try first | exact ⟨rfl, _, World.drewN_drewN _ _ _⟩ | exact ⟨rfl, _, Eq.trans (World.drewN_drewN _ _ _) (congrArg (World.drewN _) (Nat.add_assoc _ _ _))⟩)) | (go_at_call 75; (with_reducible refine (spec_l1In.calls a0_1 0 4294967295 r _ A7.out).mono ?_); rintro e w' ⟨rfl, ⟨nd, rfl⟩⟩; (try first | exact ⟨rfl, _, World.drewN_drewN _ _ _⟩ | exact ⟨rfl, _, Eq.trans (World.drewN_drewN _ _ _) (congrArg (World.drewN _) (Nat.add_assoc _ _ _))⟩)))
   go_wp2
   go_ret
   exact ⟨rfl, bv_ HB⟩
 ·have A2 := Aside0.mk (spec_IsTable.l1 a0_0 5 false (by rw [decide_eq_false hb]))
  have e : (decide (0 ≤ a0_0 ∧ a0_0 ≤ 5 ∧ 0 ≤ a0_1 ∧ a0_1 < 2 ^ 2 ^ a0_0.toNat)) = false := decide_eq_false fun h => hb ⟨h.1, h.2.1⟩
  rw [e]
  clear hb e
  go_enter Try.func67, Try.ntmps67
  go_wp2_with fail
  go_quiet (first | (go_at_call 75; (with_reducible refine (spec_l1In.calls a0_0 0 5 false _ A2.out).mono ?_); rintro e w' ⟨rfl, ⟨nd, rfl⟩⟩; (try first | exact ⟨rfl, _, World.drewN_drewN _ _ _⟩ | exact ⟨rfl, _, Eq.trans (World.drewN_drewN _ _ _) (congrArg (World.drewN _) (Nat.add_assoc _ _ _))⟩)))
  go_wp2
  go_ret
  exact ⟨rfl, bv_ HB⟩


/-! ### spec_l10At: function 90 -/
def spec_l10At.l0 : Nat → Int → Int → Int → Int → Int → Option (Int)
 | 0, _, _, _, _, _ => none
 | k + 1, x1, x5, x6, x322000, x322001 => if x6 < x322000 then (if 0 ≤ x1 then (if 0 ≤ x6 then (if 0 ≤ (Go.bits .xor .i64 x1 (shl .i64 1 x6)) then (spec_l10At.l0 k x1 (wrap64 (x5 + (Go.bits .and .i64 (Go.bits .xor .i64 (shr .i64 x322001 x1) (shr .i64 x322001 (Go.bits .xor .i64 x1 (shl .i64 1 x6)))) 1))) (wrap64 (x6 + 1)) x322000 x322001) else (none)) else (none)) else (none)) else (some x5)
def spec_l10At.f (k : Nat) (a0_0 : Int) (a0_1 : Int) (a1 : Int) : Option (Int) := spec_l10At.l0 k a1 0 0 a0_0 a0_1
theorem spec_l10At.mono_l : ∀ k, (∀ y0 y1 y2 y3 y4, LeO (spec_l10At.l0 k y0 y1 y2 y3 y4) (spec_l10At.l0 (k + 1) y0 y1 y2 y3 y4))
 | 0 => fun _ _ _ _ _ r h => by simp [spec_l10At.l0] at h
 | k + 1 => by
  have ih0 := spec_l10At.mono_l k
  ·intro y0 y1 y2 y3 y4
   unfold spec_l10At.l0
   repeat' first
   | (with_reducible exact ih0 _ _ _ _ _)
   | (with_reducible exact LeO.refl _)
   | (with_reducible exact LeO.none _)
   | (with_reducible refine LeO.ite ?_ ?_)
   | (with_reducible refine LeO.bind ?_ (fun _ => ?_))
   | exact ih0 _ _ _ _ _
   | exact LeO.none _
   | refine LeO.ite ?_ ?_
   | refine LeO.bind ?_ (fun _ => ?_)
theorem spec_l10At.mono : ∀ a0 a1 a2 k, LeO (spec_l10At.f k a0 a1 a2) (spec_l10At.f (k + 1) a0 a1 a2) := by
 intro a0 a1 a2 k
 have ih0 := spec_l10At.mono_l k
 unfold spec_l10At.f
 repeat' first
   | (with_reducible exact ih0 _ _ _ _ _)
   | (with_reducible exact LeO.refl _)
   | (with_reducible exact LeO.none _)
   | (with_reducible refine LeO.ite ?_ ?_)
   | (with_reducible refine LeO.bind ?_ (fun _ => ?_))
   | exact ih0 _ _ _ _ _
   | exact LeO.none _
   | refine LeO.ite ?_ ?_
   | refine LeO.bind ?_ (fun _ => ?_)
set_option maxHeartbeats 8000000 in
set_option maxRecDepth 100000 in
theorem spec_l10At.calls (k : Nat) (a0_0 : Int) (a0_1 : Int) (a1 : Int) (r : Int) (w : World) (h : spec_l10At.f k a0_0 a0_1 a1 = some r) :
  Calls Try.prog 90 #[.agg #[.int .i64 a0_0, .int .i64 a0_1], .int .i64 a1] w fun e w' => e = .returned (.int .i64 r) ∧ Below w.heap.size w w' := by
 have hu25 := Try.underlying25
 have HB := Aside0.mk (Below.refl w.heap.size w)
 have H : (spec_l10At.l0 k a1 0 0 a0_0 a0_1) = some r := h
 clear h
 have H' := Aside0.mk H
 clear H
 go_enter Try.func90, Try.ntmps90
 go_wp2_with (first | ((with_reducible refine gate_dst (N := 2) rfl ?_); refine bx_ 2 #[.int .i64 a0_0, .int .i64 a0_1] 25 ?_; intro gb321 hg w3 hbox hb; have BK321 := Aside0.mk (hbox); have GW321 := gw_ hg (below_size (bv_ HB)); have GE321 := GW321; replace HB := Aside0.mk (below_step (bv_ HB) hb); clear hb hbox hg))
 repeat (go_quiet (first | ((with_reducible refine gate_dst (N := 2) rfl ?_); refine bx_ 2 #[.int .i64 a0_0, .int .i64 a0_1] 25 ?_; intro gb321 hg w3 hbox hb; have BK321 := Aside0.mk (hbox); have GW321 := gw_ hg (below_size (bv_ HB)); have GE321 := GW321; replace HB := Aside0.mk (below_step (bv_ HB) hb); clear hb hbox hg)); try go_wp2_with (first | ((with_reducible refine gate_dst (N := 2) rfl ?_); refine bx_ 2 #[.int .i64 a0_0, .int .i64 a0_1] 25 ?_; intro gb321 hg w3 hbox hb; have BK321 := Aside0.mk (hbox); have GW321 := gw_ hg (below_size (bv_ HB)); have GE321 := GW321; replace HB := Aside0.mk (below_step (bv_ HB) hb); clear hb hbox hg)))
 go_loopg [5, 6] k (fun kq v5 v6 w' => ∃ (x5_1 : Int) (x6_1 : Int), v5 = .int .i64 x5_1 ∧ v6 = .int .i64 x6_1 ∧ Aside0 (spec_l10At.l0 kq a1 x5_1 x6_1 a0_0 a0_1 = some r) ∧ Aside0 (kq ≤ k) ∧ Aside0 (w'.heap[gb321]? = some (.cells #[.int .i64 a0_0, .int .i64 a0_1] 25 (0, 0))) ∧ Aside0 (Below w.heap.size w w'))
 case atStart => exact ⟨(0), (0), (by first | rfl | (simp; done) | (simp [*]; done)), (by first | rfl | (simp; done) | (simp [*]; done)), H', ⟨Nat.le_refl _⟩, ⟨by (with_reducible repeat (first | refine blk_drewN ?_ _ | refine blk_drew ?_ | refine blk_alloc ?_ _)); exact BK321.out⟩, ⟨bv1_ HB GE321⟩⟩
 case round =>
  clear H'
  try clear p2
  obtain ⟨x5_1, x6_1, rfl, rfl, HA, HK1, BK321, HB⟩ := hrel
  cases gk with
  | zero => exact absurd HA.out (by simp [spec_l10At.l0])
  | succ k1 =>
   have H := HA.out
   clear HA
   simp only [spec_l10At.l0] at H
   by_cases c4 : x6_1 < a0_0
   ·rw [if_pos c4] at H
    have c4b0 : decide (x6_1 < a0_0) = true := decide_eq_true c4
    clear c4
    by_cases c5 : 0 ≤ a1
    ·rw [if_pos c5] at H
     have c5b0 := eq_true c5
     have c5b1 : decide (0 ≤ a1) = true := decide_eq_true c5
     clear c5
     obtain ⟨ji6, hji6⟩ : ∃ j_ : Int, (shr .i64 a0_1 a1) = j_ := ⟨_, rfl⟩
     replace H : (if 0 ≤ x6_1 then (if 0 ≤ (Go.bits .xor .i64 a1 (shl .i64 1 x6_1)) then (spec_l10At.l0 k1 a1 (wrap64 (x5_1 + (Go.bits .and .i64 (Go.bits .xor .i64 (ji6) (shr .i64 a0_1 (Go.bits .xor .i64 a1 (shl .i64 1 x6_1)))) 1))) (wrap64 (x6_1 + 1)) a0_0 a0_1) else (none)) else (none)) = some r := by first | (rw [hji6] at H; exact H) | (simp only [hji6] at H ⊢; exact H)
     have hji6_ : (a0_1 / 2 ^ min a1.toNat 64) = ji6 := hji6
     have hji6z : a1 ≤ 64 → (a0_1 / 2 ^ a1.toNat) = ji6 := shr_small hji6
     by_cases c7 : 0 ≤ x6_1
     ·rw [if_pos c7] at H
      have c7b0 := eq_true c7
      have c7b1 : decide (0 ≤ x6_1) = true := decide_eq_true c7
      clear c7
      obtain ⟨ji8, hji8⟩ : ∃ j_ : Int, (shl .i64 1 x6_1) = j_ := ⟨_, rfl⟩
      replace H : (if 0 ≤ (Go.bits .xor .i64 a1 (ji8)) then (spec_l10At.l0 k1 a1 (wrap64 (x5_1 + (Go.bits .and .i64 (Go.bits .xor .i64 (ji6) (shr .i64 a0_1 (Go.bits .xor .i64 a1 (ji8)))) 1))) (wrap64 (x6_1 + 1)) a0_0 a0_1) else (none)) = some r := by first | (rw [hji8] at H; exact H) | (simp only [hji8] at H ⊢; exact H)
      have hji8_ : (IntKind.i64.wrap (1 * 2 ^ min x6_1.toNat 64)) = ji8 := hji8
      have hji8z : x6_1 ≤ 64 → (IntKind.i64.wrap (1 * 2 ^ x6_1.toNat)) = ji8 := shl_small hji8
      have hji8u : (IntKind.i64.wrap (2 ^ min x6_1.toNat 64)) = ji8 := by have h_ := hji8_; rw [Int.one_mul] at h_; exact h_
      have hji8v : x6_1 ≤ 64 → (IntKind.i64.wrap (2 ^ x6_1.toNat)) = ji8 := fun hle_ => by have h_ := hji8z hle_; rw [Int.one_mul] at h_; exact h_
      have hji8y : (wrap64 (1 * 2 ^ min x6_1.toNat 64)) = ji8 := (i64_w _).symm.trans hji8_
      have hji8x : x6_1 ≤ 64 → (wrap64 (1 * 2 ^ x6_1.toNat)) = ji8 := fun h_ => (i64_w _).symm.trans (hji8z h_)
      by_cases c9 : 0 ≤ (Go.bits .xor .i64 a1 (ji8))
      ·rw [if_pos c9] at H
       have c9b0 := eq_true c9
       have c9b1 : decide (0 ≤ (Go.bits .xor .i64 a1 (ji8))) = true := decide_eq_true c9
       clear c9
       obtain ⟨ji10, hji10⟩ : ∃ j_ : Int, (shr .i64 a0_1 (Go.bits .xor .i64 a1 (ji8))) = j_ := ⟨_, rfl⟩
       replace H : (spec_l10At.l0 k1 a1 (wrap64 (x5_1 + (Go.bits .and .i64 (Go.bits .xor .i64 (ji6) (ji10)) 1))) (wrap64 (x6_1 + 1)) a0_0 a0_1) = some r := by first | (rw [hji10] at H; exact H) | (simp only [hji10] at H ⊢; exact H)
       have hji10_ : (a0_1 / 2 ^ min (Go.bits .xor .i64 a1 (ji8)).toNat 64) = ji10 := hji10
       have hji10z : (Go.bits .xor .i64 a1 (ji8)) ≤ 64 → (a0_1 / 2 ^ (Go.bits .xor .i64 a1 (ji8)).toNat) = ji10 := shr_small hji10
       have H' := Aside0.mk H
       clear H
       obtain ⟨hcz11_0, hcz11_1, hfz11_0, hfz11_1⟩ := c2_ BK321
       go_wp2
       repeat (go_quiet (fail); try go_wp2)
       go_roundg k1
       case measure => have := HK1.out; omega
       case rel => exact ⟨(wrap64 (x5_1 + (Go.bits .and .i64 (Go.bits .xor .i64 (ji6) (ji10)) 1))), (wrap64 (x6_1 + 1)), (by first | rfl | (simp; done) | (simp only [← hji6, ← hji10] <;> (first | rfl | simp)) | (simp [*]; done)), (by first | rfl | (simp; done) | (simp [*]; done)), H', ⟨by have := HK1.out; omega⟩, ⟨by (with_reducible repeat (first | refine blk_drewN ?_ _ | refine blk_drew ?_ | refine blk_alloc ?_ _)); exact BK321.out⟩, ⟨bv1_ HB GE321⟩⟩
      ·rw [if_neg c9] at H
       exact absurd H (by simp)
     ·rw [if_neg c7] at H
      exact absurd H (by simp)
    ·rw [if_neg c5] at H
     exact absurd H (by simp)
   ·rw [if_neg c4] at H
    have c4b0 : decide (x6_1 < a0_0) = false := decide_eq_false c4
    clear c4
    obtain rfl := Option.some.inj H
    obtain ⟨hcz12_0, hcz12_1, hfz12_0, hfz12_1⟩ := c2_ BK321
    go_wp2
    repeat (go_quiet (fail); try go_wp2)
    go_ret
    exact ⟨by first | rfl | (simp [errW_none, errW_some] <;> rfl) | (simp [*, errW_none, errW_some] <;> rfl), bv1_ HB GE321⟩


/-! ### spec_SensitiveEdges: function 54 -/
def spec_SensitiveEdges.l0 : Nat → Int → Int → Int → Int → Option (Int)
 | 0, _, _, _, _ => none
 | k + 1, x3, x4, x323000, x323001 => if 0 ≤ x323000 then (if x4 < (shl .i64 1 x323000) then ((spec_l10At.f k x323000 x323001 x4).bind fun t324 => (spec_SensitiveEdges.l0 k (wrap64 (x3 + t324)) (wrap64 (x4 + 1)) x323000 x323001)) else (some (wrap64 (Int.tdiv x3 2)))) else (none)
def spec_SensitiveEdges.f (k : Nat) (a0_0 : Int) (a0_1 : Int) : Option (Int) := (spec_IsTable.f a0_0 a0_1).bind fun t323 => (if t323 = true then (spec_SensitiveEdges.l0 k 0 0 a0_0 a0_1) else (some (-1)))
theorem spec_SensitiveEdges.mono_l : ∀ k, (∀ y0 y1 y2 y3, LeO (spec_SensitiveEdges.l0 k y0 y1 y2 y3) (spec_SensitiveEdges.l0 (k + 1) y0 y1 y2 y3))
 | 0 => fun _ _ _ _ r h => by simp [spec_SensitiveEdges.l0] at h
 | k + 1 => by
  have ih0 := spec_SensitiveEdges.mono_l k
  ·intro y0 y1 y2 y3
   unfold spec_SensitiveEdges.l0
   repeat' first
   | (with_reducible exact ih0 _ _ _ _)
   | (with_reducible exact spec_l10At.mono _ _ _ _)
   | (with_reducible exact LeO.refl _)
   | (with_reducible exact LeO.none _)
   | (with_reducible refine LeO.ite ?_ ?_)
   | (with_reducible refine LeO.bind ?_ (fun _ => ?_))
   | exact ih0 _ _ _ _
   | exact spec_l10At.mono _ _ _ _
   | exact LeO.none _
   | refine LeO.ite ?_ ?_
   | refine LeO.bind ?_ (fun _ => ?_)
theorem spec_SensitiveEdges.mono : ∀ a0 a1 k, LeO (spec_SensitiveEdges.f k a0 a1) (spec_SensitiveEdges.f (k + 1) a0 a1) := by
 intro a0 a1 k
 have ih0 := spec_SensitiveEdges.mono_l k
 unfold spec_SensitiveEdges.f
 repeat' first
   | (with_reducible exact ih0 _ _ _ _)
   | (with_reducible exact spec_l10At.mono _ _ _ _)
   | (with_reducible exact LeO.refl _)
   | (with_reducible exact LeO.none _)
   | (with_reducible refine LeO.ite ?_ ?_)
   | (with_reducible refine LeO.bind ?_ (fun _ => ?_))
   | exact ih0 _ _ _ _
   | exact spec_l10At.mono _ _ _ _
   | exact LeO.none _
   | refine LeO.ite ?_ ?_
   | refine LeO.bind ?_ (fun _ => ?_)
set_option maxHeartbeats 8000000 in
set_option maxRecDepth 100000 in
theorem spec_SensitiveEdges.calls (k : Nat) (a0_0 : Int) (a0_1 : Int) (r : Int) (w : World) (h : spec_SensitiveEdges.f k a0_0 a0_1 = some r) :
  Calls Try.prog 54 #[.agg #[.int .i64 a0_0, .int .i64 a0_1]] w fun e w' => e = .returned (.int .i64 r) ∧ Below w.heap.size w w' := by
 have hu25 := Try.underlying25
 have HB := Aside0.mk (Below.refl w.heap.size w)
 have H : ((spec_IsTable.f a0_0 a0_1).bind fun t323 => (if t323 = true then (spec_SensitiveEdges.l0 k 0 0 a0_0 a0_1) else (some (-1)))) = some r := h
 clear h
 replace H := Option.bind_eq_some_iff.mp H
 obtain ⟨t323, A20, H⟩ := H
 have A2 := Aside0.mk A20
 clear A20
 by_cases c3 : t323 = true
 ·subst c3
  have H1 : (spec_SensitiveEdges.l0 k 0 0 a0_0 a0_1) = some r := by rw [if_pos rfl] at H; exact H
  clear H
  have H := H1
  clear H1
  have H' := Aside0.mk H
  clear H
  go_enter Try.func54, Try.ntmps54
  go_wp2_with (first | ((with_reducible refine gate_dst (N := 1) rfl ?_); refine bx_ 1 #[.int .i64 a0_0, .int .i64 a0_1] 25 ?_; intro gb322 hg w4 hbox hb; have BK322 := Aside0.mk (hbox); have GW322 := gw_ hg (below_size (bv_ HB)); have GE322 := GW322; replace HB := Aside0.mk (below_step (bv_ HB) hb); clear hb hbox hg; obtain ⟨hcz5_0, hcz5_1, hfz5_0, hfz5_1⟩ := c2_ BK322) | ((with_reducible refine gate_callee (f := 67) rfl ?_); refine gl_ 6 Try.func67 #[.agg #[.int .i64 a0_0, .int .i64 a0_1]] rfl mp_ ?_; (with_reducible refine (spec_IsTable.calls a0_0 a0_1 true _ A2.out).mono ?_); rintro e w6 ⟨rfl, hb⟩; refine ⟨_, rfl, ?_⟩; replace BK322 := Aside0.mk (blk_below (g := gb322) (o := .cells #[.int .i64 a0_0, .int .i64 a0_1] 25 (0, 0)) (kv_ BK322) hb); replace HB := Aside0.mk (below_step (bv1_ HB GE322) hb); (try clear hb); (try clear hb2); (try clear hk); (try clear hi)))
  go_loopg [3, 4] k (fun kq v3 v4 w' => ∃ (x3_1 : Int) (x4_1 : Int), v3 = .int .i64 x3_1 ∧ v4 = .int .i64 x4_1 ∧ Aside0 (spec_SensitiveEdges.l0 kq x3_1 x4_1 a0_0 a0_1 = some r) ∧ Aside0 (kq ≤ k) ∧ Aside0 (w'.heap[gb322]? = some (.cells #[.int .i64 a0_0, .int .i64 a0_1] 25 (0, 0))) ∧ Aside0 (Below w.heap.size w w'))
  case atStart => exact ⟨(0), (0), (by first | rfl | (simp; done) | (simp [*]; done)), (by first | rfl | (simp; done) | (simp [*]; done)), H', ⟨Nat.le_refl _⟩, ⟨by (with_reducible repeat (first | refine blk_drewN ?_ _ | refine blk_drew ?_ | refine blk_alloc ?_ _)); exact BK322.out⟩, ⟨bv1_ HB GE322⟩⟩
  case round =>
   clear H'
   try clear p2
   try clear c3
   try clear c5
   try clear c6
   try clear hcz5_0
   try clear hcz5_1
   try clear hfz5_0
   try clear hfz5_1
   obtain ⟨x3_1, x4_1, rfl, rfl, HA, HK1, BK322, HB⟩ := hrel
   cases gk with
   | zero => exact absurd HA.out (by simp [spec_SensitiveEdges.l0])
   | succ k1 =>
    have H := HA.out
    clear HA
    simp only [spec_SensitiveEdges.l0] at H
    by_cases c7 : 0 ≤ a0_0
    ·rw [if_pos c7] at H
     have c7b0 := eq_true c7
     have c7b1 : decide (0 ≤ a0_0) = true := decide_eq_true c7
     clear c7
     obtain ⟨ji8, hji8⟩ : ∃ j_ : Int, (shl .i64 1 a0_0) = j_ := ⟨_, rfl⟩
     replace H : (if x4_1 < (ji8) then ((spec_l10At.f k1 a0_0 a0_1 x4_1).bind fun t324 => (spec_SensitiveEdges.l0 k1 (wrap64 (x3_1 + t324)) (wrap64 (x4_1 + 1)) a0_0 a0_1)) else (some (wrap64 (Int.tdiv x3_1 2)))) = some r := by first | (rw [hji8] at H; exact H) | (simp only [hji8] at H ⊢; exact H)
     have hji8_ : (IntKind.i64.wrap (1 * 2 ^ min a0_0.toNat 64)) = ji8 := hji8
     have hji8z : a0_0 ≤ 64 → (IntKind.i64.wrap (1 * 2 ^ a0_0.toNat)) = ji8 := shl_small hji8
     have hji8u : (IntKind.i64.wrap (2 ^ min a0_0.toNat 64)) = ji8 := by have h_ := hji8_; rw [Int.one_mul] at h_; exact h_
     have hji8v : a0_0 ≤ 64 → (IntKind.i64.wrap (2 ^ a0_0.toNat)) = ji8 := fun hle_ => by have h_ := hji8z hle_; rw [Int.one_mul] at h_; exact h_
     have hji8y : (wrap64 (1 * 2 ^ min a0_0.toNat 64)) = ji8 := (i64_w _).symm.trans hji8_
     have hji8x : a0_0 ≤ 64 → (wrap64 (1 * 2 ^ a0_0.toNat)) = ji8 := fun h_ => (i64_w _).symm.trans (hji8z h_)
     by_cases c9 : x4_1 < (ji8)
     ·rw [if_pos c9] at H
      have c9b0 : decide (x4_1 < (ji8)) = true := decide_eq_true c9
      clear c9
      replace H := Option.bind_eq_some_iff.mp H
      obtain ⟨t324, A100, H⟩ := H
      have A10 := Aside0.mk A100
      clear A100
      have H' := Aside0.mk H
      clear H
      obtain ⟨hcz11_0, hcz11_1, hfz11_0, hfz11_1⟩ := c2_ BK322
      go_wp2_with (first | ((with_reducible refine gate_callee (f := 90) rfl ?_); refine gl_ 18 Try.func90 #[.agg #[.int .i64 a0_0, .int .i64 a0_1], .int .i64 x4_1] rfl mp_ ?_; (with_reducible refine (spec_l10At.calls k1 a0_0 a0_1 x4_1 t324 _ A10.out).mono ?_); rintro e w12 ⟨rfl, hb⟩; refine ⟨_, rfl, ?_⟩; have n0_ := Aside0.mk (blk_below (g := gb322) (o := .cells #[.int .i64 a0_0, .int .i64 a0_1] 25 (0, 0)) (kv_ BK322) hb); have n1_ := Aside0.mk (below_step (bv1_ HB GE322) hb); clear BK322; clear HB; have BK322 := n0_; have HB := n1_; clear n0_ n1_; (try clear hb); (try clear hb2); (try clear hk); (try clear hi)))
      go_roundg k1
      case measure => have := HK1.out; omega
      case rel => exact ⟨(wrap64 (x3_1 + t324)), (wrap64 (x4_1 + 1)), (by first | rfl | (simp; done) | (simp [*]; done)), (by first | rfl | (simp; done) | (simp [*]; done)), H', ⟨by have := HK1.out; omega⟩, ⟨by (with_reducible repeat (first | refine blk_drewN ?_ _ | refine blk_drew ?_ | refine blk_alloc ?_ _)); exact BK322.out⟩, ⟨bv1_ HB GE322⟩⟩
     ·rw [if_neg c9] at H
      have c9b0 : decide (x4_1 < (ji8)) = false := decide_eq_false c9
      clear c9
      obtain rfl := Option.some.inj H
      obtain ⟨hcz13_0, hcz13_1, hfz13_0, hfz13_1⟩ := c2_ BK322
      go_wp2
      go_ret
      exact ⟨by first | rfl | (simp [errW_none, errW_some] <;> rfl) | (simp only [← hji8]; first | rfl | (simp [errW_none, errW_some] <;> rfl)) | (simp [*, errW_none, errW_some] <;> rfl), bv1_ HB GE322⟩
    ·rw [if_neg c7] at H
     exact absurd H (by simp)
 ·replace c3 := Bool.eq_false_iff.mpr c3
  subst c3
  have H1 : (some (-1)) = some r := by rw [if_neg (show ¬ (false = true) by decide)] at H; exact H
  clear H
  have H := H1
  clear H1
  obtain rfl := Option.some.inj H
  go_enter Try.func54, Try.ntmps54
  go_wp2_with (first | ((with_reducible refine gate_dst (N := 1) rfl ?_); refine bx_ 1 #[.int .i64 a0_0, .int .i64 a0_1] 25 ?_; intro gb322 hg w14 hbox hb; have BK322 := Aside0.mk (hbox); have GW322 := gw_ hg (below_size (bv_ HB)); have GE322 := GW322; replace HB := Aside0.mk (below_step (bv_ HB) hb); clear hb hbox hg; obtain ⟨hcz15_0, hcz15_1, hfz15_0, hfz15_1⟩ := c2_ BK322) | ((with_reducible refine gate_callee (f := 67) rfl ?_); refine gl_ 6 Try.func67 #[.agg #[.int .i64 a0_0, .int .i64 a0_1]] rfl mp_ ?_; (with_reducible refine (spec_IsTable.calls a0_0 a0_1 false _ A2.out).mono ?_); rintro e w16 ⟨rfl, hb⟩; refine ⟨_, rfl, ?_⟩; replace BK322 := Aside0.mk (blk_below (g := gb322) (o := .cells #[.int .i64 a0_0, .int .i64 a0_1] 25 (0, 0)) (kv_ BK322) hb); replace HB := Aside0.mk (below_step (bv1_ HB GE322) hb); (try clear hb); (try clear hb2); (try clear hk); (try clear hi)))
  go_ret
  exact ⟨by first | rfl | (simp [errW_none, errW_some] <;> rfl) | (simp [*, errW_none, errW_some] <;> rfl), bv1_ HB GE322⟩


/-! ### spec_TotalInfluence: function 10 -/
def spec_TotalInfluence.f (k : Nat) (a0_0 : Int) (a0_1 : Int) : Option (Int) := (spec_IsTable.f a0_0 a0_1).bind fun t326 => (if t326 = true then ((spec_SensitiveEdges.f k a0_0 a0_1).bind fun t327 => (some (wrap64 (2 * t327)))) else (some (-1)))
theorem spec_TotalInfluence.mono : ∀ a0 a1 k, LeO (spec_TotalInfluence.f k a0 a1) (spec_TotalInfluence.f (k + 1) a0 a1) := by
 intro a0 a1 k
 unfold spec_TotalInfluence.f
 repeat' first
   | (with_reducible exact spec_SensitiveEdges.mono _ _ _)
   | (with_reducible exact LeO.refl _)
   | (with_reducible exact LeO.none _)
   | (with_reducible refine LeO.ite ?_ ?_)
   | (with_reducible refine LeO.bind ?_ (fun _ => ?_))
   | exact spec_SensitiveEdges.mono _ _ _
   | exact LeO.none _
   | refine LeO.ite ?_ ?_
   | refine LeO.bind ?_ (fun _ => ?_)
set_option maxHeartbeats 8000000 in
set_option maxRecDepth 100000 in
theorem spec_TotalInfluence.calls (k : Nat) (a0_0 : Int) (a0_1 : Int) (r : Int) (w : World) (h : spec_TotalInfluence.f k a0_0 a0_1 = some r) :
  Calls Try.prog 10 #[.agg #[.int .i64 a0_0, .int .i64 a0_1]] w fun e w' => e = .returned (.int .i64 r) ∧ Below w.heap.size w w' := by
 have hu25 := Try.underlying25
 have HB := Aside0.mk (Below.refl w.heap.size w)
 have H : ((spec_IsTable.f a0_0 a0_1).bind fun t326 => (if t326 = true then ((spec_SensitiveEdges.f k a0_0 a0_1).bind fun t327 => (some (wrap64 (2 * t327)))) else (some (-1)))) = some r := h
 clear h
 replace H := Option.bind_eq_some_iff.mp H
 obtain ⟨t326, A20, H⟩ := H
 have A2 := Aside0.mk A20
 clear A20
 by_cases c3 : t326 = true
 ·subst c3
  have H1 : ((spec_SensitiveEdges.f k a0_0 a0_1).bind fun t327 => (some (wrap64 (2 * t327)))) = some r := by rw [if_pos rfl] at H; exact H
  clear H
  have H := H1
  clear H1
  replace H := Option.bind_eq_some_iff.mp H
  obtain ⟨t327, A40, H⟩ := H
  have A4 := Aside0.mk A40
  clear A40
  obtain rfl := Option.some.inj H
  go_enter Try.func10, Try.ntmps10
  go_wp2_with (first | ((with_reducible refine gate_dst (N := 1) rfl ?_); refine bx_ 1 #[.int .i64 a0_0, .int .i64 a0_1] 25 ?_; intro gb325 hg w5 hbox hb; have BK325 := Aside0.mk (hbox); have GW325 := gw_ hg (below_size (bv_ HB)); have GE325 := GW325; replace HB := Aside0.mk (below_step (bv_ HB) hb); clear hb hbox hg; obtain ⟨hcz6_0, hcz6_1, hfz6_0, hfz6_1⟩ := c2_ BK325) | ((with_reducible refine gate_callee (f := 67) rfl ?_); refine gl_ 4 Try.func67 #[.agg #[.int .i64 a0_0, .int .i64 a0_1]] rfl mp_ ?_; (with_reducible refine (spec_IsTable.calls a0_0 a0_1 true _ A2.out).mono ?_); rintro e w7 ⟨rfl, hb⟩; refine ⟨_, rfl, ?_⟩; replace BK325 := Aside0.mk (blk_below (g := gb325) (o := .cells #[.int .i64 a0_0, .int .i64 a0_1] 25 (0, 0)) (kv_ BK325) hb); replace HB := Aside0.mk (below_step (bv1_ HB GE325) hb); (try clear hb); (try clear hb2); (try clear hk); (try clear hi); obtain ⟨hcz8_0, hcz8_1, hfz8_0, hfz8_1⟩ := c2_ BK325) | ((with_reducible refine gate_callee (f := 54) rfl ?_); refine gl_ 7 Try.func54 #[.agg #[.int .i64 a0_0, .int .i64 a0_1]] rfl mp_ ?_; (with_reducible refine (spec_SensitiveEdges.calls k a0_0 a0_1 t327 _ A4.out).mono ?_); rintro e w9 ⟨rfl, hb⟩; refine ⟨_, rfl, ?_⟩; replace BK325 := Aside0.mk (blk_below (g := gb325) (o := .cells #[.int .i64 a0_0, .int .i64 a0_1] 25 (0, 0)) (kv_ BK325) hb); replace HB := Aside0.mk (below_step (bv1_ HB GE325) hb); (try clear hb); (try clear hb2); (try clear hk); (try clear hi)))
  go_ret
  exact ⟨by first | rfl | (simp [errW_none, errW_some] <;> rfl) | (simp [*, errW_none, errW_some] <;> rfl), bv1_ HB GE325⟩
 ·replace c3 := Bool.eq_false_iff.mpr c3
  subst c3
  have H1 : (some (-1)) = some r := by rw [if_neg (show ¬ (false = true) by decide)] at H; exact H
  clear H
  have H := H1
  clear H1
  obtain rfl := Option.some.inj H
  go_enter Try.func10, Try.ntmps10
  go_wp2_with (first | ((with_reducible refine gate_dst (N := 1) rfl ?_); refine bx_ 1 #[.int .i64 a0_0, .int .i64 a0_1] 25 ?_; intro gb325 hg w10 hbox hb; have BK325 := Aside0.mk (hbox); have GW325 := gw_ hg (below_size (bv_ HB)); have GE325 := GW325; replace HB := Aside0.mk (below_step (bv_ HB) hb); clear hb hbox hg; obtain ⟨hcz11_0, hcz11_1, hfz11_0, hfz11_1⟩ := c2_ BK325) | ((with_reducible refine gate_callee (f := 67) rfl ?_); refine gl_ 4 Try.func67 #[.agg #[.int .i64 a0_0, .int .i64 a0_1]] rfl mp_ ?_; (with_reducible refine (spec_IsTable.calls a0_0 a0_1 false _ A2.out).mono ?_); rintro e w12 ⟨rfl, hb⟩; refine ⟨_, rfl, ?_⟩; replace BK325 := Aside0.mk (blk_below (g := gb325) (o := .cells #[.int .i64 a0_0, .int .i64 a0_1] 25 (0, 0)) (kv_ BK325) hb); replace HB := Aside0.mk (below_step (bv1_ HB GE325) hb); (try clear hb); (try clear hb2); (try clear hk); (try clear hi)))
  go_ret
  exact ⟨by first | rfl | (simp [errW_none, errW_some] <;> rfl) | (simp [*, errW_none, errW_some] <;> rfl), bv1_ HB GE325⟩


end Go.Proofs.Ytplnffhjpmnifaa.P
