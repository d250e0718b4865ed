-- Out of the translation, by this session's program over the printer's; Lean checks it.
import Derived.Test.YtplnffhjpmnifaaSh
import Derived.Test.YtplnffhjpmnifaaQ0
import Derived.Test.YtplnffhjpmnifaaQ3
import Derived.Test.YtplnffhjpmnifaaQ4
import Derived.Test.YtplnffhjpmnifaaQ7
namespace Go.Proofs.Ytplnffhjpmnifaa.P
open Go.RowKit Go.Proofs.YtplnffhjpmnifaaW.PrintWords Go.Proofs.YtplnffhjpmnifaaW.PrintLast Go.Proofs.YtplnffhjpmnifaaW.PrintMore
attribute [local go_sem] max2_int min2_int max_two min_two max_three min_three max_four min_four
set_option linter.unusedVariables false
set_option linter.unusedSimpArgs false

/-! ### spec_MinimalBlocks: function 39 -/
def spec_MinimalBlocks.f (k : Nat) (a0_0 : Int) (a0_1 : Int) (a1 : Int) : Option (List Int × Bool) := (spec_l9In.f a0_0 a0_1 a1).bind fun t708 => (if t708 = true then ((spec_l10Blocks.f k a0_0 a0_1 a1).bind fun t709 => (some (t709, true))) else (some ((([] : List Int)), false)))
theorem spec_MinimalBlocks.mono : ∀ a0 a1 a2 k, LeO (spec_MinimalBlocks.f k a0 a1 a2) (spec_MinimalBlocks.f (k + 1) a0 a1 a2) := by
 intro a0 a1 a2 k
 unfold spec_MinimalBlocks.f
 repeat' first
   | (with_reducible exact spec_l10Blocks.mono _ _ _ _)
   | (with_reducible exact LeO.refl _)
   | (with_reducible exact LeO.none _)
   | (with_reducible refine LeO.ite ?_ ?_)
   | (with_reducible refine LeO.bind ?_ (fun _ => ?_))
   | exact spec_l10Blocks.mono _ _ _ _
   | exact LeO.none _
   | refine LeO.ite ?_ ?_
   | refine LeO.bind ?_ (fun _ => ?_)
set_option maxHeartbeats 8000000 in
set_option maxRecDepth 100000 in
theorem spec_MinimalBlocks.calls (k : Nat) (a0_0 : Int) (a0_1 : Int) (a1 : Int) (r1 : List Int) (r2 : Bool) (w : World) (h : spec_MinimalBlocks.f k a0_0 a0_1 a1 = some (r1, r2)) :
  Calls Try.prog 39 #[.agg #[.int .i64 a0_0, .int .i64 a0_1], .int .i64 a1] w fun e w' => ∃ v0_ : Value, e = .returned (.tuple #[v0_, .bool r2]) ∧ Kd.R (Kd.int .i64) 3 w' w.heap.size (fun _ => True) v0_ r1 ∧ Below w.heap.size w w' := by
 have hu25 := Try.underlying25
 have HB := Aside0.mk (Below.refl w.heap.size w)
 have H : ((spec_l9In.f a0_0 a0_1 a1).bind fun t708 => (if t708 = true then ((spec_l10Blocks.f k a0_0 a0_1 a1).bind fun t709 => (some (t709, true))) else (some ((([] : List Int)), false)))) = some (r1, r2) := h
 clear h
 replace H := Option.bind_eq_some_iff.mp H
 obtain ⟨t708, A30, H⟩ := H
 have A3 := Aside0.mk A30
 clear A30
 by_cases c4 : t708 = true
 ·subst c4
  rw [if_pos rfl] at H
  replace H := Option.bind_eq_some_iff.mp H
  obtain ⟨t709, A50, H⟩ := H
  have A5 := Aside0.mk A50
  clear A50
  simp only [Option.some.injEq, Prod.mk.injEq] at H
  obtain ⟨rfl, rfl⟩ := H
  go_enter Try.func39, Try.ntmps39
  go_wp2_with (first | ((with_reducible refine gate_dst (N := 2) rfl ?_); refine bx_ 2 #[.int .i64 a0_0, .int .i64 a0_1] 25 ?_; intro gb707 hg w6 hbox hb; have BK707 := Aside0.mk (hbox); have GW707 := gw_ hg (below_size (bv_ HB)); have GE707 := GW707; replace HB := Aside0.mk (below_step (bv_ HB) hb); clear hb hbox hg; obtain ⟨hcz7_0, hcz7_1, hfz7_0, hfz7_1⟩ := c2_ BK707) | ((with_reducible refine gate_callee (f := 79) rfl ?_); refine gl_ 8 Try.func79 #[.agg #[.int .i64 a0_0, .int .i64 a0_1], .int .i64 a1] rfl mp_ ?_; (with_reducible refine (spec_l9In.calls a0_0 a0_1 a1 true _ A3.out).mono ?_); rintro e w8 ⟨rfl, hb⟩; refine ⟨_, rfl, ?_⟩; replace BK707 := kb_ BK707 hb; replace HB := Aside0.mk (below_step (bv1_ HB GE707) hb); (try clear hb); (try clear hb2); (try clear hk); (try clear hi); obtain ⟨hcz9_0, hcz9_1, hfz9_0, hfz9_1⟩ := c2_ BK707) | ((with_reducible refine gate_callee (f := 88) rfl ?_); refine gl_ 13 Try.func88 #[.agg #[.int .i64 a0_0, .int .i64 a0_1], .int .i64 a1] rfl mp_ ?_; (with_reducible refine (spec_l10Blocks.calls k a0_0 a0_1 a1 t709 _ A5.out).mono ?_); rintro e w10 ⟨v710, rfl, ho0, hb⟩; refine ⟨_, rfl, ?_⟩; have HO711 := Aside0.mk (Kd.R_lower ho0 (below_size (bv1_ HB GE707))); replace BK707 := kb_ BK707 hb; replace HB := Aside0.mk (below_step (bv1_ HB GE707) hb); (try clear hb); (try clear hb2); (try clear hk); (try clear hi); (try clear ho0)))
  go_ret2
  exact ⟨_, by first | rfl | (simp [errW_none, errW_some] <;> rfl) | (simp [*, errW_none, errW_some] <;> rfl), by (with_reducible repeat (first | apply Kd.R_alloc | apply Kd.R_drewN | apply Kd.R_drew)); exact HO711.out, bv1_ HB GE707⟩
 ·replace c4 := Bool.eq_false_iff.mpr c4
  subst c4
  rw [if_neg (show ¬ (false = true) by decide)] at H
  obtain ⟨y712, hy712⟩ : ∃ y_ : List Int, y_ = (([] : List Int)) := ⟨_, rfl⟩
  replace H : (some (y712, false)) = some (r1, r2) := by first | (rw [hy712]; with_reducible exact H) | (have H2_ := (Option.bind_some _ _).symm.trans H; rw [hy712]; with_reducible exact H2_) | (have H2_ := (Option.bind_some _ _).symm.trans H; with_reducible exact H2_) | with_reducible exact H | (rw [hy712]; exact H) | exact H
  have Ny712 := Aside0.mk hy712
  clear hy712
  simp only [Option.some.injEq, Prod.mk.injEq] at H
  obtain ⟨rfl, rfl⟩ := H
  go_enter Try.func39, Try.ntmps39
  go_wp2_with (first | ((with_reducible refine gate_dst (N := 2) rfl ?_); refine bx_ 2 #[.int .i64 a0_0, .int .i64 a0_1] 25 ?_; intro gb707 hg w11 hbox hb; have BK707 := Aside0.mk (hbox); have GW707 := gw_ hg (below_size (bv_ HB)); have GE707 := GW707; replace HB := Aside0.mk (below_step (bv_ HB) hb); clear hb hbox hg; obtain ⟨hcz12_0, hcz12_1, hfz12_0, hfz12_1⟩ := c2_ BK707) | ((with_reducible refine gate_callee (f := 79) rfl ?_); refine gl_ 8 Try.func79 #[.agg #[.int .i64 a0_0, .int .i64 a0_1], .int .i64 a1] rfl mp_ ?_; (with_reducible refine (spec_l9In.calls a0_0 a0_1 a1 false _ A3.out).mono ?_); rintro e w13 ⟨rfl, hb⟩; refine ⟨_, rfl, ?_⟩; replace BK707 := kb_ BK707 hb; replace HB := Aside0.mk (below_step (bv1_ HB GE707) hb); (try clear hb); (try clear hb2); (try clear hk); (try clear hi)) | ((with_reducible refine gate_dst (N := 10) rfl ?_); refine Kd.R_lit (Kd.int .i64) _ 3 ?hg (N := 10) ?hd (xs := ([] : List Int)) (inner := []) (ok := fun _ => True) (okp := fun _ => True) ?hr ?hp (fun _ hk => hk) trivial (Below.refl _ _) (Nat.le_refl _) (by simp) ?_; (case hd => rfl); (case hg => rfl); (case hr => first | (go_simp; done) | (go_simp; rfl)); (case hp => exact (Reps.none _ _)); intro v713 w14 ho15 hb hg_ hnew_; clear hg_ hnew_; (first | rw [← Ny712.out] at ho15 | (simp only [Int.reduceToNat] at ho15; rw [← Ny712.out] at ho15)); have HO714 := Aside0.mk (Kd.R_lower ho15 (below_size (bv1_ HB GE707))); replace BK707 := kb_ BK707 hb; replace HB := Aside0.mk (below_step (bv1_ HB GE707) hb); clear hb ho15))
  go_ret2
  exact ⟨_, by first | rfl | (simp [errW_none, errW_some] <;> rfl) | (simp [*, errW_none, errW_some] <;> rfl), by (with_reducible repeat (first | apply Kd.R_alloc | apply Kd.R_drewN | apply Kd.R_drew)); exact HO714.out, bv1_ HB GE707⟩


/-! ### spec_DrawIsCertificate: function 40 -/
def spec_DrawIsCertificate.f (k : Nat) (l0 : List Int) : Option (Int × Int × Int × Int) := (spec_l9Both.f k l0).bind fun bt716 => ((spec_CertificateSet.f k bt716.1 bt716.2.1 bt716.2.2).bind fun bt720 => (if bt720.2 = true then (if ((l0.length : Int) % 2) = 0 then (some (bt716.1, bt716.2.1, bt716.2.2, bt720.1)) else ((some (([0, 1, 2, 3, 7, (-1), 16] : List Int) : List Int)).bind fun y722 => (if 0 ≤ ((l0.length : Int) % 7) then (if ((l0.length : Int) % 7) < (y722.length : Int) then (some (bt716.1, bt716.2.1, bt716.2.2, rd y722 ((l0.length : Int) % 7))) else (none)) else (none)))) else ((some (([0, 1, 2, 3, 7, (-1), 16] : List Int) : List Int)).bind fun y726 => (if 0 ≤ ((l0.length : Int) % 7) then (if ((l0.length : Int) % 7) < (y726.length : Int) then (some (bt716.1, bt716.2.1, bt716.2.2, rd y726 ((l0.length : Int) % 7))) else (none)) else (none)))))
theorem spec_DrawIsCertificate.mono : ∀ a0 k, LeO (spec_DrawIsCertificate.f k a0) (spec_DrawIsCertificate.f (k + 1) a0) := by
 intro a0 k
 unfold spec_DrawIsCertificate.f
 repeat' first
   | (with_reducible exact spec_CertificateSet.mono _ _ _ _)
   | (with_reducible exact spec_l9Both.mono _ _)
   | (with_reducible exact LeO.refl _)
   | (with_reducible exact LeO.none _)
   | (with_reducible refine LeO.ite ?_ ?_)
   | (with_reducible refine LeO.bind ?_ (fun _ => ?_))
   | exact spec_CertificateSet.mono _ _ _ _
   | exact spec_l9Both.mono _ _
   | exact LeO.none _
   | refine LeO.ite ?_ ?_
   | refine LeO.bind ?_ (fun _ => ?_)
def spec_DrawIsCertificate.T5 : Bool × List (List Nat × List Nat) := (true, [([], []), ([], []), ([], []), ([], []), ([3], [3]), ([4], [4]), ([2, 5], [2, 5]), ([6], [6]), ([0, 0], [0]), ([1, 8, 0, 1, 8], [1]), ([7, 9, 0, 1, 2, 3, 4, 5, 6, 7, 8, 9], [7])])
def spec_DrawIsCertificate.B5 : List Nat := [0, 0, 0, 0, 8, 24, 60, 124, 1, 259, 1023]
theorem spec_DrawIsCertificate.tab5 : rtab .any (opsOf Try.f40 5) = spec_DrawIsCertificate.T5 := by kernel_rfl
theorem spec_DrawIsCertificate.bits5 : waitsOk spec_DrawIsCertificate.T5.2 spec_DrawIsCertificate.B5 = true := by kernel_rfl
set_option maxHeartbeats 8000000 in
set_option maxRecDepth 100000 in
theorem spec_DrawIsCertificate.calls (k : Nat) (A0 : Option Addr) (c0 : Nat) (l0 : List Int) (r1 : Int) (r2 : Int) (r3 : Int) (r4 : Int) (w : World) (hr0 : Kd.C (Kd.int .u8) w A0 l0.length l0) (hc0 : l0.length ≤ c0) (h : spec_DrawIsCertificate.f k l0 = some (r1, r2, r3, r4)) :
  Calls Try.prog 40 #[.slice A0 l0.length c0] w fun e w' => e = .returned (.tuple #[.agg #[.int .i64 r1, .int .i64 r2], .int .i64 r3, .int .i64 r4]) ∧ Below w.heap.size w w' := by
 have hu25 := Try.underlying25
 have HR0 := Aside0.mk hr0
 have HC0 := Aside0.mk hc0
 clear hr0 hc0
 have HB := Aside0.mk (Below.refl w.heap.size w)
 have H : ((spec_l9Both.f k l0).bind fun bt716 => ((spec_CertificateSet.f k bt716.1 bt716.2.1 bt716.2.2).bind fun bt720 => (if bt720.2 = true then (if ((l0.length : Int) % 2) = 0 then (some (bt716.1, bt716.2.1, bt716.2.2, bt720.1)) else ((some (([0, 1, 2, 3, 7, (-1), 16] : List Int) : List Int)).bind fun y722 => (if 0 ≤ ((l0.length : Int) % 7) then (if ((l0.length : Int) % 7) < (y722.length : Int) then (some (bt716.1, bt716.2.1, bt716.2.2, rd y722 ((l0.length : Int) % 7))) else (none)) else (none)))) else ((some (([0, 1, 2, 3, 7, (-1), 16] : List Int) : List Int)).bind fun y726 => (if 0 ≤ ((l0.length : Int) % 7) then (if ((l0.length : Int) % 7) < (y726.length : Int) then (some (bt716.1, bt716.2.1, bt716.2.2, rd y726 ((l0.length : Int) % 7))) else (none)) else (none)))))) = some (r1, r2, r3, r4) := h
 clear h
 replace H := Option.bind_eq_some_iff.mp H
 obtain ⟨⟨t716, t717, t718⟩, A20, H⟩ := H
 dsimp only at H
 have A2 := Aside0.mk A20
 clear A20
 replace H := Option.bind_eq_some_iff.mp H
 obtain ⟨⟨t720, t721⟩, A30, H⟩ := H
 dsimp only at H
 have A3 := Aside0.mk A30
 clear A30
 by_cases c4 : t721 = true
 ·subst c4
  rw [if_pos rfl] at H
  by_cases c5 : ((l0.length : Int) % 2) = 0
  ·rw [if_pos c5] at H
   have c5b0 : (((l0.length : Int) % 2) == 0) = true := beq_iff_eq.mpr c5
   have c5b1 : (((l0.length : Int) % 2) != 0) = false := bne_eq_false_iff_eq.mpr c5
   clear c5
   simp only [Option.some.injEq, Prod.mk.injEq] at H
   obtain ⟨rfl, rfl, rfl, rfl⟩ := H
   go_enter Try.func40, Try.ntmps40
   go_wp2_with (first | ((with_reducible refine gate_dst (N := 2) rfl ?_); (try (refine gate_guard (by rfl) ?_; dsimp only)); refine bx_ 2 #[.int .i64 0, .int .i64 0] 25 ?_; intro gb715 hg w6 hbox hb; have BK715 := Aside0.mk (hbox); have GW715 := gw_ hg (below_size (bv_ HB)); have GE715 := GW715; replace HB := Aside0.mk (below_step (bv_ HB) hb); clear hb hbox hg) | ((with_reducible refine gate_callee (f := 76) rfl ?_); refine gl_ 11 Try.func76 #[.slice A0 l0.length c0] rfl mp_ ?_; (with_reducible refine (spec_l9Both.calls k _ _ l0 t716 t717 t718 _ ?side1 ?side2 A2.out).mono ?_); (case side1 => exact cv_ (Kd.C_below HR0.out HB.out)); (case side2 => exact HC0.out); rintro e w7 ⟨rfl, hb⟩; refine ⟨_, rfl, ?_⟩; replace BK715 := kb_ BK715 hb; replace HB := Aside0.mk (below_step (bv1_ HB GE715) hb); (try clear hb); (try clear hb2); (try clear hk); (try clear hi)) | ((with_reducible refine gate_dst (N := 5) rfl ?_); (try (refine gate_guard (by rfl) ?_; dsimp only)); refine bx_ 5 #[.int .i64 0, .int .i64 0] 25 ?_; intro gb719 hg w8 hbox hb; have BK719 := Aside0.mk (hbox); have GW719 := gw_ hg (below_size (bv1_ HB GE715)); have GE719 := GW719; replace HB := Aside0.mk (below_step (bv1_ HB GE715) hb); have NB715_719 := nb_ hg (blk_lt (g := gb715) (o := .cells #[.int .i64 0, .int .i64 0] 25 (0, 0)) (kv_ BK715)); have NB719_715 := nc_ hg (blk_lt (g := gb715) (o := .cells #[.int .i64 0, .int .i64 0] 25 (0, 0)) (kv_ BK715)); replace BK715 := kb_ BK715 hb; clear hb hbox hg; have hnb9 := NB719_715.out; have hnc9 := NB715_719.out; obtain ⟨hcz10_0, hcz10_1, hfz10_0, hfz10_1⟩ := c2_ BK719) | ((with_reducible refine gate_callee (f := 27) rfl ?_); refine gl_ 17 Try.func27 #[.agg #[.int .i64 t716, .int .i64 t717], .int .i64 t718] rfl mp_ ?_; (with_reducible refine (spec_CertificateSet.calls k t716 t717 t718 t720 true _ A3.out).mono ?_); rintro e w11 ⟨rfl, hb⟩; refine ⟨_, rfl, ?_⟩; replace BK715 := Aside0.mk (blk_below (g := gb715) (o := .cells #[.int .i64 0, .int .i64 0] 25 (0, 0)) (by (with_reducible repeat (first | refine blk_drewN ?_ _ | refine blk_drew ?_ | refine blk_alloc ?_ _)); refine blk_far ?_ NB715_719.out _; (with_reducible repeat (first | refine blk_drewN ?_ _ | refine blk_drew ?_ | refine blk_alloc ?_ _)); refine blk_far ?_ NB715_719.out _; (with_reducible repeat (first | refine blk_drewN ?_ _ | refine blk_drew ?_ | refine blk_alloc ?_ _)); exact BK715.out) hb); replace BK719 := Aside0.mk (blk_below (g := gb719) (o := .cells #[.int .i64 t716, .int .i64 t717] 25 (0, 0)) (by (with_reducible repeat (first | refine blk_drewN ?_ _ | refine blk_drew ?_ | refine blk_alloc ?_ _)); refine blk_put (cs := #[.int .i64 t716, .int .i64 0]) ?_ 1 _ rfl; (with_reducible repeat (first | refine blk_drewN ?_ _ | refine blk_drew ?_ | refine blk_alloc ?_ _)); refine blk_put (cs := #[.int .i64 0, .int .i64 0]) ?_ 0 _ rfl; (with_reducible repeat (first | refine blk_drewN ?_ _ | refine blk_drew ?_ | refine blk_alloc ?_ _)); exact BK719.out) hb); replace HB := Aside0.mk (below_step (bv2_ HB GE715 GE719) hb); (try clear hb); (try clear hb2); (try clear hk); (try clear hi); obtain ⟨hcz12_0, hcz12_1, hfz12_0, hfz12_1⟩ := c2_ BK719; obtain ⟨hcz13_0, hcz13_1, hfz13_0, hfz13_1⟩ := c2_ BK715))
   refine bodyPost_ret (results_ctt rfl _ _ gb715 25 #[.int .i64 t716, .int .i64 t717] (0, 0) _ rfl (by (with_reducible repeat (first | refine blk_drewN ?_ _ | refine blk_drew ?_ | refine blk_alloc ?_ _)); refine blk_put (cs := #[.int .i64 t716, .int .i64 0]) ?_ 1 _ rfl; (with_reducible repeat (first | refine blk_drewN ?_ _ | refine blk_drew ?_ | refine blk_alloc ?_ _)); refine blk_put (cs := #[.int .i64 0, .int .i64 0]) ?_ 0 _ rfl; (with_reducible repeat (first | refine blk_drewN ?_ _ | refine blk_drew ?_ | refine blk_alloc ?_ _)); exact BK715.out) Try.underlying25 rfl (by kernel_rfl)) rfl ?_
   exact ⟨by first | rfl | (simp [errW_none, errW_some] <;> rfl) | (simp [*, errW_none, errW_some] <;> rfl), bv2_ HB GE715 GE719⟩
  ·rw [if_neg c5] at H
   have c5b0 : (((l0.length : Int) % 2) == 0) = false := beq_eq_false_iff_ne.mpr c5
   have c5b1 : (((l0.length : Int) % 2) != 0) = true := bne_iff_ne.mpr c5
   obtain ⟨y722, hy722⟩ : ∃ y_ : List Int, y_ = (([0, 1, 2, 3, 7, (-1), 16] : List Int)) := ⟨_, rfl⟩
   replace H : (if 0 ≤ ((l0.length : Int) % 7) then (if ((l0.length : Int) % 7) < (y722.length : Int) then (some (t716, t717, t718, rd y722 ((l0.length : Int) % 7))) else (none)) else (none)) = some (r1, r2, r3, r4) := by first | (rw [hy722]; with_reducible exact H) | (have H2_ := (Option.bind_some _ _).symm.trans H; rw [hy722]; with_reducible exact H2_) | (have H2_ := (Option.bind_some _ _).symm.trans H; with_reducible exact H2_) | with_reducible exact H | (rw [hy722]; exact H) | exact H
   have Ny722 := Aside0.mk hy722
   clear hy722
   obtain ⟨ji14, hji14⟩ : ∃ j_ : Int, ((l0.length : Int) % 7) = j_ := ⟨_, rfl⟩
   replace H : (if 0 ≤ (ji14) then (if (ji14) < (y722.length : Int) then (some (t716, t717, t718, rd y722 (ji14))) else (none)) else (none)) = some (r1, r2, r3, r4) := by first | (rw [hji14] at H; exact H) | (simp only [hji14] at H ⊢; exact H)
   (try rw [hji14] at A2)
   (try rw [hji14] at A3)
   by_cases c15 : 0 ≤ (ji14)
   ·rw [if_pos c15] at H
    have c15b0 : decide (0 ≤ (ji14)) = true := decide_eq_true c15
    clear c15
    by_cases c16 : (ji14) < (y722.length : Int)
    ·rw [if_pos c16] at H
     have c16b0 : decide ((ji14) < (y722.length : Int)) = true := decide_eq_true c16
     clear c16
     simp only [Option.some.injEq, Prod.mk.injEq] at H
     obtain ⟨rfl, rfl, rfl, rfl⟩ := H
     go_enter Try.func40, Try.ntmps40
     try go_wp2_with (first | ((with_reducible refine gate_dst (N := 2) rfl ?_); (try (refine gate_guard (by rfl) ?_; dsimp only)); refine bx_ 2 #[.int .i64 0, .int .i64 0] 25 ?_; intro gb715 hg w17 hbox hb; have BK715 := Aside0.mk (hbox); have GW715 := gw_ hg (below_size (bv_ HB)); have GE715 := GW715; replace HB := Aside0.mk (below_step (bv_ HB) hb); clear hb hbox hg) | ((with_reducible refine gate_callee (f := 76) rfl ?_); refine gl_ 11 Try.func76 #[.slice A0 l0.length c0] rfl mp_ ?_; (with_reducible refine (spec_l9Both.calls k _ _ l0 t716 t717 t718 _ ?side1 ?side2 A2.out).mono ?_); (case side1 => exact cv_ (Kd.C_below HR0.out HB.out)); (case side2 => exact HC0.out); rintro e w18 ⟨rfl, hb⟩; refine ⟨_, rfl, ?_⟩; replace BK715 := kb_ BK715 hb; replace HB := Aside0.mk (below_step (bv1_ HB GE715) hb); (try clear hb); (try clear hb2); (try clear hk); (try clear hi)) | ((with_reducible refine gate_dst (N := 5) rfl ?_); (try (refine gate_guard (by rfl) ?_; dsimp only)); refine bx_ 5 #[.int .i64 0, .int .i64 0] 25 ?_; intro gb719 hg w19 hbox hb; have BK719 := Aside0.mk (hbox); have GW719 := gw_ hg (below_size (bv1_ HB GE715)); have GE719 := GW719; replace HB := Aside0.mk (below_step (bv1_ HB GE715) hb); have NB715_719 := nb_ hg (blk_lt (g := gb715) (o := .cells #[.int .i64 0, .int .i64 0] 25 (0, 0)) (kv_ BK715)); have NB719_715 := nc_ hg (blk_lt (g := gb715) (o := .cells #[.int .i64 0, .int .i64 0] 25 (0, 0)) (kv_ BK715)); replace BK715 := kb_ BK715 hb; clear hb hbox hg; have hnb20 := NB719_715.out; have hnc20 := NB715_719.out; obtain ⟨hcz21_0, hcz21_1, hfz21_0, hfz21_1⟩ := c2_ BK719) | ((with_reducible refine gate_callee (f := 27) rfl ?_); refine gl_ 17 Try.func27 #[.agg #[.int .i64 t716, .int .i64 t717], .int .i64 t718] rfl mp_ ?_; (with_reducible refine (spec_CertificateSet.calls k t716 t717 t718 t720 true _ A3.out).mono ?_); rintro e w22 ⟨rfl, hb⟩; refine ⟨_, rfl, ?_⟩; replace BK715 := Aside0.mk (blk_below (g := gb715) (o := .cells #[.int .i64 0, .int .i64 0] 25 (0, 0)) (by (with_reducible repeat (first | refine blk_drewN ?_ _ | refine blk_drew ?_ | refine blk_alloc ?_ _)); refine blk_far ?_ NB715_719.out _; (with_reducible repeat (first | refine blk_drewN ?_ _ | refine blk_drew ?_ | refine blk_alloc ?_ _)); refine blk_far ?_ NB715_719.out _; (with_reducible repeat (first | refine blk_drewN ?_ _ | refine blk_drew ?_ | refine blk_alloc ?_ _)); exact BK715.out) hb); replace BK719 := Aside0.mk (blk_below (g := gb719) (o := .cells #[.int .i64 t716, .int .i64 t717] 25 (0, 0)) (by (with_reducible repeat (first | refine blk_drewN ?_ _ | refine blk_drew ?_ | refine blk_alloc ?_ _)); refine blk_put (cs := #[.int .i64 t716, .int .i64 0]) ?_ 1 _ rfl; (with_reducible repeat (first | refine blk_drewN ?_ _ | refine blk_drew ?_ | refine blk_alloc ?_ _)); refine blk_put (cs := #[.int .i64 0, .int .i64 0]) ?_ 0 _ rfl; (with_reducible repeat (first | refine blk_drewN ?_ _ | refine blk_drew ?_ | refine blk_alloc ?_ _)); exact BK719.out) hb); replace HB := Aside0.mk (below_step (bv2_ HB GE715 GE719) hb); (try clear hb); (try clear hb2); (try clear hk); (try clear hi)))
     have pi725 : (0 ≤ ((ji14) : Int)) = True := eq_true (of_decide_eq_true (by first | (with_reducible assumption) | assumption))
     have qi725 : ((ji14) < (y722.length : Int)) = True := eq_true (of_decide_eq_true (by first | (with_reducible assumption) | assumption))
     replace BK715 := Aside0.mk (blk_drew BK715.out)
     replace BK719 := Aside0.mk (blk_drew BK719.out)
     replace HB := Aside0.mk (below_drew1 HB.out)
     refine start_ (n := 11) (S := fun w' => True) (ds := []) (bs 11 0) (by kernel_rfl) rfl (by kernel_rfl) trivial (fun hHeld => ?_); refine with_tabW spec_DrawIsCertificate.tab5 spec_DrawIsCertificate.bits5 (fun HT_ HW_ => ?_)
     generalize w22.drew = w23 at BK715 BK719 HB hHeld ⊢
     refine pu_ HT_ 1 31 (bs 11 2) ?_
     refine pu_ HT_ 3 33 (bs 11 10) ?_
     refine inv_at [0, 2, 4, 5, 6, 7, 8, 9, 10] (fun a0_ b a w' => ∃ (v723 : Value) (adz_v723 : Addr) (m6_ : Value), a = putSel a0_ b [(0, 30, .agg #[.int .i64 t716, .int .i64 t717]), (2, 32, v723), (4, 34, .int .i64 (l0.length : Int)), (5, 35, .int .i64 ji14), (6, 36, m6_), (7, 37, .int .i64 (rd y722 (ji14))), (9, 3, .int .i64 t718), (10, 4, .int .i64 (rd y722 (ji14)))] ∧ (b 8 = false → w'.heap[gb715]? = some (.cells #[.int .i64 0, .int .i64 0] 25 (0, 0))) ∧ (w'.heap[gb719]? = some (.cells #[.int .i64 t716, .int .i64 t717] 25 (0, 0))) ∧ (Below w.heap.size w w') ∧ (b 2 = true → Kd.R (Kd.int .i64) 3 w' w.heap.size (fun _ => True) v723 y722) ∧ (b 2 = true → ∃ c_, (v723 : Value) = .slice (some adz_v723) y722.length c_) ∧ (b 8 = true → w'.heap[gb715]? = some (.cells #[.int .i64 t716, .int .i64 t717] 25 (0, 0))) ∧ (b 6 = true → (m6_ : Value) = .pointer (some (adz_v723.add ((ji14)).toNat)))) HT_.out HW_.out (by kernel_rfl) (by kernel_rfl) ?_ ?_ ?_
     ·exact ⟨.bool false, ⟨0, 0, none⟩, .bool false, by simp only [putSel, Bool.false_eq_true, if_false], fun _ => BK715.out, BK719.out, HB.out, fun h_ => absurd h_ (by decide), fun h_ => absurd h_ (by decide), fun h_ => absurd h_ (by decide), fun h_ => absurd h_ (by decide)⟩
     ·skip
      clear BK715 BK719 HB
      refine steps_cons ?_ ?_
      ·rintro b a w' ⟨v723, adz_v723, m6_, ha, Q_BK715, Q_BK719, Q_HB, Q_HO724, Q_HA_HO724, Q_BK715_e8, Q_X6_⟩ hb_ hon hoff
       refine ⟨_, rfl, fun K hK => ?_⟩
       have e5 : a.tmps[5]? = some (.pointer (some ⟨gb719, 0, none⟩)) := by rw [ha]; exact (putSel_off rfl).trans rfl
       replace ha := Aside0.mk ha
       have BK715 := Aside0.mk (Q_BK715 (hoff 8 (by kernel_rfl)))
       have BK719 := Aside0.mk Q_BK719
       have HB := Aside0.mk Q_HB
       have hc0_ : w'.cell? ⟨gb719, 0, none⟩ = some (.int .i64 t716) := (blk_cell BK719.out 0).trans rfl
       have hc1_ : w'.cell? ⟨gb719, 1, none⟩ = some (.int .i64 t717) := (blk_cell BK719.out 1).trans rfl
       refine value_ (w1 := w') (v := .agg #[.int .i64 t716, .int .i64 t717]) (by rfl) rfl ?_ ?_
       ·go_simp
        (try simp only [i64_w])
        try rfl
       refine hK.out _ _ ⟨v723, adz_v723, m6_, (by rw [ha.out]; exact putSel_upk 0 hb_ rfl rfl rfl), Q_BK715, Q_BK719, Q_HB, Q_HO724, Q_HA_HO724, fun h0_ => absurd ((hoff 8 (by kernel_rfl)).symm.trans h0_) (by decide), Q_X6_⟩
      refine steps_cons ?_ ?_
      ·rintro b a w' ⟨v723, adz_v723, m6_, ha, Q_BK715, Q_BK719, Q_HB, Q_HO724, Q_HA_HO724, Q_BK715_e8, Q_X6_⟩ hb_ hon hoff
       refine ⟨_, rfl, fun K hK => ?_⟩
       replace ha := Aside0.mk ha
       have BK719 := Aside0.mk Q_BK719
       have HB := Aside0.mk Q_HB
       refine Kd.R_lit_step (Kd.int .i64) _ 3 ?hg (N := 32) ?hd (xs := ([0, 1, 2, 3, 7, (-1), 16] : List Int)) (inner := [.int .i64 0, .int .i64 1, .int .i64 2, .int .i64 3, .int .i64 7, .int .i64 (-1), .int .i64 16]) (ok := fun _ => True) (okp := fun _ => True) ?hr ?hp (fun _ hk => hk) trivial (Below.refl _ _) (Nat.le_refl _) (by simp) ?_; (case hd => rfl); (case hg => rfl); (case hr => first | (go_simp; done) | (go_simp; rfl)); (case hp => exact (Reps.one (show Kd.M (Kd.int .i64) _ _ _ 0 [.int .i64 0] from rfl) (Reps.one (show Kd.M (Kd.int .i64) _ _ _ 1 [.int .i64 1] from rfl) (Reps.one (show Kd.M (Kd.int .i64) _ _ _ 2 [.int .i64 2] from rfl) (Reps.one (show Kd.M (Kd.int .i64) _ _ _ 3 [.int .i64 3] from rfl) (Reps.one (show Kd.M (Kd.int .i64) _ _ _ 7 [.int .i64 7] from rfl) (Reps.one (show Kd.M (Kd.int .i64) _ _ _ (-1) [.int .i64 (-1)] from rfl) (Reps.one (show Kd.M (Kd.int .i64) _ _ _ 16 [.int .i64 16] from rfl) (Reps.none _ _)))))))))
       intro v723 w24 ho25 hb hg_ hnew_
       clear hg_ hnew_
       (first | rw [← Ny722.out] at ho25 | (simp only [Int.reduceToNat] at ho25; rw [← Ny722.out] at ho25))
       have n0_ := Aside0.mk (Kd.R_lower ho25 (below_size (bv2_ HB GE715 GE719)))
       have n2_ := kb_ BK719 hb
       have n3_ := Aside0.mk (below_step (bv2_ HB GE715 GE719) hb)
       have z_BK715 := fun (h0_ : b 8 = false) => (show w24.heap[gb715]? = some (.cells #[.int .i64 0, .int .i64 0] 25 (0, 0)) from by first | exact (blk_below (g := gb715) (o := .cells #[.int .i64 0, .int .i64 0] 25 (0, 0)) (by (with_reducible repeat (first | refine blk_drewN ?_ _ | refine blk_drew ?_ | refine blk_alloc ?_ _)); exact (Q_BK715 h0_)) hb))
       have z_BK715_e8 := fun (h0_ : b 8 = true) => (show w24.heap[gb715]? = some (.cells #[.int .i64 t716, .int .i64 t717] 25 (0, 0)) from by first | exact (blk_below (g := gb715) (o := .cells #[.int .i64 t716, .int .i64 t717] 25 (0, 0)) (by (with_reducible repeat (first | refine blk_drewN ?_ _ | refine blk_drew ?_ | refine blk_alloc ?_ _)); exact (Q_BK715_e8 h0_)) hb))
       clear BK719
       clear HB
       have HO724 := n0_
       have BK719 := n2_
       have HB := n3_
       clear n0_ n2_ n3_
       clear hb ho25
       obtain ⟨Ao26, co26, eo26⟩ := Kd.R_slice HO724.out
       subst eo26
       obtain ⟨ado26, fo26, _⟩ := Kd.at_int (Kd.R_reads' HO724.out).2.2 0 (by decide) (by rw [Ny722.out]; simp)
       cases fo26
       refine hK.out _ _ ⟨.slice (some ado26) y722.length co26, ado26, m6_, (by rw [ha.out]; exact putSel_upk 1 hb_ rfl rfl rfl), z_BK715, (kv_ BK719), (bv2_ HB GE715 GE719), fun _ => (rv_ HO724), fun _ => ⟨_, rfl⟩, z_BK715_e8, fun h0_ => absurd ((hoff 6 (by kernel_rfl)).symm.trans h0_) (by decide)⟩
      refine steps_cons ?_ ?_
      ·rintro b a w' ⟨v723, adz_v723, m6_, ha, Q_BK715, Q_BK719, Q_HB, Q_HO724, Q_HA_HO724, Q_BK715_e8, Q_X6_⟩ hb_ hon hoff
       refine ⟨_, rfl, fun K hK => ?_⟩
       have e33 : a.tmps[33]? = some (.slice A0 l0.length c0) := by rw [ha]; exact (putSel_off rfl).trans rfl
       replace ha := Aside0.mk ha
       have BK719 := Aside0.mk Q_BK719
       have HB := Aside0.mk Q_HB
       refine value_ (w1 := w') (v := .int .i64 (l0.length : Int)) (by rfl) rfl ?_ ?_
       ·go_simp
        (try simp only [i64_w])
        try rfl
       refine hK.out _ _ ⟨v723, adz_v723, m6_, (by rw [ha.out]; exact putSel_upk 2 hb_ rfl rfl rfl), Q_BK715, Q_BK719, Q_HB, Q_HO724, Q_HA_HO724, Q_BK715_e8, fun h0_ => absurd ((hoff 6 (by kernel_rfl)).symm.trans h0_) (by decide)⟩
      refine steps_cons ?_ ?_
      ·rintro b a w' ⟨v723, adz_v723, m6_, ha, Q_BK715, Q_BK719, Q_HB, Q_HO724, Q_HA_HO724, Q_BK715_e8, Q_X6_⟩ hb_ hon hoff
       refine ⟨_, rfl, fun K hK => ?_⟩
       have e34 : a.tmps[34]? = some (.int .i64 (l0.length : Int)) := by rw [ha]; exact putSel_on (e := (4, 34, .int .i64 (l0.length : Int))) 2 rfl rfl (hon 4 (by kernel_rfl)) rfl
       replace ha := Aside0.mk ha
       have BK719 := Aside0.mk Q_BK719
       have HB := Aside0.mk Q_HB
       refine value_ (w1 := w') (v := .int .i64 ji14) (by rfl) rfl ?_ ?_
       ·go_simp
        (try simp only [i64_w])
        try first | rfl | exact (Int.tmod_eq_emod_of_nonneg (Int.natCast_nonneg _)).trans hji14
       refine hK.out _ _ ⟨v723, adz_v723, m6_, (by rw [ha.out]; exact putSel_upk 3 hb_ rfl rfl rfl), Q_BK715, Q_BK719, Q_HB, Q_HO724, Q_HA_HO724, Q_BK715_e8, fun h0_ => absurd ((hoff 6 (by kernel_rfl)).symm.trans h0_) (by decide)⟩
      refine steps_cons ?_ ?_
      ·rintro b a w' ⟨v723, adz_v723, m6_, ha, Q_BK715, Q_BK719, Q_HB, Q_HO724, Q_HA_HO724, Q_BK715_e8, Q_X6_⟩ hb_ hon hoff
       refine ⟨_, rfl, fun K hK => ?_⟩
       have e32 : a.tmps[32]? = some (v723) := by rw [ha]; exact putSel_on (e := (2, 32, v723)) 1 rfl rfl (hon 2 (by kernel_rfl)) rfl
       have e35 : a.tmps[35]? = some (.int .i64 ji14) := by rw [ha]; exact putSel_on (e := (5, 35, .int .i64 ji14)) 3 rfl rfl (hon 5 (by kernel_rfl)) rfl
       replace ha := Aside0.mk ha
       have BK719 := Aside0.mk Q_BK719
       have HB := Aside0.mk Q_HB
       have HO724 := Aside0.mk (Q_HO724 (hon 2 (by kernel_rfl)))
       have HA_HO724 := Aside0.mk (Q_HA_HO724 (hon 2 (by kernel_rfl)))
       obtain ⟨c_, hv_⟩ := HA_HO724.out
       rw [hv_] at e32
       refine value_ (w1 := w') (v := .pointer (some (adz_v723.add ((ji14)).toNat))) (by rfl) rfl ?_ ?_
       ·go_simp
        (try simp only [i64_w])
        try rfl
       refine hK.out _ _ ⟨v723, adz_v723, (.pointer (some (adz_v723.add ((ji14)).toNat))), (by rw [ha.out]; exact putSel_upk 4 hb_ rfl rfl rfl), Q_BK715, Q_BK719, Q_HB, Q_HO724, Q_HA_HO724, Q_BK715_e8, fun _ => rfl⟩
      refine steps_cons ?_ ?_
      ·rintro b a w' ⟨v723, adz_v723, m6_, ha, Q_BK715, Q_BK719, Q_HB, Q_HO724, Q_HA_HO724, Q_BK715_e8, Q_X6_⟩ hb_ hon hoff
       refine ⟨_, rfl, fun K hK => ?_⟩
       have e36 : a.tmps[36]? = some (m6_) := by rw [ha]; exact putSel_on (e := (6, 36, m6_)) 4 rfl rfl (hon 6 (by kernel_rfl)) rfl
       rw [Q_X6_ (hon 6 (by kernel_rfl))] at e36
       replace ha := Aside0.mk ha
       have BK719 := Aside0.mk Q_BK719
       have HB := Aside0.mk Q_HB
       have HO724 := Aside0.mk (Q_HO724 (hon 2 (by kernel_rfl)))
       have HA_HO724 := Aside0.mk (Q_HA_HO724 (hon 2 (by kernel_rfl)))
       obtain ⟨c_, hv_⟩ := HA_HO724.out
       have hF_ := HO724.out
       rw [hv_] at hF_
       obtain ⟨ad_, ea_, hx_⟩ := Kd.at_int (Kd.R_reads' hF_).2.2 (ji14) (of_eq_true pi725) (of_eq_true qi725)
       cases ea_
       refine value_ (w1 := w') (v := .int .i64 (rd y722 (ji14))) (by rfl) rfl ?_ ?_
       ·go_simp
        (try simp only [i64_w])
        try rfl
       refine hK.out _ _ ⟨v723, adz_v723, m6_, (by rw [ha.out]; exact putSel_upk 5 hb_ rfl rfl rfl), Q_BK715, Q_BK719, Q_HB, Q_HO724, Q_HA_HO724, Q_BK715_e8, Q_X6_⟩
      refine steps_cons ?_ ?_
      ·rintro b a w' ⟨v723, adz_v723, m6_, ha, Q_BK715, Q_BK719, Q_HB, Q_HO724, Q_HA_HO724, Q_BK715_e8, Q_X6_⟩ hb_ hon hoff
       refine ⟨_, rfl, fun K hK => ?_⟩
       have e2 : a.tmps[2]? = some (.pointer (some ⟨gb715, 0, none⟩)) := by rw [ha]; exact (putSel_off rfl).trans rfl
       have e30 : a.tmps[30]? = some (.agg #[.int .i64 t716, .int .i64 t717]) := by rw [ha]; exact putSel_on (e := (0, 30, .agg #[.int .i64 t716, .int .i64 t717])) 0 rfl rfl (hon 0 (by kernel_rfl)) rfl
       replace ha := Aside0.mk ha
       have BK715 := Aside0.mk (Q_BK715 hb_)
       have BK719 := Aside0.mk Q_BK719
       have HB := Aside0.mk Q_HB
       have hs24 : w'.cell? ⟨gb715, 0, none⟩ = some (.int .i64 0) := (blk_cell BK715.out 0).trans rfl
       have hfs24 := blk_frozen BK715.out 0
       have hns24_1 := NB719_715.out
       have hms24_1 := NB715_719.out
       have hs25 : w'.cell? ⟨gb715, 1, none⟩ = some (.int .i64 0) := (blk_cell BK715.out 1).trans rfl
       have hfs25 := blk_frozen BK715.out 1
       have hns25_1 := NB719_715.out
       have hms25_1 := NB715_719.out
       refine skip_ (w1 := ?_) (by rfl) rfl ?_ ?_
       rotate_left
       ·go_simp
        rfl
       refine hK.out _ _ ⟨v723, adz_v723, m6_, (by rw [ha.out]; exact putSel_none (v := undef) rfl), fun h0_ => absurd ((up_self b 8).symm.trans h0_) (by decide), (by (with_reducible repeat (first | refine blk_drewN ?_ _ | refine blk_drew ?_ | refine blk_alloc ?_ _)); refine blk_far ?_ NB719_715.out _; (with_reducible repeat (first | refine blk_drewN ?_ _ | refine blk_drew ?_ | refine blk_alloc ?_ _)); refine blk_far ?_ NB719_715.out _; (with_reducible repeat (first | refine blk_drewN ?_ _ | refine blk_drew ?_ | refine blk_alloc ?_ _)); exact BK719.out), (bv2_ HB GE715 GE719), fun h0_ => (by (with_reducible repeat (first | apply Kd.R_alloc | apply Kd.R_drewN | apply Kd.R_drew)); exact Kd.R_mono (Kd.R_far (p := ⟨gb715, 1, none⟩) (Kd.R_far (p := ⟨gb715, 0, none⟩) (Kd.R_types (Q_HO724 h0_) BK715.out (by decide)) (fun _ hk => hk.2) (.int .i64 t716)) (fun _ hk => hk.2) (.int .i64 t717)) (fun _ hk => trivial)), Q_HA_HO724, fun _ => (by (with_reducible repeat (first | refine blk_drewN ?_ _ | refine blk_drew ?_ | refine blk_alloc ?_ _)); refine blk_put (cs := #[.int .i64 t716, .int .i64 0]) ?_ 1 _ rfl; (with_reducible repeat (first | refine blk_drewN ?_ _ | refine blk_drew ?_ | refine blk_alloc ?_ _)); refine blk_put (cs := #[.int .i64 0, .int .i64 0]) ?_ 0 _ rfl; (with_reducible repeat (first | refine blk_drewN ?_ _ | refine blk_drew ?_ | refine blk_alloc ?_ _)); exact BK715.out), Q_X6_⟩
      refine steps_cons ?_ ?_
      ·rintro b a w' ⟨v723, adz_v723, m6_, ha, Q_BK715, Q_BK719, Q_HB, Q_HO724, Q_HA_HO724, Q_BK715_e8, Q_X6_⟩ hb_ hon hoff
       refine ⟨_, rfl, fun K hK => ?_⟩
       have e31 : a.tmps[31]? = some (.int .i64 t718) := by rw [ha]; exact (putSel_off rfl).trans rfl
       replace ha := Aside0.mk ha
       have BK719 := Aside0.mk Q_BK719
       have HB := Aside0.mk Q_HB
       have BK715 := Aside0.mk (Q_BK715_e8 (hon 8 (by kernel_rfl)))
       refine value_ (w1 := w') (v := .int .i64 t718) (by rfl) rfl ?_ ?_
       ·go_simp
        (try simp only [i64_w])
        try rfl
       refine hK.out _ _ ⟨v723, adz_v723, m6_, (by rw [ha.out]; exact putSel_upk 6 hb_ rfl rfl rfl), fun h0_ => absurd ((hon 8 (by kernel_rfl)).symm.trans h0_) (by decide), Q_BK719, Q_HB, Q_HO724, Q_HA_HO724, Q_BK715_e8, Q_X6_⟩
      refine steps_cons ?_ ?_
      ·rintro b a w' ⟨v723, adz_v723, m6_, ha, Q_BK715, Q_BK719, Q_HB, Q_HO724, Q_HA_HO724, Q_BK715_e8, Q_X6_⟩ hb_ hon hoff
       refine ⟨_, rfl, fun K hK => ?_⟩
       have e37 : a.tmps[37]? = some (.int .i64 (rd y722 (ji14))) := by rw [ha]; exact putSel_on (e := (7, 37, .int .i64 (rd y722 (ji14)))) 5 rfl rfl (hon 7 (by kernel_rfl)) rfl
       replace ha := Aside0.mk ha
       have BK719 := Aside0.mk Q_BK719
       have HB := Aside0.mk Q_HB
       have HO724 := Aside0.mk (Q_HO724 (hon 2 (by kernel_rfl)))
       have HA_HO724 := Aside0.mk (Q_HA_HO724 (hon 2 (by kernel_rfl)))
       have BK715 := Aside0.mk (Q_BK715_e8 (hon 8 (by kernel_rfl)))
       refine value_ (w1 := w') (v := .int .i64 (rd y722 (ji14))) (by rfl) rfl ?_ ?_
       ·go_simp
        (try simp only [i64_w])
        try rfl
       refine hK.out _ _ ⟨v723, adz_v723, m6_, (by rw [ha.out]; exact putSel_upk 7 hb_ rfl rfl rfl), fun h0_ => absurd ((hon 8 (by kernel_rfl)).symm.trans h0_) (by decide), Q_BK719, Q_HB, Q_HO724, Q_HA_HO724, Q_BK715_e8, Q_X6_⟩
      exact steps_nil
     rintro b a w29 hall ⟨v723, adz_v723, m6_, ha, Q_BK715, Q_BK719, Q_HB, Q_HO724, Q_HA_HO724, Q_BK715_e8, Q_X6_⟩
     clear BK715 BK719 HB
     have hb0_ := hall 0 (by kernel_rfl)
     have hb2_ := hall 2 (by kernel_rfl)
     have hb4_ := hall 4 (by kernel_rfl)
     have hb5_ := hall 5 (by kernel_rfl)
     have hb6_ := hall 6 (by kernel_rfl)
     have hb7_ := hall 7 (by kernel_rfl)
     have hb8_ := hall 8 (by kernel_rfl)
     have hb9_ := hall 9 (by kernel_rfl)
     have hb10_ := hall 10 (by kernel_rfl)
     subst ha
     obtain rfl := Q_X6_ hb6_
     simp only [putSel, hb0_, hb2_, hb4_, hb5_, hb6_, hb7_, hb8_, hb9_, hb10_, if_true, Act.put, List.setIfInBounds_toArray, List.set_cons_zero, List.set_cons_succ]
     clear Q_BK715
     have BK719 := Aside0.mk Q_BK719
     clear Q_BK719
     have HB := Aside0.mk Q_HB
     clear Q_HB
     have HO724 := Aside0.mk (Q_HO724 hb2_)
     clear Q_HO724
     have HA_HO724 := Aside0.mk (Q_HA_HO724 hb2_)
     clear Q_HA_HO724
     have BK715 := Aside0.mk (Q_BK715_e8 hb8_)
     clear Q_BK715_e8
     clear hall hb0_ hb2_ hb4_ hb5_ hb6_ hb7_ hb8_ hb9_ hb10_
     obtain ⟨co30, eo30⟩ := HA_HO724.out
     clear HA_HO724
     subst eo30
     try go_wp2
     refine bodyPost_ret (results_ctt rfl _ _ gb715 25 #[.int .i64 t716, .int .i64 t717] (0, 0) _ rfl (kv_ BK715) Try.underlying25 rfl (by kernel_rfl)) rfl ?_
     exact ⟨by first | rfl | (simp [errW_none, errW_some] <;> rfl) | (simp only [← hji14]; first | rfl | (simp [errW_none, errW_some] <;> rfl)) | (simp [*, errW_none, errW_some] <;> rfl), bv2_ HB GE715 GE719⟩
    ·rw [if_neg c16] at H
     exact absurd H (by simp)
   ·rw [if_neg c15] at H
    exact absurd H (by simp)
 ·replace c4 := Bool.eq_false_iff.mpr c4
  subst c4
  rw [if_neg (show ¬ (false = true) by decide)] at H
  obtain ⟨y726, hy726⟩ : ∃ y_ : List Int, y_ = (([0, 1, 2, 3, 7, (-1), 16] : List Int)) := ⟨_, rfl⟩
  replace H : (if 0 ≤ ((l0.length : Int) % 7) then (if ((l0.length : Int) % 7) < (y726.length : Int) then (some (t716, t717, t718, rd y726 ((l0.length : Int) % 7))) else (none)) else (none)) = some (r1, r2, r3, r4) := by first | (rw [hy726]; with_reducible exact H) | (have H2_ := (Option.bind_some _ _).symm.trans H; rw [hy726]; with_reducible exact H2_) | (have H2_ := (Option.bind_some _ _).symm.trans H; with_reducible exact H2_) | with_reducible exact H | (rw [hy726]; exact H) | exact H
  have Ny726 := Aside0.mk hy726
  clear hy726
  obtain ⟨ji31, hji31⟩ : ∃ j_ : Int, ((l0.length : Int) % 7) = j_ := ⟨_, rfl⟩
  replace H : (if 0 ≤ (ji31) then (if (ji31) < (y726.length : Int) then (some (t716, t717, t718, rd y726 (ji31))) else (none)) else (none)) = some (r1, r2, r3, r4) := by first | (rw [hji31] at H; exact H) | (simp only [hji31] at H ⊢; exact H)
  (try rw [hji31] at A2)
  (try rw [hji31] at A3)
  by_cases c32 : 0 ≤ (ji31)
  ·rw [if_pos c32] at H
   have c32b0 : decide (0 ≤ (ji31)) = true := decide_eq_true c32
   clear c32
   by_cases c33 : (ji31) < (y726.length : Int)
   ·rw [if_pos c33] at H
    have c33b0 : decide ((ji31) < (y726.length : Int)) = true := decide_eq_true c33
    clear c33
    simp only [Option.some.injEq, Prod.mk.injEq] at H
    obtain ⟨rfl, rfl, rfl, rfl⟩ := H
    go_enter Try.func40, Try.ntmps40
    try go_wp2_with (first | ((with_reducible refine gate_dst (N := 2) rfl ?_); (try (refine gate_guard (by rfl) ?_; dsimp only)); refine bx_ 2 #[.int .i64 0, .int .i64 0] 25 ?_; intro gb715 hg w34 hbox hb; have BK715 := Aside0.mk (hbox); have GW715 := gw_ hg (below_size (bv_ HB)); have GE715 := GW715; replace HB := Aside0.mk (below_step (bv_ HB) hb); clear hb hbox hg) | ((with_reducible refine gate_callee (f := 76) rfl ?_); refine gl_ 11 Try.func76 #[.slice A0 l0.length c0] rfl mp_ ?_; (with_reducible refine (spec_l9Both.calls k _ _ l0 t716 t717 t718 _ ?side1 ?side2 A2.out).mono ?_); (case side1 => exact cv_ (Kd.C_below HR0.out HB.out)); (case side2 => exact HC0.out); rintro e w35 ⟨rfl, hb⟩; refine ⟨_, rfl, ?_⟩; replace BK715 := kb_ BK715 hb; replace HB := Aside0.mk (below_step (bv1_ HB GE715) hb); (try clear hb); (try clear hb2); (try clear hk); (try clear hi)) | ((with_reducible refine gate_dst (N := 5) rfl ?_); (try (refine gate_guard (by rfl) ?_; dsimp only)); refine bx_ 5 #[.int .i64 0, .int .i64 0] 25 ?_; intro gb719 hg w36 hbox hb; have BK719 := Aside0.mk (hbox); have GW719 := gw_ hg (below_size (bv1_ HB GE715)); have GE719 := GW719; replace HB := Aside0.mk (below_step (bv1_ HB GE715) hb); have NB715_719 := nb_ hg (blk_lt (g := gb715) (o := .cells #[.int .i64 0, .int .i64 0] 25 (0, 0)) (kv_ BK715)); have NB719_715 := nc_ hg (blk_lt (g := gb715) (o := .cells #[.int .i64 0, .int .i64 0] 25 (0, 0)) (kv_ BK715)); replace BK715 := kb_ BK715 hb; clear hb hbox hg; have hnb37 := NB719_715.out; have hnc37 := NB715_719.out; obtain ⟨hcz38_0, hcz38_1, hfz38_0, hfz38_1⟩ := c2_ BK719) | ((with_reducible refine gate_callee (f := 27) rfl ?_); refine gl_ 17 Try.func27 #[.agg #[.int .i64 t716, .int .i64 t717], .int .i64 t718] rfl mp_ ?_; (with_reducible refine (spec_CertificateSet.calls k t716 t717 t718 t720 false _ A3.out).mono ?_); rintro e w39 ⟨rfl, hb⟩; refine ⟨_, rfl, ?_⟩; replace BK715 := Aside0.mk (blk_below (g := gb715) (o := .cells #[.int .i64 0, .int .i64 0] 25 (0, 0)) (by (with_reducible repeat (first | refine blk_drewN ?_ _ | refine blk_drew ?_ | refine blk_alloc ?_ _)); refine blk_far ?_ NB715_719.out _; (with_reducible repeat (first | refine blk_drewN ?_ _ | refine blk_drew ?_ | refine blk_alloc ?_ _)); refine blk_far ?_ NB715_719.out _; (with_reducible repeat (first | refine blk_drewN ?_ _ | refine blk_drew ?_ | refine blk_alloc ?_ _)); exact BK715.out) hb); replace BK719 := Aside0.mk (blk_below (g := gb719) (o := .cells #[.int .i64 t716, .int .i64 t717] 25 (0, 0)) (by (with_reducible repeat (first | refine blk_drewN ?_ _ | refine blk_drew ?_ | refine blk_alloc ?_ _)); refine blk_put (cs := #[.int .i64 t716, .int .i64 0]) ?_ 1 _ rfl; (with_reducible repeat (first | refine blk_drewN ?_ _ | refine blk_drew ?_ | refine blk_alloc ?_ _)); refine blk_put (cs := #[.int .i64 0, .int .i64 0]) ?_ 0 _ rfl; (with_reducible repeat (first | refine blk_drewN ?_ _ | refine blk_drew ?_ | refine blk_alloc ?_ _)); exact BK719.out) hb); replace HB := Aside0.mk (below_step (bv2_ HB GE715 GE719) hb); (try clear hb); (try clear hb2); (try clear hk); (try clear hi)))
    have pi729 : (0 ≤ ((ji31) : Int)) = True := eq_true (of_decide_eq_true (by first | (with_reducible assumption) | assumption))
    have qi729 : ((ji31) < (y726.length : Int)) = True := eq_true (of_decide_eq_true (by first | (with_reducible assumption) | assumption))
    replace BK715 := Aside0.mk (blk_drew BK715.out)
    replace BK719 := Aside0.mk (blk_drew BK719.out)
    replace HB := Aside0.mk (below_drew1 HB.out)
    refine start_ (n := 11) (S := fun w' => True) (ds := []) (bs 11 0) (by kernel_rfl) rfl (by kernel_rfl) trivial (fun hHeld => ?_); refine with_tabW spec_DrawIsCertificate.tab5 spec_DrawIsCertificate.bits5 (fun HT_ HW_ => ?_)
    generalize w39.drew = w40 at BK715 BK719 HB hHeld ⊢
    refine pu_ HT_ 1 31 (bs 11 2) ?_
    refine pu_ HT_ 3 33 (bs 11 10) ?_
    refine inv_at [0, 2, 4, 5, 6, 7, 8, 9, 10] (fun a0_ b a w' => ∃ (v727 : Value) (adz_v727 : Addr) (m6_ : Value), a = putSel a0_ b [(0, 30, .agg #[.int .i64 t716, .int .i64 t717]), (2, 32, v727), (4, 34, .int .i64 (l0.length : Int)), (5, 35, .int .i64 ji31), (6, 36, m6_), (7, 37, .int .i64 (rd y726 (ji31))), (9, 3, .int .i64 t718), (10, 4, .int .i64 (rd y726 (ji31)))] ∧ (b 8 = false → w'.heap[gb715]? = some (.cells #[.int .i64 0, .int .i64 0] 25 (0, 0))) ∧ (w'.heap[gb719]? = some (.cells #[.int .i64 t716, .int .i64 t717] 25 (0, 0))) ∧ (Below w.heap.size w w') ∧ (b 2 = true → Kd.R (Kd.int .i64) 3 w' w.heap.size (fun _ => True) v727 y726) ∧ (b 2 = true → ∃ c_, (v727 : Value) = .slice (some adz_v727) y726.length c_) ∧ (b 8 = true → w'.heap[gb715]? = some (.cells #[.int .i64 t716, .int .i64 t717] 25 (0, 0))) ∧ (b 6 = true → (m6_ : Value) = .pointer (some (adz_v727.add ((ji31)).toNat)))) HT_.out HW_.out (by kernel_rfl) (by kernel_rfl) ?_ ?_ ?_
    ·exact ⟨.bool false, ⟨0, 0, none⟩, .bool false, by simp only [putSel, Bool.false_eq_true, if_false], fun _ => BK715.out, BK719.out, HB.out, fun h_ => absurd h_ (by decide), fun h_ => absurd h_ (by decide), fun h_ => absurd h_ (by decide), fun h_ => absurd h_ (by decide)⟩
    ·skip
     clear BK715 BK719 HB
     refine steps_cons ?_ ?_
     ·rintro b a w' ⟨v727, adz_v727, m6_, ha, Q_BK715, Q_BK719, Q_HB, Q_HO728, Q_HA_HO728, Q_BK715_e8, Q_X6_⟩ hb_ hon hoff
      refine ⟨_, rfl, fun K hK => ?_⟩
      have e5 : a.tmps[5]? = some (.pointer (some ⟨gb719, 0, none⟩)) := by rw [ha]; exact (putSel_off rfl).trans rfl
      replace ha := Aside0.mk ha
      have BK715 := Aside0.mk (Q_BK715 (hoff 8 (by kernel_rfl)))
      have BK719 := Aside0.mk Q_BK719
      have HB := Aside0.mk Q_HB
      have hc0_ : w'.cell? ⟨gb719, 0, none⟩ = some (.int .i64 t716) := (blk_cell BK719.out 0).trans rfl
      have hc1_ : w'.cell? ⟨gb719, 1, none⟩ = some (.int .i64 t717) := (blk_cell BK719.out 1).trans rfl
      refine value_ (w1 := w') (v := .agg #[.int .i64 t716, .int .i64 t717]) (by rfl) rfl ?_ ?_
      ·go_simp
       (try simp only [i64_w])
       try rfl
      refine hK.out _ _ ⟨v727, adz_v727, m6_, (by rw [ha.out]; exact putSel_upk 0 hb_ rfl rfl rfl), Q_BK715, Q_BK719, Q_HB, Q_HO728, Q_HA_HO728, fun h0_ => absurd ((hoff 8 (by kernel_rfl)).symm.trans h0_) (by decide), Q_X6_⟩
     refine steps_cons ?_ ?_
     ·rintro b a w' ⟨v727, adz_v727, m6_, ha, Q_BK715, Q_BK719, Q_HB, Q_HO728, Q_HA_HO728, Q_BK715_e8, Q_X6_⟩ hb_ hon hoff
      refine ⟨_, rfl, fun K hK => ?_⟩
      replace ha := Aside0.mk ha
      have BK719 := Aside0.mk Q_BK719
      have HB := Aside0.mk Q_HB
      refine Kd.R_lit_step (Kd.int .i64) _ 3 ?hg (N := 32) ?hd (xs := ([0, 1, 2, 3, 7, (-1), 16] : List Int)) (inner := [.int .i64 0, .int .i64 1, .int .i64 2, .int .i64 3, .int .i64 7, .int .i64 (-1), .int .i64 16]) (ok := fun _ => True) (okp := fun _ => True) ?hr ?hp (fun _ hk => hk) trivial (Below.refl _ _) (Nat.le_refl _) (by simp) ?_; (case hd => rfl); (case hg => rfl); (case hr => first | (go_simp; done) | (go_simp; rfl)); (case hp => exact (Reps.one (show Kd.M (Kd.int .i64) _ _ _ 0 [.int .i64 0] from rfl) (Reps.one (show Kd.M (Kd.int .i64) _ _ _ 1 [.int .i64 1] from rfl) (Reps.one (show Kd.M (Kd.int .i64) _ _ _ 2 [.int .i64 2] from rfl) (Reps.one (show Kd.M (Kd.int .i64) _ _ _ 3 [.int .i64 3] from rfl) (Reps.one (show Kd.M (Kd.int .i64) _ _ _ 7 [.int .i64 7] from rfl) (Reps.one (show Kd.M (Kd.int .i64) _ _ _ (-1) [.int .i64 (-1)] from rfl) (Reps.one (show Kd.M (Kd.int .i64) _ _ _ 16 [.int .i64 16] from rfl) (Reps.none _ _)))))))))
      intro v727 w41 ho42 hb hg_ hnew_
      clear hg_ hnew_
      (first | rw [← Ny726.out] at ho42 | (simp only [Int.reduceToNat] at ho42; rw [← Ny726.out] at ho42))
      have n0_ := Aside0.mk (Kd.R_lower ho42 (below_size (bv2_ HB GE715 GE719)))
      have n2_ := kb_ BK719 hb
      have n3_ := Aside0.mk (below_step (bv2_ HB GE715 GE719) hb)
      have z_BK715 := fun (h0_ : b 8 = false) => (show w41.heap[gb715]? = some (.cells #[.int .i64 0, .int .i64 0] 25 (0, 0)) from by first | exact (blk_below (g := gb715) (o := .cells #[.int .i64 0, .int .i64 0] 25 (0, 0)) (by (with_reducible repeat (first | refine blk_drewN ?_ _ | refine blk_drew ?_ | refine blk_alloc ?_ _)); exact (Q_BK715 h0_)) hb))
      have z_BK715_e8 := fun (h0_ : b 8 = true) => (show w41.heap[gb715]? = some (.cells #[.int .i64 t716, .int .i64 t717] 25 (0, 0)) from by first | exact (blk_below (g := gb715) (o := .cells #[.int .i64 t716, .int .i64 t717] 25 (0, 0)) (by (with_reducible repeat (first | refine blk_drewN ?_ _ | refine blk_drew ?_ | refine blk_alloc ?_ _)); exact (Q_BK715_e8 h0_)) hb))
      clear BK719
      clear HB
      have HO728 := n0_
      have BK719 := n2_
      have HB := n3_
      clear n0_ n2_ n3_
      clear hb ho42
      obtain ⟨Ao43, co43, eo43⟩ := Kd.R_slice HO728.out
      subst eo43
      obtain ⟨ado43, fo43, _⟩ := Kd.at_int (Kd.R_reads' HO728.out).2.2 0 (by decide) (by rw [Ny726.out]; simp)
      cases fo43
      refine hK.out _ _ ⟨.slice (some ado43) y726.length co43, ado43, m6_, (by rw [ha.out]; exact putSel_upk 1 hb_ rfl rfl rfl), z_BK715, (kv_ BK719), (bv2_ HB GE715 GE719), fun _ => (rv_ HO728), fun _ => ⟨_, rfl⟩, z_BK715_e8, fun h0_ => absurd ((hoff 6 (by kernel_rfl)).symm.trans h0_) (by decide)⟩
     refine steps_cons ?_ ?_
     ·rintro b a w' ⟨v727, adz_v727, m6_, ha, Q_BK715, Q_BK719, Q_HB, Q_HO728, Q_HA_HO728, Q_BK715_e8, Q_X6_⟩ hb_ hon hoff
      refine ⟨_, rfl, fun K hK => ?_⟩
      have e33 : a.tmps[33]? = some (.slice A0 l0.length c0) := by rw [ha]; exact (putSel_off rfl).trans rfl
      replace ha := Aside0.mk ha
      have BK719 := Aside0.mk Q_BK719
      have HB := Aside0.mk Q_HB
      refine value_ (w1 := w') (v := .int .i64 (l0.length : Int)) (by rfl) rfl ?_ ?_
      ·go_simp
       (try simp only [i64_w])
       try rfl
      refine hK.out _ _ ⟨v727, adz_v727, m6_, (by rw [ha.out]; exact putSel_upk 2 hb_ rfl rfl rfl), Q_BK715, Q_BK719, Q_HB, Q_HO728, Q_HA_HO728, Q_BK715_e8, fun h0_ => absurd ((hoff 6 (by kernel_rfl)).symm.trans h0_) (by decide)⟩
     refine steps_cons ?_ ?_
     ·rintro b a w' ⟨v727, adz_v727, m6_, ha, Q_BK715, Q_BK719, Q_HB, Q_HO728, Q_HA_HO728, Q_BK715_e8, Q_X6_⟩ hb_ hon hoff
      refine ⟨_, rfl, fun K hK => ?_⟩
      have e34 : a.tmps[34]? = some (.int .i64 (l0.length : Int)) := by rw [ha]; exact putSel_on (e := (4, 34, .int .i64 (l0.length : Int))) 2 rfl rfl (hon 4 (by kernel_rfl)) rfl
      replace ha := Aside0.mk ha
      have BK719 := Aside0.mk Q_BK719
      have HB := Aside0.mk Q_HB
      refine value_ (w1 := w') (v := .int .i64 ji31) (by rfl) rfl ?_ ?_
      ·go_simp
       (try simp only [i64_w])
       try first | rfl | exact (Int.tmod_eq_emod_of_nonneg (Int.natCast_nonneg _)).trans hji31
      refine hK.out _ _ ⟨v727, adz_v727, m6_, (by rw [ha.out]; exact putSel_upk 3 hb_ rfl rfl rfl), Q_BK715, Q_BK719, Q_HB, Q_HO728, Q_HA_HO728, Q_BK715_e8, fun h0_ => absurd ((hoff 6 (by kernel_rfl)).symm.trans h0_) (by decide)⟩
     refine steps_cons ?_ ?_
     ·rintro b a w' ⟨v727, adz_v727, m6_, ha, Q_BK715, Q_BK719, Q_HB, Q_HO728, Q_HA_HO728, Q_BK715_e8, Q_X6_⟩ hb_ hon hoff
      refine ⟨_, rfl, fun K hK => ?_⟩
      have e32 : a.tmps[32]? = some (v727) := by rw [ha]; exact putSel_on (e := (2, 32, v727)) 1 rfl rfl (hon 2 (by kernel_rfl)) rfl
      have e35 : a.tmps[35]? = some (.int .i64 ji31) := by rw [ha]; exact putSel_on (e := (5, 35, .int .i64 ji31)) 3 rfl rfl (hon 5 (by kernel_rfl)) rfl
      replace ha := Aside0.mk ha
      have BK719 := Aside0.mk Q_BK719
      have HB := Aside0.mk Q_HB
      have HO728 := Aside0.mk (Q_HO728 (hon 2 (by kernel_rfl)))
      have HA_HO728 := Aside0.mk (Q_HA_HO728 (hon 2 (by kernel_rfl)))
      obtain ⟨c_, hv_⟩ := HA_HO728.out
      rw [hv_] at e32
      refine value_ (w1 := w') (v := .pointer (some (adz_v727.add ((ji31)).toNat))) (by rfl) rfl ?_ ?_
      ·go_simp
       (try simp only [i64_w])
       try rfl
      refine hK.out _ _ ⟨v727, adz_v727, (.pointer (some (adz_v727.add ((ji31)).toNat))), (by rw [ha.out]; exact putSel_upk 4 hb_ rfl rfl rfl), Q_BK715, Q_BK719, Q_HB, Q_HO728, Q_HA_HO728, Q_BK715_e8, fun _ => rfl⟩
     refine steps_cons ?_ ?_
     ·rintro b a w' ⟨v727, adz_v727, m6_, ha, Q_BK715, Q_BK719, Q_HB, Q_HO728, Q_HA_HO728, Q_BK715_e8, Q_X6_⟩ hb_ hon hoff
      refine ⟨_, rfl, fun K hK => ?_⟩
      have e36 : a.tmps[36]? = some (m6_) := by rw [ha]; exact putSel_on (e := (6, 36, m6_)) 4 rfl rfl (hon 6 (by kernel_rfl)) rfl
      rw [Q_X6_ (hon 6 (by kernel_rfl))] at e36
      replace ha := Aside0.mk ha
      have BK719 := Aside0.mk Q_BK719
      have HB := Aside0.mk Q_HB
      have HO728 := Aside0.mk (Q_HO728 (hon 2 (by kernel_rfl)))
      have HA_HO728 := Aside0.mk (Q_HA_HO728 (hon 2 (by kernel_rfl)))
      obtain ⟨c_, hv_⟩ := HA_HO728.out
      have hF_ := HO728.out
      rw [hv_] at hF_
      obtain ⟨ad_, ea_, hx_⟩ := Kd.at_int (Kd.R_reads' hF_).2.2 (ji31) (of_eq_true pi729) (of_eq_true qi729)
      cases ea_
      refine value_ (w1 := w') (v := .int .i64 (rd y726 (ji31))) (by rfl) rfl ?_ ?_
      ·go_simp
       (try simp only [i64_w])
       try rfl
      refine hK.out _ _ ⟨v727, adz_v727, m6_, (by rw [ha.out]; exact putSel_upk 5 hb_ rfl rfl rfl), Q_BK715, Q_BK719, Q_HB, Q_HO728, Q_HA_HO728, Q_BK715_e8, Q_X6_⟩
     refine steps_cons ?_ ?_
     ·rintro b a w' ⟨v727, adz_v727, m6_, ha, Q_BK715, Q_BK719, Q_HB, Q_HO728, Q_HA_HO728, Q_BK715_e8, Q_X6_⟩ hb_ hon hoff
      refine ⟨_, rfl, fun K hK => ?_⟩
      have e2 : a.tmps[2]? = some (.pointer (some ⟨gb715, 0, none⟩)) := by rw [ha]; exact (putSel_off rfl).trans rfl
      have e30 : a.tmps[30]? = some (.agg #[.int .i64 t716, .int .i64 t717]) := by rw [ha]; exact putSel_on (e := (0, 30, .agg #[.int .i64 t716, .int .i64 t717])) 0 rfl rfl (hon 0 (by kernel_rfl)) rfl
      replace ha := Aside0.mk ha
      have BK715 := Aside0.mk (Q_BK715 hb_)
      have BK719 := Aside0.mk Q_BK719
      have HB := Aside0.mk Q_HB
      have hs41 : w'.cell? ⟨gb715, 0, none⟩ = some (.int .i64 0) := (blk_cell BK715.out 0).trans rfl
      have hfs41 := blk_frozen BK715.out 0
      have hns41_1 := NB719_715.out
      have hms41_1 := NB715_719.out
      have hs42 : w'.cell? ⟨gb715, 1, none⟩ = some (.int .i64 0) := (blk_cell BK715.out 1).trans rfl
      have hfs42 := blk_frozen BK715.out 1
      have hns42_1 := NB719_715.out
      have hms42_1 := NB715_719.out
      refine skip_ (w1 := ?_) (by rfl) rfl ?_ ?_
      rotate_left
      ·go_simp
       rfl
      refine hK.out _ _ ⟨v727, adz_v727, m6_, (by rw [ha.out]; exact putSel_none (v := undef) rfl), fun h0_ => absurd ((up_self b 8).symm.trans h0_) (by decide), (by (with_reducible repeat (first | refine blk_drewN ?_ _ | refine blk_drew ?_ | refine blk_alloc ?_ _)); refine blk_far ?_ NB719_715.out _; (with_reducible repeat (first | refine blk_drewN ?_ _ | refine blk_drew ?_ | refine blk_alloc ?_ _)); refine blk_far ?_ NB719_715.out _; (with_reducible repeat (first | refine blk_drewN ?_ _ | refine blk_drew ?_ | refine blk_alloc ?_ _)); exact BK719.out), (bv2_ HB GE715 GE719), fun h0_ => (by (with_reducible repeat (first | apply Kd.R_alloc | apply Kd.R_drewN | apply Kd.R_drew)); exact Kd.R_mono (Kd.R_far (p := ⟨gb715, 1, none⟩) (Kd.R_far (p := ⟨gb715, 0, none⟩) (Kd.R_types (Q_HO728 h0_) BK715.out (by decide)) (fun _ hk => hk.2) (.int .i64 t716)) (fun _ hk => hk.2) (.int .i64 t717)) (fun _ hk => trivial)), Q_HA_HO728, fun _ => (by (with_reducible repeat (first | refine blk_drewN ?_ _ | refine blk_drew ?_ | refine blk_alloc ?_ _)); refine blk_put (cs := #[.int .i64 t716, .int .i64 0]) ?_ 1 _ rfl; (with_reducible repeat (first | refine blk_drewN ?_ _ | refine blk_drew ?_ | refine blk_alloc ?_ _)); refine blk_put (cs := #[.int .i64 0, .int .i64 0]) ?_ 0 _ rfl; (with_reducible repeat (first | refine blk_drewN ?_ _ | refine blk_drew ?_ | refine blk_alloc ?_ _)); exact BK715.out), Q_X6_⟩
     refine steps_cons ?_ ?_
     ·rintro b a w' ⟨v727, adz_v727, m6_, ha, Q_BK715, Q_BK719, Q_HB, Q_HO728, Q_HA_HO728, Q_BK715_e8, Q_X6_⟩ hb_ hon hoff
      refine ⟨_, rfl, fun K hK => ?_⟩
      have e31 : a.tmps[31]? = some (.int .i64 t718) := by rw [ha]; exact (putSel_off rfl).trans rfl
      replace ha := Aside0.mk ha
      have BK719 := Aside0.mk Q_BK719
      have HB := Aside0.mk Q_HB
      have BK715 := Aside0.mk (Q_BK715_e8 (hon 8 (by kernel_rfl)))
      refine value_ (w1 := w') (v := .int .i64 t718) (by rfl) rfl ?_ ?_
      ·go_simp
       (try simp only [i64_w])
       try rfl
      refine hK.out _ _ ⟨v727, adz_v727, m6_, (by rw [ha.out]; exact putSel_upk 6 hb_ rfl rfl rfl), fun h0_ => absurd ((hon 8 (by kernel_rfl)).symm.trans h0_) (by decide), Q_BK719, Q_HB, Q_HO728, Q_HA_HO728, Q_BK715_e8, Q_X6_⟩
     refine steps_cons ?_ ?_
     ·rintro b a w' ⟨v727, adz_v727, m6_, ha, Q_BK715, Q_BK719, Q_HB, Q_HO728, Q_HA_HO728, Q_BK715_e8, Q_X6_⟩ hb_ hon hoff
      refine ⟨_, rfl, fun K hK => ?_⟩
      have e37 : a.tmps[37]? = some (.int .i64 (rd y726 (ji31))) := by rw [ha]; exact putSel_on (e := (7, 37, .int .i64 (rd y726 (ji31)))) 5 rfl rfl (hon 7 (by kernel_rfl)) rfl
      replace ha := Aside0.mk ha
      have BK719 := Aside0.mk Q_BK719
      have HB := Aside0.mk Q_HB
      have HO728 := Aside0.mk (Q_HO728 (hon 2 (by kernel_rfl)))
      have HA_HO728 := Aside0.mk (Q_HA_HO728 (hon 2 (by kernel_rfl)))
      have BK715 := Aside0.mk (Q_BK715_e8 (hon 8 (by kernel_rfl)))
      refine value_ (w1 := w') (v := .int .i64 (rd y726 (ji31))) (by rfl) rfl ?_ ?_
      ·go_simp
       (try simp only [i64_w])
       try rfl
      refine hK.out _ _ ⟨v727, adz_v727, m6_, (by rw [ha.out]; exact putSel_upk 7 hb_ rfl rfl rfl), fun h0_ => absurd ((hon 8 (by kernel_rfl)).symm.trans h0_) (by decide), Q_BK719, Q_HB, Q_HO728, Q_HA_HO728, Q_BK715_e8, Q_X6_⟩
     exact steps_nil
    rintro b a w46 hall ⟨v727, adz_v727, m6_, ha, Q_BK715, Q_BK719, Q_HB, Q_HO728, Q_HA_HO728, Q_BK715_e8, Q_X6_⟩
    clear BK715 BK719 HB
    have hb0_ := hall 0 (by kernel_rfl)
    have hb2_ := hall 2 (by kernel_rfl)
    have hb4_ := hall 4 (by kernel_rfl)
    have hb5_ := hall 5 (by kernel_rfl)
    have hb6_ := hall 6 (by kernel_rfl)
    have hb7_ := hall 7 (by kernel_rfl)
    have hb8_ := hall 8 (by kernel_rfl)
    have hb9_ := hall 9 (by kernel_rfl)
    have hb10_ := hall 10 (by kernel_rfl)
    subst ha
    obtain rfl := Q_X6_ hb6_
    simp only [putSel, hb0_, hb2_, hb4_, hb5_, hb6_, hb7_, hb8_, hb9_, hb10_, if_true, Act.put, List.setIfInBounds_toArray, List.set_cons_zero, List.set_cons_succ]
    clear Q_BK715
    have BK719 := Aside0.mk Q_BK719
    clear Q_BK719
    have HB := Aside0.mk Q_HB
    clear Q_HB
    have HO728 := Aside0.mk (Q_HO728 hb2_)
    clear Q_HO728
    have HA_HO728 := Aside0.mk (Q_HA_HO728 hb2_)
    clear Q_HA_HO728
    have BK715 := Aside0.mk (Q_BK715_e8 hb8_)
    clear Q_BK715_e8
    clear hall hb0_ hb2_ hb4_ hb5_ hb6_ hb7_ hb8_ hb9_ hb10_
    obtain ⟨co47, eo47⟩ := HA_HO728.out
    clear HA_HO728
    subst eo47
    try go_wp2
    refine bodyPost_ret (results_ctt rfl _ _ gb715 25 #[.int .i64 t716, .int .i64 t717] (0, 0) _ rfl (kv_ BK715) Try.underlying25 rfl (by kernel_rfl)) rfl ?_
    exact ⟨by first | rfl | (simp [errW_none, errW_some] <;> rfl) | (simp only [← hji31]; first | rfl | (simp [errW_none, errW_some] <;> rfl)) | (simp [*, errW_none, errW_some] <;> rfl), bv2_ HB GE715 GE719⟩
   ·rw [if_neg c33] at H
    exact absurd H (by simp)
  ·rw [if_neg c32] at H
   exact absurd H (by simp)


end Go.Proofs.Ytplnffhjpmnifaa.P
