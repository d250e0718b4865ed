-- Out of the translation, by this session's program over the printer's; Lean checks it.
import Derived.Test.YtplnffhjpmnifaaSh
import Derived.Test.YtplnffhjpmnifaaQ0
import Derived.Test.YtplnffhjpmnifaaQ2
import Derived.Test.YtplnffhjpmnifaaQ3
import Derived.Test.YtplnffhjpmnifaaQ4
import Derived.Test.YtplnffhjpmnifaaQ5
namespace Go.Proofs.Ytplnffhjpmnifaa.P
open Go.RowKit Go.Proofs.YtplnffhjpmnifaaW.PrintWords Go.Proofs.YtplnffhjpmnifaaW.PrintLast Go.Proofs.YtplnffhjpmnifaaW.PrintMore
attribute [local go_sem] max2_int min2_int max_two min_two max_three min_three max_four min_four
set_option linter.unusedVariables false
set_option linter.unusedSimpArgs false

/-! ### spec_DrawIsSensitiveBlock: function 41 -/
def spec_DrawIsSensitiveBlock.f (k : Nat) (l0 : List Int) : Option (Int × Int × Int × Int) := (spec_l9Both.f k l0).bind fun bt731 => ((some (([0, 1, 2, 3, 5, 7, 15, (-1), 16] : List Int) : List Int)).bind fun y735 => (if 0 ≤ ((l0.length : Int) % 9) then (if ((l0.length : Int) % 9) < (y735.length : Int) then (some (bt731.1, bt731.2.1, bt731.2.2, rd y735 ((l0.length : Int) % 9))) else (none)) else (none)))
theorem spec_DrawIsSensitiveBlock.mono : ∀ a0 k, LeO (spec_DrawIsSensitiveBlock.f k a0) (spec_DrawIsSensitiveBlock.f (k + 1) a0) := by
 intro a0 k
 unfold spec_DrawIsSensitiveBlock.f
 repeat' first
   | (with_reducible exact spec_l9Both.mono _ _)
   | (with_reducible exact LeO.refl _)
   | (with_reducible exact LeO.none _)
   | (with_reducible refine LeO.ite ?_ ?_)
   | (with_reducible refine LeO.bind ?_ (fun _ => ?_))
   | exact spec_l9Both.mono _ _
   | exact LeO.none _
   | refine LeO.ite ?_ ?_
   | refine LeO.bind ?_ (fun _ => ?_)
def spec_DrawIsSensitiveBlock.T2 : Bool × List (List Nat × List Nat) := (true, [([], []), ([], []), ([], []), ([], []), ([3], [3]), ([4], [4]), ([2, 5], [2, 5]), ([6], [6]), ([0, 0], [0]), ([1, 8, 0, 1, 8], [1]), ([7, 9, 0, 1, 2, 3, 4, 5, 6, 7, 8, 9], [7])])
def spec_DrawIsSensitiveBlock.B2 : List Nat := [0, 0, 0, 0, 8, 24, 60, 124, 1, 259, 1023]
theorem spec_DrawIsSensitiveBlock.tab2 : rtab .any (opsOf Try.f41 2) = spec_DrawIsSensitiveBlock.T2 := by kernel_rfl
theorem spec_DrawIsSensitiveBlock.bits2 : waitsOk spec_DrawIsSensitiveBlock.T2.2 spec_DrawIsSensitiveBlock.B2 = true := by kernel_rfl
set_option maxHeartbeats 8000000 in
set_option maxRecDepth 100000 in
theorem spec_DrawIsSensitiveBlock.calls (k : Nat) (A0 : Option Addr) (c0 : Nat) (l0 : List Int) (r1 : Int) (r2 : Int) (r3 : Int) (r4 : Int) (w : World) (hr0 : Kd.C (Kd.int .u8) w A0 l0.length l0) (hc0 : l0.length ≤ c0) (h : spec_DrawIsSensitiveBlock.f k l0 = some (r1, r2, r3, r4)) :
  Calls Try.prog 41 #[.slice A0 l0.length c0] w fun e w' => e = .returned (.tuple #[.agg #[.int .i64 r1, .int .i64 r2], .int .i64 r3, .int .i64 r4]) ∧ Below w.heap.size w w' := by
 have hu25 := Try.underlying25
 have HR0 := Aside0.mk hr0
 have HC0 := Aside0.mk hc0
 clear hr0 hc0
 have HB := Aside0.mk (Below.refl w.heap.size w)
 have H : ((spec_l9Both.f k l0).bind fun bt731 => ((some (([0, 1, 2, 3, 5, 7, 15, (-1), 16] : List Int) : List Int)).bind fun y735 => (if 0 ≤ ((l0.length : Int) % 9) then (if ((l0.length : Int) % 9) < (y735.length : Int) then (some (bt731.1, bt731.2.1, bt731.2.2, rd y735 ((l0.length : Int) % 9))) else (none)) else (none)))) = some (r1, r2, r3, r4) := h
 clear h
 replace H := Option.bind_eq_some_iff.mp H
 obtain ⟨⟨t731, t732, t733⟩, A20, H⟩ := H
 dsimp only at H
 have A2 := Aside0.mk A20
 clear A20
 obtain ⟨y735, hy735⟩ : ∃ y_ : List Int, y_ = (([0, 1, 2, 3, 5, 7, 15, (-1), 16] : List Int)) := ⟨_, rfl⟩
 replace H : (if 0 ≤ ((l0.length : Int) % 9) then (if ((l0.length : Int) % 9) < (y735.length : Int) then (some (t731, t732, t733, rd y735 ((l0.length : Int) % 9))) else (none)) else (none)) = some (r1, r2, r3, r4) := by first | (rw [hy735]; with_reducible exact H) | (have H2_ := (Option.bind_some _ _).symm.trans H; rw [hy735]; with_reducible exact H2_) | (have H2_ := (Option.bind_some _ _).symm.trans H; with_reducible exact H2_) | with_reducible exact H | (rw [hy735]; exact H) | exact H
 have Ny735 := Aside0.mk hy735
 clear hy735
 obtain ⟨ji3, hji3⟩ : ∃ j_ : Int, ((l0.length : Int) % 9) = j_ := ⟨_, rfl⟩
 replace H : (if 0 ≤ (ji3) then (if (ji3) < (y735.length : Int) then (some (t731, t732, t733, rd y735 (ji3))) else (none)) else (none)) = some (r1, r2, r3, r4) := by first | (rw [hji3] at H; exact H) | (simp only [hji3] at H ⊢; exact H)
 (try rw [hji3] at A2)
 by_cases c4 : 0 ≤ (ji3)
 ·rw [if_pos c4] at H
  have c4b0 : decide (0 ≤ (ji3)) = true := decide_eq_true c4
  clear c4
  by_cases c5 : (ji3) < (y735.length : Int)
  ·rw [if_pos c5] at H
   have c5b0 : decide ((ji3) < (y735.length : Int)) = true := decide_eq_true c5
   clear c5
   simp only [Option.some.injEq, Prod.mk.injEq] at H
   obtain ⟨rfl, rfl, rfl, rfl⟩ := H
   go_enter Try.func41, Try.ntmps41
   try go_wp2_with (first | ((with_reducible refine gate_dst (N := 2) rfl ?_); refine bx_ 2 #[.int .i64 0, .int .i64 0] 25 ?_; intro gb730 hg w6 hbox hb; have BK730 := Aside0.mk (hbox); have GW730 := gw_ hg (below_size (bv_ HB)); have GE730 := GW730; replace HB := Aside0.mk (below_step (bv_ HB) hb); clear hb hbox hg) | ((with_reducible refine gate_callee (f := 76) rfl ?_); refine gl_ 9 Try.func76 #[.slice A0 l0.length c0] rfl mp_ ?_; (with_reducible refine (spec_l9Both.calls k _ _ l0 t731 t732 t733 _ ?side1 ?side2 A2.out).mono ?_); (case side1 => exact cv_ (Kd.C_below HR0.out HB.out)); (case side2 => exact HC0.out); rintro e w7 ⟨rfl, hb⟩; refine ⟨_, rfl, ?_⟩; replace BK730 := kb_ BK730 hb; replace HB := Aside0.mk (below_step (bv1_ HB GE730) hb); (try clear hb); (try clear hb2); (try clear hk); (try clear hi)) | ((with_reducible refine gate_dst (N := 5) rfl ?_); refine bx_ 5 #[.int .i64 0, .int .i64 0] 25 ?_; intro gb734 hg w8 hbox hb; have BK734 := Aside0.mk (hbox); have GW734 := gw_ hg (below_size (bv1_ HB GE730)); have GE734 := GW734; replace HB := Aside0.mk (below_step (bv1_ HB GE730) hb); have NB730_734 := nb_ hg (blk_lt (g := gb730) (o := .cells #[.int .i64 0, .int .i64 0] 25 (0, 0)) (kv_ BK730)); have NB734_730 := nc_ hg (blk_lt (g := gb730) (o := .cells #[.int .i64 0, .int .i64 0] 25 (0, 0)) (kv_ BK730)); replace BK730 := kb_ BK730 hb; clear hb hbox hg; have hnb9 := NB734_730.out; have hnc9 := NB730_734.out; obtain ⟨hcz10_0, hcz10_1, hfz10_0, hfz10_1⟩ := c2_ BK734))
   have pi738 : (0 ≤ ((ji3) : Int)) = True := eq_true (of_decide_eq_true (by first | (with_reducible assumption) | assumption))
   have qi738 : ((ji3) < (y735.length : Int)) = True := eq_true (of_decide_eq_true (by first | (with_reducible assumption) | assumption))
   have n0_ : Aside0 (((w8.setCell ⟨gb734, 0, none⟩ (.int .i64 t731)).setCell ⟨gb734, 1, none⟩ (.int .i64 t732)).heap[gb730]? = some (.cells #[.int .i64 0, .int .i64 0] 25 (0, 0))) := ⟨by (with_reducible repeat (first | refine blk_drewN ?_ _ | refine blk_drew ?_ | refine blk_alloc ?_ _)); refine blk_far ?_ NB730_734.out _; (with_reducible repeat (first | refine blk_drewN ?_ _ | refine blk_drew ?_ | refine blk_alloc ?_ _)); refine blk_far ?_ NB730_734.out _; (with_reducible repeat (first | refine blk_drewN ?_ _ | refine blk_drew ?_ | refine blk_alloc ?_ _)); exact BK730.out⟩
   have n1_ : Aside0 (((w8.setCell ⟨gb734, 0, none⟩ (.int .i64 t731)).setCell ⟨gb734, 1, none⟩ (.int .i64 t732)).heap[gb734]? = some (.cells #[.int .i64 t731, .int .i64 t732] 25 (0, 0))) := ⟨by (with_reducible repeat (first | refine blk_drewN ?_ _ | refine blk_drew ?_ | refine blk_alloc ?_ _)); refine blk_put (cs := #[.int .i64 t731, .int .i64 0]) ?_ 1 _ rfl; (with_reducible repeat (first | refine blk_drewN ?_ _ | refine blk_drew ?_ | refine blk_alloc ?_ _)); refine blk_put (cs := #[.int .i64 0, .int .i64 0]) ?_ 0 _ rfl; (with_reducible repeat (first | refine blk_drewN ?_ _ | refine blk_drew ?_ | refine blk_alloc ?_ _)); exact BK734.out⟩
   have n2_ : Aside0 (Below w.heap.size w ((w8.setCell ⟨gb734, 0, none⟩ (.int .i64 t731)).setCell ⟨gb734, 1, none⟩ (.int .i64 t732))) := ⟨bv2_ HB GE730 GE734⟩
   (try clear BK730)
   (try clear BK734)
   (try clear HB)
   generalize ((w8.setCell ⟨gb734, 0, none⟩ (.int .i64 t731)).setCell ⟨gb734, 1, none⟩ (.int .i64 t732)) = w11 at n0_ n1_ n2_ ⊢
   have BK730 := n0_
   have BK734 := n1_
   have HB := n2_
   clear n0_ n1_ n2_
   replace BK730 := Aside0.mk (blk_drew BK730.out)
   replace BK734 := Aside0.mk (blk_drew BK734.out)
   replace HB := Aside0.mk (below_drew1 HB.out)
   refine start_ (n := 11) (S := fun w' => True) (ds := []) (bs 11 0) (by kernel_rfl) rfl (by kernel_rfl) trivial (fun hHeld => ?_); refine with_tabW spec_DrawIsSensitiveBlock.tab2 spec_DrawIsSensitiveBlock.bits2 (fun HT_ HW_ => ?_)
   generalize w11.drew = w12 at BK730 BK734 HB hHeld ⊢
   refine pu_ HT_ 1 13 (bs 11 2) ?_
   refine pu_ HT_ 3 15 (bs 11 10) ?_
   refine inv_at [0, 2, 4, 5, 6, 7, 8, 9, 10] (fun a0_ b a w' => ∃ (v736 : Value) (adz_v736 : Addr) (m6_ : Value), a = putSel a0_ b [(0, 12, .agg #[.int .i64 t731, .int .i64 t732]), (2, 14, v736), (4, 16, .int .i64 (l0.length : Int)), (5, 17, .int .i64 ji3), (6, 18, m6_), (7, 19, .int .i64 (rd y735 (ji3))), (9, 3, .int .i64 t733), (10, 4, .int .i64 (rd y735 (ji3)))] ∧ (b 8 = false → w'.heap[gb730]? = some (.cells #[.int .i64 0, .int .i64 0] 25 (0, 0))) ∧ (w'.heap[gb734]? = some (.cells #[.int .i64 t731, .int .i64 t732] 25 (0, 0))) ∧ (Below w.heap.size w w') ∧ (b 2 = true → Kd.R (Kd.int .i64) 3 w' w.heap.size (fun _ => True) v736 y735) ∧ (b 2 = true → ∃ c_, (v736 : Value) = .slice (some adz_v736) y735.length c_) ∧ (b 8 = true → w'.heap[gb730]? = some (.cells #[.int .i64 t731, .int .i64 t732] 25 (0, 0))) ∧ (b 6 = true → (m6_ : Value) = .pointer (some (adz_v736.add ((ji3)).toNat)))) HT_.out HW_.out (by kernel_rfl) (by kernel_rfl) ?_ ?_ ?_
   ·exact ⟨.bool false, ⟨0, 0, none⟩, .bool false, by simp only [putSel, Bool.false_eq_true, if_false], fun _ => BK730.out, BK734.out, HB.out, fun h_ => absurd h_ (by decide), fun h_ => absurd h_ (by decide), fun h_ => absurd h_ (by decide), fun h_ => absurd h_ (by decide)⟩
   ·skip
    clear BK730 BK734 HB
    refine steps_cons ?_ ?_
    ·rintro b a w' ⟨v736, adz_v736, m6_, ha, Q_BK730, Q_BK734, Q_HB, Q_HO737, Q_HA_HO737, Q_BK730_e8, Q_X6_⟩ hb_ hon hoff
     refine ⟨_, rfl, fun K hK => ?_⟩
     have e5 : a.tmps[5]? = some (.pointer (some ⟨gb734, 0, none⟩)) := by rw [ha]; exact (putSel_off rfl).trans rfl
     replace ha := Aside0.mk ha
     have BK730 := Aside0.mk (Q_BK730 (hoff 8 (by kernel_rfl)))
     have BK734 := Aside0.mk Q_BK734
     have HB := Aside0.mk Q_HB
     have hc0_ : w'.cell? ⟨gb734, 0, none⟩ = some (.int .i64 t731) := (blk_cell BK734.out 0).trans rfl
     have hc1_ : w'.cell? ⟨gb734, 1, none⟩ = some (.int .i64 t732) := (blk_cell BK734.out 1).trans rfl
     refine value_ (w1 := w') (v := .agg #[.int .i64 t731, .int .i64 t732]) (by rfl) rfl ?_ ?_
     ·go_simp
      (try simp only [i64_w])
      try rfl
     refine hK.out _ _ ⟨v736, adz_v736, m6_, (by rw [ha.out]; exact putSel_upk 0 hb_ rfl rfl rfl), Q_BK730, Q_BK734, Q_HB, Q_HO737, Q_HA_HO737, fun h0_ => absurd ((hoff 8 (by kernel_rfl)).symm.trans h0_) (by decide), Q_X6_⟩
    refine steps_cons ?_ ?_
    ·rintro b a w' ⟨v736, adz_v736, m6_, ha, Q_BK730, Q_BK734, Q_HB, Q_HO737, Q_HA_HO737, Q_BK730_e8, Q_X6_⟩ hb_ hon hoff
     refine ⟨_, rfl, fun K hK => ?_⟩
     replace ha := Aside0.mk ha
     have BK734 := Aside0.mk Q_BK734
     have HB := Aside0.mk Q_HB
     refine Kd.R_lit_step (Kd.int .i64) _ 3 ?hg (N := 14) ?hd (xs := ([0, 1, 2, 3, 5, 7, 15, (-1), 16] : List Int)) (inner := [.int .i64 0, .int .i64 1, .int .i64 2, .int .i64 3, .int .i64 5, .int .i64 7, .int .i64 15, .int .i64 (-1), .int .i64 16]) (ok := fun _ => True) (okp := fun _ => True) ?hr ?hp (fun _ hk => hk) trivial (Below.refl _ _) (Nat.le_refl _) (by simp) ?_; (case hd => rfl); (case hg => rfl); (case hr => first | (go_simp; done) | (go_simp; rfl)); (case hp => exact (Reps.one (show Kd.M (Kd.int .i64) _ _ _ 0 [.int .i64 0] from rfl) (Reps.one (show Kd.M (Kd.int .i64) _ _ _ 1 [.int .i64 1] from rfl) (Reps.one (show Kd.M (Kd.int .i64) _ _ _ 2 [.int .i64 2] from rfl) (Reps.one (show Kd.M (Kd.int .i64) _ _ _ 3 [.int .i64 3] from rfl) (Reps.one (show Kd.M (Kd.int .i64) _ _ _ 5 [.int .i64 5] from rfl) (Reps.one (show Kd.M (Kd.int .i64) _ _ _ 7 [.int .i64 7] from rfl) (Reps.one (show Kd.M (Kd.int .i64) _ _ _ 15 [.int .i64 15] from rfl) (Reps.one (show Kd.M (Kd.int .i64) _ _ _ (-1) [.int .i64 (-1)] from rfl) (Reps.one (show Kd.M (Kd.int .i64) _ _ _ 16 [.int .i64 16] from rfl) (Reps.none _ _)))))))))))
     intro v736 w13 ho14 hb hg_ hnew_
     clear hg_ hnew_
     (first | rw [← Ny735.out] at ho14 | (simp only [Int.reduceToNat] at ho14; rw [← Ny735.out] at ho14))
     have n0_ := Aside0.mk (Kd.R_lower ho14 (below_size (bv2_ HB GE730 GE734)))
     have n2_ := kb_ BK734 hb
     have n3_ := Aside0.mk (below_step (bv2_ HB GE730 GE734) hb)
     have z_BK730 := fun (h0_ : b 8 = false) => (show w13.heap[gb730]? = some (.cells #[.int .i64 0, .int .i64 0] 25 (0, 0)) from by first | exact (blk_below (g := gb730) (o := .cells #[.int .i64 0, .int .i64 0] 25 (0, 0)) (by (with_reducible repeat (first | refine blk_drewN ?_ _ | refine blk_drew ?_ | refine blk_alloc ?_ _)); exact (Q_BK730 h0_)) hb))
     have z_BK730_e8 := fun (h0_ : b 8 = true) => (show w13.heap[gb730]? = some (.cells #[.int .i64 t731, .int .i64 t732] 25 (0, 0)) from by first | exact (blk_below (g := gb730) (o := .cells #[.int .i64 t731, .int .i64 t732] 25 (0, 0)) (by (with_reducible repeat (first | refine blk_drewN ?_ _ | refine blk_drew ?_ | refine blk_alloc ?_ _)); exact (Q_BK730_e8 h0_)) hb))
     clear BK734
     clear HB
     have HO737 := n0_
     have BK734 := n2_
     have HB := n3_
     clear n0_ n2_ n3_
     clear hb ho14
     obtain ⟨Ao15, co15, eo15⟩ := Kd.R_slice HO737.out
     subst eo15
     obtain ⟨ado15, fo15, _⟩ := Kd.at_int (Kd.R_reads' HO737.out).2.2 0 (by decide) (by rw [Ny735.out]; simp)
     cases fo15
     refine hK.out _ _ ⟨.slice (some ado15) y735.length co15, ado15, m6_, (by rw [ha.out]; exact putSel_upk 1 hb_ rfl rfl rfl), z_BK730, (kv_ BK734), (bv2_ HB GE730 GE734), fun _ => (rv_ HO737), fun _ => ⟨_, rfl⟩, z_BK730_e8, fun h0_ => absurd ((hoff 6 (by kernel_rfl)).symm.trans h0_) (by decide)⟩
    refine steps_cons ?_ ?_
    ·rintro b a w' ⟨v736, adz_v736, m6_, ha, Q_BK730, Q_BK734, Q_HB, Q_HO737, Q_HA_HO737, Q_BK730_e8, Q_X6_⟩ hb_ hon hoff
     refine ⟨_, rfl, fun K hK => ?_⟩
     have e15 : a.tmps[15]? = some (.slice A0 l0.length c0) := by rw [ha]; exact (putSel_off rfl).trans rfl
     replace ha := Aside0.mk ha
     have BK734 := Aside0.mk Q_BK734
     have HB := Aside0.mk Q_HB
     refine value_ (w1 := w') (v := .int .i64 (l0.length : Int)) (by rfl) rfl ?_ ?_
     ·go_simp
      (try simp only [i64_w])
      try rfl
     refine hK.out _ _ ⟨v736, adz_v736, m6_, (by rw [ha.out]; exact putSel_upk 2 hb_ rfl rfl rfl), Q_BK730, Q_BK734, Q_HB, Q_HO737, Q_HA_HO737, Q_BK730_e8, fun h0_ => absurd ((hoff 6 (by kernel_rfl)).symm.trans h0_) (by decide)⟩
    refine steps_cons ?_ ?_
    ·rintro b a w' ⟨v736, adz_v736, m6_, ha, Q_BK730, Q_BK734, Q_HB, Q_HO737, Q_HA_HO737, Q_BK730_e8, Q_X6_⟩ hb_ hon hoff
     refine ⟨_, rfl, fun K hK => ?_⟩
     have e16 : a.tmps[16]? = some (.int .i64 (l0.length : Int)) := by rw [ha]; exact putSel_on (e := (4, 16, .int .i64 (l0.length : Int))) 2 rfl rfl (hon 4 (by kernel_rfl)) rfl
     replace ha := Aside0.mk ha
     have BK734 := Aside0.mk Q_BK734
     have HB := Aside0.mk Q_HB
     refine value_ (w1 := w') (v := .int .i64 ji3) (by rfl) rfl ?_ ?_
     ·go_simp
      (try simp only [i64_w])
      try first | rfl | exact (Int.tmod_eq_emod_of_nonneg (Int.natCast_nonneg _)).trans hji3
     refine hK.out _ _ ⟨v736, adz_v736, m6_, (by rw [ha.out]; exact putSel_upk 3 hb_ rfl rfl rfl), Q_BK730, Q_BK734, Q_HB, Q_HO737, Q_HA_HO737, Q_BK730_e8, fun h0_ => absurd ((hoff 6 (by kernel_rfl)).symm.trans h0_) (by decide)⟩
    refine steps_cons ?_ ?_
    ·rintro b a w' ⟨v736, adz_v736, m6_, ha, Q_BK730, Q_BK734, Q_HB, Q_HO737, Q_HA_HO737, Q_BK730_e8, Q_X6_⟩ hb_ hon hoff
     refine ⟨_, rfl, fun K hK => ?_⟩
     have e14 : a.tmps[14]? = some (v736) := by rw [ha]; exact putSel_on (e := (2, 14, v736)) 1 rfl rfl (hon 2 (by kernel_rfl)) rfl
     have e17 : a.tmps[17]? = some (.int .i64 ji3) := by rw [ha]; exact putSel_on (e := (5, 17, .int .i64 ji3)) 3 rfl rfl (hon 5 (by kernel_rfl)) rfl
     replace ha := Aside0.mk ha
     have BK734 := Aside0.mk Q_BK734
     have HB := Aside0.mk Q_HB
     have HO737 := Aside0.mk (Q_HO737 (hon 2 (by kernel_rfl)))
     have HA_HO737 := Aside0.mk (Q_HA_HO737 (hon 2 (by kernel_rfl)))
     obtain ⟨c_, hv_⟩ := HA_HO737.out
     rw [hv_] at e14
     refine value_ (w1 := w') (v := .pointer (some (adz_v736.add ((ji3)).toNat))) (by rfl) rfl ?_ ?_
     ·go_simp
      (try simp only [i64_w])
      try rfl
     refine hK.out _ _ ⟨v736, adz_v736, (.pointer (some (adz_v736.add ((ji3)).toNat))), (by rw [ha.out]; exact putSel_upk 4 hb_ rfl rfl rfl), Q_BK730, Q_BK734, Q_HB, Q_HO737, Q_HA_HO737, Q_BK730_e8, fun _ => rfl⟩
    refine steps_cons ?_ ?_
    ·rintro b a w' ⟨v736, adz_v736, m6_, ha, Q_BK730, Q_BK734, Q_HB, Q_HO737, Q_HA_HO737, Q_BK730_e8, Q_X6_⟩ hb_ hon hoff
     refine ⟨_, rfl, fun K hK => ?_⟩
     have e18 : a.tmps[18]? = some (m6_) := by rw [ha]; exact putSel_on (e := (6, 18, m6_)) 4 rfl rfl (hon 6 (by kernel_rfl)) rfl
     rw [Q_X6_ (hon 6 (by kernel_rfl))] at e18
     replace ha := Aside0.mk ha
     have BK734 := Aside0.mk Q_BK734
     have HB := Aside0.mk Q_HB
     have HO737 := Aside0.mk (Q_HO737 (hon 2 (by kernel_rfl)))
     have HA_HO737 := Aside0.mk (Q_HA_HO737 (hon 2 (by kernel_rfl)))
     obtain ⟨c_, hv_⟩ := HA_HO737.out
     have hF_ := HO737.out
     rw [hv_] at hF_
     obtain ⟨ad_, ea_, hx_⟩ := Kd.at_int (Kd.R_reads' hF_).2.2 (ji3) (of_eq_true pi738) (of_eq_true qi738)
     cases ea_
     refine value_ (w1 := w') (v := .int .i64 (rd y735 (ji3))) (by rfl) rfl ?_ ?_
     ·go_simp
      (try simp only [i64_w])
      try rfl
     refine hK.out _ _ ⟨v736, adz_v736, m6_, (by rw [ha.out]; exact putSel_upk 5 hb_ rfl rfl rfl), Q_BK730, Q_BK734, Q_HB, Q_HO737, Q_HA_HO737, Q_BK730_e8, Q_X6_⟩
    refine steps_cons ?_ ?_
    ·rintro b a w' ⟨v736, adz_v736, m6_, ha, Q_BK730, Q_BK734, Q_HB, Q_HO737, Q_HA_HO737, Q_BK730_e8, Q_X6_⟩ hb_ hon hoff
     refine ⟨_, rfl, fun K hK => ?_⟩
     have e2 : a.tmps[2]? = some (.pointer (some ⟨gb730, 0, none⟩)) := by rw [ha]; exact (putSel_off rfl).trans rfl
     have e12 : a.tmps[12]? = some (.agg #[.int .i64 t731, .int .i64 t732]) := by rw [ha]; exact putSel_on (e := (0, 12, .agg #[.int .i64 t731, .int .i64 t732])) 0 rfl rfl (hon 0 (by kernel_rfl)) rfl
     replace ha := Aside0.mk ha
     have BK730 := Aside0.mk (Q_BK730 hb_)
     have BK734 := Aside0.mk Q_BK734
     have HB := Aside0.mk Q_HB
     have hs13 : w'.cell? ⟨gb730, 0, none⟩ = some (.int .i64 0) := (blk_cell BK730.out 0).trans rfl
     have hfs13 := blk_frozen BK730.out 0
     have hns13_1 := NB734_730.out
     have hms13_1 := NB730_734.out
     have hs14 : w'.cell? ⟨gb730, 1, none⟩ = some (.int .i64 0) := (blk_cell BK730.out 1).trans rfl
     have hfs14 := blk_frozen BK730.out 1
     have hns14_1 := NB734_730.out
     have hms14_1 := NB730_734.out
     refine skip_ (w1 := ?_) (by rfl) rfl ?_ ?_
     rotate_left
     ·go_simp
      rfl
     refine hK.out _ _ ⟨v736, adz_v736, m6_, (by rw [ha.out]; exact putSel_none (v := undef) rfl), fun h0_ => absurd ((up_self b 8).symm.trans h0_) (by decide), (by (with_reducible repeat (first | refine blk_drewN ?_ _ | refine blk_drew ?_ | refine blk_alloc ?_ _)); refine blk_far ?_ NB734_730.out _; (with_reducible repeat (first | refine blk_drewN ?_ _ | refine blk_drew ?_ | refine blk_alloc ?_ _)); refine blk_far ?_ NB734_730.out _; (with_reducible repeat (first | refine blk_drewN ?_ _ | refine blk_drew ?_ | refine blk_alloc ?_ _)); exact BK734.out), (bv2_ HB GE730 GE734), fun h0_ => (by (with_reducible repeat (first | apply Kd.R_alloc | apply Kd.R_drewN | apply Kd.R_drew)); exact Kd.R_mono (Kd.R_far (p := ⟨gb730, 1, none⟩) (Kd.R_far (p := ⟨gb730, 0, none⟩) (Kd.R_types (Q_HO737 h0_) BK730.out (by decide)) (fun _ hk => hk.2) (.int .i64 t731)) (fun _ hk => hk.2) (.int .i64 t732)) (fun _ hk => trivial)), Q_HA_HO737, fun _ => (by (with_reducible repeat (first | refine blk_drewN ?_ _ | refine blk_drew ?_ | refine blk_alloc ?_ _)); refine blk_put (cs := #[.int .i64 t731, .int .i64 0]) ?_ 1 _ rfl; (with_reducible repeat (first | refine blk_drewN ?_ _ | refine blk_drew ?_ | refine blk_alloc ?_ _)); refine blk_put (cs := #[.int .i64 0, .int .i64 0]) ?_ 0 _ rfl; (with_reducible repeat (first | refine blk_drewN ?_ _ | refine blk_drew ?_ | refine blk_alloc ?_ _)); exact BK730.out), Q_X6_⟩
    refine steps_cons ?_ ?_
    ·rintro b a w' ⟨v736, adz_v736, m6_, ha, Q_BK730, Q_BK734, Q_HB, Q_HO737, Q_HA_HO737, Q_BK730_e8, Q_X6_⟩ hb_ hon hoff
     refine ⟨_, rfl, fun K hK => ?_⟩
     have e13 : a.tmps[13]? = some (.int .i64 t733) := by rw [ha]; exact (putSel_off rfl).trans rfl
     replace ha := Aside0.mk ha
     have BK734 := Aside0.mk Q_BK734
     have HB := Aside0.mk Q_HB
     have BK730 := Aside0.mk (Q_BK730_e8 (hon 8 (by kernel_rfl)))
     refine value_ (w1 := w') (v := .int .i64 t733) (by rfl) rfl ?_ ?_
     ·go_simp
      (try simp only [i64_w])
      try rfl
     refine hK.out _ _ ⟨v736, adz_v736, m6_, (by rw [ha.out]; exact putSel_upk 6 hb_ rfl rfl rfl), fun h0_ => absurd ((hon 8 (by kernel_rfl)).symm.trans h0_) (by decide), Q_BK734, Q_HB, Q_HO737, Q_HA_HO737, Q_BK730_e8, Q_X6_⟩
    refine steps_cons ?_ ?_
    ·rintro b a w' ⟨v736, adz_v736, m6_, ha, Q_BK730, Q_BK734, Q_HB, Q_HO737, Q_HA_HO737, Q_BK730_e8, Q_X6_⟩ hb_ hon hoff
     refine ⟨_, rfl, fun K hK => ?_⟩
     have e19 : a.tmps[19]? = some (.int .i64 (rd y735 (ji3))) := by rw [ha]; exact putSel_on (e := (7, 19, .int .i64 (rd y735 (ji3)))) 5 rfl rfl (hon 7 (by kernel_rfl)) rfl
     replace ha := Aside0.mk ha
     have BK734 := Aside0.mk Q_BK734
     have HB := Aside0.mk Q_HB
     have HO737 := Aside0.mk (Q_HO737 (hon 2 (by kernel_rfl)))
     have HA_HO737 := Aside0.mk (Q_HA_HO737 (hon 2 (by kernel_rfl)))
     have BK730 := Aside0.mk (Q_BK730_e8 (hon 8 (by kernel_rfl)))
     refine value_ (w1 := w') (v := .int .i64 (rd y735 (ji3))) (by rfl) rfl ?_ ?_
     ·go_simp
      (try simp only [i64_w])
      try rfl
     refine hK.out _ _ ⟨v736, adz_v736, m6_, (by rw [ha.out]; exact putSel_upk 7 hb_ rfl rfl rfl), fun h0_ => absurd ((hon 8 (by kernel_rfl)).symm.trans h0_) (by decide), Q_BK734, Q_HB, Q_HO737, Q_HA_HO737, Q_BK730_e8, Q_X6_⟩
    exact steps_nil
   rintro b a w18 hall ⟨v736, adz_v736, m6_, ha, Q_BK730, Q_BK734, Q_HB, Q_HO737, Q_HA_HO737, Q_BK730_e8, Q_X6_⟩
   clear BK730 BK734 HB
   have hb0_ := hall 0 (by kernel_rfl)
   have hb2_ := hall 2 (by kernel_rfl)
   have hb4_ := hall 4 (by kernel_rfl)
   have hb5_ := hall 5 (by kernel_rfl)
   have hb6_ := hall 6 (by kernel_rfl)
   have hb7_ := hall 7 (by kernel_rfl)
   have hb8_ := hall 8 (by kernel_rfl)
   have hb9_ := hall 9 (by kernel_rfl)
   have hb10_ := hall 10 (by kernel_rfl)
   subst ha
   obtain rfl := Q_X6_ hb6_
   simp only [putSel, hb0_, hb2_, hb4_, hb5_, hb6_, hb7_, hb8_, hb9_, hb10_, if_true, Act.put, List.setIfInBounds_toArray, List.set_cons_zero, List.set_cons_succ]
   clear Q_BK730
   have BK734 := Aside0.mk Q_BK734
   clear Q_BK734
   have HB := Aside0.mk Q_HB
   clear Q_HB
   have HO737 := Aside0.mk (Q_HO737 hb2_)
   clear Q_HO737
   have HA_HO737 := Aside0.mk (Q_HA_HO737 hb2_)
   clear Q_HA_HO737
   have BK730 := Aside0.mk (Q_BK730_e8 hb8_)
   clear Q_BK730_e8
   clear hall hb0_ hb2_ hb4_ hb5_ hb6_ hb7_ hb8_ hb9_ hb10_
   obtain ⟨co19, eo19⟩ := HA_HO737.out
   clear HA_HO737
   subst eo19
   try go_wp2
   refine bodyPost_ret (results_ctt rfl _ _ gb730 25 #[.int .i64 t731, .int .i64 t732] (0, 0) _ rfl (kv_ BK730) Try.underlying25 rfl (by kernel_rfl)) rfl ?_
   exact ⟨by first | rfl | (simp [errW_none, errW_some] <;> rfl) | (simp only [← hji3]; first | rfl | (simp [errW_none, errW_some] <;> rfl)) | (simp [*, errW_none, errW_some] <;> rfl), bv2_ HB GE730 GE734⟩
  ·rw [if_neg c5] at H
   exact absurd H (by simp)
 ·rw [if_neg c4] at H
  exact absurd H (by simp)


/-! ### spec_DrawCertificateOf: function 42 -/
def spec_DrawCertificateOf.f (k : Nat) (l0 : List Int) : Option (Int × Int × Int) := (spec_l9Both.f k l0).bind fun bt740 => (some (bt740.1, bt740.2.1, mn 2 bt740.2.2))
theorem spec_DrawCertificateOf.mono : ∀ a0 k, LeO (spec_DrawCertificateOf.f k a0) (spec_DrawCertificateOf.f (k + 1) a0) := by
 intro a0 k
 unfold spec_DrawCertificateOf.f
 repeat' first
   | (with_reducible exact spec_l9Both.mono _ _)
   | (with_reducible exact LeO.refl _)
   | (with_reducible exact LeO.none _)
   | (with_reducible refine LeO.ite ?_ ?_)
   | (with_reducible refine LeO.bind ?_ (fun _ => ?_))
   | exact spec_l9Both.mono _ _
   | exact LeO.none _
   | refine LeO.ite ?_ ?_
   | refine LeO.bind ?_ (fun _ => ?_)
set_option maxHeartbeats 8000000 in
set_option maxRecDepth 100000 in
theorem spec_DrawCertificateOf.calls (k : Nat) (A0 : Option Addr) (c0 : Nat) (l0 : List Int) (r1 : Int) (r2 : Int) (r3 : Int) (w : World) (hr0 : Kd.C (Kd.int .u8) w A0 l0.length l0) (hc0 : l0.length ≤ c0) (h : spec_DrawCertificateOf.f k l0 = some (r1, r2, r3)) :
  Calls Try.prog 42 #[.slice A0 l0.length c0] w fun e w' => e = .returned (.tuple #[.agg #[.int .i64 r1, .int .i64 r2], .int .i64 r3]) ∧ Below w.heap.size w w' := by
 have hu25 := Try.underlying25
 have HR0 := Aside0.mk hr0
 have HC0 := Aside0.mk hc0
 clear hr0 hc0
 have HB := Aside0.mk (Below.refl w.heap.size w)
 have H : ((spec_l9Both.f k l0).bind fun bt740 => (some (bt740.1, bt740.2.1, mn 2 bt740.2.2))) = some (r1, r2, r3) := h
 clear h
 replace H := Option.bind_eq_some_iff.mp H
 obtain ⟨⟨t740, t741, t742⟩, A20, H⟩ := H
 replace H : (some (t740, t741, mn 2 t742)) = some (r1, r2, r3) := H
 have A2 := Aside0.mk A20
 clear A20
 obtain ⟨ji3, hji3⟩ : ∃ j_ : Int, (mn 2 t742) = j_ := ⟨_, rfl⟩
 replace H : (some (t740, t741, ji3)) = some (r1, r2, r3) := by first | (rw [hji3] at H; exact H) | (simp only [hji3] at H ⊢; exact H)
 (try rw [hji3] at A2)
 (try (have hji3h : ji3 ≤ 2 := by (rw [← hji3]; unfold mn; (repeat' split) <;> omega)))
 (try (have hji3g : ji3 ≤ 64 := by omega))
 have hji3_ : (if t742 < 2 then t742 else 2) = ji3 := hji3
 simp only [Option.some.injEq, Prod.mk.injEq] at H
 obtain ⟨rfl, rfl, rfl⟩ := H
 go_enter Try.func42, Try.ntmps42
 go_wp2_with (first | ((with_reducible refine gate_dst (N := 2) rfl ?_); refine bx_ 2 #[.int .i64 0, .int .i64 0] 25 ?_; intro gb739 hg w4 hbox hb; have BK739 := Aside0.mk (hbox); have GW739 := gw_ hg (below_size (bv_ HB)); have GE739 := GW739; replace HB := Aside0.mk (below_step (bv_ HB) hb); clear hb hbox hg) | ((with_reducible refine gate_callee (f := 76) rfl ?_); refine gl_ 8 Try.func76 #[.slice A0 l0.length c0] rfl mp_ ?_; (with_reducible refine (spec_l9Both.calls k _ _ l0 t740 t741 t742 _ ?side1 ?side2 A2.out).mono ?_); (case side1 => exact cv_ (Kd.C_below HR0.out HB.out)); (case side2 => exact HC0.out); rintro e w5 ⟨rfl, hb⟩; refine ⟨_, rfl, ?_⟩; replace BK739 := kb_ BK739 hb; replace HB := Aside0.mk (below_step (bv1_ HB GE739) hb); (try clear hb); (try clear hb2); (try clear hk); (try clear hi)) | ((with_reducible refine gate_dst (N := 4) rfl ?_); refine bx_ 4 #[.int .i64 0, .int .i64 0] 25 ?_; intro gb743 hg w6 hbox hb; have BK743 := Aside0.mk (hbox); have GW743 := gw_ hg (below_size (bv1_ HB GE739)); have GE743 := GW743; replace HB := Aside0.mk (below_step (bv1_ HB GE739) hb); have NB739_743 := nb_ hg (blk_lt (g := gb739) (o := .cells #[.int .i64 0, .int .i64 0] 25 (0, 0)) (kv_ BK739)); have NB743_739 := nc_ hg (blk_lt (g := gb739) (o := .cells #[.int .i64 0, .int .i64 0] 25 (0, 0)) (kv_ BK739)); replace BK739 := kb_ BK739 hb; clear hb hbox hg; have hnb7 := NB743_739.out; have hnc7 := NB739_743.out; obtain ⟨hcz8_0, hcz8_1, hfz8_0, hfz8_1⟩ := c2_ BK743; obtain ⟨hcz9_0, hcz9_1, hfz9_0, hfz9_1⟩ := c2_ BK739))
 refine bodyPost_ret (results_ct rfl _ _ gb739 25 #[.int .i64 t740, .int .i64 t741] (0, 0) _ rfl (by (with_reducible repeat (first | refine blk_drewN ?_ _ | refine blk_drew ?_ | refine blk_alloc ?_ _)); refine blk_put (cs := #[.int .i64 t740, .int .i64 0]) ?_ 1 _ rfl; (with_reducible repeat (first | refine blk_drewN ?_ _ | refine blk_drew ?_ | refine blk_alloc ?_ _)); refine blk_put (cs := #[.int .i64 0, .int .i64 0]) ?_ 0 _ rfl; (with_reducible repeat (first | refine blk_drewN ?_ _ | refine blk_drew ?_ | refine blk_alloc ?_ _)); refine blk_far ?_ NB739_743.out _; (with_reducible repeat (first | refine blk_drewN ?_ _ | refine blk_drew ?_ | refine blk_alloc ?_ _)); refine blk_far ?_ NB739_743.out _; (with_reducible repeat (first | refine blk_drewN ?_ _ | refine blk_drew ?_ | refine blk_alloc ?_ _)); exact BK739.out) Try.underlying25 rfl (by kernel_rfl)) rfl ?_
 exact ⟨by first | rfl | (simp [errW_none, errW_some] <;> rfl) | (simp only [← hji3]; first | rfl | (simp [errW_none, errW_some] <;> rfl)) | (simp [*, errW_none, errW_some] <;> rfl), bv2_ HB GE739 GE743⟩


/-! ### spec_DrawBlockSensitivityOf: function 43 -/
def spec_DrawBlockSensitivityOf.f (k : Nat) (l0 : List Int) : Option (Int × Int) := (spec_l1New.f k l0).bind fun bt745 => ((spec_l2Any.f k bt745.1 bt745.2.1 bt745.2.2).bind fun bt749 => (some (bt749.1, bt749.2.1)))
theorem spec_DrawBlockSensitivityOf.mono : ∀ a0 k, LeO (spec_DrawBlockSensitivityOf.f k a0) (spec_DrawBlockSensitivityOf.f (k + 1) a0) := by
 intro a0 k
 unfold spec_DrawBlockSensitivityOf.f
 repeat' first
   | (with_reducible exact spec_l1New.mono _ _)
   | (with_reducible exact spec_l2Any.mono _ _ _ _)
   | (with_reducible exact LeO.refl _)
   | (with_reducible exact LeO.none _)
   | (with_reducible refine LeO.ite ?_ ?_)
   | (with_reducible refine LeO.bind ?_ (fun _ => ?_))
   | exact spec_l1New.mono _ _
   | exact spec_l2Any.mono _ _ _ _
   | exact LeO.none _
   | refine LeO.ite ?_ ?_
   | refine LeO.bind ?_ (fun _ => ?_)
set_option maxHeartbeats 8000000 in
set_option maxRecDepth 100000 in
theorem spec_DrawBlockSensitivityOf.calls (k : Nat) (A0 : Option Addr) (c0 : Nat) (l0 : List Int) (r1 : Int) (r2 : Int) (w : World) (hr0 : Kd.C (Kd.int .u8) w A0 l0.length l0) (hc0 : l0.length ≤ c0) (h : spec_DrawBlockSensitivityOf.f k l0 = some (r1, r2)) :
  Calls Try.prog 43 #[.slice A0 l0.length c0] w fun e w' => e = .returned (.agg #[.int .i64 r1, .int .i64 r2]) ∧ Below w.heap.size w w' := by
 have hu25 := Try.underlying25
 have HR0 := Aside0.mk hr0
 have HC0 := Aside0.mk hc0
 clear hr0 hc0
 have HB := Aside0.mk (Below.refl w.heap.size w)
 have H : ((spec_l1New.f k l0).bind fun bt745 => ((spec_l2Any.f k bt745.1 bt745.2.1 bt745.2.2).bind fun bt749 => (some (bt749.1, bt749.2.1)))) = some (r1, r2) := h
 clear h
 replace H := Option.bind_eq_some_iff.mp H
 obtain ⟨⟨t745, t746, t747⟩, A20, H⟩ := H
 replace H : ((spec_l2Any.f k t745 t746 t747).bind fun bt749 => (some (bt749.1, bt749.2.1))) = some (r1, r2) := H
 have A2 := Aside0.mk A20
 clear A20
 replace H := Option.bind_eq_some_iff.mp H
 obtain ⟨⟨t749, t750, t751, t752⟩, A30, H⟩ := H
 replace H : (some (t749, t750)) = some (r1, r2) := H
 have A3 := Aside0.mk A30
 clear A30
 simp only [Option.some.injEq, Prod.mk.injEq] at H
 obtain ⟨rfl, rfl⟩ := H
 go_enter Try.func43, Try.ntmps43
 go_wp2_with (first | ((with_reducible refine gate_dst (N := 2) rfl ?_); refine bx_ 2 #[.int .i64 0, .int .i64 0] 25 ?_; intro gb744 hg w4 hbox hb; have BK744 := Aside0.mk (hbox); have GW744 := gw_ hg (below_size (bv_ HB)); have GE744 := GW744; replace HB := Aside0.mk (below_step (bv_ HB) hb); clear hb hbox hg) | ((with_reducible refine gate_callee (f := 60) rfl ?_); refine gl_ 4 Try.func60 #[.slice A0 l0.length c0] rfl mp_ ?_; (with_reducible refine (spec_l1New.calls k _ _ l0 t745 t746 t747 w _ ?side1 ?side2 ?side3 A2.out).mono ?_); (case side1 => repeat (first | (with_reducible first | exact HB.out | apply below_alloc | apply pw_below_drewN | apply below_drew1 | refine below_set ?_ GE744.out) | exact HB.out)); (case side2 => exact HR0.out); (case side3 => exact HC0.out); rintro e w5 ⟨g748, rfl, hi, hb, hb2⟩; refine ⟨_, rfl, ?_⟩; replace HB := Aside0.mk (hb); have HI748 := Aside0.mk (hi); have NB748_744 := Aside0.mk (IsS61.ne_blk hi (blk_below (g := gb744) (o := .cells #[.int .i64 0, .int .i64 0] 25 (0, 0)) (kv_ BK744) hb2) (by decide)); have NB744_748 := Aside0.mk (Ne.symm (IsS61.ne_blk hi (blk_below (g := gb744) (o := .cells #[.int .i64 0, .int .i64 0] 25 (0, 0)) (kv_ BK744) hb2) (by decide))); replace BK744 := kb_ BK744 hb2; (try clear hb); (try clear hb2); (try clear hk); (try clear hi)) | ((with_reducible refine gate_callee (f := 59) rfl ?_); refine gl_ 5 Try.func59 #[.pointer (some ⟨g748, 0, none⟩)] rfl mp_ ?_; (with_reducible refine (spec_l2Any.calls k g748 t745 t746 t747 t749 t750 t751 t752 w _ ?side1 ?side2 A3.out).mono ?_); (case side1 => repeat (first | (with_reducible first | exact HI748.out | apply IsS61.alloc | apply IsS61.drewN | apply IsS61.drew | apply IsS61.set_1 | apply IsS61.set_2 | refine IsS61.far ?_ NB748_744.out _) | exact HI748.out)); (case side2 => repeat (first | (with_reducible first | exact HB.out | apply below_alloc | apply pw_below_drewN | apply below_drew1 | refine below_set ?_ (IsS61.ge HI748.out) | refine below_set ?_ GE744.out) | exact HB.out)); rintro e w6 ⟨rfl, hi, hb, hk⟩; refine ⟨_, rfl, ?_⟩; replace BK744 := Aside0.mk (KeepBut.blk hk (g' := gb744) (o := .cells #[.int .i64 0, .int .i64 0] 25 (0, 0)) (kv_ BK744) NB744_748.out (by simp)); replace HB := Aside0.mk (hb); replace HI748 := Aside0.mk (hi); (try clear hb); (try clear hb2); (try clear hk); (try clear hi); have hnb7 := NB744_748.out; have hnc7 := NB748_744.out; obtain ⟨hcz8_0, hcz8_1, hfz8_0, hfz8_1⟩ := c2_ BK744))
 refine bodyPost_ret (results_cell_row rfl _ _ gb744 25 #[.int .i64 t749, .int .i64 t750] (0, 0) _ rfl (by (with_reducible repeat (first | refine blk_drewN ?_ _ | refine blk_drew ?_ | refine blk_alloc ?_ _)); refine blk_put (cs := #[.int .i64 t749, .int .i64 0]) ?_ 1 _ rfl; (with_reducible repeat (first | refine blk_drewN ?_ _ | refine blk_drew ?_ | refine blk_alloc ?_ _)); refine blk_put (cs := #[.int .i64 0, .int .i64 0]) ?_ 0 _ rfl; (with_reducible repeat (first | refine blk_drewN ?_ _ | refine blk_drew ?_ | refine blk_alloc ?_ _)); exact BK744.out) Try.underlying25 rfl (by kernel_rfl)) rfl ?_
 exact ⟨by first | rfl | (simp [errW_none, errW_some] <;> rfl) | (simp [*, errW_none, errW_some] <;> rfl), by repeat (first | (with_reducible first | exact HB.out | apply below_alloc | apply pw_below_drewN | apply below_drew1 | refine below_set ?_ (IsS61.ge HI748.out) | refine below_set ?_ GE744.out) | exact HB.out)⟩


/-! ### spec_DrawMeetingOf: function 44 -/
def spec_DrawMeetingOf.f (k : Nat) (l0 : List Int) : Option (Int × Int) := (spec_l1New.f k l0).bind fun bt754 => ((spec_l2Any.f k bt754.1 bt754.2.1 bt754.2.2).bind fun bt758 => (some (bt758.1, bt758.2.1)))
theorem spec_DrawMeetingOf.mono : ∀ a0 k, LeO (spec_DrawMeetingOf.f k a0) (spec_DrawMeetingOf.f (k + 1) a0) := by
 intro a0 k
 unfold spec_DrawMeetingOf.f
 repeat' first
   | (with_reducible exact spec_l1New.mono _ _)
   | (with_reducible exact spec_l2Any.mono _ _ _ _)
   | (with_reducible exact LeO.refl _)
   | (with_reducible exact LeO.none _)
   | (with_reducible refine LeO.ite ?_ ?_)
   | (with_reducible refine LeO.bind ?_ (fun _ => ?_))
   | exact spec_l1New.mono _ _
   | exact spec_l2Any.mono _ _ _ _
   | exact LeO.none _
   | refine LeO.ite ?_ ?_
   | refine LeO.bind ?_ (fun _ => ?_)
set_option maxHeartbeats 8000000 in
set_option maxRecDepth 100000 in
theorem spec_DrawMeetingOf.calls (k : Nat) (A0 : Option Addr) (c0 : Nat) (l0 : List Int) (r1 : Int) (r2 : Int) (w : World) (hr0 : Kd.C (Kd.int .u8) w A0 l0.length l0) (hc0 : l0.length ≤ c0) (h : spec_DrawMeetingOf.f k l0 = some (r1, r2)) :
  Calls Try.prog 44 #[.slice A0 l0.length c0] w fun e w' => e = .returned (.agg #[.int .i64 r1, .int .i64 r2]) ∧ Below w.heap.size w w' := by
 have hu25 := Try.underlying25
 have HR0 := Aside0.mk hr0
 have HC0 := Aside0.mk hc0
 clear hr0 hc0
 have HB := Aside0.mk (Below.refl w.heap.size w)
 have H : ((spec_l1New.f k l0).bind fun bt754 => ((spec_l2Any.f k bt754.1 bt754.2.1 bt754.2.2).bind fun bt758 => (some (bt758.1, bt758.2.1)))) = some (r1, r2) := h
 clear h
 replace H := Option.bind_eq_some_iff.mp H
 obtain ⟨⟨t754, t755, t756⟩, A20, H⟩ := H
 replace H : ((spec_l2Any.f k t754 t755 t756).bind fun bt758 => (some (bt758.1, bt758.2.1))) = some (r1, r2) := H
 have A2 := Aside0.mk A20
 clear A20
 replace H := Option.bind_eq_some_iff.mp H
 obtain ⟨⟨t758, t759, t760, t761⟩, A30, H⟩ := H
 replace H : (some (t758, t759)) = some (r1, r2) := H
 have A3 := Aside0.mk A30
 clear A30
 simp only [Option.some.injEq, Prod.mk.injEq] at H
 obtain ⟨rfl, rfl⟩ := H
 go_enter Try.func44, Try.ntmps44
 go_wp2_with (first | ((with_reducible refine gate_dst (N := 2) rfl ?_); refine bx_ 2 #[.int .i64 0, .int .i64 0] 25 ?_; intro gb753 hg w4 hbox hb; have BK753 := Aside0.mk (hbox); have GW753 := gw_ hg (below_size (bv_ HB)); have GE753 := GW753; replace HB := Aside0.mk (below_step (bv_ HB) hb); clear hb hbox hg) | ((with_reducible refine gate_callee (f := 60) rfl ?_); refine gl_ 4 Try.func60 #[.slice A0 l0.length c0] rfl mp_ ?_; (with_reducible refine (spec_l1New.calls k _ _ l0 t754 t755 t756 w _ ?side1 ?side2 ?side3 A2.out).mono ?_); (case side1 => repeat (first | (with_reducible first | exact HB.out | apply below_alloc | apply pw_below_drewN | apply below_drew1 | refine below_set ?_ GE753.out) | exact HB.out)); (case side2 => exact HR0.out); (case side3 => exact HC0.out); rintro e w5 ⟨g757, rfl, hi, hb, hb2⟩; refine ⟨_, rfl, ?_⟩; replace HB := Aside0.mk (hb); have HI757 := Aside0.mk (hi); have NB757_753 := Aside0.mk (IsS61.ne_blk hi (blk_below (g := gb753) (o := .cells #[.int .i64 0, .int .i64 0] 25 (0, 0)) (kv_ BK753) hb2) (by decide)); have NB753_757 := Aside0.mk (Ne.symm (IsS61.ne_blk hi (blk_below (g := gb753) (o := .cells #[.int .i64 0, .int .i64 0] 25 (0, 0)) (kv_ BK753) hb2) (by decide))); replace BK753 := kb_ BK753 hb2; (try clear hb); (try clear hb2); (try clear hk); (try clear hi)) | ((with_reducible refine gate_callee (f := 59) rfl ?_); refine gl_ 5 Try.func59 #[.pointer (some ⟨g757, 0, none⟩)] rfl mp_ ?_; (with_reducible refine (spec_l2Any.calls k g757 t754 t755 t756 t758 t759 t760 t761 w _ ?side1 ?side2 A3.out).mono ?_); (case side1 => repeat (first | (with_reducible first | exact HI757.out | apply IsS61.alloc | apply IsS61.drewN | apply IsS61.drew | apply IsS61.set_1 | apply IsS61.set_2 | refine IsS61.far ?_ NB757_753.out _) | exact HI757.out)); (case side2 => repeat (first | (with_reducible first | exact HB.out | apply below_alloc | apply pw_below_drewN | apply below_drew1 | refine below_set ?_ (IsS61.ge HI757.out) | refine below_set ?_ GE753.out) | exact HB.out)); rintro e w6 ⟨rfl, hi, hb, hk⟩; refine ⟨_, rfl, ?_⟩; replace BK753 := Aside0.mk (KeepBut.blk hk (g' := gb753) (o := .cells #[.int .i64 0, .int .i64 0] 25 (0, 0)) (kv_ BK753) NB753_757.out (by simp)); replace HB := Aside0.mk (hb); replace HI757 := Aside0.mk (hi); (try clear hb); (try clear hb2); (try clear hk); (try clear hi); have hnb7 := NB753_757.out; have hnc7 := NB757_753.out; obtain ⟨hcz8_0, hcz8_1, hfz8_0, hfz8_1⟩ := c2_ BK753))
 refine bodyPost_ret (results_cell_row rfl _ _ gb753 25 #[.int .i64 t758, .int .i64 t759] (0, 0) _ rfl (by (with_reducible repeat (first | refine blk_drewN ?_ _ | refine blk_drew ?_ | refine blk_alloc ?_ _)); refine blk_put (cs := #[.int .i64 t758, .int .i64 0]) ?_ 1 _ rfl; (with_reducible repeat (first | refine blk_drewN ?_ _ | refine blk_drew ?_ | refine blk_alloc ?_ _)); refine blk_put (cs := #[.int .i64 0, .int .i64 0]) ?_ 0 _ rfl; (with_reducible repeat (first | refine blk_drewN ?_ _ | refine blk_drew ?_ | refine blk_alloc ?_ _)); exact BK753.out) Try.underlying25 rfl (by kernel_rfl)) rfl ?_
 exact ⟨by first | rfl | (simp [errW_none, errW_some] <;> rfl) | (simp [*, errW_none, errW_some] <;> rfl), by repeat (first | (with_reducible first | exact HB.out | apply below_alloc | apply pw_below_drewN | apply below_drew1 | refine below_set ?_ (IsS61.ge HI757.out) | refine below_set ?_ GE753.out) | exact HB.out)⟩


/-! ### spec_DrawBlockSensitivityAt: function 45 -/
def spec_DrawBlockSensitivityAt.f (k : Nat) (l0 : List Int) : Option (Int × Int × Int) := (spec_l9Both.f k l0).bind fun bt763 => (some (bt763.1, bt763.2.1, bt763.2.2))
theorem spec_DrawBlockSensitivityAt.mono : ∀ a0 k, LeO (spec_DrawBlockSensitivityAt.f k a0) (spec_DrawBlockSensitivityAt.f (k + 1) a0) := by
 intro a0 k
 unfold spec_DrawBlockSensitivityAt.f
 repeat' first
   | (with_reducible exact spec_l9Both.mono _ _)
   | (with_reducible exact LeO.refl _)
   | (with_reducible exact LeO.none _)
   | (with_reducible refine LeO.ite ?_ ?_)
   | (with_reducible refine LeO.bind ?_ (fun _ => ?_))
   | exact spec_l9Both.mono _ _
   | exact LeO.none _
   | refine LeO.ite ?_ ?_
   | refine LeO.bind ?_ (fun _ => ?_)
set_option maxHeartbeats 8000000 in
set_option maxRecDepth 100000 in
theorem spec_DrawBlockSensitivityAt.calls (k : Nat) (A0 : Option Addr) (c0 : Nat) (l0 : List Int) (r1 : Int) (r2 : Int) (r3 : Int) (w : World) (hr0 : Kd.C (Kd.int .u8) w A0 l0.length l0) (hc0 : l0.length ≤ c0) (h : spec_DrawBlockSensitivityAt.f k l0 = some (r1, r2, r3)) :
  Calls Try.prog 45 #[.slice A0 l0.length c0] w fun e w' => e = .returned (.tuple #[.agg #[.int .i64 r1, .int .i64 r2], .int .i64 r3]) ∧ Below w.heap.size w w' := by
 have hu25 := Try.underlying25
 have HR0 := Aside0.mk hr0
 have HC0 := Aside0.mk hc0
 clear hr0 hc0
 have HB := Aside0.mk (Below.refl w.heap.size w)
 have H : ((spec_l9Both.f k l0).bind fun bt763 => (some (bt763.1, bt763.2.1, bt763.2.2))) = some (r1, r2, r3) := h
 clear h
 replace H := Option.bind_eq_some_iff.mp H
 obtain ⟨⟨t763, t764, t765⟩, A20, H⟩ := H
 replace H : (some (t763, t764, t765)) = some (r1, r2, r3) := H
 have A2 := Aside0.mk A20
 clear A20
 simp only [Option.some.injEq, Prod.mk.injEq] at H
 obtain ⟨rfl, rfl, rfl⟩ := H
 go_enter Try.func45, Try.ntmps45
 go_wp2_with (first | ((with_reducible refine gate_dst (N := 2) rfl ?_); refine bx_ 2 #[.int .i64 0, .int .i64 0] 25 ?_; intro gb762 hg w3 hbox hb; have BK762 := Aside0.mk (hbox); have GW762 := gw_ hg (below_size (bv_ HB)); have GE762 := GW762; replace HB := Aside0.mk (below_step (bv_ HB) hb); clear hb hbox hg) | ((with_reducible refine gate_callee (f := 76) rfl ?_); refine gl_ 8 Try.func76 #[.slice A0 l0.length c0] rfl mp_ ?_; (with_reducible refine (spec_l9Both.calls k _ _ l0 t763 t764 t765 _ ?side1 ?side2 A2.out).mono ?_); (case side1 => exact cv_ (Kd.C_below HR0.out HB.out)); (case side2 => exact HC0.out); rintro e w4 ⟨rfl, hb⟩; refine ⟨_, rfl, ?_⟩; replace BK762 := kb_ BK762 hb; replace HB := Aside0.mk (below_step (bv1_ HB GE762) hb); (try clear hb); (try clear hb2); (try clear hk); (try clear hi)) | ((with_reducible refine gate_dst (N := 4) rfl ?_); refine bx_ 4 #[.int .i64 0, .int .i64 0] 25 ?_; intro gb766 hg w5 hbox hb; have BK766 := Aside0.mk (hbox); have GW766 := gw_ hg (below_size (bv1_ HB GE762)); have GE766 := GW766; replace HB := Aside0.mk (below_step (bv1_ HB GE762) hb); have NB762_766 := nb_ hg (blk_lt (g := gb762) (o := .cells #[.int .i64 0, .int .i64 0] 25 (0, 0)) (kv_ BK762)); have NB766_762 := nc_ hg (blk_lt (g := gb762) (o := .cells #[.int .i64 0, .int .i64 0] 25 (0, 0)) (kv_ BK762)); replace BK762 := kb_ BK762 hb; clear hb hbox hg; have hnb6 := NB766_762.out; have hnc6 := NB762_766.out; obtain ⟨hcz7_0, hcz7_1, hfz7_0, hfz7_1⟩ := c2_ BK766; obtain ⟨hcz8_0, hcz8_1, hfz8_0, hfz8_1⟩ := c2_ BK762))
 refine bodyPost_ret (results_ct rfl _ _ gb762 25 #[.int .i64 t763, .int .i64 t764] (0, 0) _ rfl (by (with_reducible repeat (first | refine blk_drewN ?_ _ | refine blk_drew ?_ | refine blk_alloc ?_ _)); refine blk_put (cs := #[.int .i64 t763, .int .i64 0]) ?_ 1 _ rfl; (with_reducible repeat (first | refine blk_drewN ?_ _ | refine blk_drew ?_ | refine blk_alloc ?_ _)); refine blk_put (cs := #[.int .i64 0, .int .i64 0]) ?_ 0 _ rfl; (with_reducible repeat (first | refine blk_drewN ?_ _ | refine blk_drew ?_ | refine blk_alloc ?_ _)); refine blk_far ?_ NB762_766.out _; (with_reducible repeat (first | refine blk_drewN ?_ _ | refine blk_drew ?_ | refine blk_alloc ?_ _)); refine blk_far ?_ NB762_766.out _; (with_reducible repeat (first | refine blk_drewN ?_ _ | refine blk_drew ?_ | refine blk_alloc ?_ _)); exact BK762.out) Try.underlying25 rfl (by kernel_rfl)) rfl ?_
 exact ⟨by first | rfl | (simp [errW_none, errW_some] <;> rfl) | (simp [*, errW_none, errW_some] <;> rfl), bv2_ HB GE762 GE766⟩


/-! ### impl_SensitiveEdges: function 46 -/
def impl_SensitiveEdges.l0 : Nat → Int → Int → Int → Int → Int → Option (Int)
 | 0, _, _, _, _, _ => none
 | k + 1, x3, x9, x10, x768000, x768001 => if x10 < x9 then ((impl_Table_sensitivity.f k x768000 x768001 x10).bind fun t770 => (impl_SensitiveEdges.l0 k (wrap64 (x3 + t770)) x9 (wrap64 (x10 + 1)) x768000 x768001)) else (some (wrap64 (Int.tdiv x3 2)))
def impl_SensitiveEdges.f (k : Nat) (a0_0 : Int) (a0_1 : Int) : Option (Int) := (impl_IsTable.f a0_0 a0_1).bind fun t768 => (if t768 = true then ((impl_Table_size.f a0_0 a0_1).bind fun t769 => (impl_SensitiveEdges.l0 k 0 t769 0 a0_0 a0_1)) else (some (-1)))
theorem impl_SensitiveEdges.mono_l : ∀ k, (∀ y0 y1 y2 y3 y4, LeO (impl_SensitiveEdges.l0 k y0 y1 y2 y3 y4) (impl_SensitiveEdges.l0 (k + 1) y0 y1 y2 y3 y4))
 | 0 => fun _ _ _ _ _ r h => by simp [impl_SensitiveEdges.l0] at h
 | k + 1 => by
  have ih0 := impl_SensitiveEdges.mono_l k
  ·intro y0 y1 y2 y3 y4
   unfold impl_SensitiveEdges.l0
   repeat' first
   | (with_reducible exact ih0 _ _ _ _ _)
   | (with_reducible exact impl_Table_sensitivity.mono _ _ _ _)
   | (with_reducible exact LeO.refl _)
   | (with_reducible exact LeO.none _)
   | (with_reducible refine LeO.ite ?_ ?_)
   | (with_reducible refine LeO.bind ?_ (fun _ => ?_))
   | exact ih0 _ _ _ _ _
   | exact impl_Table_sensitivity.mono _ _ _ _
   | exact LeO.none _
   | refine LeO.ite ?_ ?_
   | refine LeO.bind ?_ (fun _ => ?_)
theorem impl_SensitiveEdges.mono : ∀ a0 a1 k, LeO (impl_SensitiveEdges.f k a0 a1) (impl_SensitiveEdges.f (k + 1) a0 a1) := by
 intro a0 a1 k
 have ih0 := impl_SensitiveEdges.mono_l k
 unfold impl_SensitiveEdges.f
 repeat' first
   | (with_reducible exact ih0 _ _ _ _ _)
   | (with_reducible exact impl_Table_sensitivity.mono _ _ _ _)
   | (with_reducible exact LeO.refl _)
   | (with_reducible exact LeO.none _)
   | (with_reducible refine LeO.ite ?_ ?_)
   | (with_reducible refine LeO.bind ?_ (fun _ => ?_))
   | exact ih0 _ _ _ _ _
   | exact impl_Table_sensitivity.mono _ _ _ _
   | exact LeO.none _
   | refine LeO.ite ?_ ?_
   | refine LeO.bind ?_ (fun _ => ?_)
set_option maxHeartbeats 8000000 in
set_option maxRecDepth 100000 in
theorem impl_SensitiveEdges.calls (k : Nat) (a0_0 : Int) (a0_1 : Int) (r : Int) (w : World) (h : impl_SensitiveEdges.f k a0_0 a0_1 = some r) :
  Calls Try.prog 46 #[.agg #[.int .i64 a0_0, .int .i64 a0_1]] w fun e w' => e = .returned (.int .i64 r) ∧ Below w.heap.size w w' := by
 have hu25 := Try.underlying25
 have HB := Aside0.mk (Below.refl w.heap.size w)
 have H : ((impl_IsTable.f a0_0 a0_1).bind fun t768 => (if t768 = true then ((impl_Table_size.f a0_0 a0_1).bind fun t769 => (impl_SensitiveEdges.l0 k 0 t769 0 a0_0 a0_1)) else (some (-1)))) = some r := h
 clear h
 replace H := Option.bind_eq_some_iff.mp H
 obtain ⟨t768, A20, H⟩ := H
 have A2 := Aside0.mk A20
 clear A20
 by_cases c3 : t768 = true
 ·subst c3
  rw [if_pos rfl] at H
  replace H := Option.bind_eq_some_iff.mp H
  obtain ⟨t769, A40, H⟩ := H
  have A4 := Aside0.mk A40
  clear A40
  have H' := Aside0.mk H
  clear H
  go_enter Try.func46, Try.ntmps46
  go_wp2_with (first | ((with_reducible refine gate_dst (N := 1) rfl ?_); refine bx_ 1 #[.int .i64 a0_0, .int .i64 a0_1] 25 ?_; intro gb767 hg w5 hbox hb; have BK767 := Aside0.mk (hbox); have GW767 := gw_ hg (below_size (bv_ HB)); have GE767 := GW767; replace HB := Aside0.mk (below_step (bv_ HB) hb); clear hb hbox hg; obtain ⟨hcz6_0, hcz6_1, hfz6_0, hfz6_1⟩ := c2_ BK767) | ((with_reducible refine gate_callee (f := 61) rfl ?_); refine gl_ 6 Try.func61 #[.agg #[.int .i64 a0_0, .int .i64 a0_1]] rfl mp_ ?_; (with_reducible refine (impl_IsTable.calls a0_0 a0_1 true _ A2.out).mono ?_); rintro e w7 ⟨rfl, hb⟩; refine ⟨_, rfl, ?_⟩; replace BK767 := kb_ BK767 hb; replace HB := Aside0.mk (below_step (bv1_ HB GE767) hb); (try clear hb); (try clear hb2); (try clear hk); (try clear hi); obtain ⟨hcz8_0, hcz8_1, hfz8_0, hfz8_1⟩ := c2_ BK767) | ((with_reducible refine gate_callee (f := 65) rfl ?_); refine gl_ 9 Try.func65 #[.agg #[.int .i64 a0_0, .int .i64 a0_1]] rfl mp_ ?_; (with_reducible refine (impl_Table_size.calls a0_0 a0_1 t769 _ A4.out).mono ?_); rintro e w9 ⟨rfl, hb⟩; refine ⟨_, rfl, ?_⟩; replace BK767 := kb_ BK767 hb; replace HB := Aside0.mk (below_step (bv1_ HB GE767) hb); (try clear hb); (try clear hb2); (try clear hk); (try clear hi)))
  go_loopg [3, 10] k (fun kq v3 v10 w' => ∃ (x3_1 : Int) (x10_1 : Int), v3 = .int .i64 x3_1 ∧ v10 = .int .i64 x10_1 ∧ Aside0 (impl_SensitiveEdges.l0 kq x3_1 t769 x10_1 a0_0 a0_1 = some r) ∧ Aside0 (kq ≤ k) ∧ Aside0 (w'.heap[gb767]? = some (.cells #[.int .i64 a0_0, .int .i64 a0_1] 25 (0, 0))) ∧ Aside0 (Below w.heap.size w w'))
  case atStart => exact ⟨(0), (0), (by first | rfl | (simp; done) | (simp [*]; done)), (by first | rfl | (simp; done) | (simp [*]; done)), H', ⟨Nat.le_refl _⟩, ⟨by (with_reducible repeat (first | refine blk_drewN ?_ _ | refine blk_drew ?_ | refine blk_alloc ?_ _)); exact BK767.out⟩, ⟨bv1_ HB GE767⟩⟩
  case round =>
   clear H'
   try clear p2
   try clear c3
   try clear c4
   try clear c6
   try clear hcz6_0
   try clear hcz6_1
   try clear hcz8_0
   try clear hcz8_1
   try clear hfz6_0
   try clear hfz6_1
   try clear hfz8_0
   try clear hfz8_1
   obtain ⟨x3_1, x10_1, rfl, rfl, HA, HK1, BK767, HB⟩ := hrel
   cases gk with
   | zero => exact absurd HA.out (by simp [impl_SensitiveEdges.l0])
   | succ k1 =>
    have H := HA.out
    clear HA
    simp only [impl_SensitiveEdges.l0] at H
    by_cases c10 : x10_1 < t769
    ·rw [if_pos c10] at H
     have c10b0 : decide (x10_1 < t769) = true := decide_eq_true c10
     clear c10
     replace H := Option.bind_eq_some_iff.mp H
     obtain ⟨t770, A110, H⟩ := H
     have A11 := Aside0.mk A110
     clear A110
     have H' := Aside0.mk H
     clear H
     obtain ⟨hcz12_0, hcz12_1, hfz12_0, hfz12_1⟩ := c2_ BK767
     go_wp2_with (first | ((with_reducible refine gate_callee (f := 82) rfl ?_); refine gl_ 16 Try.func82 #[.agg #[.int .i64 a0_0, .int .i64 a0_1], .int .i64 x10_1] rfl mp_ ?_; (with_reducible refine (impl_Table_sensitivity.calls k1 a0_0 a0_1 x10_1 t770 _ A11.out).mono ?_); rintro e w13 ⟨rfl, hb⟩; refine ⟨_, rfl, ?_⟩; have n0_ := kb_ BK767 hb; have n1_ := Aside0.mk (below_step (bv1_ HB GE767) hb); clear BK767; clear HB; have BK767 := n0_; have HB := n1_; clear n0_ n1_; (try clear hb); (try clear hb2); (try clear hk); (try clear hi)))
     go_roundg k1
     case measure => have := HK1.out; omega
     case rel => exact ⟨(wrap64 (x3_1 + t770)), (wrap64 (x10_1 + 1)), (by first | rfl | (simp; done) | (simp [*]; done)), (by first | rfl | (simp; done) | (simp [*]; done)), H', ⟨by have := HK1.out; omega⟩, ⟨by (with_reducible repeat (first | refine blk_drewN ?_ _ | refine blk_drew ?_ | refine blk_alloc ?_ _)); exact BK767.out⟩, ⟨bv1_ HB GE767⟩⟩
    ·rw [if_neg c10] at H
     have c10b0 : decide (x10_1 < t769) = false := decide_eq_false c10
     clear c10
     obtain rfl := Option.some.inj H
     go_wp2
     go_ret
     exact ⟨by first | rfl | (simp [errW_none, errW_some] <;> rfl) | (simp [*, errW_none, errW_some] <;> rfl), bv1_ HB GE767⟩
 ·replace c3 := Bool.eq_false_iff.mpr c3
  subst c3
  rw [if_neg (show ¬ (false = true) by decide)] at H
  obtain rfl := Option.some.inj H
  go_enter Try.func46, Try.ntmps46
  go_wp2_with (first | ((with_reducible refine gate_dst (N := 1) rfl ?_); refine bx_ 1 #[.int .i64 a0_0, .int .i64 a0_1] 25 ?_; intro gb767 hg w14 hbox hb; have BK767 := Aside0.mk (hbox); have GW767 := gw_ hg (below_size (bv_ HB)); have GE767 := GW767; replace HB := Aside0.mk (below_step (bv_ HB) hb); clear hb hbox hg; obtain ⟨hcz15_0, hcz15_1, hfz15_0, hfz15_1⟩ := c2_ BK767) | ((with_reducible refine gate_callee (f := 61) rfl ?_); refine gl_ 6 Try.func61 #[.agg #[.int .i64 a0_0, .int .i64 a0_1]] rfl mp_ ?_; (with_reducible refine (impl_IsTable.calls a0_0 a0_1 false _ A2.out).mono ?_); rintro e w16 ⟨rfl, hb⟩; refine ⟨_, rfl, ?_⟩; replace BK767 := kb_ BK767 hb; replace HB := Aside0.mk (below_step (bv1_ HB GE767) hb); (try clear hb); (try clear hb2); (try clear hk); (try clear hi)))
  go_ret
  exact ⟨by first | rfl | (simp [errW_none, errW_some] <;> rfl) | (simp [*, errW_none, errW_some] <;> rfl), bv1_ HB GE767⟩


/-! ### spec_IsCertificate: function 47 -/
def spec_IsCertificate.f (k : Nat) (a0_0 : Int) (a0_1 : Int) (a1 : Int) (a2 : Int) : Option (Bool) := (spec_l9In.f a0_0 a0_1 a1).bind fun t772 => (if t772 = true then (if 0 ≤ a0_0 then ((spec_l1In.f a2 0 (wrap64 ((shl .i64 1 a0_0) - 1))).bind fun t773 => (if t773 = true then ((spec_l3Cube.f k a0_0 a0_1 a2 (Go.bits .and .i64 a1 a2)).bind fun t774 => (some (decide (t774 < 2)))) else (some false))) else (none)) else (some false))
theorem spec_IsCertificate.mono : ∀ a0 a1 a2 a3 k, LeO (spec_IsCertificate.f k a0 a1 a2 a3) (spec_IsCertificate.f (k + 1) a0 a1 a2 a3) := by
 intro a0 a1 a2 a3 k
 unfold spec_IsCertificate.f
 repeat' first
   | (with_reducible exact spec_l3Cube.mono _ _ _ _ _)
   | (with_reducible exact LeO.refl _)
   | (with_reducible exact LeO.none _)
   | (with_reducible refine LeO.ite ?_ ?_)
   | (with_reducible refine LeO.bind ?_ (fun _ => ?_))
   | exact spec_l3Cube.mono _ _ _ _ _
   | exact LeO.none _
   | refine LeO.ite ?_ ?_
   | refine LeO.bind ?_ (fun _ => ?_)
set_option maxHeartbeats 8000000 in
set_option maxRecDepth 100000 in
theorem spec_IsCertificate.calls (k : Nat) (a0_0 : Int) (a0_1 : Int) (a1 : Int) (a2 : Int) (r : Bool) (w : World) (h : spec_IsCertificate.f k a0_0 a0_1 a1 a2 = some r) :
  Calls Try.prog 47 #[.agg #[.int .i64 a0_0, .int .i64 a0_1], .int .i64 a1, .int .i64 a2] w fun e w' => e = .returned (.bool r) ∧ Below w.heap.size w w' := by
 have hu25 := Try.underlying25
 have HB := Aside0.mk (Below.refl w.heap.size w)
 have H : ((spec_l9In.f a0_0 a0_1 a1).bind fun t772 => (if t772 = true then (if 0 ≤ a0_0 then ((spec_l1In.f a2 0 (wrap64 ((shl .i64 1 a0_0) - 1))).bind fun t773 => (if t773 = true then ((spec_l3Cube.f k a0_0 a0_1 a2 (Go.bits .and .i64 a1 a2)).bind fun t774 => (some (decide (t774 < 2)))) else (some false))) else (none)) else (some false))) = some r := h
 clear h
 replace H := Option.bind_eq_some_iff.mp H
 obtain ⟨t772, A40, H⟩ := H
 have A4 := Aside0.mk A40
 clear A40
 by_cases c5 : t772 = true
 ·subst c5
  rw [if_pos rfl] at H
  by_cases c6 : 0 ≤ a0_0
  ·rw [if_pos c6] at H
   have c6b0 := eq_true c6
   have c6b1 : decide (0 ≤ a0_0) = true := decide_eq_true c6
   clear c6
   obtain ⟨ji7, hji7⟩ : ∃ j_ : Int, (shl .i64 1 a0_0) = j_ := ⟨_, rfl⟩
   replace H : ((spec_l1In.f a2 0 (wrap64 ((ji7) - 1))).bind fun t773 => (if t773 = true then ((spec_l3Cube.f k a0_0 a0_1 a2 (Go.bits .and .i64 a1 a2)).bind fun t774 => (some (decide (t774 < 2)))) else (some false))) = some r := by first | (rw [hji7] at H; exact H) | (simp only [hji7] at H ⊢; exact H)
   (try rw [hji7] at A4)
   have hji7_ : (IntKind.i64.wrap (1 * 2 ^ min a0_0.toNat 64)) = ji7 := hji7
   have hji7z : a0_0 ≤ 64 → (IntKind.i64.wrap (1 * 2 ^ a0_0.toNat)) = ji7 := shl_small hji7
   have hji7u : (IntKind.i64.wrap (2 ^ min a0_0.toNat 64)) = ji7 := by have h_ := hji7_; rw [Int.one_mul] at h_; exact h_
   have hji7v : a0_0 ≤ 64 → (IntKind.i64.wrap (2 ^ a0_0.toNat)) = ji7 := fun hle_ => by have h_ := hji7z hle_; rw [Int.one_mul] at h_; exact h_
   have hji7y : (wrap64 (1 * 2 ^ min a0_0.toNat 64)) = ji7 := (i64_w _).symm.trans hji7_
   have hji7x : a0_0 ≤ 64 → (wrap64 (1 * 2 ^ a0_0.toNat)) = ji7 := fun h_ => (i64_w _).symm.trans (hji7z h_)
   replace H := Option.bind_eq_some_iff.mp H
   obtain ⟨t773, A80, H⟩ := H
   have A8 := Aside0.mk A80
   clear A80
   by_cases c9 : t773 = true
   ·subst c9
    rw [if_pos rfl] at H
    replace H := Option.bind_eq_some_iff.mp H
    obtain ⟨t774, A100, H⟩ := H
    have A10 := Aside0.mk A100
    clear A100
    obtain rfl := Option.some.inj H
    go_enter Try.func47, Try.ntmps47
    go_wp2_with (first | ((with_reducible refine gate_dst (N := 3) rfl ?_); refine bx_ 3 #[.int .i64 a0_0, .int .i64 a0_1] 25 ?_; intro gb771 hg w11 hbox hb; have BK771 := Aside0.mk (hbox); have GW771 := gw_ hg (below_size (bv_ HB)); have GE771 := GW771; replace HB := Aside0.mk (below_step (bv_ HB) hb); clear hb hbox hg; obtain ⟨hcz12_0, hcz12_1, hfz12_0, hfz12_1⟩ := c2_ BK771) | ((with_reducible refine gate_callee (f := 79) rfl ?_); refine gl_ 9 Try.func79 #[.agg #[.int .i64 a0_0, .int .i64 a0_1], .int .i64 a1] rfl mp_ ?_; (with_reducible refine (spec_l9In.calls a0_0 a0_1 a1 true _ A4.out).mono ?_); rintro e w13 ⟨rfl, hb⟩; refine ⟨_, rfl, ?_⟩; replace BK771 := kb_ BK771 hb; replace HB := Aside0.mk (below_step (bv1_ HB GE771) hb); (try clear hb); (try clear hb2); (try clear hk); (try clear hi); obtain ⟨hcz14_0, hcz14_1, hfz14_0, hfz14_1⟩ := c2_ BK771) | (go_at_call 75; (with_reducible refine (spec_l1In.calls a2 0 (wrap64 ((ji7) - 1)) true _ A8.out).mono ?_); rintro e w' ⟨rfl, ⟨nd, rfl⟩⟩) | (go_at_call 89; (with_reducible refine (spec_l3Cube.calls k a0_0 a0_1 a2 (Go.bits .and .i64 a1 a2) t774 _ A10.out).mono ?_); rintro e w15 ⟨rfl, hb⟩; replace BK771 := kb_ BK771 hb; replace HB := Aside0.mk (below_step (bv1_ HB GE771) hb); (try clear hb); (try clear hb2); (try clear hk); (try clear hi)))
    go_ret
    exact ⟨by first | rfl | (simp [errW_none, errW_some] <;> rfl) | (simp only [← hji7]; first | rfl | (simp [errW_none, errW_some] <;> rfl)) | (simp [*, errW_none, errW_some] <;> rfl), bv1_ HB GE771⟩
   ·replace c9 := Bool.eq_false_iff.mpr c9
    subst c9
    rw [if_neg (show ¬ (false = true) by decide)] at H
    obtain rfl := Option.some.inj H
    go_enter Try.func47, Try.ntmps47
    go_wp2_with (first | ((with_reducible refine gate_dst (N := 3) rfl ?_); refine bx_ 3 #[.int .i64 a0_0, .int .i64 a0_1] 25 ?_; intro gb771 hg w16 hbox hb; have BK771 := Aside0.mk (hbox); have GW771 := gw_ hg (below_size (bv_ HB)); have GE771 := GW771; replace HB := Aside0.mk (below_step (bv_ HB) hb); clear hb hbox hg; obtain ⟨hcz17_0, hcz17_1, hfz17_0, hfz17_1⟩ := c2_ BK771) | ((with_reducible refine gate_callee (f := 79) rfl ?_); refine gl_ 9 Try.func79 #[.agg #[.int .i64 a0_0, .int .i64 a0_1], .int .i64 a1] rfl mp_ ?_; (with_reducible refine (spec_l9In.calls a0_0 a0_1 a1 true _ A4.out).mono ?_); rintro e w18 ⟨rfl, hb⟩; refine ⟨_, rfl, ?_⟩; replace BK771 := kb_ BK771 hb; replace HB := Aside0.mk (below_step (bv1_ HB GE771) hb); (try clear hb); (try clear hb2); (try clear hk); (try clear hi); obtain ⟨hcz19_0, hcz19_1, hfz19_0, hfz19_1⟩ := c2_ BK771) | (go_at_call 75; (with_reducible refine (spec_l1In.calls a2 0 (wrap64 ((ji7) - 1)) false _ A8.out).mono ?_); rintro e w' ⟨rfl, ⟨nd, rfl⟩⟩))
    go_ret
    exact ⟨by first | rfl | (simp [errW_none, errW_some] <;> rfl) | (simp only [← hji7]; first | rfl | (simp [errW_none, errW_some] <;> rfl)) | (simp [*, errW_none, errW_some] <;> rfl), bv1_ HB GE771⟩
  ·rw [if_neg c6] at H
   exact absurd H (by simp)
 ·replace c5 := Bool.eq_false_iff.mpr c5
  subst c5
  rw [if_neg (show ¬ (false = true) by decide)] at H
  obtain rfl := Option.some.inj H
  go_enter Try.func47, Try.ntmps47
  go_wp2_with (first | ((with_reducible refine gate_dst (N := 3) rfl ?_); refine bx_ 3 #[.int .i64 a0_0, .int .i64 a0_1] 25 ?_; intro gb771 hg w20 hbox hb; have BK771 := Aside0.mk (hbox); have GW771 := gw_ hg (below_size (bv_ HB)); have GE771 := GW771; replace HB := Aside0.mk (below_step (bv_ HB) hb); clear hb hbox hg; obtain ⟨hcz21_0, hcz21_1, hfz21_0, hfz21_1⟩ := c2_ BK771) | ((with_reducible refine gate_callee (f := 79) rfl ?_); refine gl_ 9 Try.func79 #[.agg #[.int .i64 a0_0, .int .i64 a0_1], .int .i64 a1] rfl mp_ ?_; (with_reducible refine (spec_l9In.calls a0_0 a0_1 a1 false _ A4.out).mono ?_); rintro e w22 ⟨rfl, hb⟩; refine ⟨_, rfl, ?_⟩; replace BK771 := kb_ BK771 hb; replace HB := Aside0.mk (below_step (bv1_ HB GE771) hb); (try clear hb); (try clear hb2); (try clear hk); (try clear hi)))
  go_ret
  exact ⟨by first | rfl | (simp [errW_none, errW_some] <;> rfl) | (simp [*, errW_none, errW_some] <;> rfl), bv1_ HB GE771⟩


end Go.Proofs.Ytplnffhjpmnifaa.P
