-- Out of the translation, by this session's program over the printer's; Lean checks it.
import Derived.Test.YteljkpglgjjnlaaSh
import Derived.Test.YteljkpglgjjnlaaQ0
import Derived.Test.YteljkpglgjjnlaaQ7
namespace Go.Proofs.Yteljkpglgjjnlaa.P
open Go.RowKit Go.Proofs.YteljkpglgjjnlaaW.PrintWords Go.Proofs.YteljkpglgjjnlaaW.PrintLast Go.Proofs.YteljkpglgjjnlaaW.PrintMore
attribute [local go_sem] max2_int min2_int max_two min_two max_three min_three max_four min_four
set_option linter.unusedVariables false
set_option linter.unusedSimpArgs false

/-! ### spec_l4Least: function 43 -/
mutual
def spec_l4Least.l0 : Nat → Int → Int → List (List Int) → Int → Int → Int → Option (Int × Int)
 | 0, _, _, _, _, _, _ => none
 | k + 1, x4, x5, x6, x7, x616000, x616001 => if x7 < (x6.length : Int) then (if 0 ≤ x7 then ((spec_l3Permute.f k x616000 x616001 (rd_L2 x6 x7)).bind fun bt623 => (spec_l4Least.l1 k x4 x5 x6 x7 0 x616000 x616001 bt623.1 bt623.2)) else (none)) else (some (x4, x5))
def spec_l4Least.l1 : Nat → Int → Int → List (List Int) → Int → Int → Int → Int → Int → Int → Option (Int × Int)
 | 0, _, _, _, _, _, _, _, _, _ => none
 | k + 1, x4, x5, x6, x7, x9, x616000, x616001, x626000, x626001 => if 0 ≤ x616000 then (if x9 < (shl .i64 1 x616000) then ((spec_l3Shift.f k x626000 x626001 x9).bind fun bt626 => ((spec_l2Full.f x616000).bind fun t629 => (if bt626.2 = x616001 then (if (wrap64 (t629 - bt626.2)) = x616001 then (spec_l4Least.l1 k (mn x4 (mn bt626.2 (wrap64 (t629 - bt626.2)))) (wrap64 ((wrap64 (x5 + 1)) + 1)) x6 x7 (wrap64 (x9 + 1)) x616000 x616001 x626000 x626001) else (spec_l4Least.l1 k (mn x4 (mn bt626.2 (wrap64 (t629 - bt626.2)))) (wrap64 (x5 + 1)) x6 x7 (wrap64 (x9 + 1)) x616000 x616001 x626000 x626001)) else (if (wrap64 (t629 - bt626.2)) = x616001 then (spec_l4Least.l1 k (mn x4 (mn bt626.2 (wrap64 (t629 - bt626.2)))) (wrap64 (x5 + 1)) x6 x7 (wrap64 (x9 + 1)) x616000 x616001 x626000 x626001) else (spec_l4Least.l1 k (mn x4 (mn bt626.2 (wrap64 (t629 - bt626.2)))) x5 x6 x7 (wrap64 (x9 + 1)) x616000 x616001 x626000 x626001))))) else (spec_l4Least.l0 k x4 x5 x6 (wrap64 (x7 + 1)) x616000 x616001)) else (none)
end
def spec_l4Least.f (k : Nat) (a0_0 : Int) (a0_1 : Int) : Option (Int × Int) := (spec_l4Perms.f k a0_0 (([] : List Int))).bind fun t619 => (spec_l4Least.l0 k a0_1 0 t619 0 a0_0 a0_1)
theorem spec_l4Least.mono_l : ∀ k, (∀ y0 y1 y2 y3 y4 y5, LeO (spec_l4Least.l0 k y0 y1 y2 y3 y4 y5) (spec_l4Least.l0 (k + 1) y0 y1 y2 y3 y4 y5)) ∧ (∀ y0 y1 y2 y3 y4 y5 y6 y7 y8, LeO (spec_l4Least.l1 k y0 y1 y2 y3 y4 y5 y6 y7 y8) (spec_l4Least.l1 (k + 1) y0 y1 y2 y3 y4 y5 y6 y7 y8))
 | 0 => ⟨fun _ _ _ _ _ _ r h => by simp [spec_l4Least.l0] at h, fun _ _ _ _ _ _ _ _ _ r h => by simp [spec_l4Least.l1] at h⟩
 | k + 1 => by
  obtain ⟨ih0, ih1⟩ := spec_l4Least.mono_l k
  refine ⟨?_, ?_⟩
  ·intro y0 y1 y2 y3 y4 y5
   unfold spec_l4Least.l0
   repeat' first
   | (with_reducible exact ih0 _ _ _ _ _ _)
   | (with_reducible exact ih1 _ _ _ _ _ _ _ _ _)
   | (with_reducible exact spec_l3Permute.mono _ _ _ _)
   | (with_reducible exact spec_l3Shift.mono _ _ _ _)
   | (with_reducible exact spec_l4Perms.mono _ _ _)
   | (with_reducible exact LeO.refl _)
   | (with_reducible exact LeO.none _)
   | (with_reducible refine LeO.ite ?_ ?_)
   | (with_reducible refine LeO.bind ?_ (fun _ => ?_))
   | exact ih0 _ _ _ _ _ _
   | exact ih1 _ _ _ _ _ _ _ _ _
   | exact spec_l3Permute.mono _ _ _ _
   | exact spec_l3Shift.mono _ _ _ _
   | exact spec_l4Perms.mono _ _ _
   | exact LeO.none _
   | refine LeO.ite ?_ ?_
   | refine LeO.bind ?_ (fun _ => ?_)
  ·intro y0 y1 y2 y3 y4 y5 y6 y7 y8
   unfold spec_l4Least.l1
   repeat' first
   | (with_reducible exact ih0 _ _ _ _ _ _)
   | (with_reducible exact ih1 _ _ _ _ _ _ _ _ _)
   | (with_reducible exact spec_l3Permute.mono _ _ _ _)
   | (with_reducible exact spec_l3Shift.mono _ _ _ _)
   | (with_reducible exact spec_l4Perms.mono _ _ _)
   | (with_reducible exact LeO.refl _)
   | (with_reducible exact LeO.none _)
   | (with_reducible refine LeO.ite ?_ ?_)
   | (with_reducible refine LeO.bind ?_ (fun _ => ?_))
   | exact ih0 _ _ _ _ _ _
   | exact ih1 _ _ _ _ _ _ _ _ _
   | exact spec_l3Permute.mono _ _ _ _
   | exact spec_l3Shift.mono _ _ _ _
   | exact spec_l4Perms.mono _ _ _
   | exact LeO.none _
   | refine LeO.ite ?_ ?_
   | refine LeO.bind ?_ (fun _ => ?_)
theorem spec_l4Least.mono : ∀ a0 a1 k, LeO (spec_l4Least.f k a0 a1) (spec_l4Least.f (k + 1) a0 a1) := by
 intro a0 a1 k
 obtain ⟨ih0, ih1⟩ := spec_l4Least.mono_l k
 unfold spec_l4Least.f
 repeat' first
   | (with_reducible exact ih0 _ _ _ _ _ _)
   | (with_reducible exact ih1 _ _ _ _ _ _ _ _ _)
   | (with_reducible exact spec_l3Permute.mono _ _ _ _)
   | (with_reducible exact spec_l3Shift.mono _ _ _ _)
   | (with_reducible exact spec_l4Perms.mono _ _ _)
   | (with_reducible exact LeO.refl _)
   | (with_reducible exact LeO.none _)
   | (with_reducible refine LeO.ite ?_ ?_)
   | (with_reducible refine LeO.bind ?_ (fun _ => ?_))
   | exact ih0 _ _ _ _ _ _
   | exact ih1 _ _ _ _ _ _ _ _ _
   | exact spec_l3Permute.mono _ _ _ _
   | exact spec_l3Shift.mono _ _ _ _
   | exact spec_l4Perms.mono _ _ _
   | exact LeO.none _
   | refine LeO.ite ?_ ?_
   | refine LeO.bind ?_ (fun _ => ?_)
def spec_l4Least.T7 : Bool × List (List Nat × List Nat) := (true, [([], []), ([], []), ([], []), ([1, 2], [1, 2]), ([3], [3]), ([0, 4], [0, 4]), ([], []), ([6, 5, 5, 0, 1, 2, 3, 4, 5, 6], [5, 6])])
def spec_l4Least.B7 : List Nat := [0, 0, 0, 6, 14, 31, 0, 127]
theorem spec_l4Least.tab7 : rtab .any (opsOf Try.f43 7) = spec_l4Least.T7 := by kernel_rfl
theorem spec_l4Least.bits7 : waitsOk spec_l4Least.T7.2 spec_l4Least.B7 = true := by kernel_rfl
set_option maxHeartbeats 8000000 in
set_option maxRecDepth 100000 in
theorem spec_l4Least.calls (k : Nat) (a0_0 : Int) (a0_1 : Int) (r1 : Int) (r2 : Int) (w : World) (h : spec_l4Least.f k a0_0 a0_1 = some (r1, r2)) :
  Calls Try.prog 43 #[.agg #[.int .i64 a0_0, .int .i64 a0_1]] w fun e w' => e = .returned (.tuple #[.int .i64 r1, .int .i64 r2]) ∧ Below w.heap.size w w' := by
 have hu25 := Try.underlying25
 have HB := Aside0.mk (Below.refl w.heap.size w)
 have H : ((spec_l4Perms.f k a0_0 (([] : List Int))).bind fun t619 => (spec_l4Least.l0 k a0_1 0 t619 0 a0_0 a0_1)) = some (r1, r2) := h
 clear h
 obtain ⟨y616, hy616⟩ : ∃ y_ : List Int, y_ = (([] : List Int)) := ⟨_, rfl⟩
 replace H : ((spec_l4Perms.f k a0_0 y616).bind fun t619 => (spec_l4Least.l0 k a0_1 0 t619 0 a0_0 a0_1)) = some (r1, r2) := by first | (rw [hy616]; with_reducible exact H) | (have H2_ := (Option.bind_some _ _).symm.trans H; rw [hy616]; with_reducible exact H2_) | (have H2_ := (Option.bind_some _ _).symm.trans H; with_reducible exact H2_) | with_reducible exact H | (rw [hy616]; exact H) | exact H
 have Ny616 := Aside0.mk hy616
 clear hy616
 replace H := Option.bind_eq_some_iff.mp H
 obtain ⟨t619, A20, H⟩ := H
 have A2 := Aside0.mk A20
 clear A20
 have H' := Aside0.mk H
 clear H
 go_enter Try.func43, Try.ntmps43
 go_wp2_with (first | ((with_reducible refine gate_dst (N := 1) rfl ?_); refine bx_ 1 #[.int .i64 a0_0, .int .i64 a0_1] 25 ?_; intro gb615 hg w3 hbox hb; have BK615 := Aside0.mk (hbox); have GW615 := gw_ hg (below_size (bv_ HB)); have GE615 := GW615; replace HB := Aside0.mk (below_step (bv_ HB) hb); clear hb hbox hg; obtain ⟨hcz4_0, hcz4_1, hfz4_0, hfz4_1⟩ := c2_ BK615) | ((with_reducible refine gate_dst (N := 16) rfl ?_); refine Kd.R_lit (Kd.int .i64) _ 3 ?hg (N := 16) ?hd (xs := ([] : List Int)) (inner := []) (ok := fun _ => True) (okp := fun _ => True) ?hr ?hp (fun _ hk => hk) trivial (Below.refl _ _) (Nat.le_refl _) (by simp) ?_; (case hd => rfl); (case hg => rfl); (case hr => first | (go_simp; done) | (go_simp; rfl)); (case hp => exact (Reps.none _ _)); intro v617 w5 ho6 hb hg_ hnew_; clear hg_ hnew_; (first | rw [← Ny616.out] at ho6 | (simp only [Int.reduceToNat] at ho6; rw [← Ny616.out] at ho6)); have HO618 := Aside0.mk (Kd.R_lower ho6 (below_size (bv1_ HB GE615))); replace BK615 := kb_ BK615 hb; replace HB := Aside0.mk (below_step (bv1_ HB GE615) hb); clear hb ho6; obtain ⟨Ao7, co7, eo7⟩ := Kd.R_slice HO618.out; subst eo7) | ((with_reducible refine gate_callee (f := 57) rfl ?_); refine gl_ 17 Try.func57 #[.int .i64 a0_0, .slice Ao7 y616.length co7] rfl mp_ ?_; (with_reducible refine (spec_l4Perms.calls k a0_0 (fun k_ => some k_ = (.slice Ao7 y616.length co7 : Value).ownBlock) _ _ y616 t619 _ ?side1 A2.out).mono ?_); (case side1 => exact Kd.R_V (Kd.R_tight rfl (Kd.R_types (HO618.out) BK615.out (by decide)))); rintro e w8 ⟨v620, rfl, ho0, hb⟩; refine ⟨_, rfl, ?_⟩; have HO621 := Aside0.mk (Kd.N_lower (Kd.N_mono (ok' := fun k_ => k_ ≠ gb615) ho0 (fun k_ hk_ => Or.elim hk_ (fun hs_ => ((Kd.R_types (HO618.out) BK615.out (by decide)).1 k_ hs_.symm).2) (fun hn_ => (Kd.freshB (g := gb615) (o := .cells #[.int .i64 a0_0, .int .i64 a0_1] 25 (0, 0)) (kv_ BK615) k_ hn_)))) (below_size (bv1_ HB GE615))); replace HO618 := Aside0.mk (Kd.R_below (rv_ HO618) hb); replace BK615 := kb_ BK615 hb; replace HB := Aside0.mk (below_step (bv1_ HB GE615) hb); (try clear hb); (try clear hb2); (try clear hk); (try clear hi); (try clear ho0)))
 go_loopg [4, 5, 7] k (fun kq v4 v5 v7 w' => ∃ (x4_1 : Int) (x5_1 : Int) (x7_1 : Int), v4 = .int .i64 x4_1 ∧ v5 = .int .i64 x5_1 ∧ v7 = .int .i64 x7_1 ∧ Aside0 (spec_l4Least.l0 kq x4_1 x5_1 t619 x7_1 a0_0 a0_1 = some (r1, r2)) ∧ Aside0 (kq ≤ k) ∧ Aside0 (Kd.N (Kd.slice 3 (Kd.int .i64)) 38 w' w.heap.size (fun k_ => k_ ≠ gb615) v620 t619) ∧ Aside0 (w'.heap[gb615]? = some (.cells #[.int .i64 a0_0, .int .i64 a0_1] 25 (0, 0))) ∧ Aside0 (Below w.heap.size w w'))
 case atStart => exact ⟨(a0_1), (0), (0), (by first | rfl | (simp; done) | (simp [*]; done)), (by first | rfl | (simp; done) | (simp [*]; done)), (by first | rfl | (simp; done) | (simp [*]; done)), H', ⟨Nat.le_refl _⟩, ⟨by (with_reducible repeat (first | apply Kd.N_alloc | apply Kd.N_drewN | apply Kd.N_drew)); exact HO621.out⟩, ⟨by (with_reducible repeat (first | refine blk_drewN ?_ _ | refine blk_drew ?_ | refine blk_alloc ?_ _)); exact BK615.out⟩, ⟨bv1_ HB GE615⟩⟩
 case round =>
  clear H'
  try clear p2
  try clear c4
  try clear c5
  try clear hcz4_0
  try clear hcz4_1
  try clear hfz4_0
  try clear hfz4_1
  obtain ⟨x4_1, x5_1, x7_1, rfl, rfl, rfl, HA, HK1, HO_6, BK615, HB⟩ := hrel
  cases gk with
  | zero => exact absurd HA.out (by simp [spec_l4Least.l0])
  | succ k1 =>
   have H := HA.out
   clear HA
   simp only [spec_l4Least.l0] at H
   by_cases c9 : x7_1 < (t619.length : Int)
   ·rw [if_pos c9] at H
    have c9b0 : decide (x7_1 < (t619.length : Int)) = true := decide_eq_true c9
    clear c9
    by_cases c10 : 0 ≤ x7_1
    ·rw [if_pos c10] at H
     have c10b0 : decide (0 ≤ x7_1) = true := decide_eq_true c10
     clear c10
     replace H := Option.bind_eq_some_iff.mp H
     obtain ⟨⟨t623, t624⟩, A110, H⟩ := H
     replace H : (spec_l4Least.l1 k1 x4_1 x5_1 t619 x7_1 0 a0_0 a0_1 t623 t624) = some (r1, r2) := H
     have A11 := Aside0.mk A110
     clear A110
     have H' := Aside0.mk H
     clear H
     obtain ⟨Ao12, co12, eo12⟩ := Kd.N_slice HO_6.out
     subst eo12
     try go_wp2
     replace HO_6 := Aside0.mk (Kd.N_drew HO_6.out)
     replace BK615 := Aside0.mk (blk_drew BK615.out)
     replace HB := Aside0.mk (below_drew1 HB.out)
     have p622 : 0 ≤ (x7_1 : Int) := of_decide_eq_true (by first | (with_reducible assumption) | assumption)
     have q622 : x7_1 < (t619.length : Int) := of_decide_eq_true (by first | (with_reducible assumption) | assumption)
     obtain ⟨ad622, A622_0, c622_0, e622, hx622_0, hl622_0, hi622_0⟩ := at_L2 (Kd.N_reads' HO_6.out).2.2 x7_1 p622 q622
     cases e622
     obtain ⟨ce622, hce622, hMe622, hcc622⟩ := Kd.N_get HO_6.out [] x7_1 p622 (by first | exact q622 | exact of_decide_eq_true (by first | (with_reducible assumption) | assumption) | (have e_ := (Kd.N_reads' HO_6.out).1; omega))
     obtain ⟨ua622_0, uc622_0, rfl, ul622_0, ge622_0⟩ := Kd.FK_slice_open hMe622
     have hv622_0 := hcc622 0 _ rfl
     rw [Nat.add_zero, show ((Kd.slice 3 (Kd.int .i64))).sz = 1 from rfl, Nat.mul_one] at hv622_0
     replace hv622_0 := Option.some.inj (hv622_0.symm.trans hx622_0)
     injection hv622_0 with hva_ hvn_ hvc_
     rw [hva_] at ge622_0
     rw [hvc_] at ul622_0
     have HL622_0 := Aside0.mk (show Kd.V (Kd.int .i64) 3 _ w.heap.size _ _ (rd_L2 t619 x7_1) from Kd.V_mk ul622_0 ge622_0)
     clear hva_ hvn_ hvc_ ge622_0 ul622_0
     clear hcc622 hce622
     have HR622_0 := Aside0.mk hi622_0
     have HC622_0 := Aside0.mk hl622_0
     clear hi622_0 hl622_0
     replace p622 := eq_true p622
     replace q622 := eq_true q622
     refine start_ (n := 8) (S := fun w' => w'.cell? ⟨gb615, 0, none⟩ = some (.int .i64 a0_0) ∧ w'.cell? ⟨gb615, 1, none⟩ = some (.int .i64 a0_1) ∧ w'.cell? (ad622.add (x7_1).toNat) = some (.slice A622_0 (rd_L2 t619 x7_1).length c622_0)) (ds := []) (bs 8 0) (by kernel_rfl) rfl (by kernel_rfl) ⟨(blk_cell BK615.out 0).trans rfl, (blk_cell BK615.out 1).trans rfl, hx622_0⟩ (fun hHeld => ?_); refine with_tabW spec_l4Least.tab7 spec_l4Least.bits7 (fun HT_ HW_ => ?_)
     generalize wr.drew = w13 at HO_6 BK615 HB HL622_0 HR622_0 hx622_0 hHeld ⊢
     refine pu_ HT_ 1 25 (bs 8 2) ?_
     refine pu_ HT_ 2 26 (bs 8 6) ?_
     refine pu_ HT_ 3 27 (bs 8 14) ?_
     refine ta3_ HT_ HW_ 0 24 (bs 8 15) hHeld ?_
     refine ta3_ HT_ HW_ 4 28 (bs 8 31) hHeld ?_
     refine join_ (σ := Nat) 1 (bs 8 127) (fun s_ => [(29, .agg #[.int .i64 t623, .int .i64 t624]), (8, .pointer (some ⟨s_, 0, none⟩))]) (fun s_ w' => (w'.cell? ⟨gb615, 0, none⟩ = some (.int .i64 a0_0) ∧ w'.cell? ⟨gb615, 1, none⟩ = some (.int .i64 a0_1) ∧ w'.cell? (ad622.add (x7_1).toNat) = some (.slice A622_0 (rd_L2 t619 x7_1).length c622_0)) ∧ (Kd.V (Kd.int .i64) 3 w' w.heap.size (fun k_ => some k_ ≠ (.slice (some ad622) t619.length co12 : Value).ownBlock ∧ k_ ≠ gb615 ∧ k_ ≠ s_) (.slice A622_0 (rd_L2 t619 x7_1).length c622_0) (rd_L2 t619 x7_1)) ∧ (Kd.N (Kd.slice 3 (Kd.int .i64)) 38 w' w.heap.size (fun k_ => k_ ≠ gb615 ∧ k_ ≠ s_) (.slice (some ad622) t619.length co12) t619) ∧ (w'.heap[gb615]? = some (.cells #[.int .i64 a0_0, .int .i64 a0_1] 25 (0, 0))) ∧ (w'.heap[s_]? = some (.cells #[.int .i64 0, .int .i64 0] 25 (0, 0))) ∧ (w.heap.size ≤ s_) ∧ (w.heap.size ≤ s_) ∧ (gb615 ≠ s_) ∧ (s_ ≠ gb615) ∧ (Below w.heap.size w w')) ?_ ?_
     rotate_left
     ·intro hCont
      refine two_ (i := 5) (j := 6) (Ni := some 29) (Nj := some 8) (bs 8 63) (bs 8 95) rfl rfl rfl rfl (two_of HT_.out (by kernel_rfl)) (by decide) (by decide) (fun K hK => ?_) (fun K hK => ?_)
      ·skip
       refine goes_ Try.func49 (by kernel_rfl) rfl #[.agg #[.int .i64 a0_0, .int .i64 a0_1], .slice A622_0 (rd_L2 t619 x7_1).length c622_0] (by rfl) rfl rfl mp_ ?_
       with_reducible refine (spec_l3Permute.calls k1 a0_0 a0_1 _ _ (rd_L2 t619 x7_1) t623 t624 _ ?side1 ?side2 A11.out).mono ?_
       (case side1 => repeat (first | exact (by repeat (first | (with_reducible exact HR622_0.out) | (with_reducible refine Kd.C_alloc ?_ _) | (with_reducible refine Kd.C_drewN ?_ _) | (with_reducible refine Kd.C_drew ?_) | exact HR622_0.out)) | (with_reducible refine Kd.C_alloc ?_ _) | (with_reducible refine Kd.C_drewN ?_ _) | (with_reducible refine Kd.C_drew ?_)))
       (case side2 => exact HC622_0.out)
       rintro e w14 ⟨rfl, hb⟩
       have HS2_ := (hb.cell (World.block_lt_of_cell? _ _ (hHeld.2.2))).trans (hHeld.2.2)
       refine ⟨_, rfl, ?_⟩
       replace HO_6 := Aside0.mk (Kd.N_below (by (with_reducible repeat (first | apply Kd.N_alloc | apply Kd.N_drewN | apply Kd.N_drew)); exact HO_6.out) hb)
       replace HL622_0 := Aside0.mk (Kd.V_below (by (with_reducible repeat (first | apply Kd.V_alloc | apply Kd.V_drewN | apply Kd.V_drew)); exact HL622_0.out) hb)
       replace BK615 := kb_ BK615 hb
       replace HR622_0 := Aside0.mk (Kd.C_below (by repeat (first | (with_reducible exact HR622_0.out) | (with_reducible refine Kd.C_alloc ?_ _) | (with_reducible refine Kd.C_drewN ?_ _) | (with_reducible refine Kd.C_drew ?_) | exact HR622_0.out)) hb)
       replace HB := Aside0.mk (below_step (bv1_ HB GE615) hb)
       (try clear hb)
       (try clear hb2)
       (try clear hk)
       (try clear hi)
       refine hK.out _ _ ⟨(blk_cell BK615.out 0).trans rfl, (blk_cell BK615.out 1).trans rfl, HS2_⟩ (fun hHeld => ?_)
       clear hK K
       refine no_ 29 ?_
       refine on_ HT_ 6 8 (bs 8 127) (fun K hK => ?_)
       refine box_step ?hg (N := 8) ?hd (cs := #[.int .i64 0, .int .i64 0]) (t := 25) ?hr ?_; (case hd => rfl); (case hg => rfl); (case hr => first | (go_simp; done) | (go_simp; rfl))
       intro gb625 hg w15 hbox hb
       have HS2_ := (hb.cell (World.block_lt_of_cell? _ _ (hHeld.2.2))).trans (hHeld.2.2)
       replace HO_6 := Aside0.mk (Kd.N_below (Kd.N_elderB (by (with_reducible repeat (first | apply Kd.N_alloc | apply Kd.N_drewN | apply Kd.N_drew)); exact HO_6.out) gb625 (Nat.le_of_eq hg.symm)) hb)
       replace HL622_0 := Aside0.mk (Kd.V_below (Kd.V_elderB (by (with_reducible repeat (first | apply Kd.V_alloc | apply Kd.V_drewN | apply Kd.V_drew)); exact HL622_0.out) gb625 (Nat.le_of_eq hg.symm)) hb)
       replace HR622_0 := Aside0.mk (Kd.C_below (by repeat (first | (with_reducible exact HR622_0.out) | (with_reducible refine Kd.C_alloc ?_ _) | (with_reducible refine Kd.C_drewN ?_ _) | (with_reducible refine Kd.C_drew ?_) | exact HR622_0.out)) hb)
       have BK625 := Aside0.mk (hbox)
       have GW625 := gw_ hg (below_size (bv1_ HB GE615))
       have GE625 := GW625
       replace HB := Aside0.mk (below_step (bv1_ HB GE615) hb)
       have NB615_625 := nb_ hg (blk_lt (g := gb615) (o := .cells #[.int .i64 a0_0, .int .i64 a0_1] 25 (0, 0)) (kv_ BK615))
       have NB625_615 := nc_ hg (blk_lt (g := gb615) (o := .cells #[.int .i64 a0_0, .int .i64 a0_1] 25 (0, 0)) (kv_ BK615))
       replace BK615 := kb_ BK615 hb
       clear hb hbox hg
       refine hK.out _ _ ⟨(blk_cell BK615.out 0).trans rfl, (blk_cell BK615.out 1).trans rfl, HS2_⟩ (fun hHeld => ?_)
       clear hK K
       refine no_ 8 ?_
       exact norm_ (by simp only [putAll, Act.put, List.setIfInBounds_toArray, List.set_cons_zero, List.set_cons_succ]) (hCont (gb625) _ ⟨hHeld, (by (with_reducible repeat (first | apply Kd.V_alloc | apply Kd.V_drewN | apply Kd.V_drew)); exact Kd.V_mono HL622_0.out (fun _ hk => ⟨hk.1.2, ⟨hk.1.1, hk.2⟩⟩)), (by (with_reducible repeat (first | apply Kd.N_alloc | apply Kd.N_drewN | apply Kd.N_drew)); exact HO_6.out), (kv_ BK615), (kv_ BK625), GW625.out, GE625.out, NB615_625.out, NB625_615.out, (bv2_ HB GE615 GE625)⟩)
      ·skip
       refine box_step ?hg (N := 8) ?hd (cs := #[.int .i64 0, .int .i64 0]) (t := 25) ?hr ?_; (case hd => rfl); (case hg => rfl); (case hr => first | (go_simp; done) | (go_simp; rfl))
       intro gb625 hg w14 hbox hb
       have HS2_ := (hb.cell (World.block_lt_of_cell? _ _ (hHeld.2.2))).trans (hHeld.2.2)
       replace HO_6 := Aside0.mk (Kd.N_below (Kd.N_elderB (by (with_reducible repeat (first | apply Kd.N_alloc | apply Kd.N_drewN | apply Kd.N_drew)); exact HO_6.out) gb625 (Nat.le_of_eq hg.symm)) hb)
       replace HL622_0 := Aside0.mk (Kd.V_below (Kd.V_elderB (by (with_reducible repeat (first | apply Kd.V_alloc | apply Kd.V_drewN | apply Kd.V_drew)); exact HL622_0.out) gb625 (Nat.le_of_eq hg.symm)) hb)
       replace HR622_0 := Aside0.mk (Kd.C_below (by repeat (first | (with_reducible exact HR622_0.out) | (with_reducible refine Kd.C_alloc ?_ _) | (with_reducible refine Kd.C_drewN ?_ _) | (with_reducible refine Kd.C_drew ?_) | exact HR622_0.out)) hb)
       have BK625 := Aside0.mk (hbox)
       have GW625 := gw_ hg (below_size (bv1_ HB GE615))
       have GE625 := GW625
       replace HB := Aside0.mk (below_step (bv1_ HB GE615) hb)
       have NB615_625 := nb_ hg (blk_lt (g := gb615) (o := .cells #[.int .i64 a0_0, .int .i64 a0_1] 25 (0, 0)) (kv_ BK615))
       have NB625_615 := nc_ hg (blk_lt (g := gb615) (o := .cells #[.int .i64 a0_0, .int .i64 a0_1] 25 (0, 0)) (kv_ BK615))
       replace BK615 := kb_ BK615 hb
       clear hb hbox hg
       refine hK.out _ _ ⟨(blk_cell BK615.out 0).trans rfl, (blk_cell BK615.out 1).trans rfl, HS2_⟩ (fun hHeld => ?_)
       clear hK K
       refine no_ 8 ?_
       refine on_ HT_ 5 29 (bs 8 127) (fun K hK => ?_)
       refine goes_ Try.func49 (by kernel_rfl) rfl #[.agg #[.int .i64 a0_0, .int .i64 a0_1], .slice A622_0 (rd_L2 t619 x7_1).length c622_0] (by rfl) rfl rfl mp_ ?_
       with_reducible refine (spec_l3Permute.calls k1 a0_0 a0_1 _ _ (rd_L2 t619 x7_1) t623 t624 _ ?side1 ?side2 A11.out).mono ?_
       (case side1 => repeat (first | exact (by repeat (first | (with_reducible exact HR622_0.out) | (with_reducible refine Kd.C_alloc ?_ _) | (with_reducible refine Kd.C_drewN ?_ _) | (with_reducible refine Kd.C_drew ?_) | exact HR622_0.out)) | (with_reducible refine Kd.C_alloc ?_ _) | (with_reducible refine Kd.C_drewN ?_ _) | (with_reducible refine Kd.C_drew ?_)))
       (case side2 => exact HC622_0.out)
       rintro e w15 ⟨rfl, hb⟩
       have HS2_ := (hb.cell (World.block_lt_of_cell? _ _ (hHeld.2.2))).trans (hHeld.2.2)
       refine ⟨_, rfl, ?_⟩
       replace HO_6 := Aside0.mk (Kd.N_below (by (with_reducible repeat (first | apply Kd.N_alloc | apply Kd.N_drewN | apply Kd.N_drew)); exact HO_6.out) hb)
       replace HL622_0 := Aside0.mk (Kd.V_below (by (with_reducible repeat (first | apply Kd.V_alloc | apply Kd.V_drewN | apply Kd.V_drew)); exact HL622_0.out) hb)
       replace BK615 := kb_ BK615 hb
       replace HR622_0 := Aside0.mk (Kd.C_below (by repeat (first | (with_reducible exact HR622_0.out) | (with_reducible refine Kd.C_alloc ?_ _) | (with_reducible refine Kd.C_drewN ?_ _) | (with_reducible refine Kd.C_drew ?_) | exact HR622_0.out)) hb)
       replace BK625 := kb_ BK625 hb
       replace HB := Aside0.mk (below_step (bv2_ HB GE615 GE625) hb)
       (try clear hb)
       (try clear hb2)
       (try clear hk)
       (try clear hi)
       refine hK.out _ _ ⟨(blk_cell BK615.out 0).trans rfl, (blk_cell BK615.out 1).trans rfl, HS2_⟩ (fun hHeld => ?_)
       clear hK K
       refine no_ 29 ?_
       exact norm_ (by simp only [putAll, Act.put, List.setIfInBounds_toArray, List.set_cons_zero, List.set_cons_succ]) (hCont (gb625) _ ⟨hHeld, (by (with_reducible repeat (first | apply Kd.V_alloc | apply Kd.V_drewN | apply Kd.V_drew)); exact Kd.V_mono HL622_0.out (fun _ hk => ⟨hk.1.2, ⟨hk.1.1, hk.2⟩⟩)), (by (with_reducible repeat (first | apply Kd.N_alloc | apply Kd.N_drewN | apply Kd.N_drew)); exact HO_6.out), (kv_ BK615), (kv_ BK625), GW625.out, GE625.out, NB615_625.out, NB625_615.out, (bv2_ HB GE615 GE625)⟩)
     rintro gb625 w16 ⟨hS_, h0_, h1_, h2_, h3_, h4_, h5_, h6_, h7_, h8_⟩
     have n0_ : Aside0 (Kd.V (Kd.int .i64) 3 w16 w.heap.size (fun k_ => some k_ ≠ (.slice (some ad622) t619.length co12 : Value).ownBlock ∧ k_ ≠ gb615 ∧ k_ ≠ gb625) (.slice A622_0 (rd_L2 t619 x7_1).length c622_0) (rd_L2 t619 x7_1)) := ⟨h0_⟩
     have n1_ : Aside0 (Kd.N (Kd.slice 3 (Kd.int .i64)) 38 w16 w.heap.size (fun k_ => k_ ≠ gb615 ∧ k_ ≠ gb625) (.slice (some ad622) t619.length co12) t619) := ⟨h1_⟩
     have n2_ : Aside0 (w16.heap[gb615]? = some (.cells #[.int .i64 a0_0, .int .i64 a0_1] 25 (0, 0))) := ⟨h2_⟩
     have n3_ : Aside0 (w16.heap[gb625]? = some (.cells #[.int .i64 0, .int .i64 0] 25 (0, 0))) := ⟨h3_⟩
     have n4_ : Aside0 (w.heap.size ≤ gb625) := ⟨h4_⟩
     have n5_ : Aside0 (w.heap.size ≤ gb625) := ⟨h5_⟩
     have n6_ : Aside0 (gb615 ≠ gb625) := ⟨h6_⟩
     have n7_ : Aside0 (gb625 ≠ gb615) := ⟨h7_⟩
     have n8_ : Aside0 (Below w.heap.size w w16) := ⟨h8_⟩
     clear HO_6
     clear BK615
     clear HB
     clear h0_ h1_ h2_ h3_ h4_ h5_ h6_ h7_ h8_
     have HL622_0 := n0_
     have HO_6 := n1_
     have BK615 := n2_
     have BK625 := n3_
     have GW625 := n4_
     have GE625 := n5_
     have NB615_625 := n6_
     have NB625_615 := n7_
     have HB := n8_
     clear n0_ n1_ n2_ n3_ n4_ n5_ n6_ n7_ n8_
     have hHeld : w16.cell? ⟨gb615, 0, none⟩ = some (.int .i64 a0_0) ∧ w16.cell? ⟨gb615, 1, none⟩ = some (.int .i64 a0_1) ∧ w16.cell? (ad622.add (x7_1).toNat) = some (.slice A622_0 (rd_L2 t619 x7_1).length c622_0) := hS_
     refine norm_ (a' := ?_) ?_ ?_
     rotate_left
     ·simp only [putAll, Act.put, List.setIfInBounds_toArray, List.set_cons_zero, List.set_cons_succ]
      rfl
     refine one_ (i := 7) (N := none) (bs 8 255) rfl rfl (one_of HT_.out (by kernel_rfl)) (by decide) (fun K hK => ?_)
     have hs17 : w16.cell? ⟨gb625, 0, none⟩ = some (.int .i64 0) := (blk_cell BK625.out 0).trans rfl
     have hfs17 := blk_frozen BK625.out 0
     have hns17_0 := NB615_625.out
     have hms17_0 := NB625_615.out
     have hs18 : w16.cell? ⟨gb625, 1, none⟩ = some (.int .i64 0) := (blk_cell BK625.out 1).trans rfl
     have hfs18 := blk_frozen BK625.out 1
     have hns18_0 := NB615_625.out
     have hms18_0 := NB625_615.out
     refine skip_ (w1 := ?_) (by rfl) rfl ?_ ?_
     rotate_left
     ·go_simp
      rfl
     refine hK.out _ _ ⟨((cell_far (p := ⟨gb625, _, none⟩) NB615_625.out _).trans (((cell_far (p := ⟨gb625, _, none⟩) NB615_625.out _).trans (hHeld.1)))), ((cell_far (p := ⟨gb625, _, none⟩) NB615_625.out _).trans (((cell_far (p := ⟨gb625, _, none⟩) NB615_625.out _).trans (hHeld.2.1)))), ((cell_far (p := ⟨gb625, _, none⟩) (by first | exact Kd.own_blk (Kd.N_away HO_6.out (fun _ hk => hk.2)) | (rw [add_block]; exact Kd.own_blk (Kd.N_away HO_6.out (fun _ hk => hk.2))) | (show (Addr.add _ _).block ≠ _; rw [add_block]; exact Kd.own_blk (Kd.N_away HO_6.out (fun _ hk => hk.2))) | (dsimp only; exact Kd.own_blk (Kd.N_away HO_6.out (fun _ hk => hk.2)))) _).trans (((cell_far (p := ⟨gb625, _, none⟩) (by first | exact Kd.own_blk (Kd.N_away HO_6.out (fun _ hk => hk.2)) | (rw [add_block]; exact Kd.own_blk (Kd.N_away HO_6.out (fun _ hk => hk.2))) | (show (Addr.add _ _).block ≠ _; rw [add_block]; exact Kd.own_blk (Kd.N_away HO_6.out (fun _ hk => hk.2))) | (dsimp only; exact Kd.own_blk (Kd.N_away HO_6.out (fun _ hk => hk.2)))) _).trans (hHeld.2.2))))⟩ (fun hHeld => ?_)
     clear hK K
     refine done_ (done_of HT_.out (by kernel_rfl)) ?_
     try go_wp2
     go_loopg [4, 5, 9] k1 (fun kq v4 v5 v9 w' => ∃ (x4_2 : Int) (x5_2 : Int) (x9_2 : Int), v4 = .int .i64 x4_2 ∧ v5 = .int .i64 x5_2 ∧ v9 = .int .i64 x9_2 ∧ Aside0 (spec_l4Least.l1 kq x4_2 x5_2 t619 x7_1 x9_2 a0_0 a0_1 t623 t624 = some (r1, r2)) ∧ Aside0 (kq ≤ k1) ∧ Aside0 (Kd.N (Kd.slice 3 (Kd.int .i64)) 38 w' w.heap.size (fun k_ => k_ ≠ gb615 ∧ k_ ≠ gb625) (.slice (some ad622) t619.length co12) t619) ∧ Aside0 (w'.heap[gb615]? = some (.cells #[.int .i64 a0_0, .int .i64 a0_1] 25 (0, 0))) ∧ Aside0 (w'.heap[gb625]? = some (.cells #[.int .i64 t623, .int .i64 t624] 25 (0, 0))) ∧ Aside0 (Below w.heap.size w w'))
     case atStart => exact ⟨(x4_1), (x5_1), (0), (by first | rfl | (simp; done) | (simp [*]; done)), (by first | rfl | (simp; done) | (simp [*]; done)), (by first | rfl | (simp; done) | (simp [*]; done)), H', ⟨Nat.le_refl _⟩, ⟨by (with_reducible repeat (first | apply Kd.N_alloc | apply Kd.N_drewN | apply Kd.N_drew)); exact Kd.N_mono (Kd.N_far (p := ⟨gb625, 1, none⟩) (Kd.N_far (p := ⟨gb625, 0, none⟩) (Kd.N_mono HO_6.out (fun k_ hk => (⟨hk, hk.2⟩ : _ ∧ k_ ≠ gb625))) (fun _ hk => hk.2) (.int .i64 t623)) (fun _ hk => hk.2) (.int .i64 t624)) (fun _ hk => ⟨hk.1.1, hk.1.2⟩)⟩, ⟨by (with_reducible repeat (first | refine blk_drewN ?_ _ | refine blk_drew ?_ | refine blk_alloc ?_ _)); refine blk_far ?_ NB615_625.out _; (with_reducible repeat (first | refine blk_drewN ?_ _ | refine blk_drew ?_ | refine blk_alloc ?_ _)); refine blk_far ?_ NB615_625.out _; (with_reducible repeat (first | refine blk_drewN ?_ _ | refine blk_drew ?_ | refine blk_alloc ?_ _)); exact BK615.out⟩, ⟨by (with_reducible repeat (first | refine blk_drewN ?_ _ | refine blk_drew ?_ | refine blk_alloc ?_ _)); refine blk_put (cs := #[.int .i64 t623, .int .i64 0]) ?_ 1 _ rfl; (with_reducible repeat (first | refine blk_drewN ?_ _ | refine blk_drew ?_ | refine blk_alloc ?_ _)); refine blk_put (cs := #[.int .i64 0, .int .i64 0]) ?_ 0 _ rfl; (with_reducible repeat (first | refine blk_drewN ?_ _ | refine blk_drew ?_ | refine blk_alloc ?_ _)); exact BK625.out⟩, ⟨bv2_ HB GE615 GE625⟩⟩
     case round =>
      clear H'
      try clear c1
      try clear p2
      try clear c4
      try clear c5
      try clear c6
      try clear p6
      try clear q6
      try clear hx6
      try clear c9
      try clear c9b0
      try clear c10
      try clear c10b0
      try clear hcz4_0
      try clear hcz4_1
      try clear hfz4_0
      try clear hfz4_1
      try clear hx622_0
      try clear p2
      try clear p622
      try clear q622
      obtain ⟨x4_2, x5_2, x9_2, rfl, rfl, rfl, HA, HK2, HO_6, BK615, BK625, HB⟩ := hrel
      cases gk with
      | zero => exact absurd HA.out (by simp [spec_l4Least.l1])
      | succ k2 =>
       have H := HA.out
       clear HA
       simp only [spec_l4Least.l1] at H
       by_cases c19 : 0 ≤ a0_0
       ·rw [if_pos c19] at H
        have c19b0 := eq_true c19
        have c19b1 : decide (0 ≤ a0_0) = true := decide_eq_true c19
        clear c19
        obtain ⟨ji20, hji20⟩ : ∃ j_ : Int, (shl .i64 1 a0_0) = j_ := ⟨_, rfl⟩
        replace H : (if x9_2 < (ji20) then ((spec_l3Shift.f k2 t623 t624 x9_2).bind fun bt626 => ((spec_l2Full.f a0_0).bind fun t629 => (if bt626.2 = a0_1 then (if (wrap64 (t629 - bt626.2)) = a0_1 then (spec_l4Least.l1 k2 (mn x4_2 (mn bt626.2 (wrap64 (t629 - bt626.2)))) (wrap64 ((wrap64 (x5_2 + 1)) + 1)) t619 x7_1 (wrap64 (x9_2 + 1)) a0_0 a0_1 t623 t624) else (spec_l4Least.l1 k2 (mn x4_2 (mn bt626.2 (wrap64 (t629 - bt626.2)))) (wrap64 (x5_2 + 1)) t619 x7_1 (wrap64 (x9_2 + 1)) a0_0 a0_1 t623 t624)) else (if (wrap64 (t629 - bt626.2)) = a0_1 then (spec_l4Least.l1 k2 (mn x4_2 (mn bt626.2 (wrap64 (t629 - bt626.2)))) (wrap64 (x5_2 + 1)) t619 x7_1 (wrap64 (x9_2 + 1)) a0_0 a0_1 t623 t624) else (spec_l4Least.l1 k2 (mn x4_2 (mn bt626.2 (wrap64 (t629 - bt626.2)))) x5_2 t619 x7_1 (wrap64 (x9_2 + 1)) a0_0 a0_1 t623 t624))))) else (spec_l4Least.l0 k2 x4_2 x5_2 t619 (wrap64 (x7_1 + 1)) a0_0 a0_1)) = some (r1, r2) := by first | (rw [hji20] at H; exact H) | (simp only [hji20] at H ⊢; exact H)
        have hji20_ : (IntKind.i64.wrap (1 * 2 ^ min a0_0.toNat 64)) = ji20 := hji20
        have hji20z : a0_0 ≤ 64 → (IntKind.i64.wrap (1 * 2 ^ a0_0.toNat)) = ji20 := shl_small hji20
        have hji20u : (IntKind.i64.wrap (2 ^ min a0_0.toNat 64)) = ji20 := by have h_ := hji20_; rw [Int.one_mul] at h_; exact h_
        have hji20v : a0_0 ≤ 64 → (IntKind.i64.wrap (2 ^ a0_0.toNat)) = ji20 := fun hle_ => by have h_ := hji20z hle_; rw [Int.one_mul] at h_; exact h_
        have hji20y : (wrap64 (1 * 2 ^ min a0_0.toNat 64)) = ji20 := (i64_w _).symm.trans hji20_
        have hji20x : a0_0 ≤ 64 → (wrap64 (1 * 2 ^ a0_0.toNat)) = ji20 := fun h_ => (i64_w _).symm.trans (hji20z h_)
        by_cases c21 : x9_2 < (ji20)
        ·rw [if_pos c21] at H
         have c21b0 : decide (x9_2 < (ji20)) = true := decide_eq_true c21
         clear c21
         replace H := Option.bind_eq_some_iff.mp H
         obtain ⟨⟨t626, t627⟩, A220, H⟩ := H
         dsimp only at H
         have A22 := Aside0.mk A220
         clear A220
         replace H := Option.bind_eq_some_iff.mp H
         obtain ⟨t629, A230, H⟩ := H
         have A23 := Aside0.mk A230
         clear A230
         obtain ⟨ji24, hji24⟩ : ∃ j_ : Int, (mn t627 (wrap64 (t629 - t627))) = j_ := ⟨_, rfl⟩
         replace H : (if t627 = a0_1 then (if (wrap64 (t629 - t627)) = a0_1 then (spec_l4Least.l1 k2 (mn x4_2 (ji24)) (wrap64 ((wrap64 (x5_2 + 1)) + 1)) t619 x7_1 (wrap64 (x9_2 + 1)) a0_0 a0_1 t623 t624) else (spec_l4Least.l1 k2 (mn x4_2 (ji24)) (wrap64 (x5_2 + 1)) t619 x7_1 (wrap64 (x9_2 + 1)) a0_0 a0_1 t623 t624)) else (if (wrap64 (t629 - t627)) = a0_1 then (spec_l4Least.l1 k2 (mn x4_2 (ji24)) (wrap64 (x5_2 + 1)) t619 x7_1 (wrap64 (x9_2 + 1)) a0_0 a0_1 t623 t624) else (spec_l4Least.l1 k2 (mn x4_2 (ji24)) x5_2 t619 x7_1 (wrap64 (x9_2 + 1)) a0_0 a0_1 t623 t624))) = some (r1, r2) := by first | (rw [hji24] at H; exact H) | (simp only [hji24] at H ⊢; exact H)
         (try rw [hji24] at A22)
         (try rw [hji24] at A23)
         have hji24_ : (if (wrap64 (t629 - t627)) < t627 then (wrap64 (t629 - t627)) else t627) = ji24 := hji24
         obtain ⟨ji25, hji25⟩ : ∃ j_ : Int, (mn x4_2 (ji24)) = j_ := ⟨_, rfl⟩
         replace H : (if t627 = a0_1 then (if (wrap64 (t629 - t627)) = a0_1 then (spec_l4Least.l1 k2 ji25 (wrap64 ((wrap64 (x5_2 + 1)) + 1)) t619 x7_1 (wrap64 (x9_2 + 1)) a0_0 a0_1 t623 t624) else (spec_l4Least.l1 k2 ji25 (wrap64 (x5_2 + 1)) t619 x7_1 (wrap64 (x9_2 + 1)) a0_0 a0_1 t623 t624)) else (if (wrap64 (t629 - t627)) = a0_1 then (spec_l4Least.l1 k2 ji25 (wrap64 (x5_2 + 1)) t619 x7_1 (wrap64 (x9_2 + 1)) a0_0 a0_1 t623 t624) else (spec_l4Least.l1 k2 ji25 x5_2 t619 x7_1 (wrap64 (x9_2 + 1)) a0_0 a0_1 t623 t624))) = some (r1, r2) := by first | (rw [hji25] at H; exact H) | (simp only [hji25] at H ⊢; exact H)
         (try rw [hji25] at A22)
         (try rw [hji25] at A23)
         have hji25_ : (if (ji24) < x4_2 then (ji24) else x4_2) = ji25 := hji25
         by_cases c26 : t627 = a0_1
         ·rw [if_pos c26] at H
          have c26b0 : (t627 == a0_1) = true := beq_iff_eq.mpr c26
          have c26b1 : (t627 != a0_1) = false := bne_eq_false_iff_eq.mpr c26
          clear c26
          by_cases c27 : (wrap64 (t629 - t627)) = a0_1
          ·rw [if_pos c27] at H
           have c27b0 : ((wrap64 (t629 - t627)) == a0_1) = true := beq_iff_eq.mpr c27
           have c27b1 : ((wrap64 (t629 - t627)) != a0_1) = false := bne_eq_false_iff_eq.mpr c27
           clear c27
           have H' := Aside0.mk H
           clear H
           have hnb28 := NB615_625.out
           have hnc28 := NB625_615.out
           obtain ⟨hcz29_0, hcz29_1, hfz29_0, hfz29_1⟩ := c2_ BK615
           obtain ⟨hcz30_0, hcz30_1, hfz30_0, hfz30_1⟩ := c2_ BK625
           try go_wp2_with (first | ((with_reducible refine gate_callee (f := 51) rfl ?_); refine gl_ 39 Try.func51 #[.agg #[.int .i64 t623, .int .i64 t624], .int .i64 x9_2] rfl mp_ ?_; (with_reducible refine (spec_l3Shift.calls k2 t623 t624 x9_2 t626 t627 _ A22.out).mono ?_); rintro e w31 ⟨rfl, hb⟩; refine ⟨_, rfl, ?_⟩; have n0_ := Aside0.mk (Kd.N_below (by (with_reducible repeat (first | apply Kd.N_alloc | apply Kd.N_drewN | apply Kd.N_drew)); exact HO_6.out) hb); have n1_ := kb_ BK615 hb; have n2_ := kb_ BK625 hb; have n3_ := Aside0.mk (below_step (bv2_ HB GE615 GE625) hb); clear HO_6; clear BK615; clear BK625; clear HB; have HO_6 := n0_; have BK615 := n1_; have BK625 := n2_; have HB := n3_; clear n0_ n1_ n2_ n3_; (try clear hb); (try clear hb2); (try clear hk); (try clear hi)) | ((with_reducible refine gate_dst (N := 10) rfl ?_); refine bx_ 10 #[.int .i64 0, .int .i64 0] 25 ?_; intro gb628 hg w32 hbox hb; have n0_ := Aside0.mk (Kd.N_below (Kd.N_elderB (by (with_reducible repeat (first | apply Kd.N_alloc | apply Kd.N_drewN | apply Kd.N_drew)); exact HO_6.out) gb628 (Nat.le_of_eq hg.symm)) hb); have n1_ := kb_ BK615 hb; have n2_ := kb_ BK625 hb; have n3_ := Aside0.mk (below_step (bv2_ HB GE615 GE625) hb); have n4_ := Aside0.mk (hbox); have n5_ := gw_ hg (below_size (bv2_ HB GE615 GE625)); have n6_ := gw_ hg (below_size (bv2_ HB GE615 GE625)); have n7_ := nb_ hg (blk_lt (g := gb615) (o := .cells #[.int .i64 a0_0, .int .i64 a0_1] 25 (0, 0)) (kv_ BK615)); have n8_ := nc_ hg (blk_lt (g := gb615) (o := .cells #[.int .i64 a0_0, .int .i64 a0_1] 25 (0, 0)) (kv_ BK615)); have n9_ := nb_ hg (blk_lt (g := gb625) (o := .cells #[.int .i64 t623, .int .i64 t624] 25 (0, 0)) (kv_ BK625)); have n10_ := nc_ hg (blk_lt (g := gb625) (o := .cells #[.int .i64 t623, .int .i64 t624] 25 (0, 0)) (kv_ BK625)); clear HO_6; clear BK615; clear BK625; clear HB; have HO_6 := n0_; have BK615 := n1_; have BK625 := n2_; have HB := n3_; have BK628 := n4_; have GW628 := n5_; have GE628 := n6_; have NB615_628 := n7_; have NB628_615 := n8_; have NB625_628 := n9_; have NB628_625 := n10_; clear n0_ n1_ n2_ n3_ n4_ n5_ n6_ n7_ n8_ n9_ n10_; clear hb hbox hg; have hnb33 := NB628_615.out; have hnc33 := NB615_628.out; have hnb34 := NB628_625.out; have hnc34 := NB625_628.out; have hcz35_0 : w32.cell? ⟨gb628, 0, none⟩ = some (.int .i64 0) := (blk_cell BK628.out 0).trans rfl; have hcz35_1 : w32.cell? ⟨gb628, 1, none⟩ = some (.int .i64 0) := (blk_cell BK628.out 1).trans rfl; have hfz35_0 := blk_frozen BK628.out 0; have hfz35_1 := blk_frozen BK628.out 1))
           have n0_ : Aside0 (Kd.N (Kd.slice 3 (Kd.int .i64)) 38 ((w32.setCell ⟨gb628, 0, none⟩ (.int .i64 t626)).setCell ⟨gb628, 1, none⟩ (.int .i64 t627)) w.heap.size (fun k_ => k_ ≠ gb615 ∧ k_ ≠ gb625 ∧ k_ ≠ gb628) (.slice (some ad622) t619.length co12) t619) := ⟨by (with_reducible repeat (first | apply Kd.N_alloc | apply Kd.N_drewN | apply Kd.N_drew)); exact Kd.N_mono (Kd.N_far (p := ⟨gb628, 1, none⟩) (Kd.N_far (p := ⟨gb628, 0, none⟩) (Kd.N_mono HO_6.out (fun k_ hk => (⟨hk, hk.2⟩ : _ ∧ k_ ≠ gb628))) (fun _ hk => hk.2) (.int .i64 t626)) (fun _ hk => hk.2) (.int .i64 t627)) (fun _ hk => ⟨hk.1.1.1, ⟨hk.1.1.2, hk.1.2⟩⟩)⟩
           have n1_ : Aside0 (((w32.setCell ⟨gb628, 0, none⟩ (.int .i64 t626)).setCell ⟨gb628, 1, none⟩ (.int .i64 t627)).heap[gb615]? = some (.cells #[.int .i64 a0_0, .int .i64 a0_1] 25 (0, 0))) := ⟨by (with_reducible repeat (first | refine blk_drewN ?_ _ | refine blk_drew ?_ | refine blk_alloc ?_ _)); refine blk_far ?_ NB615_628.out _; (with_reducible repeat (first | refine blk_drewN ?_ _ | refine blk_drew ?_ | refine blk_alloc ?_ _)); refine blk_far ?_ NB615_628.out _; (with_reducible repeat (first | refine blk_drewN ?_ _ | refine blk_drew ?_ | refine blk_alloc ?_ _)); exact BK615.out⟩
           have n2_ : Aside0 (((w32.setCell ⟨gb628, 0, none⟩ (.int .i64 t626)).setCell ⟨gb628, 1, none⟩ (.int .i64 t627)).heap[gb625]? = some (.cells #[.int .i64 t623, .int .i64 t624] 25 (0, 0))) := ⟨by (with_reducible repeat (first | refine blk_drewN ?_ _ | refine blk_drew ?_ | refine blk_alloc ?_ _)); refine blk_far ?_ NB625_628.out _; (with_reducible repeat (first | refine blk_drewN ?_ _ | refine blk_drew ?_ | refine blk_alloc ?_ _)); refine blk_far ?_ NB625_628.out _; (with_reducible repeat (first | refine blk_drewN ?_ _ | refine blk_drew ?_ | refine blk_alloc ?_ _)); exact BK625.out⟩
           have n3_ : Aside0 (((w32.setCell ⟨gb628, 0, none⟩ (.int .i64 t626)).setCell ⟨gb628, 1, none⟩ (.int .i64 t627)).heap[gb628]? = some (.cells #[.int .i64 t626, .int .i64 t627] 25 (0, 0))) := ⟨by (with_reducible repeat (first | refine blk_drewN ?_ _ | refine blk_drew ?_ | refine blk_alloc ?_ _)); refine blk_put (cs := #[.int .i64 t626, .int .i64 0]) ?_ 1 _ rfl; (with_reducible repeat (first | refine blk_drewN ?_ _ | refine blk_drew ?_ | refine blk_alloc ?_ _)); refine blk_put (cs := #[.int .i64 0, .int .i64 0]) ?_ 0 _ rfl; (with_reducible repeat (first | refine blk_drewN ?_ _ | refine blk_drew ?_ | refine blk_alloc ?_ _)); exact BK628.out⟩
           have n4_ : Aside0 (Below w.heap.size w ((w32.setCell ⟨gb628, 0, none⟩ (.int .i64 t626)).setCell ⟨gb628, 1, none⟩ (.int .i64 t627))) := ⟨bv3_ HB GE615 GE625 GE628⟩
           (try clear HO_6)
           (try clear BK615)
           (try clear BK625)
           (try clear BK628)
           (try clear HB)
           generalize ((w32.setCell ⟨gb628, 0, none⟩ (.int .i64 t626)).setCell ⟨gb628, 1, none⟩ (.int .i64 t627)) = w36 at n0_ n1_ n2_ n3_ n4_ ⊢
           have HO_6 := n0_
           have BK615 := n1_
           have BK625 := n2_
           have BK628 := n3_
           have HB := n4_
           clear n0_ n1_ n2_ n3_ n4_
           replace HO_6 := Aside0.mk (Kd.N_drew HO_6.out)
           replace BK615 := Aside0.mk (blk_drew BK615.out)
           replace BK625 := Aside0.mk (blk_drew BK625.out)
           replace BK628 := Aside0.mk (blk_drew BK628.out)
           replace HB := Aside0.mk (below_drew1 HB.out)
           refine start_ (n := 7) (S := fun w' => w'.cell? ⟨gb615, 0, none⟩ = some (.int .i64 a0_0) ∧ w'.cell? ⟨gb615, 1, none⟩ = some (.int .i64 a0_1) ∧ w'.cell? ⟨gb628, 0, none⟩ = some (.int .i64 t626) ∧ w'.cell? ⟨gb628, 1, none⟩ = some (.int .i64 t627)) (ds := []) (bs 7 0) (by kernel_rfl) rfl (by kernel_rfl) ⟨(blk_cell BK615.out 0).trans rfl, (blk_cell BK615.out 1).trans rfl, (blk_cell BK628.out 0).trans rfl, (blk_cell BK628.out 1).trans rfl⟩ (fun hHeld => ?_)
           generalize w36.drew = w37 at HO_6 BK615 BK625 BK628 HB hHeld ⊢
           refine pure_ (i := 0) (N := some 40) (v := ?_) (a' := ?_) (bs 7 1) rfl rfl (by kernel_rfl) (fun _ _ _ h => h) (Or.inl ⟨by rfl, ?_⟩) ?_ ?_
           rotate_left
           ·intro w'
            go_simp
            with_reducible rfl
           rotate_left
           ·simp only [Act.put, List.setIfInBounds_toArray, List.set_cons_zero, List.set_cons_succ, i64_w, i32_w]
            rfl
           refine pure_ (i := 3) (N := some 43) (v := ?_) (a' := ?_) (bs 7 9) rfl rfl (by kernel_rfl) (fun _ _ _ h => h) (Or.inl ⟨by rfl, ?_⟩) ?_ ?_
           rotate_left
           ·intro w'
            go_simp
            with_reducible rfl
           rotate_left
           ·simp only [Act.put, List.setIfInBounds_toArray, List.set_cons_zero, List.set_cons_succ, i64_w, i32_w]
            rfl
           refine take_ (i := 1) (N := some 41) (v := ?_) (a' := ?_) (bs 7 11) rfl rfl (by kernel_rfl) (fun _ _ _ h => h) (Or.inl ⟨by rfl, ?_⟩) hHeld ?_ ?_
           rotate_left
           ·rintro w' ⟨s0, s1, s2, s3⟩
            go_simp
            with_reducible rfl
           rotate_left
           ·simp only [Act.put, List.setIfInBounds_toArray, List.set_cons_zero, List.set_cons_succ, i64_w, i32_w]
            rfl
           refine take_ (i := 4) (N := some 44) (v := ?_) (a' := ?_) (bs 7 27) rfl rfl (by kernel_rfl) (fun _ _ _ h => h) (Or.inl ⟨by rfl, ?_⟩) hHeld ?_ ?_
           rotate_left
           ·rintro w' ⟨s0, s1, s2, s3⟩
            go_simp
            with_reducible rfl
           rotate_left
           ·simp only [Act.put, List.setIfInBounds_toArray, List.set_cons_zero, List.set_cons_succ, i64_w, i32_w]
            rfl
           refine one_ (i := 2) (N := some 42) (bs 7 31) rfl rfl (by kernel_rfl) (by decide) (fun K hK => ?_)
           refine goes_ Try.func52 (by kernel_rfl) rfl #[.int .i64 a0_0] (by rfl) rfl rfl mp_ ?_
           with_reducible refine (spec_l2Full.calls a0_0 t629 _ A23.out).mono ?_
           rintro e w' ⟨rfl, ⟨nd, rfl⟩⟩
           refine ⟨_, rfl, ?_⟩
           refine hK.out _ _ ⟨(blk_cell BK615.out 0).trans rfl, (blk_cell BK615.out 1).trans rfl, (blk_cell BK628.out 0).trans rfl, (blk_cell BK628.out 1).trans rfl⟩ (fun hHeld => ?_)
           clear hK K
           refine no_ 42 ?_
           refine pure_ (i := 5) (N := some 45) (v := ?_) (a' := ?_) (bs 7 63) rfl rfl (by kernel_rfl) (fun _ _ _ h => h) (Or.inl ⟨by rfl, ?_⟩) ?_ ?_
           rotate_left
           ·intro w'
            go_simp
            with_reducible rfl
           rotate_left
           ·simp only [Act.put, List.setIfInBounds_toArray, List.set_cons_zero, List.set_cons_succ, i64_w, i32_w]
            rfl
           refine pure_ (i := 6) (N := some 11) (v := ?_) (a' := ?_) (bs 7 127) rfl rfl (by kernel_rfl) (fun _ _ _ h => h) (Or.inl ⟨by rfl, ?_⟩) ?_ ?_
           rotate_left
           ·intro w'
            go_simp
            with_reducible rfl
           rotate_left
           ·simp only [Act.put, List.setIfInBounds_toArray, List.set_cons_zero, List.set_cons_succ, i64_w, i32_w]
            rfl
           refine done_ (by kernel_rfl) ?_
           obtain ⟨hcz38_0, hcz38_1, hfz38_0, hfz38_1⟩ := c2_ BK628
           obtain ⟨hcz39_0, hcz39_1, hfz39_0, hfz39_1⟩ := c2_ BK615
           try go_wp2
           go_roundg k2
           case measure => have := HK1.out; have := HK2.out; omega
           case rel => exact ⟨(ji25), (wrap64 ((wrap64 (x5_2 + 1)) + 1)), (wrap64 (x9_2 + 1)), (by first | rfl | (simp; done) | (simp only [← hji25] <;> (first | rfl | simp)) | (simp [*]; done)), (by first | rfl | (simp; done) | (simp [*]; done)), (by first | rfl | (simp; done) | (simp [*]; done)), H', ⟨by have := HK1.out; have := HK2.out; omega⟩, ⟨by (with_reducible repeat (first | apply Kd.N_alloc | apply Kd.N_drewN | apply Kd.N_drew)); exact Kd.N_mono HO_6.out (fun _ hk => ⟨hk.1, hk.2.1⟩)⟩, ⟨by (with_reducible repeat (first | refine blk_drewN ?_ _ | refine blk_drew ?_ | refine blk_alloc ?_ _)); exact BK615.out⟩, ⟨by (with_reducible repeat (first | refine blk_drewN ?_ _ | refine blk_drew ?_ | refine blk_alloc ?_ _)); exact BK625.out⟩, ⟨bv3_ HB GE615 GE625 GE628⟩⟩
          ·rw [if_neg c27] at H
           have c27b0 : ((wrap64 (t629 - t627)) == a0_1) = false := beq_eq_false_iff_ne.mpr c27
           have c27b1 : ((wrap64 (t629 - t627)) != a0_1) = true := bne_iff_ne.mpr c27
           have H' := Aside0.mk H
           clear H
           have hnb40 := NB615_625.out
           have hnc40 := NB625_615.out
           obtain ⟨hcz41_0, hcz41_1, hfz41_0, hfz41_1⟩ := c2_ BK615
           obtain ⟨hcz42_0, hcz42_1, hfz42_0, hfz42_1⟩ := c2_ BK625
           try go_wp2_with (first | ((with_reducible refine gate_callee (f := 51) rfl ?_); refine gl_ 39 Try.func51 #[.agg #[.int .i64 t623, .int .i64 t624], .int .i64 x9_2] rfl mp_ ?_; (with_reducible refine (spec_l3Shift.calls k2 t623 t624 x9_2 t626 t627 _ A22.out).mono ?_); rintro e w43 ⟨rfl, hb⟩; refine ⟨_, rfl, ?_⟩; have n0_ := Aside0.mk (Kd.N_below (by (with_reducible repeat (first | apply Kd.N_alloc | apply Kd.N_drewN | apply Kd.N_drew)); exact HO_6.out) hb); have n1_ := kb_ BK615 hb; have n2_ := kb_ BK625 hb; have n3_ := Aside0.mk (below_step (bv2_ HB GE615 GE625) hb); clear HO_6; clear BK615; clear BK625; clear HB; have HO_6 := n0_; have BK615 := n1_; have BK625 := n2_; have HB := n3_; clear n0_ n1_ n2_ n3_; (try clear hb); (try clear hb2); (try clear hk); (try clear hi)) | ((with_reducible refine gate_dst (N := 10) rfl ?_); refine bx_ 10 #[.int .i64 0, .int .i64 0] 25 ?_; intro gb628 hg w44 hbox hb; have n0_ := Aside0.mk (Kd.N_below (Kd.N_elderB (by (with_reducible repeat (first | apply Kd.N_alloc | apply Kd.N_drewN | apply Kd.N_drew)); exact HO_6.out) gb628 (Nat.le_of_eq hg.symm)) hb); have n1_ := kb_ BK615 hb; have n2_ := kb_ BK625 hb; have n3_ := Aside0.mk (below_step (bv2_ HB GE615 GE625) hb); have n4_ := Aside0.mk (hbox); have n5_ := gw_ hg (below_size (bv2_ HB GE615 GE625)); have n6_ := gw_ hg (below_size (bv2_ HB GE615 GE625)); have n7_ := nb_ hg (blk_lt (g := gb615) (o := .cells #[.int .i64 a0_0, .int .i64 a0_1] 25 (0, 0)) (kv_ BK615)); have n8_ := nc_ hg (blk_lt (g := gb615) (o := .cells #[.int .i64 a0_0, .int .i64 a0_1] 25 (0, 0)) (kv_ BK615)); have n9_ := nb_ hg (blk_lt (g := gb625) (o := .cells #[.int .i64 t623, .int .i64 t624] 25 (0, 0)) (kv_ BK625)); have n10_ := nc_ hg (blk_lt (g := gb625) (o := .cells #[.int .i64 t623, .int .i64 t624] 25 (0, 0)) (kv_ BK625)); clear HO_6; clear BK615; clear BK625; clear HB; have HO_6 := n0_; have BK615 := n1_; have BK625 := n2_; have HB := n3_; have BK628 := n4_; have GW628 := n5_; have GE628 := n6_; have NB615_628 := n7_; have NB628_615 := n8_; have NB625_628 := n9_; have NB628_625 := n10_; clear n0_ n1_ n2_ n3_ n4_ n5_ n6_ n7_ n8_ n9_ n10_; clear hb hbox hg; have hnb45 := NB628_615.out; have hnc45 := NB615_628.out; have hnb46 := NB628_625.out; have hnc46 := NB625_628.out; have hcz47_0 : w44.cell? ⟨gb628, 0, none⟩ = some (.int .i64 0) := (blk_cell BK628.out 0).trans rfl; have hcz47_1 : w44.cell? ⟨gb628, 1, none⟩ = some (.int .i64 0) := (blk_cell BK628.out 1).trans rfl; have hfz47_0 := blk_frozen BK628.out 0; have hfz47_1 := blk_frozen BK628.out 1))
           have n0_ : Aside0 (Kd.N (Kd.slice 3 (Kd.int .i64)) 38 ((w44.setCell ⟨gb628, 0, none⟩ (.int .i64 t626)).setCell ⟨gb628, 1, none⟩ (.int .i64 t627)) w.heap.size (fun k_ => k_ ≠ gb615 ∧ k_ ≠ gb625 ∧ k_ ≠ gb628) (.slice (some ad622) t619.length co12) t619) := ⟨by (with_reducible repeat (first | apply Kd.N_alloc | apply Kd.N_drewN | apply Kd.N_drew)); exact Kd.N_mono (Kd.N_far (p := ⟨gb628, 1, none⟩) (Kd.N_far (p := ⟨gb628, 0, none⟩) (Kd.N_mono HO_6.out (fun k_ hk => (⟨hk, hk.2⟩ : _ ∧ k_ ≠ gb628))) (fun _ hk => hk.2) (.int .i64 t626)) (fun _ hk => hk.2) (.int .i64 t627)) (fun _ hk => ⟨hk.1.1.1, ⟨hk.1.1.2, hk.1.2⟩⟩)⟩
           have n1_ : Aside0 (((w44.setCell ⟨gb628, 0, none⟩ (.int .i64 t626)).setCell ⟨gb628, 1, none⟩ (.int .i64 t627)).heap[gb615]? = some (.cells #[.int .i64 a0_0, .int .i64 a0_1] 25 (0, 0))) := ⟨by (with_reducible repeat (first | refine blk_drewN ?_ _ | refine blk_drew ?_ | refine blk_alloc ?_ _)); refine blk_far ?_ NB615_628.out _; (with_reducible repeat (first | refine blk_drewN ?_ _ | refine blk_drew ?_ | refine blk_alloc ?_ _)); refine blk_far ?_ NB615_628.out _; (with_reducible repeat (first | refine blk_drewN ?_ _ | refine blk_drew ?_ | refine blk_alloc ?_ _)); exact BK615.out⟩
           have n2_ : Aside0 (((w44.setCell ⟨gb628, 0, none⟩ (.int .i64 t626)).setCell ⟨gb628, 1, none⟩ (.int .i64 t627)).heap[gb625]? = some (.cells #[.int .i64 t623, .int .i64 t624] 25 (0, 0))) := ⟨by (with_reducible repeat (first | refine blk_drewN ?_ _ | refine blk_drew ?_ | refine blk_alloc ?_ _)); refine blk_far ?_ NB625_628.out _; (with_reducible repeat (first | refine blk_drewN ?_ _ | refine blk_drew ?_ | refine blk_alloc ?_ _)); refine blk_far ?_ NB625_628.out _; (with_reducible repeat (first | refine blk_drewN ?_ _ | refine blk_drew ?_ | refine blk_alloc ?_ _)); exact BK625.out⟩
           have n3_ : Aside0 (((w44.setCell ⟨gb628, 0, none⟩ (.int .i64 t626)).setCell ⟨gb628, 1, none⟩ (.int .i64 t627)).heap[gb628]? = some (.cells #[.int .i64 t626, .int .i64 t627] 25 (0, 0))) := ⟨by (with_reducible repeat (first | refine blk_drewN ?_ _ | refine blk_drew ?_ | refine blk_alloc ?_ _)); refine blk_put (cs := #[.int .i64 t626, .int .i64 0]) ?_ 1 _ rfl; (with_reducible repeat (first | refine blk_drewN ?_ _ | refine blk_drew ?_ | refine blk_alloc ?_ _)); refine blk_put (cs := #[.int .i64 0, .int .i64 0]) ?_ 0 _ rfl; (with_reducible repeat (first | refine blk_drewN ?_ _ | refine blk_drew ?_ | refine blk_alloc ?_ _)); exact BK628.out⟩
           have n4_ : Aside0 (Below w.heap.size w ((w44.setCell ⟨gb628, 0, none⟩ (.int .i64 t626)).setCell ⟨gb628, 1, none⟩ (.int .i64 t627))) := ⟨bv3_ HB GE615 GE625 GE628⟩
           (try clear HO_6)
           (try clear BK615)
           (try clear BK625)
           (try clear BK628)
           (try clear HB)
           generalize ((w44.setCell ⟨gb628, 0, none⟩ (.int .i64 t626)).setCell ⟨gb628, 1, none⟩ (.int .i64 t627)) = w48 at n0_ n1_ n2_ n3_ n4_ ⊢
           have HO_6 := n0_
           have BK615 := n1_
           have BK625 := n2_
           have BK628 := n3_
           have HB := n4_
           clear n0_ n1_ n2_ n3_ n4_
           replace HO_6 := Aside0.mk (Kd.N_drew HO_6.out)
           replace BK615 := Aside0.mk (blk_drew BK615.out)
           replace BK625 := Aside0.mk (blk_drew BK625.out)
           replace BK628 := Aside0.mk (blk_drew BK628.out)
           replace HB := Aside0.mk (below_drew1 HB.out)
           refine start_ (n := 7) (S := fun w' => w'.cell? ⟨gb615, 0, none⟩ = some (.int .i64 a0_0) ∧ w'.cell? ⟨gb615, 1, none⟩ = some (.int .i64 a0_1) ∧ w'.cell? ⟨gb628, 0, none⟩ = some (.int .i64 t626) ∧ w'.cell? ⟨gb628, 1, none⟩ = some (.int .i64 t627)) (ds := []) (bs 7 0) (by kernel_rfl) rfl (by kernel_rfl) ⟨(blk_cell BK615.out 0).trans rfl, (blk_cell BK615.out 1).trans rfl, (blk_cell BK628.out 0).trans rfl, (blk_cell BK628.out 1).trans rfl⟩ (fun hHeld => ?_)
           generalize w48.drew = w49 at HO_6 BK615 BK625 BK628 HB hHeld ⊢
           refine pure_ (i := 0) (N := some 40) (v := ?_) (a' := ?_) (bs 7 1) rfl rfl (by kernel_rfl) (fun _ _ _ h => h) (Or.inl ⟨by rfl, ?_⟩) ?_ ?_
           rotate_left
           ·intro w'
            go_simp
            with_reducible rfl
           rotate_left
           ·simp only [Act.put, List.setIfInBounds_toArray, List.set_cons_zero, List.set_cons_succ, i64_w, i32_w]
            rfl
           refine pure_ (i := 3) (N := some 43) (v := ?_) (a' := ?_) (bs 7 9) rfl rfl (by kernel_rfl) (fun _ _ _ h => h) (Or.inl ⟨by rfl, ?_⟩) ?_ ?_
           rotate_left
           ·intro w'
            go_simp
            with_reducible rfl
           rotate_left
           ·simp only [Act.put, List.setIfInBounds_toArray, List.set_cons_zero, List.set_cons_succ, i64_w, i32_w]
            rfl
           refine take_ (i := 1) (N := some 41) (v := ?_) (a' := ?_) (bs 7 11) rfl rfl (by kernel_rfl) (fun _ _ _ h => h) (Or.inl ⟨by rfl, ?_⟩) hHeld ?_ ?_
           rotate_left
           ·rintro w' ⟨s0, s1, s2, s3⟩
            go_simp
            with_reducible rfl
           rotate_left
           ·simp only [Act.put, List.setIfInBounds_toArray, List.set_cons_zero, List.set_cons_succ, i64_w, i32_w]
            rfl
           refine take_ (i := 4) (N := some 44) (v := ?_) (a' := ?_) (bs 7 27) rfl rfl (by kernel_rfl) (fun _ _ _ h => h) (Or.inl ⟨by rfl, ?_⟩) hHeld ?_ ?_
           rotate_left
           ·rintro w' ⟨s0, s1, s2, s3⟩
            go_simp
            with_reducible rfl
           rotate_left
           ·simp only [Act.put, List.setIfInBounds_toArray, List.set_cons_zero, List.set_cons_succ, i64_w, i32_w]
            rfl
           refine one_ (i := 2) (N := some 42) (bs 7 31) rfl rfl (by kernel_rfl) (by decide) (fun K hK => ?_)
           refine goes_ Try.func52 (by kernel_rfl) rfl #[.int .i64 a0_0] (by rfl) rfl rfl mp_ ?_
           with_reducible refine (spec_l2Full.calls a0_0 t629 _ A23.out).mono ?_
           rintro e w' ⟨rfl, ⟨nd, rfl⟩⟩
           refine ⟨_, rfl, ?_⟩
           refine hK.out _ _ ⟨(blk_cell BK615.out 0).trans rfl, (blk_cell BK615.out 1).trans rfl, (blk_cell BK628.out 0).trans rfl, (blk_cell BK628.out 1).trans rfl⟩ (fun hHeld => ?_)
           clear hK K
           refine no_ 42 ?_
           refine pure_ (i := 5) (N := some 45) (v := ?_) (a' := ?_) (bs 7 63) rfl rfl (by kernel_rfl) (fun _ _ _ h => h) (Or.inl ⟨by rfl, ?_⟩) ?_ ?_
           rotate_left
           ·intro w'
            go_simp
            with_reducible rfl
           rotate_left
           ·simp only [Act.put, List.setIfInBounds_toArray, List.set_cons_zero, List.set_cons_succ, i64_w, i32_w]
            rfl
           refine pure_ (i := 6) (N := some 11) (v := ?_) (a' := ?_) (bs 7 127) rfl rfl (by kernel_rfl) (fun _ _ _ h => h) (Or.inl ⟨by rfl, ?_⟩) ?_ ?_
           rotate_left
           ·intro w'
            go_simp
            with_reducible rfl
           rotate_left
           ·simp only [Act.put, List.setIfInBounds_toArray, List.set_cons_zero, List.set_cons_succ, i64_w, i32_w]
            rfl
           refine done_ (by kernel_rfl) ?_
           obtain ⟨hcz50_0, hcz50_1, hfz50_0, hfz50_1⟩ := c2_ BK628
           obtain ⟨hcz51_0, hcz51_1, hfz51_0, hfz51_1⟩ := c2_ BK615
           try go_wp2
           go_roundg k2
           case measure => have := HK1.out; have := HK2.out; omega
           case rel => exact ⟨(ji25), (wrap64 (x5_2 + 1)), (wrap64 (x9_2 + 1)), (by first | rfl | (simp; done) | (simp only [← hji25] <;> (first | rfl | simp)) | (simp [*]; done)), (by first | rfl | (simp; done) | (simp [*]; done)), (by first | rfl | (simp; done) | (simp [*]; done)), H', ⟨by have := HK1.out; have := HK2.out; omega⟩, ⟨by (with_reducible repeat (first | apply Kd.N_alloc | apply Kd.N_drewN | apply Kd.N_drew)); exact Kd.N_mono HO_6.out (fun _ hk => ⟨hk.1, hk.2.1⟩)⟩, ⟨by (with_reducible repeat (first | refine blk_drewN ?_ _ | refine blk_drew ?_ | refine blk_alloc ?_ _)); exact BK615.out⟩, ⟨by (with_reducible repeat (first | refine blk_drewN ?_ _ | refine blk_drew ?_ | refine blk_alloc ?_ _)); exact BK625.out⟩, ⟨bv3_ HB GE615 GE625 GE628⟩⟩
         ·rw [if_neg c26] at H
          have c26b0 : (t627 == a0_1) = false := beq_eq_false_iff_ne.mpr c26
          have c26b1 : (t627 != a0_1) = true := bne_iff_ne.mpr c26
          by_cases c52 : (wrap64 (t629 - t627)) = a0_1
          ·rw [if_pos c52] at H
           have c52b0 : ((wrap64 (t629 - t627)) == a0_1) = true := beq_iff_eq.mpr c52
           have c52b1 : ((wrap64 (t629 - t627)) != a0_1) = false := bne_eq_false_iff_eq.mpr c52
           clear c52
           have H' := Aside0.mk H
           clear H
           have hnb53 := NB615_625.out
           have hnc53 := NB625_615.out
           obtain ⟨hcz54_0, hcz54_1, hfz54_0, hfz54_1⟩ := c2_ BK615
           obtain ⟨hcz55_0, hcz55_1, hfz55_0, hfz55_1⟩ := c2_ BK625
           try go_wp2_with (first | ((with_reducible refine gate_callee (f := 51) rfl ?_); refine gl_ 39 Try.func51 #[.agg #[.int .i64 t623, .int .i64 t624], .int .i64 x9_2] rfl mp_ ?_; (with_reducible refine (spec_l3Shift.calls k2 t623 t624 x9_2 t626 t627 _ A22.out).mono ?_); rintro e w56 ⟨rfl, hb⟩; refine ⟨_, rfl, ?_⟩; have n0_ := Aside0.mk (Kd.N_below (by (with_reducible repeat (first | apply Kd.N_alloc | apply Kd.N_drewN | apply Kd.N_drew)); exact HO_6.out) hb); have n1_ := kb_ BK615 hb; have n2_ := kb_ BK625 hb; have n3_ := Aside0.mk (below_step (bv2_ HB GE615 GE625) hb); clear HO_6; clear BK615; clear BK625; clear HB; have HO_6 := n0_; have BK615 := n1_; have BK625 := n2_; have HB := n3_; clear n0_ n1_ n2_ n3_; (try clear hb); (try clear hb2); (try clear hk); (try clear hi)) | ((with_reducible refine gate_dst (N := 10) rfl ?_); refine bx_ 10 #[.int .i64 0, .int .i64 0] 25 ?_; intro gb628 hg w57 hbox hb; have n0_ := Aside0.mk (Kd.N_below (Kd.N_elderB (by (with_reducible repeat (first | apply Kd.N_alloc | apply Kd.N_drewN | apply Kd.N_drew)); exact HO_6.out) gb628 (Nat.le_of_eq hg.symm)) hb); have n1_ := kb_ BK615 hb; have n2_ := kb_ BK625 hb; have n3_ := Aside0.mk (below_step (bv2_ HB GE615 GE625) hb); have n4_ := Aside0.mk (hbox); have n5_ := gw_ hg (below_size (bv2_ HB GE615 GE625)); have n6_ := gw_ hg (below_size (bv2_ HB GE615 GE625)); have n7_ := nb_ hg (blk_lt (g := gb615) (o := .cells #[.int .i64 a0_0, .int .i64 a0_1] 25 (0, 0)) (kv_ BK615)); have n8_ := nc_ hg (blk_lt (g := gb615) (o := .cells #[.int .i64 a0_0, .int .i64 a0_1] 25 (0, 0)) (kv_ BK615)); have n9_ := nb_ hg (blk_lt (g := gb625) (o := .cells #[.int .i64 t623, .int .i64 t624] 25 (0, 0)) (kv_ BK625)); have n10_ := nc_ hg (blk_lt (g := gb625) (o := .cells #[.int .i64 t623, .int .i64 t624] 25 (0, 0)) (kv_ BK625)); clear HO_6; clear BK615; clear BK625; clear HB; have HO_6 := n0_; have BK615 := n1_; have BK625 := n2_; have HB := n3_; have BK628 := n4_; have GW628 := n5_; have GE628 := n6_; have NB615_628 := n7_; have NB628_615 := n8_; have NB625_628 := n9_; have NB628_625 := n10_; clear n0_ n1_ n2_ n3_ n4_ n5_ n6_ n7_ n8_ n9_ n10_; clear hb hbox hg; have hnb58 := NB628_615.out; have hnc58 := NB615_628.out; have hnb59 := NB628_625.out; have hnc59 := NB625_628.out; have hcz60_0 : w57.cell? ⟨gb628, 0, none⟩ = some (.int .i64 0) := (blk_cell BK628.out 0).trans rfl; have hcz60_1 : w57.cell? ⟨gb628, 1, none⟩ = some (.int .i64 0) := (blk_cell BK628.out 1).trans rfl; have hfz60_0 := blk_frozen BK628.out 0; have hfz60_1 := blk_frozen BK628.out 1))
           have n0_ : Aside0 (Kd.N (Kd.slice 3 (Kd.int .i64)) 38 ((w57.setCell ⟨gb628, 0, none⟩ (.int .i64 t626)).setCell ⟨gb628, 1, none⟩ (.int .i64 t627)) w.heap.size (fun k_ => k_ ≠ gb615 ∧ k_ ≠ gb625 ∧ k_ ≠ gb628) (.slice (some ad622) t619.length co12) t619) := ⟨by (with_reducible repeat (first | apply Kd.N_alloc | apply Kd.N_drewN | apply Kd.N_drew)); exact Kd.N_mono (Kd.N_far (p := ⟨gb628, 1, none⟩) (Kd.N_far (p := ⟨gb628, 0, none⟩) (Kd.N_mono HO_6.out (fun k_ hk => (⟨hk, hk.2⟩ : _ ∧ k_ ≠ gb628))) (fun _ hk => hk.2) (.int .i64 t626)) (fun _ hk => hk.2) (.int .i64 t627)) (fun _ hk => ⟨hk.1.1.1, ⟨hk.1.1.2, hk.1.2⟩⟩)⟩
           have n1_ : Aside0 (((w57.setCell ⟨gb628, 0, none⟩ (.int .i64 t626)).setCell ⟨gb628, 1, none⟩ (.int .i64 t627)).heap[gb615]? = some (.cells #[.int .i64 a0_0, .int .i64 a0_1] 25 (0, 0))) := ⟨by (with_reducible repeat (first | refine blk_drewN ?_ _ | refine blk_drew ?_ | refine blk_alloc ?_ _)); refine blk_far ?_ NB615_628.out _; (with_reducible repeat (first | refine blk_drewN ?_ _ | refine blk_drew ?_ | refine blk_alloc ?_ _)); refine blk_far ?_ NB615_628.out _; (with_reducible repeat (first | refine blk_drewN ?_ _ | refine blk_drew ?_ | refine blk_alloc ?_ _)); exact BK615.out⟩
           have n2_ : Aside0 (((w57.setCell ⟨gb628, 0, none⟩ (.int .i64 t626)).setCell ⟨gb628, 1, none⟩ (.int .i64 t627)).heap[gb625]? = some (.cells #[.int .i64 t623, .int .i64 t624] 25 (0, 0))) := ⟨by (with_reducible repeat (first | refine blk_drewN ?_ _ | refine blk_drew ?_ | refine blk_alloc ?_ _)); refine blk_far ?_ NB625_628.out _; (with_reducible repeat (first | refine blk_drewN ?_ _ | refine blk_drew ?_ | refine blk_alloc ?_ _)); refine blk_far ?_ NB625_628.out _; (with_reducible repeat (first | refine blk_drewN ?_ _ | refine blk_drew ?_ | refine blk_alloc ?_ _)); exact BK625.out⟩
           have n3_ : Aside0 (((w57.setCell ⟨gb628, 0, none⟩ (.int .i64 t626)).setCell ⟨gb628, 1, none⟩ (.int .i64 t627)).heap[gb628]? = some (.cells #[.int .i64 t626, .int .i64 t627] 25 (0, 0))) := ⟨by (with_reducible repeat (first | refine blk_drewN ?_ _ | refine blk_drew ?_ | refine blk_alloc ?_ _)); refine blk_put (cs := #[.int .i64 t626, .int .i64 0]) ?_ 1 _ rfl; (with_reducible repeat (first | refine blk_drewN ?_ _ | refine blk_drew ?_ | refine blk_alloc ?_ _)); refine blk_put (cs := #[.int .i64 0, .int .i64 0]) ?_ 0 _ rfl; (with_reducible repeat (first | refine blk_drewN ?_ _ | refine blk_drew ?_ | refine blk_alloc ?_ _)); exact BK628.out⟩
           have n4_ : Aside0 (Below w.heap.size w ((w57.setCell ⟨gb628, 0, none⟩ (.int .i64 t626)).setCell ⟨gb628, 1, none⟩ (.int .i64 t627))) := ⟨bv3_ HB GE615 GE625 GE628⟩
           (try clear HO_6)
           (try clear BK615)
           (try clear BK625)
           (try clear BK628)
           (try clear HB)
           generalize ((w57.setCell ⟨gb628, 0, none⟩ (.int .i64 t626)).setCell ⟨gb628, 1, none⟩ (.int .i64 t627)) = w61 at n0_ n1_ n2_ n3_ n4_ ⊢
           have HO_6 := n0_
           have BK615 := n1_
           have BK625 := n2_
           have BK628 := n3_
           have HB := n4_
           clear n0_ n1_ n2_ n3_ n4_
           replace HO_6 := Aside0.mk (Kd.N_drew HO_6.out)
           replace BK615 := Aside0.mk (blk_drew BK615.out)
           replace BK625 := Aside0.mk (blk_drew BK625.out)
           replace BK628 := Aside0.mk (blk_drew BK628.out)
           replace HB := Aside0.mk (below_drew1 HB.out)
           refine start_ (n := 7) (S := fun w' => w'.cell? ⟨gb615, 0, none⟩ = some (.int .i64 a0_0) ∧ w'.cell? ⟨gb615, 1, none⟩ = some (.int .i64 a0_1) ∧ w'.cell? ⟨gb628, 0, none⟩ = some (.int .i64 t626) ∧ w'.cell? ⟨gb628, 1, none⟩ = some (.int .i64 t627)) (ds := []) (bs 7 0) (by kernel_rfl) rfl (by kernel_rfl) ⟨(blk_cell BK615.out 0).trans rfl, (blk_cell BK615.out 1).trans rfl, (blk_cell BK628.out 0).trans rfl, (blk_cell BK628.out 1).trans rfl⟩ (fun hHeld => ?_)
           generalize w61.drew = w62 at HO_6 BK615 BK625 BK628 HB hHeld ⊢
           refine pure_ (i := 0) (N := some 40) (v := ?_) (a' := ?_) (bs 7 1) rfl rfl (by kernel_rfl) (fun _ _ _ h => h) (Or.inl ⟨by rfl, ?_⟩) ?_ ?_
           rotate_left
           ·intro w'
            go_simp
            with_reducible rfl
           rotate_left
           ·simp only [Act.put, List.setIfInBounds_toArray, List.set_cons_zero, List.set_cons_succ, i64_w, i32_w]
            rfl
           refine pure_ (i := 3) (N := some 43) (v := ?_) (a' := ?_) (bs 7 9) rfl rfl (by kernel_rfl) (fun _ _ _ h => h) (Or.inl ⟨by rfl, ?_⟩) ?_ ?_
           rotate_left
           ·intro w'
            go_simp
            with_reducible rfl
           rotate_left
           ·simp only [Act.put, List.setIfInBounds_toArray, List.set_cons_zero, List.set_cons_succ, i64_w, i32_w]
            rfl
           refine take_ (i := 1) (N := some 41) (v := ?_) (a' := ?_) (bs 7 11) rfl rfl (by kernel_rfl) (fun _ _ _ h => h) (Or.inl ⟨by rfl, ?_⟩) hHeld ?_ ?_
           rotate_left
           ·rintro w' ⟨s0, s1, s2, s3⟩
            go_simp
            with_reducible rfl
           rotate_left
           ·simp only [Act.put, List.setIfInBounds_toArray, List.set_cons_zero, List.set_cons_succ, i64_w, i32_w]
            rfl
           refine take_ (i := 4) (N := some 44) (v := ?_) (a' := ?_) (bs 7 27) rfl rfl (by kernel_rfl) (fun _ _ _ h => h) (Or.inl ⟨by rfl, ?_⟩) hHeld ?_ ?_
           rotate_left
           ·rintro w' ⟨s0, s1, s2, s3⟩
            go_simp
            with_reducible rfl
           rotate_left
           ·simp only [Act.put, List.setIfInBounds_toArray, List.set_cons_zero, List.set_cons_succ, i64_w, i32_w]
            rfl
           refine one_ (i := 2) (N := some 42) (bs 7 31) rfl rfl (by kernel_rfl) (by decide) (fun K hK => ?_)
           refine goes_ Try.func52 (by kernel_rfl) rfl #[.int .i64 a0_0] (by rfl) rfl rfl mp_ ?_
           with_reducible refine (spec_l2Full.calls a0_0 t629 _ A23.out).mono ?_
           rintro e w' ⟨rfl, ⟨nd, rfl⟩⟩
           refine ⟨_, rfl, ?_⟩
           refine hK.out _ _ ⟨(blk_cell BK615.out 0).trans rfl, (blk_cell BK615.out 1).trans rfl, (blk_cell BK628.out 0).trans rfl, (blk_cell BK628.out 1).trans rfl⟩ (fun hHeld => ?_)
           clear hK K
           refine no_ 42 ?_
           refine pure_ (i := 5) (N := some 45) (v := ?_) (a' := ?_) (bs 7 63) rfl rfl (by kernel_rfl) (fun _ _ _ h => h) (Or.inl ⟨by rfl, ?_⟩) ?_ ?_
           rotate_left
           ·intro w'
            go_simp
            with_reducible rfl
           rotate_left
           ·simp only [Act.put, List.setIfInBounds_toArray, List.set_cons_zero, List.set_cons_succ, i64_w, i32_w]
            rfl
           refine pure_ (i := 6) (N := some 11) (v := ?_) (a' := ?_) (bs 7 127) rfl rfl (by kernel_rfl) (fun _ _ _ h => h) (Or.inl ⟨by rfl, ?_⟩) ?_ ?_
           rotate_left
           ·intro w'
            go_simp
            with_reducible rfl
           rotate_left
           ·simp only [Act.put, List.setIfInBounds_toArray, List.set_cons_zero, List.set_cons_succ, i64_w, i32_w]
            rfl
           refine done_ (by kernel_rfl) ?_
           obtain ⟨hcz63_0, hcz63_1, hfz63_0, hfz63_1⟩ := c2_ BK628
           obtain ⟨hcz64_0, hcz64_1, hfz64_0, hfz64_1⟩ := c2_ BK615
           try go_wp2
           go_roundg k2
           case measure => have := HK1.out; have := HK2.out; omega
           case rel => exact ⟨(ji25), (wrap64 (x5_2 + 1)), (wrap64 (x9_2 + 1)), (by first | rfl | (simp; done) | (simp only [← hji25] <;> (first | rfl | simp)) | (simp [*]; done)), (by first | rfl | (simp; done) | (simp [*]; done)), (by first | rfl | (simp; done) | (simp [*]; done)), H', ⟨by have := HK1.out; have := HK2.out; omega⟩, ⟨by (with_reducible repeat (first | apply Kd.N_alloc | apply Kd.N_drewN | apply Kd.N_drew)); exact Kd.N_mono HO_6.out (fun _ hk => ⟨hk.1, hk.2.1⟩)⟩, ⟨by (with_reducible repeat (first | refine blk_drewN ?_ _ | refine blk_drew ?_ | refine blk_alloc ?_ _)); exact BK615.out⟩, ⟨by (with_reducible repeat (first | refine blk_drewN ?_ _ | refine blk_drew ?_ | refine blk_alloc ?_ _)); exact BK625.out⟩, ⟨bv3_ HB GE615 GE625 GE628⟩⟩
          ·rw [if_neg c52] at H
           have c52b0 : ((wrap64 (t629 - t627)) == a0_1) = false := beq_eq_false_iff_ne.mpr c52
           have c52b1 : ((wrap64 (t629 - t627)) != a0_1) = true := bne_iff_ne.mpr c52
           have H' := Aside0.mk H
           clear H
           have hnb65 := NB615_625.out
           have hnc65 := NB625_615.out
           obtain ⟨hcz66_0, hcz66_1, hfz66_0, hfz66_1⟩ := c2_ BK615
           obtain ⟨hcz67_0, hcz67_1, hfz67_0, hfz67_1⟩ := c2_ BK625
           try go_wp2_with (first | ((with_reducible refine gate_callee (f := 51) rfl ?_); refine gl_ 39 Try.func51 #[.agg #[.int .i64 t623, .int .i64 t624], .int .i64 x9_2] rfl mp_ ?_; (with_reducible refine (spec_l3Shift.calls k2 t623 t624 x9_2 t626 t627 _ A22.out).mono ?_); rintro e w68 ⟨rfl, hb⟩; refine ⟨_, rfl, ?_⟩; have n0_ := Aside0.mk (Kd.N_below (by (with_reducible repeat (first | apply Kd.N_alloc | apply Kd.N_drewN | apply Kd.N_drew)); exact HO_6.out) hb); have n1_ := kb_ BK615 hb; have n2_ := kb_ BK625 hb; have n3_ := Aside0.mk (below_step (bv2_ HB GE615 GE625) hb); clear HO_6; clear BK615; clear BK625; clear HB; have HO_6 := n0_; have BK615 := n1_; have BK625 := n2_; have HB := n3_; clear n0_ n1_ n2_ n3_; (try clear hb); (try clear hb2); (try clear hk); (try clear hi)) | ((with_reducible refine gate_dst (N := 10) rfl ?_); refine bx_ 10 #[.int .i64 0, .int .i64 0] 25 ?_; intro gb628 hg w69 hbox hb; have n0_ := Aside0.mk (Kd.N_below (Kd.N_elderB (by (with_reducible repeat (first | apply Kd.N_alloc | apply Kd.N_drewN | apply Kd.N_drew)); exact HO_6.out) gb628 (Nat.le_of_eq hg.symm)) hb); have n1_ := kb_ BK615 hb; have n2_ := kb_ BK625 hb; have n3_ := Aside0.mk (below_step (bv2_ HB GE615 GE625) hb); have n4_ := Aside0.mk (hbox); have n5_ := gw_ hg (below_size (bv2_ HB GE615 GE625)); have n6_ := gw_ hg (below_size (bv2_ HB GE615 GE625)); have n7_ := nb_ hg (blk_lt (g := gb615) (o := .cells #[.int .i64 a0_0, .int .i64 a0_1] 25 (0, 0)) (kv_ BK615)); have n8_ := nc_ hg (blk_lt (g := gb615) (o := .cells #[.int .i64 a0_0, .int .i64 a0_1] 25 (0, 0)) (kv_ BK615)); have n9_ := nb_ hg (blk_lt (g := gb625) (o := .cells #[.int .i64 t623, .int .i64 t624] 25 (0, 0)) (kv_ BK625)); have n10_ := nc_ hg (blk_lt (g := gb625) (o := .cells #[.int .i64 t623, .int .i64 t624] 25 (0, 0)) (kv_ BK625)); clear HO_6; clear BK615; clear BK625; clear HB; have HO_6 := n0_; have BK615 := n1_; have BK625 := n2_; have HB := n3_; have BK628 := n4_; have GW628 := n5_; have GE628 := n6_; have NB615_628 := n7_; have NB628_615 := n8_; have NB625_628 := n9_; have NB628_625 := n10_; clear n0_ n1_ n2_ n3_ n4_ n5_ n6_ n7_ n8_ n9_ n10_; clear hb hbox hg; have hnb70 := NB628_615.out; have hnc70 := NB615_628.out; have hnb71 := NB628_625.out; have hnc71 := NB625_628.out; have hcz72_0 : w69.cell? ⟨gb628, 0, none⟩ = some (.int .i64 0) := (blk_cell BK628.out 0).trans rfl; have hcz72_1 : w69.cell? ⟨gb628, 1, none⟩ = some (.int .i64 0) := (blk_cell BK628.out 1).trans rfl; have hfz72_0 := blk_frozen BK628.out 0; have hfz72_1 := blk_frozen BK628.out 1))
           have n0_ : Aside0 (Kd.N (Kd.slice 3 (Kd.int .i64)) 38 ((w69.setCell ⟨gb628, 0, none⟩ (.int .i64 t626)).setCell ⟨gb628, 1, none⟩ (.int .i64 t627)) w.heap.size (fun k_ => k_ ≠ gb615 ∧ k_ ≠ gb625 ∧ k_ ≠ gb628) (.slice (some ad622) t619.length co12) t619) := ⟨by (with_reducible repeat (first | apply Kd.N_alloc | apply Kd.N_drewN | apply Kd.N_drew)); exact Kd.N_mono (Kd.N_far (p := ⟨gb628, 1, none⟩) (Kd.N_far (p := ⟨gb628, 0, none⟩) (Kd.N_mono HO_6.out (fun k_ hk => (⟨hk, hk.2⟩ : _ ∧ k_ ≠ gb628))) (fun _ hk => hk.2) (.int .i64 t626)) (fun _ hk => hk.2) (.int .i64 t627)) (fun _ hk => ⟨hk.1.1.1, ⟨hk.1.1.2, hk.1.2⟩⟩)⟩
           have n1_ : Aside0 (((w69.setCell ⟨gb628, 0, none⟩ (.int .i64 t626)).setCell ⟨gb628, 1, none⟩ (.int .i64 t627)).heap[gb615]? = some (.cells #[.int .i64 a0_0, .int .i64 a0_1] 25 (0, 0))) := ⟨by (with_reducible repeat (first | refine blk_drewN ?_ _ | refine blk_drew ?_ | refine blk_alloc ?_ _)); refine blk_far ?_ NB615_628.out _; (with_reducible repeat (first | refine blk_drewN ?_ _ | refine blk_drew ?_ | refine blk_alloc ?_ _)); refine blk_far ?_ NB615_628.out _; (with_reducible repeat (first | refine blk_drewN ?_ _ | refine blk_drew ?_ | refine blk_alloc ?_ _)); exact BK615.out⟩
           have n2_ : Aside0 (((w69.setCell ⟨gb628, 0, none⟩ (.int .i64 t626)).setCell ⟨gb628, 1, none⟩ (.int .i64 t627)).heap[gb625]? = some (.cells #[.int .i64 t623, .int .i64 t624] 25 (0, 0))) := ⟨by (with_reducible repeat (first | refine blk_drewN ?_ _ | refine blk_drew ?_ | refine blk_alloc ?_ _)); refine blk_far ?_ NB625_628.out _; (with_reducible repeat (first | refine blk_drewN ?_ _ | refine blk_drew ?_ | refine blk_alloc ?_ _)); refine blk_far ?_ NB625_628.out _; (with_reducible repeat (first | refine blk_drewN ?_ _ | refine blk_drew ?_ | refine blk_alloc ?_ _)); exact BK625.out⟩
           have n3_ : Aside0 (((w69.setCell ⟨gb628, 0, none⟩ (.int .i64 t626)).setCell ⟨gb628, 1, none⟩ (.int .i64 t627)).heap[gb628]? = some (.cells #[.int .i64 t626, .int .i64 t627] 25 (0, 0))) := ⟨by (with_reducible repeat (first | refine blk_drewN ?_ _ | refine blk_drew ?_ | refine blk_alloc ?_ _)); refine blk_put (cs := #[.int .i64 t626, .int .i64 0]) ?_ 1 _ rfl; (with_reducible repeat (first | refine blk_drewN ?_ _ | refine blk_drew ?_ | refine blk_alloc ?_ _)); refine blk_put (cs := #[.int .i64 0, .int .i64 0]) ?_ 0 _ rfl; (with_reducible repeat (first | refine blk_drewN ?_ _ | refine blk_drew ?_ | refine blk_alloc ?_ _)); exact BK628.out⟩
           have n4_ : Aside0 (Below w.heap.size w ((w69.setCell ⟨gb628, 0, none⟩ (.int .i64 t626)).setCell ⟨gb628, 1, none⟩ (.int .i64 t627))) := ⟨bv3_ HB GE615 GE625 GE628⟩
           (try clear HO_6)
           (try clear BK615)
           (try clear BK625)
           (try clear BK628)
           (try clear HB)
           generalize ((w69.setCell ⟨gb628, 0, none⟩ (.int .i64 t626)).setCell ⟨gb628, 1, none⟩ (.int .i64 t627)) = w73 at n0_ n1_ n2_ n3_ n4_ ⊢
           have HO_6 := n0_
           have BK615 := n1_
           have BK625 := n2_
           have BK628 := n3_
           have HB := n4_
           clear n0_ n1_ n2_ n3_ n4_
           replace HO_6 := Aside0.mk (Kd.N_drew HO_6.out)
           replace BK615 := Aside0.mk (blk_drew BK615.out)
           replace BK625 := Aside0.mk (blk_drew BK625.out)
           replace BK628 := Aside0.mk (blk_drew BK628.out)
           replace HB := Aside0.mk (below_drew1 HB.out)
           refine start_ (n := 7) (S := fun w' => w'.cell? ⟨gb615, 0, none⟩ = some (.int .i64 a0_0) ∧ w'.cell? ⟨gb615, 1, none⟩ = some (.int .i64 a0_1) ∧ w'.cell? ⟨gb628, 0, none⟩ = some (.int .i64 t626) ∧ w'.cell? ⟨gb628, 1, none⟩ = some (.int .i64 t627)) (ds := []) (bs 7 0) (by kernel_rfl) rfl (by kernel_rfl) ⟨(blk_cell BK615.out 0).trans rfl, (blk_cell BK615.out 1).trans rfl, (blk_cell BK628.out 0).trans rfl, (blk_cell BK628.out 1).trans rfl⟩ (fun hHeld => ?_)
           generalize w73.drew = w74 at HO_6 BK615 BK625 BK628 HB hHeld ⊢
           refine pure_ (i := 0) (N := some 40) (v := ?_) (a' := ?_) (bs 7 1) rfl rfl (by kernel_rfl) (fun _ _ _ h => h) (Or.inl ⟨by rfl, ?_⟩) ?_ ?_
           rotate_left
           ·intro w'
            go_simp
            with_reducible rfl
           rotate_left
           ·simp only [Act.put, List.setIfInBounds_toArray, List.set_cons_zero, List.set_cons_succ, i64_w, i32_w]
            rfl
           refine pure_ (i := 3) (N := some 43) (v := ?_) (a' := ?_) (bs 7 9) rfl rfl (by kernel_rfl) (fun _ _ _ h => h) (Or.inl ⟨by rfl, ?_⟩) ?_ ?_
           rotate_left
           ·intro w'
            go_simp
            with_reducible rfl
           rotate_left
           ·simp only [Act.put, List.setIfInBounds_toArray, List.set_cons_zero, List.set_cons_succ, i64_w, i32_w]
            rfl
           refine take_ (i := 1) (N := some 41) (v := ?_) (a' := ?_) (bs 7 11) rfl rfl (by kernel_rfl) (fun _ _ _ h => h) (Or.inl ⟨by rfl, ?_⟩) hHeld ?_ ?_
           rotate_left
           ·rintro w' ⟨s0, s1, s2, s3⟩
            go_simp
            with_reducible rfl
           rotate_left
           ·simp only [Act.put, List.setIfInBounds_toArray, List.set_cons_zero, List.set_cons_succ, i64_w, i32_w]
            rfl
           refine take_ (i := 4) (N := some 44) (v := ?_) (a' := ?_) (bs 7 27) rfl rfl (by kernel_rfl) (fun _ _ _ h => h) (Or.inl ⟨by rfl, ?_⟩) hHeld ?_ ?_
           rotate_left
           ·rintro w' ⟨s0, s1, s2, s3⟩
            go_simp
            with_reducible rfl
           rotate_left
           ·simp only [Act.put, List.setIfInBounds_toArray, List.set_cons_zero, List.set_cons_succ, i64_w, i32_w]
            rfl
           refine one_ (i := 2) (N := some 42) (bs 7 31) rfl rfl (by kernel_rfl) (by decide) (fun K hK => ?_)
           refine goes_ Try.func52 (by kernel_rfl) rfl #[.int .i64 a0_0] (by rfl) rfl rfl mp_ ?_
           with_reducible refine (spec_l2Full.calls a0_0 t629 _ A23.out).mono ?_
           rintro e w' ⟨rfl, ⟨nd, rfl⟩⟩
           refine ⟨_, rfl, ?_⟩
           refine hK.out _ _ ⟨(blk_cell BK615.out 0).trans rfl, (blk_cell BK615.out 1).trans rfl, (blk_cell BK628.out 0).trans rfl, (blk_cell BK628.out 1).trans rfl⟩ (fun hHeld => ?_)
           clear hK K
           refine no_ 42 ?_
           refine pure_ (i := 5) (N := some 45) (v := ?_) (a' := ?_) (bs 7 63) rfl rfl (by kernel_rfl) (fun _ _ _ h => h) (Or.inl ⟨by rfl, ?_⟩) ?_ ?_
           rotate_left
           ·intro w'
            go_simp
            with_reducible rfl
           rotate_left
           ·simp only [Act.put, List.setIfInBounds_toArray, List.set_cons_zero, List.set_cons_succ, i64_w, i32_w]
            rfl
           refine pure_ (i := 6) (N := some 11) (v := ?_) (a' := ?_) (bs 7 127) rfl rfl (by kernel_rfl) (fun _ _ _ h => h) (Or.inl ⟨by rfl, ?_⟩) ?_ ?_
           rotate_left
           ·intro w'
            go_simp
            with_reducible rfl
           rotate_left
           ·simp only [Act.put, List.setIfInBounds_toArray, List.set_cons_zero, List.set_cons_succ, i64_w, i32_w]
            rfl
           refine done_ (by kernel_rfl) ?_
           obtain ⟨hcz75_0, hcz75_1, hfz75_0, hfz75_1⟩ := c2_ BK628
           obtain ⟨hcz76_0, hcz76_1, hfz76_0, hfz76_1⟩ := c2_ BK615
           try go_wp2
           go_roundg k2
           case measure => have := HK1.out; have := HK2.out; omega
           case rel => exact ⟨(ji25), (x5_2), (wrap64 (x9_2 + 1)), (by first | rfl | (simp; done) | (simp only [← hji25] <;> (first | rfl | simp)) | (simp [*]; done)), (by first | rfl | (simp; done) | (simp [*]; done)), (by first | rfl | (simp; done) | (simp [*]; done)), H', ⟨by have := HK1.out; have := HK2.out; omega⟩, ⟨by (with_reducible repeat (first | apply Kd.N_alloc | apply Kd.N_drewN | apply Kd.N_drew)); exact Kd.N_mono HO_6.out (fun _ hk => ⟨hk.1, hk.2.1⟩)⟩, ⟨by (with_reducible repeat (first | refine blk_drewN ?_ _ | refine blk_drew ?_ | refine blk_alloc ?_ _)); exact BK615.out⟩, ⟨by (with_reducible repeat (first | refine blk_drewN ?_ _ | refine blk_drew ?_ | refine blk_alloc ?_ _)); exact BK625.out⟩, ⟨bv3_ HB GE615 GE625 GE628⟩⟩
        ·rw [if_neg c21] at H
         have c21b0 : decide (x9_2 < (ji20)) = false := decide_eq_false c21
         clear c21
         have H' := Aside0.mk H
         clear H
         have hnb77 := NB615_625.out
         have hnc77 := NB625_615.out
         obtain ⟨hcz78_0, hcz78_1, hfz78_0, hfz78_1⟩ := c2_ BK615
         go_wp2
         go_roundg k2
         case measure => have := HK1.out; have := HK2.out; omega
         case rel => exact ⟨(x4_2), (x5_2), (wrap64 (x7_1 + 1)), (by first | rfl | (simp; done) | (simp [*]; done)), (by first | rfl | (simp; done) | (simp [*]; done)), (by first | rfl | (simp; done) | (simp [*]; done)), H', ⟨by have := HK1.out; have := HK2.out; omega⟩, ⟨by (with_reducible repeat (first | apply Kd.N_alloc | apply Kd.N_drewN | apply Kd.N_drew)); exact Kd.N_mono HO_6.out (fun _ hk => hk.1)⟩, ⟨by (with_reducible repeat (first | refine blk_drewN ?_ _ | refine blk_drew ?_ | refine blk_alloc ?_ _)); exact BK615.out⟩, ⟨bv2_ HB GE615 GE625⟩⟩
       ·rw [if_neg c19] at H
        exact absurd H (by simp)
    ·rw [if_neg c10] at H
     exact absurd H (by simp)
   ·rw [if_neg c9] at H
    have c9b0 : decide (x7_1 < (t619.length : Int)) = false := decide_eq_false c9
    clear c9
    simp only [Option.some.injEq, Prod.mk.injEq] at H
    obtain ⟨rfl, rfl⟩ := H
    obtain ⟨Ao79, co79, eo79⟩ := Kd.N_slice HO_6.out
    subst eo79
    go_wp2
    go_ret2
    exact ⟨er_, bv1_ HB GE615⟩


end Go.Proofs.Yteljkpglgjjnlaa.P
