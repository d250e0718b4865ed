-- Out of the translation, by this session's program over the printer's; Lean checks it.
import Derived.Test.YteljkpglgjjnlaaSh
import Derived.Test.YteljkpglgjjnlaaQ0
import Derived.Test.YteljkpglgjjnlaaQ6
import Derived.Test.YteljkpglgjjnlaaQ7
import Derived.Test.YteljkpglgjjnlaaQ9
namespace Go.Proofs.Yteljkpglgjjnlaa.P
open Go.RowKit Go.Proofs.YteljkpglgjjnlaaW.PrintWords Go.Proofs.YteljkpglgjjnlaaW.PrintLast Go.Proofs.YteljkpglgjjnlaaW.PrintMore
attribute [local go_sem] max2_int min2_int max_two min_two max_three min_three max_four min_four
set_option linter.unusedVariables false
set_option linter.unusedSimpArgs false

/-! ### spec_PermuteTable: function 17 -/
def spec_PermuteTable.f (k : Nat) (a0_0 : Int) (a0_1 : Int) (l1 : List Int) : Option (Int × Int × Bool) := (spec_IsTable.f a0_0 a0_1).bind fun t730 => (if t730 = true then ((spec_l3Perm.f k l1 a0_0).bind fun t731 => (if t731 = true then ((spec_l3Permute.f k a0_0 a0_1 l1).bind fun bt732 => (some (bt732.1, bt732.2, true))) else (some (0, 0, false)))) else (some (0, 0, false)))
theorem spec_PermuteTable.mono : ∀ a0 a1 a2 k, LeO (spec_PermuteTable.f k a0 a1 a2) (spec_PermuteTable.f (k + 1) a0 a1 a2) := by
 intro a0 a1 a2 k
 unfold spec_PermuteTable.f
 repeat' first
   | (with_reducible exact spec_l3Perm.mono _ _ _)
   | (with_reducible exact spec_l3Permute.mono _ _ _ _)
   | (with_reducible exact LeO.refl _)
   | (with_reducible exact LeO.none _)
   | (with_reducible refine LeO.ite ?_ ?_)
   | (with_reducible refine LeO.bind ?_ (fun _ => ?_))
   | exact spec_l3Perm.mono _ _ _
   | exact spec_l3Permute.mono _ _ _ _
   | exact LeO.none _
   | refine LeO.ite ?_ ?_
   | refine LeO.bind ?_ (fun _ => ?_)
set_option maxHeartbeats 8000000 in
set_option maxRecDepth 100000 in
theorem spec_PermuteTable.calls (k : Nat) (a0_0 : Int) (a0_1 : Int) (A1 : Option Addr) (c1 : Nat) (l1 : List Int) (r1 : Int) (r2 : Int) (r3 : Bool) (w : World) (hr1 : Kd.C (Kd.int .i64) w A1 l1.length l1) (hc1 : l1.length ≤ c1) (h : spec_PermuteTable.f k a0_0 a0_1 l1 = some (r1, r2, r3)) :
  Calls Try.prog 17 #[.agg #[.int .i64 a0_0, .int .i64 a0_1], .slice A1 l1.length c1] w fun e w' => e = .returned (.tuple #[.agg #[.int .i64 r1, .int .i64 r2], .bool r3]) ∧ Below w.heap.size w w' := by
 have hu25 := Try.underlying25
 have HR1 := Aside0.mk hr1
 have HC1 := Aside0.mk hc1
 clear hr1 hc1
 have HB := Aside0.mk (Below.refl w.heap.size w)
 have H : ((spec_IsTable.f a0_0 a0_1).bind fun t730 => (if t730 = true then ((spec_l3Perm.f k l1 a0_0).bind fun t731 => (if t731 = true then ((spec_l3Permute.f k a0_0 a0_1 l1).bind fun bt732 => (some (bt732.1, bt732.2, true))) else (some (0, 0, false)))) else (some (0, 0, false)))) = some (r1, r2, r3) := h
 clear h
 replace H := Option.bind_eq_some_iff.mp H
 obtain ⟨t730, A30, H⟩ := H
 have A3 := Aside0.mk A30
 clear A30
 by_cases c4 : t730 = true
 ·subst c4
  rw [if_pos rfl] at H
  replace H := Option.bind_eq_some_iff.mp H
  obtain ⟨t731, A50, H⟩ := H
  have A5 := Aside0.mk A50
  clear A50
  by_cases c6 : t731 = true
  ·subst c6
   rw [if_pos rfl] at H
   replace H := Option.bind_eq_some_iff.mp H
   obtain ⟨⟨t732, t733⟩, A70, H⟩ := H
   replace H : (some (t732, t733, true)) = some (r1, r2, r3) := H
   have A7 := Aside0.mk A70
   clear A70
   simp only [Option.some.injEq, Prod.mk.injEq] at H
   obtain ⟨rfl, rfl, rfl⟩ := H
   go_enter Try.func17, Try.ntmps17
   go_wp2_with (first | ((with_reducible refine gate_dst (N := 2) rfl ?_); refine bx_ 2 #[.int .i64 a0_0, .int .i64 a0_1] 25 ?_; intro gb728 hg w8 hbox hb; have BK728 := Aside0.mk (hbox); have GW728 := gw_ hg (below_size (bv_ HB)); have GE728 := GW728; replace HB := Aside0.mk (below_step (bv_ HB) hb); clear hb hbox hg) | ((with_reducible refine gate_dst (N := 4) rfl ?_); refine bx_ 4 #[.int .i64 0, .int .i64 0] 25 ?_; intro gb729 hg w9 hbox hb; have BK729 := Aside0.mk (hbox); have GW729 := gw_ hg (below_size (bv1_ HB GE728)); have GE729 := GW729; replace HB := Aside0.mk (below_step (bv1_ HB GE728) hb); have NB728_729 := nb_ hg (blk_lt (g := gb728) (o := .cells #[.int .i64 a0_0, .int .i64 a0_1] 25 (0, 0)) (kv_ BK728)); have NB729_728 := nc_ hg (blk_lt (g := gb728) (o := .cells #[.int .i64 a0_0, .int .i64 a0_1] 25 (0, 0)) (kv_ BK728)); replace BK728 := kb_ BK728 hb; clear hb hbox hg; have hnb10 := NB728_729.out; have hnc10 := NB729_728.out; obtain ⟨hcz11_0, hcz11_1, hfz11_0, hfz11_1⟩ := c2_ BK728) | ((with_reducible refine gate_callee (f := 31) rfl ?_); refine gl_ 7 Try.func31 #[.agg #[.int .i64 a0_0, .int .i64 a0_1]] rfl mp_ ?_; (with_reducible refine (spec_IsTable.calls a0_0 a0_1 true _ A3.out).mono ?_); rintro e w12 ⟨rfl, hb⟩; refine ⟨_, rfl, ?_⟩; replace BK728 := kb_ BK728 hb; replace BK729 := kb_ BK729 hb; replace HB := Aside0.mk (below_step (bv2_ HB GE728 GE729) hb); (try clear hb); (try clear hb2); (try clear hk); (try clear hi); obtain ⟨hcz13_0, hcz13_1, hfz13_0, hfz13_1⟩ := c2_ BK728) | (go_at_call 48; (with_reducible refine (spec_l3Perm.calls k _ _ l1 a0_0 true _ ?side1 ?side2 A5.out).mono ?_); (case side1 => exact cv_ (Kd.C_below HR1.out HB.out)); (case side2 => exact HC1.out); rintro e w' ⟨rfl, ⟨nd, rfl⟩⟩; (try (rw [drewN_self w12]; generalize hq_ : World.drewN w12 _ = w12; have n0_ : Aside0 (w12.heap[gb728]? = some (.cells #[.int .i64 a0_0, .int .i64 a0_1] 25 (0, 0))) := ⟨by rw [← hq_]; exact (kv_ BK728)⟩; have n1_ : Aside0 (w12.heap[gb729]? = some (.cells #[.int .i64 0, .int .i64 0] 25 (0, 0))) := ⟨by rw [← hq_]; exact (kv_ BK729)⟩; have n2_ : Aside0 (Below w.heap.size w w12) := ⟨by rw [← hq_]; exact (bv2_ HB GE728 GE729)⟩; clear BK728 BK729 HB hq_; have BK728 := n0_; have BK729 := n1_; have HB := n2_; clear n0_ n1_ n2_)); have hczp_0 : w12.cell? ⟨gb728, 0, none⟩ = some (.int .i64 a0_0) := (blk_cell BK728.out 0).trans rfl; have hczp_1 : w12.cell? ⟨gb728, 1, none⟩ = some (.int .i64 a0_1) := (blk_cell BK728.out 1).trans rfl) | ((with_reducible refine gate_callee (f := 49) rfl ?_); refine gl_ 19 Try.func49 #[.agg #[.int .i64 a0_0, .int .i64 a0_1], .slice A1 l1.length c1] rfl mp_ ?_; (with_reducible refine (spec_l3Permute.calls k a0_0 a0_1 _ _ l1 t732 t733 _ ?side1 ?side2 A7.out).mono ?_); (case side1 => exact cv_ (Kd.C_below HR1.out HB.out)); (case side2 => exact HC1.out); rintro e w14 ⟨rfl, hb⟩; refine ⟨_, rfl, ?_⟩; replace BK728 := kb_ BK728 hb; replace BK729 := kb_ BK729 hb; replace HB := Aside0.mk (below_step (bv2_ HB GE728 GE729) hb); (try clear hb); (try clear hb2); (try clear hk); (try clear hi); obtain ⟨hcz15_0, hcz15_1, hfz15_0, hfz15_1⟩ := c2_ BK729))
   refine bodyPost_ret (results_ct rfl _ _ gb729 25 #[.int .i64 t732, .int .i64 t733] (0, 0) _ rfl (by (with_reducible repeat (first | refine blk_drewN ?_ _ | refine blk_drew ?_ | refine blk_alloc ?_ _)); refine blk_put (cs := #[.int .i64 t732, .int .i64 0]) ?_ 1 _ rfl; (with_reducible repeat (first | refine blk_drewN ?_ _ | refine blk_drew ?_ | refine blk_alloc ?_ _)); refine blk_put (cs := #[.int .i64 0, .int .i64 0]) ?_ 0 _ rfl; (with_reducible repeat (first | refine blk_drewN ?_ _ | refine blk_drew ?_ | refine blk_alloc ?_ _)); exact BK729.out) Try.underlying25 rfl (by kernel_rfl)) rfl ?_
   exact ⟨er_, bv2_ HB GE728 GE729⟩
  ·replace c6 := Bool.eq_false_iff.mpr c6
   subst c6
   rw [if_neg (show ¬ (false = true) by decide)] at H
   simp only [Option.some.injEq, Prod.mk.injEq] at H
   obtain ⟨rfl, rfl, rfl⟩ := H
   go_enter Try.func17, Try.ntmps17
   go_wp2_with (first | ((with_reducible refine gate_dst (N := 2) rfl ?_); refine bx_ 2 #[.int .i64 a0_0, .int .i64 a0_1] 25 ?_; intro gb728 hg w16 hbox hb; have BK728 := Aside0.mk (hbox); have GW728 := gw_ hg (below_size (bv_ HB)); have GE728 := GW728; replace HB := Aside0.mk (below_step (bv_ HB) hb); clear hb hbox hg) | ((with_reducible refine gate_dst (N := 4) rfl ?_); refine bx_ 4 #[.int .i64 0, .int .i64 0] 25 ?_; intro gb729 hg w17 hbox hb; have BK729 := Aside0.mk (hbox); have GW729 := gw_ hg (below_size (bv1_ HB GE728)); have GE729 := GW729; replace HB := Aside0.mk (below_step (bv1_ HB GE728) hb); have NB728_729 := nb_ hg (blk_lt (g := gb728) (o := .cells #[.int .i64 a0_0, .int .i64 a0_1] 25 (0, 0)) (kv_ BK728)); have NB729_728 := nc_ hg (blk_lt (g := gb728) (o := .cells #[.int .i64 a0_0, .int .i64 a0_1] 25 (0, 0)) (kv_ BK728)); replace BK728 := kb_ BK728 hb; clear hb hbox hg; have hnb18 := NB728_729.out; have hnc18 := NB729_728.out; obtain ⟨hcz19_0, hcz19_1, hfz19_0, hfz19_1⟩ := c2_ BK728) | ((with_reducible refine gate_callee (f := 31) rfl ?_); refine gl_ 7 Try.func31 #[.agg #[.int .i64 a0_0, .int .i64 a0_1]] rfl mp_ ?_; (with_reducible refine (spec_IsTable.calls a0_0 a0_1 true _ A3.out).mono ?_); rintro e w20 ⟨rfl, hb⟩; refine ⟨_, rfl, ?_⟩; replace BK728 := kb_ BK728 hb; replace BK729 := kb_ BK729 hb; replace HB := Aside0.mk (below_step (bv2_ HB GE728 GE729) hb); (try clear hb); (try clear hb2); (try clear hk); (try clear hi); obtain ⟨hcz21_0, hcz21_1, hfz21_0, hfz21_1⟩ := c2_ BK728) | (go_at_call 48; (with_reducible refine (spec_l3Perm.calls k _ _ l1 a0_0 false _ ?side1 ?side2 A5.out).mono ?_); (case side1 => exact cv_ (Kd.C_below HR1.out HB.out)); (case side2 => exact HC1.out); rintro e w' ⟨rfl, ⟨nd, rfl⟩⟩; (try (rw [drewN_self w20]; generalize hq_ : World.drewN w20 _ = w20; have n0_ : Aside0 (w20.heap[gb728]? = some (.cells #[.int .i64 a0_0, .int .i64 a0_1] 25 (0, 0))) := ⟨by rw [← hq_]; exact (kv_ BK728)⟩; have n1_ : Aside0 (w20.heap[gb729]? = some (.cells #[.int .i64 0, .int .i64 0] 25 (0, 0))) := ⟨by rw [← hq_]; exact (kv_ BK729)⟩; have n2_ : Aside0 (Below w.heap.size w w20) := ⟨by rw [← hq_]; exact (bv2_ HB GE728 GE729)⟩; clear BK728 BK729 HB hq_; have BK728 := n0_; have BK729 := n1_; have HB := n2_; clear n0_ n1_ n2_)); obtain ⟨hcz22_0, hcz22_1, hfz22_0, hfz22_1⟩ := c2_ BK729))
   refine bodyPost_ret (results_ct rfl _ _ gb729 25 #[.int .i64 0, .int .i64 0] (0, 0) _ rfl (by (with_reducible repeat (first | refine blk_drewN ?_ _ | refine blk_drew ?_ | refine blk_alloc ?_ _)); refine blk_put (cs := #[.int .i64 0, .int .i64 0]) ?_ 1 _ rfl; (with_reducible repeat (first | refine blk_drewN ?_ _ | refine blk_drew ?_ | refine blk_alloc ?_ _)); refine blk_put (cs := #[.int .i64 0, .int .i64 0]) ?_ 0 _ rfl; (with_reducible repeat (first | refine blk_drewN ?_ _ | refine blk_drew ?_ | refine blk_alloc ?_ _)); exact BK729.out) Try.underlying25 rfl (by kernel_rfl)) rfl ?_
   exact ⟨er_, bv2_ HB GE728 GE729⟩
 ·replace c4 := Bool.eq_false_iff.mpr c4
  subst c4
  rw [if_neg (show ¬ (false = true) by decide)] at H
  simp only [Option.some.injEq, Prod.mk.injEq] at H
  obtain ⟨rfl, rfl, rfl⟩ := H
  go_enter Try.func17, Try.ntmps17
  go_wp2_with (first | ((with_reducible refine gate_dst (N := 2) rfl ?_); refine bx_ 2 #[.int .i64 a0_0, .int .i64 a0_1] 25 ?_; intro gb728 hg w23 hbox hb; have BK728 := Aside0.mk (hbox); have GW728 := gw_ hg (below_size (bv_ HB)); have GE728 := GW728; replace HB := Aside0.mk (below_step (bv_ HB) hb); clear hb hbox hg) | ((with_reducible refine gate_dst (N := 4) rfl ?_); refine bx_ 4 #[.int .i64 0, .int .i64 0] 25 ?_; intro gb729 hg w24 hbox hb; have BK729 := Aside0.mk (hbox); have GW729 := gw_ hg (below_size (bv1_ HB GE728)); have GE729 := GW729; replace HB := Aside0.mk (below_step (bv1_ HB GE728) hb); have NB728_729 := nb_ hg (blk_lt (g := gb728) (o := .cells #[.int .i64 a0_0, .int .i64 a0_1] 25 (0, 0)) (kv_ BK728)); have NB729_728 := nc_ hg (blk_lt (g := gb728) (o := .cells #[.int .i64 a0_0, .int .i64 a0_1] 25 (0, 0)) (kv_ BK728)); replace BK728 := kb_ BK728 hb; clear hb hbox hg; have hnb25 := NB728_729.out; have hnc25 := NB729_728.out; obtain ⟨hcz26_0, hcz26_1, hfz26_0, hfz26_1⟩ := c2_ BK728) | ((with_reducible refine gate_callee (f := 31) rfl ?_); refine gl_ 7 Try.func31 #[.agg #[.int .i64 a0_0, .int .i64 a0_1]] rfl mp_ ?_; (with_reducible refine (spec_IsTable.calls a0_0 a0_1 false _ A3.out).mono ?_); rintro e w27 ⟨rfl, hb⟩; refine ⟨_, rfl, ?_⟩; replace BK728 := kb_ BK728 hb; replace BK729 := kb_ BK729 hb; replace HB := Aside0.mk (below_step (bv2_ HB GE728 GE729) hb); (try clear hb); (try clear hb2); (try clear hk); (try clear hi); obtain ⟨hcz28_0, hcz28_1, hfz28_0, hfz28_1⟩ := c2_ BK729))
  refine bodyPost_ret (results_ct rfl _ _ gb729 25 #[.int .i64 0, .int .i64 0] (0, 0) _ rfl (by (with_reducible repeat (first | refine blk_drewN ?_ _ | refine blk_drew ?_ | refine blk_alloc ?_ _)); refine blk_put (cs := #[.int .i64 0, .int .i64 0]) ?_ 1 _ rfl; (with_reducible repeat (first | refine blk_drewN ?_ _ | refine blk_drew ?_ | refine blk_alloc ?_ _)); refine blk_put (cs := #[.int .i64 0, .int .i64 0]) ?_ 0 _ rfl; (with_reducible repeat (first | refine blk_drewN ?_ _ | refine blk_drew ?_ | refine blk_alloc ?_ _)); exact BK729.out) Try.underlying25 rfl (by kernel_rfl)) rfl ?_
  exact ⟨er_, bv2_ HB GE728 GE729⟩


/-! ### laws_at: function 18 -/
def laws_at.f (l0 : List Int) (a1 : Int) : Option (Int) := if a1 < (l0.length : Int) then (if 0 ≤ a1 then (some (wrap64 (rd l0 a1))) else (none)) else (some (Int.tmod (wrap64 ((wrap64 (a1 * 37)) + (wrap64 ((l0.length : Int) * 11)))) 256))
set_option maxHeartbeats 8000000 in
set_option maxRecDepth 100000 in
theorem laws_at.calls (A0 : Option Addr) (c0 : Nat) (l0 : List Int) (a1 : Int) (r : Int) (w : World) (hr0 : Kd.C (Kd.int .u8) w A0 l0.length l0) (hc0 : l0.length ≤ c0) (h : laws_at.f l0 a1 = some r) :
  Calls Try.prog 18 #[.slice A0 l0.length c0, .int .i64 a1] w fun e w' => e = .returned (.int .i64 r) ∧ Drawn0 w w' := by
 have HR0 := Aside0.mk hr0
 have HC0 := Aside0.mk hc0
 clear hr0 hc0
 have H : (if a1 < (l0.length : Int) then (if 0 ≤ a1 then (some (wrap64 (rd l0 a1))) else (none)) else (some (Int.tmod (wrap64 ((wrap64 (a1 * 37)) + (wrap64 ((l0.length : Int) * 11)))) 256))) = some r := h
 clear h
 by_cases c3 : a1 < (l0.length : Int)
 ·rw [if_pos c3] at H
  have c3b0 : decide (a1 < (l0.length : Int)) = true := decide_eq_true c3
  clear c3
  by_cases c4 : 0 ≤ a1
  ·rw [if_pos c4] at H
   have c4b0 : decide (0 ≤ a1) = true := decide_eq_true c4
   clear c4
   obtain rfl := Option.some.inj H
   have p734 : 0 ≤ (a1 : Int) := of_decide_eq_true (by first | (with_reducible assumption) | assumption)
   have q734 : a1 < (l0.length : Int) := of_decide_eq_true (by first | (with_reducible assumption) | assumption)
   obtain ⟨ad734, e734, hx734_0⟩ := Kd.at_int HR0.out a1 p734 q734
   cases e734
   replace p734 := eq_true p734
   replace q734 := eq_true q734
   go_enter Try.func18, Try.ntmps18
   go_wp2
   go_ret
   exact ⟨by first | rfl | (simp; done) | (simp [*]; done), by repeat (first | exact Drawn0.refl _ | apply Drawn0.step)⟩
  ·rw [if_neg c4] at H
   exact absurd H (by simp)
 ·rw [if_neg c3] at H
  have c3b0 : decide (a1 < (l0.length : Int)) = false := decide_eq_false c3
  clear c3
  obtain rfl := Option.some.inj H
  go_enter Try.func18, Try.ntmps18
  go_wp2
  go_ret
  exact ⟨by first | rfl | (simp; done) | (simp [*]; done), by repeat (first | exact Drawn0.refl _ | apply Drawn0.step)⟩


/-! ### spec_ShiftTable: function 19 -/
def spec_ShiftTable.f (k : Nat) (a0_0 : Int) (a0_1 : Int) (a1 : Int) : Option (Int × Int × Bool) := (spec_IsTable.f a0_0 a0_1).bind fun t737 => (if t737 = true then (if 0 ≤ a0_0 then ((spec_l1In.f a1 0 (wrap64 ((shl .i64 1 a0_0) - 1))).bind fun t738 => (if t738 = true then ((spec_l3Shift.f k a0_0 a0_1 a1).bind fun bt739 => (some (bt739.1, bt739.2, true))) else (some (0, 0, false)))) else (none)) else (some (0, 0, false)))
theorem spec_ShiftTable.mono : ∀ a0 a1 a2 k, LeO (spec_ShiftTable.f k a0 a1 a2) (spec_ShiftTable.f (k + 1) a0 a1 a2) := by
 intro a0 a1 a2 k
 unfold spec_ShiftTable.f
 repeat' first
   | (with_reducible exact spec_l3Shift.mono _ _ _ _)
   | (with_reducible exact LeO.refl _)
   | (with_reducible exact LeO.none _)
   | (with_reducible refine LeO.ite ?_ ?_)
   | (with_reducible refine LeO.bind ?_ (fun _ => ?_))
   | exact spec_l3Shift.mono _ _ _ _
   | exact LeO.none _
   | refine LeO.ite ?_ ?_
   | refine LeO.bind ?_ (fun _ => ?_)
set_option maxHeartbeats 8000000 in
set_option maxRecDepth 100000 in
theorem spec_ShiftTable.calls (k : Nat) (a0_0 : Int) (a0_1 : Int) (a1 : Int) (r1 : Int) (r2 : Int) (r3 : Bool) (w : World) (h : spec_ShiftTable.f k a0_0 a0_1 a1 = some (r1, r2, r3)) :
  Calls Try.prog 19 #[.agg #[.int .i64 a0_0, .int .i64 a0_1], .int .i64 a1] w fun e w' => e = .returned (.tuple #[.agg #[.int .i64 r1, .int .i64 r2], .bool r3]) ∧ Below w.heap.size w w' := by
 have hu25 := Try.underlying25
 have HB := Aside0.mk (Below.refl w.heap.size w)
 have H : ((spec_IsTable.f a0_0 a0_1).bind fun t737 => (if t737 = true then (if 0 ≤ a0_0 then ((spec_l1In.f a1 0 (wrap64 ((shl .i64 1 a0_0) - 1))).bind fun t738 => (if t738 = true then ((spec_l3Shift.f k a0_0 a0_1 a1).bind fun bt739 => (some (bt739.1, bt739.2, true))) else (some (0, 0, false)))) else (none)) else (some (0, 0, false)))) = some (r1, r2, r3) := h
 clear h
 replace H := Option.bind_eq_some_iff.mp H
 obtain ⟨t737, A30, H⟩ := H
 have A3 := Aside0.mk A30
 clear A30
 by_cases c4 : t737 = true
 ·subst c4
  rw [if_pos rfl] at H
  by_cases c5 : 0 ≤ a0_0
  ·rw [if_pos c5] at H
   have c5b0 := eq_true c5
   have c5b1 : decide (0 ≤ a0_0) = true := decide_eq_true c5
   clear c5
   obtain ⟨ji6, hji6⟩ : ∃ j_ : Int, (shl .i64 1 a0_0) = j_ := ⟨_, rfl⟩
   replace H : ((spec_l1In.f a1 0 (wrap64 ((ji6) - 1))).bind fun t738 => (if t738 = true then ((spec_l3Shift.f k a0_0 a0_1 a1).bind fun bt739 => (some (bt739.1, bt739.2, true))) else (some (0, 0, false)))) = some (r1, r2, r3) := by first | (rw [hji6] at H; exact H) | (simp only [hji6] at H ⊢; exact H)
   (try rw [hji6] at A3)
   have hji6_ : (IntKind.i64.wrap (1 * 2 ^ min a0_0.toNat 64)) = ji6 := hji6
   have hji6z : a0_0 ≤ 64 → (IntKind.i64.wrap (1 * 2 ^ a0_0.toNat)) = ji6 := shl_small hji6
   have hji6u : (IntKind.i64.wrap (2 ^ min a0_0.toNat 64)) = ji6 := by have h_ := hji6_; rw [Int.one_mul] at h_; exact h_
   have hji6v : a0_0 ≤ 64 → (IntKind.i64.wrap (2 ^ a0_0.toNat)) = ji6 := fun hle_ => by have h_ := hji6z hle_; rw [Int.one_mul] at h_; exact h_
   have hji6y : (wrap64 (1 * 2 ^ min a0_0.toNat 64)) = ji6 := (i64_w _).symm.trans hji6_
   have hji6x : a0_0 ≤ 64 → (wrap64 (1 * 2 ^ a0_0.toNat)) = ji6 := fun h_ => (i64_w _).symm.trans (hji6z h_)
   replace H := Option.bind_eq_some_iff.mp H
   obtain ⟨t738, A70, H⟩ := H
   have A7 := Aside0.mk A70
   clear A70
   by_cases c8 : t738 = true
   ·subst c8
    rw [if_pos rfl] at H
    replace H := Option.bind_eq_some_iff.mp H
    obtain ⟨⟨t739, t740⟩, A90, H⟩ := H
    replace H : (some (t739, t740, true)) = some (r1, r2, r3) := H
    have A9 := Aside0.mk A90
    clear A90
    simp only [Option.some.injEq, Prod.mk.injEq] at H
    obtain ⟨rfl, rfl, rfl⟩ := H
    go_enter Try.func19, Try.ntmps19
    go_wp2_with (first | ((with_reducible refine gate_dst (N := 2) rfl ?_); refine bx_ 2 #[.int .i64 a0_0, .int .i64 a0_1] 25 ?_; intro gb735 hg w10 hbox hb; have BK735 := Aside0.mk (hbox); have GW735 := gw_ hg (below_size (bv_ HB)); have GE735 := GW735; replace HB := Aside0.mk (below_step (bv_ HB) hb); clear hb hbox hg) | ((with_reducible refine gate_dst (N := 4) rfl ?_); refine bx_ 4 #[.int .i64 0, .int .i64 0] 25 ?_; intro gb736 hg w11 hbox hb; have BK736 := Aside0.mk (hbox); have GW736 := gw_ hg (below_size (bv1_ HB GE735)); have GE736 := GW736; replace HB := Aside0.mk (below_step (bv1_ HB GE735) hb); have NB735_736 := nb_ hg (blk_lt (g := gb735) (o := .cells #[.int .i64 a0_0, .int .i64 a0_1] 25 (0, 0)) (kv_ BK735)); have NB736_735 := nc_ hg (blk_lt (g := gb735) (o := .cells #[.int .i64 a0_0, .int .i64 a0_1] 25 (0, 0)) (kv_ BK735)); replace BK735 := kb_ BK735 hb; clear hb hbox hg; have hnb12 := NB735_736.out; have hnc12 := NB736_735.out; obtain ⟨hcz13_0, hcz13_1, hfz13_0, hfz13_1⟩ := c2_ BK735) | ((with_reducible refine gate_callee (f := 31) rfl ?_); refine gl_ 7 Try.func31 #[.agg #[.int .i64 a0_0, .int .i64 a0_1]] rfl mp_ ?_; (with_reducible refine (spec_IsTable.calls a0_0 a0_1 true _ A3.out).mono ?_); rintro e w14 ⟨rfl, hb⟩; refine ⟨_, rfl, ?_⟩; replace BK735 := kb_ BK735 hb; replace BK736 := kb_ BK736 hb; replace HB := Aside0.mk (below_step (bv2_ HB GE735 GE736) hb); (try clear hb); (try clear hb2); (try clear hk); (try clear hi); obtain ⟨hcz15_0, hcz15_1, hfz15_0, hfz15_1⟩ := c2_ BK735) | (go_at_call 50; (with_reducible refine (spec_l1In.calls a1 0 (wrap64 ((ji6) - 1)) true _ A7.out).mono ?_); rintro e w' ⟨rfl, ⟨nd, rfl⟩⟩; (try (rw [drewN_self w14]; generalize hq_ : World.drewN w14 _ = w14; have n0_ : Aside0 (w14.heap[gb735]? = some (.cells #[.int .i64 a0_0, .int .i64 a0_1] 25 (0, 0))) := ⟨by rw [← hq_]; exact (kv_ BK735)⟩; have n1_ : Aside0 (w14.heap[gb736]? = some (.cells #[.int .i64 0, .int .i64 0] 25 (0, 0))) := ⟨by rw [← hq_]; exact (kv_ BK736)⟩; have n2_ : Aside0 (Below w.heap.size w w14) := ⟨by rw [← hq_]; exact (bv2_ HB GE735 GE736)⟩; clear BK735 BK736 HB hq_; have BK735 := n0_; have BK736 := n1_; have HB := n2_; clear n0_ n1_ n2_)); have hczp_0 : w14.cell? ⟨gb735, 0, none⟩ = some (.int .i64 a0_0) := (blk_cell BK735.out 0).trans rfl; have hczp_1 : w14.cell? ⟨gb735, 1, none⟩ = some (.int .i64 a0_1) := (blk_cell BK735.out 1).trans rfl) | ((with_reducible refine gate_callee (f := 51) rfl ?_); refine gl_ 21 Try.func51 #[.agg #[.int .i64 a0_0, .int .i64 a0_1], .int .i64 a1] rfl mp_ ?_; (with_reducible refine (spec_l3Shift.calls k a0_0 a0_1 a1 t739 t740 _ A9.out).mono ?_); rintro e w16 ⟨rfl, hb⟩; refine ⟨_, rfl, ?_⟩; replace BK735 := kb_ BK735 hb; replace BK736 := kb_ BK736 hb; replace HB := Aside0.mk (below_step (bv2_ HB GE735 GE736) hb); (try clear hb); (try clear hb2); (try clear hk); (try clear hi); obtain ⟨hcz17_0, hcz17_1, hfz17_0, hfz17_1⟩ := c2_ BK736))
    refine bodyPost_ret (results_ct rfl _ _ gb736 25 #[.int .i64 t739, .int .i64 t740] (0, 0) _ rfl (by (with_reducible repeat (first | refine blk_drewN ?_ _ | refine blk_drew ?_ | refine blk_alloc ?_ _)); refine blk_put (cs := #[.int .i64 t739, .int .i64 0]) ?_ 1 _ rfl; (with_reducible repeat (first | refine blk_drewN ?_ _ | refine blk_drew ?_ | refine blk_alloc ?_ _)); refine blk_put (cs := #[.int .i64 0, .int .i64 0]) ?_ 0 _ rfl; (with_reducible repeat (first | refine blk_drewN ?_ _ | refine blk_drew ?_ | refine blk_alloc ?_ _)); exact BK736.out) Try.underlying25 rfl (by kernel_rfl)) rfl ?_
    exact ⟨by first | rfl | (simp [errW_none, errW_some] <;> rfl) | (simp only [← hji6]; first | rfl | (simp [errW_none, errW_some] <;> rfl)) | (simp [*, errW_none, errW_some] <;> rfl), bv2_ HB GE735 GE736⟩
   ·replace c8 := Bool.eq_false_iff.mpr c8
    subst c8
    rw [if_neg (show ¬ (false = true) by decide)] at H
    simp only [Option.some.injEq, Prod.mk.injEq] at H
    obtain ⟨rfl, rfl, rfl⟩ := H
    go_enter Try.func19, Try.ntmps19
    go_wp2_with (first | ((with_reducible refine gate_dst (N := 2) rfl ?_); refine bx_ 2 #[.int .i64 a0_0, .int .i64 a0_1] 25 ?_; intro gb735 hg w18 hbox hb; have BK735 := Aside0.mk (hbox); have GW735 := gw_ hg (below_size (bv_ HB)); have GE735 := GW735; replace HB := Aside0.mk (below_step (bv_ HB) hb); clear hb hbox hg) | ((with_reducible refine gate_dst (N := 4) rfl ?_); refine bx_ 4 #[.int .i64 0, .int .i64 0] 25 ?_; intro gb736 hg w19 hbox hb; have BK736 := Aside0.mk (hbox); have GW736 := gw_ hg (below_size (bv1_ HB GE735)); have GE736 := GW736; replace HB := Aside0.mk (below_step (bv1_ HB GE735) hb); have NB735_736 := nb_ hg (blk_lt (g := gb735) (o := .cells #[.int .i64 a0_0, .int .i64 a0_1] 25 (0, 0)) (kv_ BK735)); have NB736_735 := nc_ hg (blk_lt (g := gb735) (o := .cells #[.int .i64 a0_0, .int .i64 a0_1] 25 (0, 0)) (kv_ BK735)); replace BK735 := kb_ BK735 hb; clear hb hbox hg; have hnb20 := NB735_736.out; have hnc20 := NB736_735.out; obtain ⟨hcz21_0, hcz21_1, hfz21_0, hfz21_1⟩ := c2_ BK735) | ((with_reducible refine gate_callee (f := 31) rfl ?_); refine gl_ 7 Try.func31 #[.agg #[.int .i64 a0_0, .int .i64 a0_1]] rfl mp_ ?_; (with_reducible refine (spec_IsTable.calls a0_0 a0_1 true _ A3.out).mono ?_); rintro e w22 ⟨rfl, hb⟩; refine ⟨_, rfl, ?_⟩; replace BK735 := kb_ BK735 hb; replace BK736 := kb_ BK736 hb; replace HB := Aside0.mk (below_step (bv2_ HB GE735 GE736) hb); (try clear hb); (try clear hb2); (try clear hk); (try clear hi); obtain ⟨hcz23_0, hcz23_1, hfz23_0, hfz23_1⟩ := c2_ BK735) | (go_at_call 50; (with_reducible refine (spec_l1In.calls a1 0 (wrap64 ((ji6) - 1)) false _ A7.out).mono ?_); rintro e w' ⟨rfl, ⟨nd, rfl⟩⟩; (try (rw [drewN_self w22]; generalize hq_ : World.drewN w22 _ = w22; have n0_ : Aside0 (w22.heap[gb735]? = some (.cells #[.int .i64 a0_0, .int .i64 a0_1] 25 (0, 0))) := ⟨by rw [← hq_]; exact (kv_ BK735)⟩; have n1_ : Aside0 (w22.heap[gb736]? = some (.cells #[.int .i64 0, .int .i64 0] 25 (0, 0))) := ⟨by rw [← hq_]; exact (kv_ BK736)⟩; have n2_ : Aside0 (Below w.heap.size w w22) := ⟨by rw [← hq_]; exact (bv2_ HB GE735 GE736)⟩; clear BK735 BK736 HB hq_; have BK735 := n0_; have BK736 := n1_; have HB := n2_; clear n0_ n1_ n2_)); obtain ⟨hcz24_0, hcz24_1, hfz24_0, hfz24_1⟩ := c2_ BK736))
    refine bodyPost_ret (results_ct rfl _ _ gb736 25 #[.int .i64 0, .int .i64 0] (0, 0) _ rfl (by (with_reducible repeat (first | refine blk_drewN ?_ _ | refine blk_drew ?_ | refine blk_alloc ?_ _)); refine blk_put (cs := #[.int .i64 0, .int .i64 0]) ?_ 1 _ rfl; (with_reducible repeat (first | refine blk_drewN ?_ _ | refine blk_drew ?_ | refine blk_alloc ?_ _)); refine blk_put (cs := #[.int .i64 0, .int .i64 0]) ?_ 0 _ rfl; (with_reducible repeat (first | refine blk_drewN ?_ _ | refine blk_drew ?_ | refine blk_alloc ?_ _)); exact BK736.out) Try.underlying25 rfl (by kernel_rfl)) rfl ?_
    exact ⟨by first | rfl | (simp [errW_none, errW_some] <;> rfl) | (simp only [← hji6]; first | rfl | (simp [errW_none, errW_some] <;> rfl)) | (simp [*, errW_none, errW_some] <;> rfl), bv2_ HB GE735 GE736⟩
  ·rw [if_neg c5] at H
   exact absurd H (by simp)
 ·replace c4 := Bool.eq_false_iff.mpr c4
  subst c4
  rw [if_neg (show ¬ (false = true) by decide)] at H
  simp only [Option.some.injEq, Prod.mk.injEq] at H
  obtain ⟨rfl, rfl, rfl⟩ := H
  go_enter Try.func19, Try.ntmps19
  go_wp2_with (first | ((with_reducible refine gate_dst (N := 2) rfl ?_); refine bx_ 2 #[.int .i64 a0_0, .int .i64 a0_1] 25 ?_; intro gb735 hg w25 hbox hb; have BK735 := Aside0.mk (hbox); have GW735 := gw_ hg (below_size (bv_ HB)); have GE735 := GW735; replace HB := Aside0.mk (below_step (bv_ HB) hb); clear hb hbox hg) | ((with_reducible refine gate_dst (N := 4) rfl ?_); refine bx_ 4 #[.int .i64 0, .int .i64 0] 25 ?_; intro gb736 hg w26 hbox hb; have BK736 := Aside0.mk (hbox); have GW736 := gw_ hg (below_size (bv1_ HB GE735)); have GE736 := GW736; replace HB := Aside0.mk (below_step (bv1_ HB GE735) hb); have NB735_736 := nb_ hg (blk_lt (g := gb735) (o := .cells #[.int .i64 a0_0, .int .i64 a0_1] 25 (0, 0)) (kv_ BK735)); have NB736_735 := nc_ hg (blk_lt (g := gb735) (o := .cells #[.int .i64 a0_0, .int .i64 a0_1] 25 (0, 0)) (kv_ BK735)); replace BK735 := kb_ BK735 hb; clear hb hbox hg; have hnb27 := NB735_736.out; have hnc27 := NB736_735.out; obtain ⟨hcz28_0, hcz28_1, hfz28_0, hfz28_1⟩ := c2_ BK735) | ((with_reducible refine gate_callee (f := 31) rfl ?_); refine gl_ 7 Try.func31 #[.agg #[.int .i64 a0_0, .int .i64 a0_1]] rfl mp_ ?_; (with_reducible refine (spec_IsTable.calls a0_0 a0_1 false _ A3.out).mono ?_); rintro e w29 ⟨rfl, hb⟩; refine ⟨_, rfl, ?_⟩; replace BK735 := kb_ BK735 hb; replace BK736 := kb_ BK736 hb; replace HB := Aside0.mk (below_step (bv2_ HB GE735 GE736) hb); (try clear hb); (try clear hb2); (try clear hk); (try clear hi); obtain ⟨hcz30_0, hcz30_1, hfz30_0, hfz30_1⟩ := c2_ BK736))
  refine bodyPost_ret (results_ct rfl _ _ gb736 25 #[.int .i64 0, .int .i64 0] (0, 0) _ rfl (by (with_reducible repeat (first | refine blk_drewN ?_ _ | refine blk_drew ?_ | refine blk_alloc ?_ _)); refine blk_put (cs := #[.int .i64 0, .int .i64 0]) ?_ 1 _ rfl; (with_reducible repeat (first | refine blk_drewN ?_ _ | refine blk_drew ?_ | refine blk_alloc ?_ _)); refine blk_put (cs := #[.int .i64 0, .int .i64 0]) ?_ 0 _ rfl; (with_reducible repeat (first | refine blk_drewN ?_ _ | refine blk_drew ?_ | refine blk_alloc ?_ _)); exact BK736.out) Try.underlying25 rfl (by kernel_rfl)) rfl ?_
  exact ⟨er_, bv2_ HB GE735 GE736⟩


section
attribute [local go_sem high] eqA25
/-! ### spec_NotTable: function 20 -/
def spec_NotTable.f (a0_0 : Int) (a0_1 : Int) : Option (Int × Int × Bool) := (spec_IsTable.f a0_0 a0_1).bind fun t743 => (if t743 = true then ((spec_l2Full.f a0_0).bind fun t744 => (some (a0_0, wrap64 (t744 - a0_1), true))) else (some (0, 0, false)))
def spec_NotTable.T3 : Bool × List (List Nat × List Nat) := (true, [([], []), ([0], [0]), ([], []), ([2], [2]), ([3], [3]), ([], []), ([5], [5]), ([4, 6], [4, 6]), ([1, 7], [1, 7]), ([8, 4, 0, 1, 2, 3, 4, 5, 6, 7, 8], [8]), ([9, 0, 1, 2, 3, 4, 5, 6, 7, 8, 9], [])])
def spec_NotTable.B3 : List Nat := [0, 1, 0, 4, 12, 0, 32, 124, 255, 511, 1023]
theorem spec_NotTable.tab3 : rtab .any (opsOf Try.f20 3) = spec_NotTable.T3 := by kernel_rfl
theorem spec_NotTable.bits3 : waitsOk spec_NotTable.T3.2 spec_NotTable.B3 = true := by kernel_rfl
set_option maxHeartbeats 8000000 in
set_option maxRecDepth 100000 in
theorem spec_NotTable.calls (a0_0 : Int) (a0_1 : Int) (r1 : Int) (r2 : Int) (r3 : Bool) (w : World) (h : spec_NotTable.f a0_0 a0_1 = some (r1, r2, r3)) :
  Calls Try.prog 20 #[.agg #[.int .i64 a0_0, .int .i64 a0_1]] w fun e w' => e = .returned (.tuple #[.agg #[.int .i64 r1, .int .i64 r2], .bool r3]) ∧ Below w.heap.size w w' := by
 have hu25 := Try.underlying25
 have HB := Aside0.mk (Below.refl w.heap.size w)
 have H : ((spec_IsTable.f a0_0 a0_1).bind fun t743 => (if t743 = true then ((spec_l2Full.f a0_0).bind fun t744 => (some (a0_0, wrap64 (t744 - a0_1), true))) else (some (0, 0, false)))) = some (r1, r2, r3) := h
 clear h
 replace H := Option.bind_eq_some_iff.mp H
 obtain ⟨t743, A20, H⟩ := H
 have A2 := Aside0.mk A20
 clear A20
 by_cases c3 : t743 = true
 ·subst c3
  rw [if_pos rfl] at H
  replace H := Option.bind_eq_some_iff.mp H
  obtain ⟨t744, A40, H⟩ := H
  have A4 := Aside0.mk A40
  clear A40
  simp only [Option.some.injEq, Prod.mk.injEq] at H
  obtain ⟨rfl, rfl, rfl⟩ := H
  go_enter Try.func20, Try.ntmps20
  try go_wp2_with (first | ((with_reducible refine gate_dst (N := 1) rfl ?_); refine bx_ 1 #[.int .i64 a0_0, .int .i64 a0_1] 25 ?_; intro gb741 hg w5 hbox hb; have BK741 := Aside0.mk (hbox); have GW741 := gw_ hg (below_size (bv_ HB)); have GE741 := GW741; replace HB := Aside0.mk (below_step (bv_ HB) hb); clear hb hbox hg) | ((with_reducible refine gate_dst (N := 2) rfl ?_); refine bx_ 2 #[.int .i64 0, .int .i64 0] 25 ?_; intro gb742 hg w6 hbox hb; have BK742 := Aside0.mk (hbox); have GW742 := gw_ hg (below_size (bv1_ HB GE741)); have GE742 := GW742; replace HB := Aside0.mk (below_step (bv1_ HB GE741) hb); have NB741_742 := nb_ hg (blk_lt (g := gb741) (o := .cells #[.int .i64 a0_0, .int .i64 a0_1] 25 (0, 0)) (kv_ BK741)); have NB742_741 := nc_ hg (blk_lt (g := gb741) (o := .cells #[.int .i64 a0_0, .int .i64 a0_1] 25 (0, 0)) (kv_ BK741)); replace BK741 := kb_ BK741 hb; clear hb hbox hg; have hnb7 := NB741_742.out; have hnc7 := NB742_741.out; obtain ⟨hcz8_0, hcz8_1, hfz8_0, hfz8_1⟩ := c2_ BK741) | ((with_reducible refine gate_callee (f := 31) rfl ?_); refine gl_ 5 Try.func31 #[.agg #[.int .i64 a0_0, .int .i64 a0_1]] rfl mp_ ?_; (with_reducible refine (spec_IsTable.calls a0_0 a0_1 true _ A2.out).mono ?_); rintro e w9 ⟨rfl, hb⟩; refine ⟨_, rfl, ?_⟩; replace BK741 := kb_ BK741 hb; replace BK742 := kb_ BK742 hb; replace HB := Aside0.mk (below_step (bv2_ HB GE741 GE742) hb); (try clear hb); (try clear hb2); (try clear hk); (try clear hi)))
  replace BK741 := Aside0.mk (blk_drew BK741.out)
  replace BK742 := Aside0.mk (blk_drew BK742.out)
  replace HB := Aside0.mk (below_drew1 HB.out)
  refine start_ (n := 11) (S := fun w' => w'.cell? ⟨gb741, 0, none⟩ = some (.int .i64 a0_0) ∧ w'.cell? ⟨gb741, 1, none⟩ = some (.int .i64 a0_1)) (ds := []) (bs 11 0) (by kernel_rfl) rfl (by kernel_rfl) ⟨(blk_cell BK741.out 0).trans rfl, (blk_cell BK741.out 1).trans rfl⟩ (fun hHeld => ?_); refine with_tabW spec_NotTable.tab3 spec_NotTable.bits3 (fun HT_ HW_ => ?_)
  generalize w9.drew = w10 at BK741 BK742 HB hHeld ⊢
  refine pu_ HT_ 0 8 (bs 11 1) ?_
  refine pu_ HT_ 2 10 (bs 11 5) ?_
  refine pu_ HT_ 5 13 (bs 11 37) ?_
  refine ta2_ HT_ HW_ 1 9 (bs 11 39) hHeld ?_
  refine ta2_ HT_ HW_ 3 11 (bs 11 47) hHeld ?_
  refine ta2_ HT_ HW_ 6 14 (bs 11 111) hHeld ?_
  refine on_ HT_ 4 12 (bs 11 127) (fun K hK => ?_)
  refine goes_ Try.func52 (by kernel_rfl) rfl #[.int .i64 a0_0] (by rfl) rfl rfl mp_ ?_
  with_reducible refine (spec_l2Full.calls a0_0 t744 _ A4.out).mono ?_
  rintro e w' ⟨rfl, ⟨nd, rfl⟩⟩
  refine ⟨_, rfl, ?_⟩
  refine hK.out _ _ ⟨(blk_cell BK741.out 0).trans rfl, (blk_cell BK741.out 1).trans rfl⟩ (fun hHeld => ?_)
  clear hK K
  refine no_ 12 ?_
  refine pu_ HT_ 7 15 (bs 11 255) ?_
  refine pu_ HT_ 8 16 (bs 11 511) ?_
  refine one_ (i := 9) (N := none) (bs 11 1023) rfl rfl (one_of HT_.out (by kernel_rfl)) (by decide) (fun K hK => ?_)
  have hs11 : w10.cell? ⟨gb742, 0, none⟩ = some (.int .i64 0) := (blk_cell BK742.out 0).trans rfl
  have hfs11 := blk_frozen BK742.out 0
  have hns11_0 := NB741_742.out
  have hms11_0 := NB742_741.out
  have hs12 : w10.cell? ⟨gb742, 1, none⟩ = some (.int .i64 0) := (blk_cell BK742.out 1).trans rfl
  have hfs12 := blk_frozen BK742.out 1
  have hns12_0 := NB741_742.out
  have hms12_0 := NB742_741.out
  refine skip_ (w1 := ?_) (by rfl) rfl ?_ ?_
  rotate_left
  ·go_simp
   rfl
  refine hK.out _ _ ⟨((cell_far (p := ⟨gb742, _, none⟩) NB741_742.out _).trans (((cell_far (p := ⟨gb742, _, none⟩) NB741_742.out _).trans (hHeld.1)))), ((cell_far (p := ⟨gb742, _, none⟩) NB741_742.out _).trans (((cell_far (p := ⟨gb742, _, none⟩) NB741_742.out _).trans (hHeld.2))))⟩ (fun hHeld => ?_)
  clear hK K
  refine pu_ HT_ 10 3 (bs 11 2047) ?_
  refine done_ (done_of HT_.out (by kernel_rfl)) ?_
  try go_wp2
  refine bodyPost_ret (results_ct rfl _ _ gb742 25 #[.int .i64 a0_0, .int .i64 (wrap64 (t744 - a0_1))] (0, 0) _ rfl (by (with_reducible repeat (first | refine blk_drewN ?_ _ | refine blk_drew ?_ | refine blk_alloc ?_ _)); refine blk_put (cs := #[.int .i64 a0_0, .int .i64 0]) ?_ 1 _ rfl; (with_reducible repeat (first | refine blk_drewN ?_ _ | refine blk_drew ?_ | refine blk_alloc ?_ _)); refine blk_put (cs := #[.int .i64 0, .int .i64 0]) ?_ 0 _ rfl; (with_reducible repeat (first | refine blk_drewN ?_ _ | refine blk_drew ?_ | refine blk_alloc ?_ _)); exact BK742.out) Try.underlying25 rfl (by kernel_rfl)) rfl ?_
  exact ⟨er_, bv2_ HB GE741 GE742⟩
 ·replace c3 := Bool.eq_false_iff.mpr c3
  subst c3
  rw [if_neg (show ¬ (false = true) by decide)] at H
  simp only [Option.some.injEq, Prod.mk.injEq] at H
  obtain ⟨rfl, rfl, rfl⟩ := H
  go_enter Try.func20, Try.ntmps20
  go_wp2_with (first | ((with_reducible refine gate_dst (N := 1) rfl ?_); refine bx_ 1 #[.int .i64 a0_0, .int .i64 a0_1] 25 ?_; intro gb741 hg w13 hbox hb; have BK741 := Aside0.mk (hbox); have GW741 := gw_ hg (below_size (bv_ HB)); have GE741 := GW741; replace HB := Aside0.mk (below_step (bv_ HB) hb); clear hb hbox hg) | ((with_reducible refine gate_dst (N := 2) rfl ?_); refine bx_ 2 #[.int .i64 0, .int .i64 0] 25 ?_; intro gb742 hg w14 hbox hb; have BK742 := Aside0.mk (hbox); have GW742 := gw_ hg (below_size (bv1_ HB GE741)); have GE742 := GW742; replace HB := Aside0.mk (below_step (bv1_ HB GE741) hb); have NB741_742 := nb_ hg (blk_lt (g := gb741) (o := .cells #[.int .i64 a0_0, .int .i64 a0_1] 25 (0, 0)) (kv_ BK741)); have NB742_741 := nc_ hg (blk_lt (g := gb741) (o := .cells #[.int .i64 a0_0, .int .i64 a0_1] 25 (0, 0)) (kv_ BK741)); replace BK741 := kb_ BK741 hb; clear hb hbox hg; have hnb15 := NB741_742.out; have hnc15 := NB742_741.out; obtain ⟨hcz16_0, hcz16_1, hfz16_0, hfz16_1⟩ := c2_ BK741) | ((with_reducible refine gate_callee (f := 31) rfl ?_); refine gl_ 5 Try.func31 #[.agg #[.int .i64 a0_0, .int .i64 a0_1]] rfl mp_ ?_; (with_reducible refine (spec_IsTable.calls a0_0 a0_1 false _ A2.out).mono ?_); rintro e w17 ⟨rfl, hb⟩; refine ⟨_, rfl, ?_⟩; replace BK741 := kb_ BK741 hb; replace BK742 := kb_ BK742 hb; replace HB := Aside0.mk (below_step (bv2_ HB GE741 GE742) hb); (try clear hb); (try clear hb2); (try clear hk); (try clear hi); obtain ⟨hcz18_0, hcz18_1, hfz18_0, hfz18_1⟩ := c2_ BK742))
  refine bodyPost_ret (results_ct rfl _ _ gb742 25 #[.int .i64 0, .int .i64 0] (0, 0) _ rfl (by (with_reducible repeat (first | refine blk_drewN ?_ _ | refine blk_drew ?_ | refine blk_alloc ?_ _)); refine blk_put (cs := #[.int .i64 0, .int .i64 0]) ?_ 1 _ rfl; (with_reducible repeat (first | refine blk_drewN ?_ _ | refine blk_drew ?_ | refine blk_alloc ?_ _)); refine blk_put (cs := #[.int .i64 0, .int .i64 0]) ?_ 0 _ rfl; (with_reducible repeat (first | refine blk_drewN ?_ _ | refine blk_drew ?_ | refine blk_alloc ?_ _)); exact BK742.out) Try.underlying25 rfl (by kernel_rfl)) rfl ?_
  exact ⟨er_, bv2_ HB GE741 GE742⟩

end

section
attribute [local go_sem high] eqA25
/-! ### impl_AreAlike: function 21 -/
def impl_AreAlike.f (a0_0 : Int) (a0_1 : Int) (a1_0 : Int) (a1_1 : Int) : Option (Bool) := (impl_CanonicalTable.f a0_0 a0_1).bind fun bt747 => ((impl_CanonicalTable.f a1_0 a1_1).bind fun bt751 => (if bt747.2.2 = true then (if bt751.2.2 = true then (some (bt747.1 == bt751.1 && (bt747.2.1 == bt751.2.1))) else (some false)) else (some false)))
set_option maxHeartbeats 8000000 in
set_option maxRecDepth 100000 in
theorem impl_AreAlike.calls (a0_0 : Int) (a0_1 : Int) (a1_0 : Int) (a1_1 : Int) (r : Bool) (w : World) (h : impl_AreAlike.f a0_0 a0_1 a1_0 a1_1 = some r) :
  Calls Try.prog 21 #[.agg #[.int .i64 a0_0, .int .i64 a0_1], .agg #[.int .i64 a1_0, .int .i64 a1_1]] w fun e w' => e = .returned (.bool r) ∧ Below w.heap.size w w' := by
 have hu25 := Try.underlying25
 have HB := Aside0.mk (Below.refl w.heap.size w)
 have H : ((impl_CanonicalTable.f a0_0 a0_1).bind fun bt747 => ((impl_CanonicalTable.f a1_0 a1_1).bind fun bt751 => (if bt747.2.2 = true then (if bt751.2.2 = true then (some (bt747.1 == bt751.1 && (bt747.2.1 == bt751.2.1))) else (some false)) else (some false)))) = some r := h
 clear h
 replace H := Option.bind_eq_some_iff.mp H
 obtain ⟨⟨t747, t748, t749⟩, A30, H⟩ := H
 dsimp only at H
 have A3 := Aside0.mk A30
 clear A30
 replace H := Option.bind_eq_some_iff.mp H
 obtain ⟨⟨t751, t752, t753⟩, A40, H⟩ := H
 replace H : (if t749 = true then (if t753 = true then (some (t747 == t751 && (t748 == t752))) else (some false)) else (some false)) = some r := H
 have A4 := Aside0.mk A40
 clear A40
 by_cases c5 : t749 = true
 ·subst c5
  rw [if_pos rfl] at H
  by_cases c6 : t753 = true
  ·subst c6
   rw [if_pos rfl] at H
   obtain rfl := Option.some.inj H
   go_enter Try.func21, Try.ntmps21
   go_wp2_with (first | ((with_reducible refine gate_dst (N := 2) rfl ?_); refine bx_ 2 #[.int .i64 a0_0, .int .i64 a0_1] 25 ?_; intro gb745 hg w7 hbox hb; have BK745 := Aside0.mk (hbox); have GW745 := gw_ hg (below_size (bv_ HB)); have GE745 := GW745; replace HB := Aside0.mk (below_step (bv_ HB) hb); clear hb hbox hg) | ((with_reducible refine gate_dst (N := 3) rfl ?_); refine bx_ 3 #[.int .i64 a1_0, .int .i64 a1_1] 25 ?_; intro gb746 hg w8 hbox hb; have BK746 := Aside0.mk (hbox); have GW746 := gw_ hg (below_size (bv1_ HB GE745)); have GE746 := GW746; replace HB := Aside0.mk (below_step (bv1_ HB GE745) hb); have NB745_746 := nb_ hg (blk_lt (g := gb745) (o := .cells #[.int .i64 a0_0, .int .i64 a0_1] 25 (0, 0)) (kv_ BK745)); have NB746_745 := nc_ hg (blk_lt (g := gb745) (o := .cells #[.int .i64 a0_0, .int .i64 a0_1] 25 (0, 0)) (kv_ BK745)); replace BK745 := kb_ BK745 hb; clear hb hbox hg; have hnb9 := NB745_746.out; have hnc9 := NB746_745.out; obtain ⟨hcz10_0, hcz10_1, hfz10_0, hfz10_1⟩ := c2_ BK745) | ((with_reducible refine gate_callee (f := 10) rfl ?_); refine gl_ 11 Try.func10 #[.agg #[.int .i64 a0_0, .int .i64 a0_1]] rfl mp_ ?_; (with_reducible refine (impl_CanonicalTable.calls a0_0 a0_1 t747 t748 true _ A3.out).mono ?_); rintro e w11 ⟨rfl, hb⟩; refine ⟨_, rfl, ?_⟩; replace BK745 := kb_ BK745 hb; replace BK746 := kb_ BK746 hb; replace HB := Aside0.mk (below_step (bv2_ HB GE745 GE746) hb); (try clear hb); (try clear hb2); (try clear hk); (try clear hi)) | ((with_reducible refine gate_dst (N := 5) rfl ?_); refine bx_ 5 #[.int .i64 0, .int .i64 0] 25 ?_; intro gb750 hg w12 hbox hb; have BK750 := Aside0.mk (hbox); have GW750 := gw_ hg (below_size (bv2_ HB GE745 GE746)); have GE750 := GW750; replace HB := Aside0.mk (below_step (bv2_ HB GE745 GE746) hb); have NB745_750 := nb_ hg (blk_lt (g := gb745) (o := .cells #[.int .i64 a0_0, .int .i64 a0_1] 25 (0, 0)) (kv_ BK745)); have NB750_745 := nc_ hg (blk_lt (g := gb745) (o := .cells #[.int .i64 a0_0, .int .i64 a0_1] 25 (0, 0)) (kv_ BK745)); replace BK745 := kb_ BK745 hb; have NB746_750 := nb_ hg (blk_lt (g := gb746) (o := .cells #[.int .i64 a1_0, .int .i64 a1_1] 25 (0, 0)) (kv_ BK746)); have NB750_746 := nc_ hg (blk_lt (g := gb746) (o := .cells #[.int .i64 a1_0, .int .i64 a1_1] 25 (0, 0)) (kv_ BK746)); replace BK746 := kb_ BK746 hb; clear hb hbox hg; have hnb13 := NB750_745.out; have hnc13 := NB745_750.out; have hnb14 := NB750_746.out; have hnc14 := NB746_750.out; obtain ⟨hcz15_0, hcz15_1, hfz15_0, hfz15_1⟩ := c2_ BK750; obtain ⟨hcz16_0, hcz16_1, hfz16_0, hfz16_1⟩ := c2_ BK746) | ((with_reducible refine gate_callee (f := 10) rfl ?_); refine gl_ 16 Try.func10 #[.agg #[.int .i64 a1_0, .int .i64 a1_1]] rfl mp_ ?_; (with_reducible refine (impl_CanonicalTable.calls a1_0 a1_1 t751 t752 true _ A4.out).mono ?_); rintro e w17 ⟨rfl, hb⟩; refine ⟨_, rfl, ?_⟩; replace BK745 := Aside0.mk (blk_below (g := gb745) (o := .cells #[.int .i64 a0_0, .int .i64 a0_1] 25 (0, 0)) (by (with_reducible repeat (first | refine blk_drewN ?_ _ | refine blk_drew ?_ | refine blk_alloc ?_ _)); refine blk_far ?_ NB745_750.out _; (with_reducible repeat (first | refine blk_drewN ?_ _ | refine blk_drew ?_ | refine blk_alloc ?_ _)); refine blk_far ?_ NB745_750.out _; (with_reducible repeat (first | refine blk_drewN ?_ _ | refine blk_drew ?_ | refine blk_alloc ?_ _)); exact BK745.out) hb); replace BK746 := Aside0.mk (blk_below (g := gb746) (o := .cells #[.int .i64 a1_0, .int .i64 a1_1] 25 (0, 0)) (by (with_reducible repeat (first | refine blk_drewN ?_ _ | refine blk_drew ?_ | refine blk_alloc ?_ _)); refine blk_far ?_ NB746_750.out _; (with_reducible repeat (first | refine blk_drewN ?_ _ | refine blk_drew ?_ | refine blk_alloc ?_ _)); refine blk_far ?_ NB746_750.out _; (with_reducible repeat (first | refine blk_drewN ?_ _ | refine blk_drew ?_ | refine blk_alloc ?_ _)); exact BK746.out) hb); replace BK750 := Aside0.mk (blk_below (g := gb750) (o := .cells #[.int .i64 t747, .int .i64 t748] 25 (0, 0)) (by (with_reducible repeat (first | refine blk_drewN ?_ _ | refine blk_drew ?_ | refine blk_alloc ?_ _)); refine blk_put (cs := #[.int .i64 t747, .int .i64 0]) ?_ 1 _ rfl; (with_reducible repeat (first | refine blk_drewN ?_ _ | refine blk_drew ?_ | refine blk_alloc ?_ _)); refine blk_put (cs := #[.int .i64 0, .int .i64 0]) ?_ 0 _ rfl; (with_reducible repeat (first | refine blk_drewN ?_ _ | refine blk_drew ?_ | refine blk_alloc ?_ _)); exact BK750.out) hb); replace HB := Aside0.mk (below_step (bv3_ HB GE745 GE746 GE750) hb); (try clear hb); (try clear hb2); (try clear hk); (try clear hi)) | ((with_reducible refine gate_dst (N := 7) rfl ?_); refine bx_ 7 #[.int .i64 0, .int .i64 0] 25 ?_; intro gb754 hg w18 hbox hb; have BK754 := Aside0.mk (hbox); have GW754 := gw_ hg (below_size (bv3_ HB GE745 GE746 GE750)); have GE754 := GW754; replace HB := Aside0.mk (below_step (bv3_ HB GE745 GE746 GE750) hb); have NB745_754 := nb_ hg (blk_lt (g := gb745) (o := .cells #[.int .i64 a0_0, .int .i64 a0_1] 25 (0, 0)) (kv_ BK745)); have NB754_745 := nc_ hg (blk_lt (g := gb745) (o := .cells #[.int .i64 a0_0, .int .i64 a0_1] 25 (0, 0)) (kv_ BK745)); replace BK745 := kb_ BK745 hb; have NB746_754 := nb_ hg (blk_lt (g := gb746) (o := .cells #[.int .i64 a1_0, .int .i64 a1_1] 25 (0, 0)) (kv_ BK746)); have NB754_746 := nc_ hg (blk_lt (g := gb746) (o := .cells #[.int .i64 a1_0, .int .i64 a1_1] 25 (0, 0)) (kv_ BK746)); replace BK746 := kb_ BK746 hb; have NB750_754 := nb_ hg (blk_lt (g := gb750) (o := .cells #[.int .i64 t747, .int .i64 t748] 25 (0, 0)) (kv_ BK750)); have NB754_750 := nc_ hg (blk_lt (g := gb750) (o := .cells #[.int .i64 t747, .int .i64 t748] 25 (0, 0)) (kv_ BK750)); replace BK750 := kb_ BK750 hb; clear hb hbox hg; have hnb19 := NB754_745.out; have hnc19 := NB745_754.out; have hnb20 := NB754_746.out; have hnc20 := NB746_754.out; have hnb21 := NB754_750.out; have hnc21 := NB750_754.out; obtain ⟨hcz22_0, hcz22_1, hfz22_0, hfz22_1⟩ := c2_ BK754; obtain ⟨hcz23_0, hcz23_1, hfz23_0, hfz23_1⟩ := c2_ BK750))
   go_ret
   exact ⟨er_, bv4_ HB GE745 GE746 GE750 GE754⟩
  ·replace c6 := Bool.eq_false_iff.mpr c6
   subst c6
   rw [if_neg (show ¬ (false = true) by decide)] at H
   obtain rfl := Option.some.inj H
   go_enter Try.func21, Try.ntmps21
   go_wp2_with (first | ((with_reducible refine gate_dst (N := 2) rfl ?_); refine bx_ 2 #[.int .i64 a0_0, .int .i64 a0_1] 25 ?_; intro gb745 hg w24 hbox hb; have BK745 := Aside0.mk (hbox); have GW745 := gw_ hg (below_size (bv_ HB)); have GE745 := GW745; replace HB := Aside0.mk (below_step (bv_ HB) hb); clear hb hbox hg) | ((with_reducible refine gate_dst (N := 3) rfl ?_); refine bx_ 3 #[.int .i64 a1_0, .int .i64 a1_1] 25 ?_; intro gb746 hg w25 hbox hb; have BK746 := Aside0.mk (hbox); have GW746 := gw_ hg (below_size (bv1_ HB GE745)); have GE746 := GW746; replace HB := Aside0.mk (below_step (bv1_ HB GE745) hb); have NB745_746 := nb_ hg (blk_lt (g := gb745) (o := .cells #[.int .i64 a0_0, .int .i64 a0_1] 25 (0, 0)) (kv_ BK745)); have NB746_745 := nc_ hg (blk_lt (g := gb745) (o := .cells #[.int .i64 a0_0, .int .i64 a0_1] 25 (0, 0)) (kv_ BK745)); replace BK745 := kb_ BK745 hb; clear hb hbox hg; have hnb26 := NB745_746.out; have hnc26 := NB746_745.out; obtain ⟨hcz27_0, hcz27_1, hfz27_0, hfz27_1⟩ := c2_ BK745) | ((with_reducible refine gate_callee (f := 10) rfl ?_); refine gl_ 11 Try.func10 #[.agg #[.int .i64 a0_0, .int .i64 a0_1]] rfl mp_ ?_; (with_reducible refine (impl_CanonicalTable.calls a0_0 a0_1 t747 t748 true _ A3.out).mono ?_); rintro e w28 ⟨rfl, hb⟩; refine ⟨_, rfl, ?_⟩; replace BK745 := kb_ BK745 hb; replace BK746 := kb_ BK746 hb; replace HB := Aside0.mk (below_step (bv2_ HB GE745 GE746) hb); (try clear hb); (try clear hb2); (try clear hk); (try clear hi)) | ((with_reducible refine gate_dst (N := 5) rfl ?_); refine bx_ 5 #[.int .i64 0, .int .i64 0] 25 ?_; intro gb750 hg w29 hbox hb; have BK750 := Aside0.mk (hbox); have GW750 := gw_ hg (below_size (bv2_ HB GE745 GE746)); have GE750 := GW750; replace HB := Aside0.mk (below_step (bv2_ HB GE745 GE746) hb); have NB745_750 := nb_ hg (blk_lt (g := gb745) (o := .cells #[.int .i64 a0_0, .int .i64 a0_1] 25 (0, 0)) (kv_ BK745)); have NB750_745 := nc_ hg (blk_lt (g := gb745) (o := .cells #[.int .i64 a0_0, .int .i64 a0_1] 25 (0, 0)) (kv_ BK745)); replace BK745 := kb_ BK745 hb; have NB746_750 := nb_ hg (blk_lt (g := gb746) (o := .cells #[.int .i64 a1_0, .int .i64 a1_1] 25 (0, 0)) (kv_ BK746)); have NB750_746 := nc_ hg (blk_lt (g := gb746) (o := .cells #[.int .i64 a1_0, .int .i64 a1_1] 25 (0, 0)) (kv_ BK746)); replace BK746 := kb_ BK746 hb; clear hb hbox hg; have hnb30 := NB750_745.out; have hnc30 := NB745_750.out; have hnb31 := NB750_746.out; have hnc31 := NB746_750.out; obtain ⟨hcz32_0, hcz32_1, hfz32_0, hfz32_1⟩ := c2_ BK750; obtain ⟨hcz33_0, hcz33_1, hfz33_0, hfz33_1⟩ := c2_ BK746) | ((with_reducible refine gate_callee (f := 10) rfl ?_); refine gl_ 16 Try.func10 #[.agg #[.int .i64 a1_0, .int .i64 a1_1]] rfl mp_ ?_; (with_reducible refine (impl_CanonicalTable.calls a1_0 a1_1 t751 t752 false _ A4.out).mono ?_); rintro e w34 ⟨rfl, hb⟩; refine ⟨_, rfl, ?_⟩; replace BK745 := Aside0.mk (blk_below (g := gb745) (o := .cells #[.int .i64 a0_0, .int .i64 a0_1] 25 (0, 0)) (by (with_reducible repeat (first | refine blk_drewN ?_ _ | refine blk_drew ?_ | refine blk_alloc ?_ _)); refine blk_far ?_ NB745_750.out _; (with_reducible repeat (first | refine blk_drewN ?_ _ | refine blk_drew ?_ | refine blk_alloc ?_ _)); refine blk_far ?_ NB745_750.out _; (with_reducible repeat (first | refine blk_drewN ?_ _ | refine blk_drew ?_ | refine blk_alloc ?_ _)); exact BK745.out) hb); replace BK746 := Aside0.mk (blk_below (g := gb746) (o := .cells #[.int .i64 a1_0, .int .i64 a1_1] 25 (0, 0)) (by (with_reducible repeat (first | refine blk_drewN ?_ _ | refine blk_drew ?_ | refine blk_alloc ?_ _)); refine blk_far ?_ NB746_750.out _; (with_reducible repeat (first | refine blk_drewN ?_ _ | refine blk_drew ?_ | refine blk_alloc ?_ _)); refine blk_far ?_ NB746_750.out _; (with_reducible repeat (first | refine blk_drewN ?_ _ | refine blk_drew ?_ | refine blk_alloc ?_ _)); exact BK746.out) hb); replace BK750 := Aside0.mk (blk_below (g := gb750) (o := .cells #[.int .i64 t747, .int .i64 t748] 25 (0, 0)) (by (with_reducible repeat (first | refine blk_drewN ?_ _ | refine blk_drew ?_ | refine blk_alloc ?_ _)); refine blk_put (cs := #[.int .i64 t747, .int .i64 0]) ?_ 1 _ rfl; (with_reducible repeat (first | refine blk_drewN ?_ _ | refine blk_drew ?_ | refine blk_alloc ?_ _)); refine blk_put (cs := #[.int .i64 0, .int .i64 0]) ?_ 0 _ rfl; (with_reducible repeat (first | refine blk_drewN ?_ _ | refine blk_drew ?_ | refine blk_alloc ?_ _)); exact BK750.out) hb); replace HB := Aside0.mk (below_step (bv3_ HB GE745 GE746 GE750) hb); (try clear hb); (try clear hb2); (try clear hk); (try clear hi)) | ((with_reducible refine gate_dst (N := 7) rfl ?_); refine bx_ 7 #[.int .i64 0, .int .i64 0] 25 ?_; intro gb754 hg w35 hbox hb; have BK754 := Aside0.mk (hbox); have GW754 := gw_ hg (below_size (bv3_ HB GE745 GE746 GE750)); have GE754 := GW754; replace HB := Aside0.mk (below_step (bv3_ HB GE745 GE746 GE750) hb); have NB745_754 := nb_ hg (blk_lt (g := gb745) (o := .cells #[.int .i64 a0_0, .int .i64 a0_1] 25 (0, 0)) (kv_ BK745)); have NB754_745 := nc_ hg (blk_lt (g := gb745) (o := .cells #[.int .i64 a0_0, .int .i64 a0_1] 25 (0, 0)) (kv_ BK745)); replace BK745 := kb_ BK745 hb; have NB746_754 := nb_ hg (blk_lt (g := gb746) (o := .cells #[.int .i64 a1_0, .int .i64 a1_1] 25 (0, 0)) (kv_ BK746)); have NB754_746 := nc_ hg (blk_lt (g := gb746) (o := .cells #[.int .i64 a1_0, .int .i64 a1_1] 25 (0, 0)) (kv_ BK746)); replace BK746 := kb_ BK746 hb; have NB750_754 := nb_ hg (blk_lt (g := gb750) (o := .cells #[.int .i64 t747, .int .i64 t748] 25 (0, 0)) (kv_ BK750)); have NB754_750 := nc_ hg (blk_lt (g := gb750) (o := .cells #[.int .i64 t747, .int .i64 t748] 25 (0, 0)) (kv_ BK750)); replace BK750 := kb_ BK750 hb; clear hb hbox hg; have hnb36 := NB754_745.out; have hnc36 := NB745_754.out; have hnb37 := NB754_746.out; have hnc37 := NB746_754.out; have hnb38 := NB754_750.out; have hnc38 := NB750_754.out; obtain ⟨hcz39_0, hcz39_1, hfz39_0, hfz39_1⟩ := c2_ BK754))
   go_ret
   exact ⟨er_, bv4_ HB GE745 GE746 GE750 GE754⟩
 ·replace c5 := Bool.eq_false_iff.mpr c5
  subst c5
  rw [if_neg (show ¬ (false = true) by decide)] at H
  obtain rfl := Option.some.inj H
  go_enter Try.func21, Try.ntmps21
  go_wp2_with (first | ((with_reducible refine gate_dst (N := 2) rfl ?_); refine bx_ 2 #[.int .i64 a0_0, .int .i64 a0_1] 25 ?_; intro gb745 hg w40 hbox hb; have BK745 := Aside0.mk (hbox); have GW745 := gw_ hg (below_size (bv_ HB)); have GE745 := GW745; replace HB := Aside0.mk (below_step (bv_ HB) hb); clear hb hbox hg) | ((with_reducible refine gate_dst (N := 3) rfl ?_); refine bx_ 3 #[.int .i64 a1_0, .int .i64 a1_1] 25 ?_; intro gb746 hg w41 hbox hb; have BK746 := Aside0.mk (hbox); have GW746 := gw_ hg (below_size (bv1_ HB GE745)); have GE746 := GW746; replace HB := Aside0.mk (below_step (bv1_ HB GE745) hb); have NB745_746 := nb_ hg (blk_lt (g := gb745) (o := .cells #[.int .i64 a0_0, .int .i64 a0_1] 25 (0, 0)) (kv_ BK745)); have NB746_745 := nc_ hg (blk_lt (g := gb745) (o := .cells #[.int .i64 a0_0, .int .i64 a0_1] 25 (0, 0)) (kv_ BK745)); replace BK745 := kb_ BK745 hb; clear hb hbox hg; have hnb42 := NB745_746.out; have hnc42 := NB746_745.out; obtain ⟨hcz43_0, hcz43_1, hfz43_0, hfz43_1⟩ := c2_ BK745) | ((with_reducible refine gate_callee (f := 10) rfl ?_); refine gl_ 11 Try.func10 #[.agg #[.int .i64 a0_0, .int .i64 a0_1]] rfl mp_ ?_; (with_reducible refine (impl_CanonicalTable.calls a0_0 a0_1 t747 t748 false _ A3.out).mono ?_); rintro e w44 ⟨rfl, hb⟩; refine ⟨_, rfl, ?_⟩; replace BK745 := kb_ BK745 hb; replace BK746 := kb_ BK746 hb; replace HB := Aside0.mk (below_step (bv2_ HB GE745 GE746) hb); (try clear hb); (try clear hb2); (try clear hk); (try clear hi)) | ((with_reducible refine gate_dst (N := 5) rfl ?_); refine bx_ 5 #[.int .i64 0, .int .i64 0] 25 ?_; intro gb750 hg w45 hbox hb; have BK750 := Aside0.mk (hbox); have GW750 := gw_ hg (below_size (bv2_ HB GE745 GE746)); have GE750 := GW750; replace HB := Aside0.mk (below_step (bv2_ HB GE745 GE746) hb); have NB745_750 := nb_ hg (blk_lt (g := gb745) (o := .cells #[.int .i64 a0_0, .int .i64 a0_1] 25 (0, 0)) (kv_ BK745)); have NB750_745 := nc_ hg (blk_lt (g := gb745) (o := .cells #[.int .i64 a0_0, .int .i64 a0_1] 25 (0, 0)) (kv_ BK745)); replace BK745 := kb_ BK745 hb; have NB746_750 := nb_ hg (blk_lt (g := gb746) (o := .cells #[.int .i64 a1_0, .int .i64 a1_1] 25 (0, 0)) (kv_ BK746)); have NB750_746 := nc_ hg (blk_lt (g := gb746) (o := .cells #[.int .i64 a1_0, .int .i64 a1_1] 25 (0, 0)) (kv_ BK746)); replace BK746 := kb_ BK746 hb; clear hb hbox hg; have hnb46 := NB750_745.out; have hnc46 := NB745_750.out; have hnb47 := NB750_746.out; have hnc47 := NB746_750.out; obtain ⟨hcz48_0, hcz48_1, hfz48_0, hfz48_1⟩ := c2_ BK750; obtain ⟨hcz49_0, hcz49_1, hfz49_0, hfz49_1⟩ := c2_ BK746) | ((with_reducible refine gate_callee (f := 10) rfl ?_); refine gl_ 16 Try.func10 #[.agg #[.int .i64 a1_0, .int .i64 a1_1]] rfl mp_ ?_; (with_reducible refine (impl_CanonicalTable.calls a1_0 a1_1 t751 t752 t753 _ A4.out).mono ?_); rintro e w50 ⟨rfl, hb⟩; refine ⟨_, rfl, ?_⟩; replace BK745 := Aside0.mk (blk_below (g := gb745) (o := .cells #[.int .i64 a0_0, .int .i64 a0_1] 25 (0, 0)) (by (with_reducible repeat (first | refine blk_drewN ?_ _ | refine blk_drew ?_ | refine blk_alloc ?_ _)); refine blk_far ?_ NB745_750.out _; (with_reducible repeat (first | refine blk_drewN ?_ _ | refine blk_drew ?_ | refine blk_alloc ?_ _)); refine blk_far ?_ NB745_750.out _; (with_reducible repeat (first | refine blk_drewN ?_ _ | refine blk_drew ?_ | refine blk_alloc ?_ _)); exact BK745.out) hb); replace BK746 := Aside0.mk (blk_below (g := gb746) (o := .cells #[.int .i64 a1_0, .int .i64 a1_1] 25 (0, 0)) (by (with_reducible repeat (first | refine blk_drewN ?_ _ | refine blk_drew ?_ | refine blk_alloc ?_ _)); refine blk_far ?_ NB746_750.out _; (with_reducible repeat (first | refine blk_drewN ?_ _ | refine blk_drew ?_ | refine blk_alloc ?_ _)); refine blk_far ?_ NB746_750.out _; (with_reducible repeat (first | refine blk_drewN ?_ _ | refine blk_drew ?_ | refine blk_alloc ?_ _)); exact BK746.out) hb); replace BK750 := Aside0.mk (blk_below (g := gb750) (o := .cells #[.int .i64 t747, .int .i64 t748] 25 (0, 0)) (by (with_reducible repeat (first | refine blk_drewN ?_ _ | refine blk_drew ?_ | refine blk_alloc ?_ _)); refine blk_put (cs := #[.int .i64 t747, .int .i64 0]) ?_ 1 _ rfl; (with_reducible repeat (first | refine blk_drewN ?_ _ | refine blk_drew ?_ | refine blk_alloc ?_ _)); refine blk_put (cs := #[.int .i64 0, .int .i64 0]) ?_ 0 _ rfl; (with_reducible repeat (first | refine blk_drewN ?_ _ | refine blk_drew ?_ | refine blk_alloc ?_ _)); exact BK750.out) hb); replace HB := Aside0.mk (below_step (bv3_ HB GE745 GE746 GE750) hb); (try clear hb); (try clear hb2); (try clear hk); (try clear hi)) | ((with_reducible refine gate_dst (N := 7) rfl ?_); refine bx_ 7 #[.int .i64 0, .int .i64 0] 25 ?_; intro gb754 hg w51 hbox hb; have BK754 := Aside0.mk (hbox); have GW754 := gw_ hg (below_size (bv3_ HB GE745 GE746 GE750)); have GE754 := GW754; replace HB := Aside0.mk (below_step (bv3_ HB GE745 GE746 GE750) hb); have NB745_754 := nb_ hg (blk_lt (g := gb745) (o := .cells #[.int .i64 a0_0, .int .i64 a0_1] 25 (0, 0)) (kv_ BK745)); have NB754_745 := nc_ hg (blk_lt (g := gb745) (o := .cells #[.int .i64 a0_0, .int .i64 a0_1] 25 (0, 0)) (kv_ BK745)); replace BK745 := kb_ BK745 hb; have NB746_754 := nb_ hg (blk_lt (g := gb746) (o := .cells #[.int .i64 a1_0, .int .i64 a1_1] 25 (0, 0)) (kv_ BK746)); have NB754_746 := nc_ hg (blk_lt (g := gb746) (o := .cells #[.int .i64 a1_0, .int .i64 a1_1] 25 (0, 0)) (kv_ BK746)); replace BK746 := kb_ BK746 hb; have NB750_754 := nb_ hg (blk_lt (g := gb750) (o := .cells #[.int .i64 t747, .int .i64 t748] 25 (0, 0)) (kv_ BK750)); have NB754_750 := nc_ hg (blk_lt (g := gb750) (o := .cells #[.int .i64 t747, .int .i64 t748] 25 (0, 0)) (kv_ BK750)); replace BK750 := kb_ BK750 hb; clear hb hbox hg; have hnb52 := NB754_745.out; have hnc52 := NB745_754.out; have hnb53 := NB754_746.out; have hnc53 := NB746_754.out; have hnb54 := NB754_750.out; have hnc54 := NB750_754.out; obtain ⟨hcz55_0, hcz55_1, hfz55_0, hfz55_1⟩ := c2_ BK754))
  go_ret
  exact ⟨er_, bv4_ HB GE745 GE746 GE750 GE754⟩

end

/-! ### impl_Table_cube: function 74 -/
/-- Does a value occur in a cube among the first inputs? -/
def impl_Table_cube.seen (W mask value b : Int) : Nat → Bool
  | 0 => false
  | x + 1 => impl_Table_cube.seen W mask value b x || ((Go.bits .and .i64 (x : Int) mask == value) && (Go.bits .and .i64 (shr .i64 W (x : Int)) 1 == b))
def impl_Table_cube.f (a0_0 a0_1 a1 a2 : Int) : Option Int :=
  if 0 ≤ a0_0 ∧ a0_0 ≤ 5 then some (if impl_Table_cube.seen a0_1 a1 a2 1 (2 ^ a0_0.toNat) = true then (if impl_Table_cube.seen a0_1 a1 a2 0 (2 ^ a0_0.toNat) = true then 2 else 1) else 0) else none
theorem impl_Table_cube.size {a : Int} (h : 0 ≤ a ∧ a ≤ 5) : ∃ N : Nat, shl .i64 1 a = (N : Int) ∧ 2 ^ a.toNat = N ∧ N ≤ 32 := by
  rcases (by omega : a = 0 ∨ a = 1 ∨ a = 2 ∨ a = 3 ∨ a = 4 ∨ a = 5) with rfl | rfl | rfl | rfl | rfl | rfl
  · exact ⟨1, by simp [shl, IntKind.wrap_i64], rfl, by omega⟩
  · exact ⟨2, by simp [shl, IntKind.wrap_i64, IntKind.bits], rfl, by omega⟩
  · exact ⟨4, by simp [shl, IntKind.wrap_i64, IntKind.bits], rfl, by omega⟩
  · exact ⟨8, by simp [shl, IntKind.wrap_i64, IntKind.bits], rfl, by omega⟩
  · exact ⟨16, by simp [shl, IntKind.wrap_i64, IntKind.bits], rfl, by omega⟩
  · exact ⟨32, by simp [shl, IntKind.wrap_i64, IntKind.bits], rfl, by omega⟩
theorem impl_Table_cube.bit (y : Int) : Go.bits .and .i64 y 1 = 0 ∨ Go.bits .and .i64 y 1 = 1 := by
  have h : ((BitVec.ofInt 64 y) &&& 1#64).toNat = (BitVec.ofInt 64 y).toNat % 2 := by
    rw [BitVec.toNat_and]
    exact Nat.and_one_is_mod _
  have h2 : Go.bits .and .i64 y 1 = IntKind.i64.wrap (((BitVec.ofInt 64 y).toNat % 2 : Nat) : Int) := by
    rw [← h]
    rfl
  rw [h2, IntKind.wrap_i64]
  rcases Nat.mod_two_eq_zero_or_one (BitVec.ofInt 64 y).toNat with e | e <;> rw [e]
  · exact .inl (by omega)
  · exact .inr (by omega)
set_option maxHeartbeats 4000000 in
set_option maxRecDepth 100000 in
theorem impl_Table_cube.calls (a0_0 a0_1 a1 a2 r : Int) (w : World) (h : impl_Table_cube.f a0_0 a0_1 a1 a2 = some r) :
    Calls Try.prog 74 #[.agg #[.int .i64 a0_0, .int .i64 a0_1], .int .i64 a1, .int .i64 a2] w fun e w' => e = .returned (.int .i64 r) ∧ Below w.heap.size w w' := by
  unfold impl_Table_cube.f at h
  by_cases hb : 0 ≤ a0_0 ∧ a0_0 ≤ 5
  case neg => rw [if_neg hb] at h; exact absurd h (by simp)
  rw [if_pos hb] at h
  have hr := Aside0.mk (Option.some.inj h)
  clear h
  obtain ⟨N, hN, hN2, hN32⟩ := impl_Table_cube.size hb
  rw [hN2] at hr
  have hu := Try.underlying25
  have hua := Try.underlying110
  have A2 := Aside0.mk (show impl_Table_size.f a0_0 a0_1 = some (N : Int) by unfold impl_Table_size.f; rw [if_pos hb.1, hN])
  clear hN hN2 hb
  go_enter Try.func74, Try.ntmps74
  go_wp2_with fail
  (with_reducible refine (impl_Table_size.calls a0_0 a0_1 _ _ A2.out).mono ?_)
  rintro e w1 ⟨rfl, hb1⟩
  have HB := Aside0.mk (((((Below.refl w.heap.size w).alloc (Nat.le_refl _) (Obj.cells #[Value.int IntKind.i64 a0_0, Value.int IntKind.i64 a0_1] 25)).alloc (by simp) (Obj.cells #[Value.bool false, Value.bool false] 110)).trans (hb1.mono (by simp; omega))))
  have BK := Aside0.mk (blk_below (blk_alloc (blk_new w (Obj.cells #[Value.int IntKind.i64 a0_0, Value.int IntKind.i64 a0_1] 25)) (Obj.cells #[Value.bool false, Value.bool false] 110)) hb1)
  have AR := Aside0.mk (blk_below (blk_new (w.alloc (Obj.cells #[Value.int IntKind.i64 a0_0, Value.int IntKind.i64 a0_1] 25)) (Obj.cells #[Value.bool false, Value.bool false] 110)) hb1)
  clear hb1 A2
  rw [show (w.alloc (Obj.cells #[Value.int IntKind.i64 a0_0, Value.int IntKind.i64 a0_1] 25)).heap.size = w.heap.size + 1 by simp] at AR
  go_wp2_with fail
  go_loopw [12] (fun v wr => ∃ i : Nat, i ≤ N ∧ v = .int .i64 (i : Int) ∧ Aside0 (wr.heap[w.heap.size]? = some (.cells #[.int .i64 a0_0, .int .i64 a0_1] 25 (0, 0))) ∧ Aside0 (wr.heap[w.heap.size + 1]? = some (.cells #[.bool (impl_Table_cube.seen a0_1 a1 a2 0 i), .bool (impl_Table_cube.seen a0_1 a1 a2 1 i)] 110 (0, 0))) ∧ Aside0 (Below w.heap.size w wr)) (fun v _ => N - (intOf v).toNat)
  case atStart => exact ⟨0, Nat.zero_le _, rfl, BK, AR, HB⟩
  case round =>
    obtain ⟨i, hi, rfl, BK, AR, HB⟩ := hrel
    by_cases hlt : i < N
    · have hc0 := blk_cell BK.out 0
      have hc1 := blk_cell BK.out 1
      replace hc0 : wr.cell? ⟨w.heap.size, 0, none⟩ = some (.int .i64 a0_0) := hc0
      replace hc1 : wr.cell? ⟨w.heap.size, 1, none⟩ = some (.int .i64 a0_1) := hc1
      by_cases hc : (Go.bits .and .i64 (i : Int) a1 == a2) = true
      · rcases impl_Table_cube.bit (shr .i64 a0_1 (i : Int)) with hat | hat
        · skip
          have A4 := Aside0.mk (show impl_Table_at.f a0_0 a0_1 (i : Int) = some 0 by unfold impl_Table_at.f; rw [if_pos (Int.natCast_nonneg _), hat])
          have S0 := Aside0.mk (show impl_Table_cube.seen a0_1 a1 a2 0 (i + 1) = true by simp only [impl_Table_cube.seen]; rw [hc, hat]; simp)
          have S1 := Aside0.mk (show impl_Table_cube.seen a0_1 a1 a2 1 (i + 1) = impl_Table_cube.seen a0_1 a1 a2 1 i by simp only [impl_Table_cube.seen]; rw [hc, hat]; simp)
          clear hat
          go_wp2_with fail
          (with_reducible refine (impl_Table_at.calls a0_0 a0_1 _ _ _ A4.out).mono ?_)
          rintro e w2 ⟨rfl, hb2⟩
          have HB2 := Aside0.mk (below_step HB.out hb2)
          have BK2 := Aside0.mk (blk_below BK.out hb2)
          have AR2 := Aside0.mk (blk_below AR.out hb2)
          clear hb2 HB BK AR A4
          have k0 := (blk_cell AR2.out 0).trans rfl
          have k1 := (blk_cell AR2.out 1).trans rfl
          have f0 := blk_frozen AR2.out 0
          have f1 := blk_frozen AR2.out 1
          go_wp2
          go_roundw
          case rel => exact ⟨i + 1, by omega, by go_num, ⟨blk_far BK2.out (by simp) _⟩, ⟨by rw [S0.out, S1.out]; exact blk_put AR2.out 0 _ rfl⟩, ⟨below_set HB2.out (by omega)⟩⟩
          case measure => simp [intOf]; omega
        · skip
          have A4 := Aside0.mk (show impl_Table_at.f a0_0 a0_1 (i : Int) = some 1 by unfold impl_Table_at.f; rw [if_pos (Int.natCast_nonneg _), hat])
          have S0 := Aside0.mk (show impl_Table_cube.seen a0_1 a1 a2 0 (i + 1) = impl_Table_cube.seen a0_1 a1 a2 0 i by simp only [impl_Table_cube.seen]; rw [hc, hat]; simp)
          have S1 := Aside0.mk (show impl_Table_cube.seen a0_1 a1 a2 1 (i + 1) = true by simp only [impl_Table_cube.seen]; rw [hc, hat]; simp)
          clear hat
          go_wp2_with fail
          (with_reducible refine (impl_Table_at.calls a0_0 a0_1 _ _ _ A4.out).mono ?_)
          rintro e w2 ⟨rfl, hb2⟩
          have HB2 := Aside0.mk (below_step HB.out hb2)
          have BK2 := Aside0.mk (blk_below BK.out hb2)
          have AR2 := Aside0.mk (blk_below AR.out hb2)
          clear hb2 HB BK AR A4
          have k0 := (blk_cell AR2.out 0).trans rfl
          have k1 := (blk_cell AR2.out 1).trans rfl
          have f0 := blk_frozen AR2.out 0
          have f1 := blk_frozen AR2.out 1
          go_wp2
          go_roundw
          case rel => exact ⟨i + 1, by omega, by go_num, ⟨blk_far BK2.out (by simp) _⟩, ⟨by rw [S0.out, S1.out]; exact blk_put AR2.out 1 _ rfl⟩, ⟨below_set HB2.out (by omega)⟩⟩
          case measure => simp [intOf]; omega
      · have hc2 : (Go.bits .and .i64 (i : Int) a1 == a2) = false := by simpa using hc
        clear hc
        have S0 := Aside0.mk (show impl_Table_cube.seen a0_1 a1 a2 0 (i + 1) = impl_Table_cube.seen a0_1 a1 a2 0 i by simp only [impl_Table_cube.seen]; rw [hc2]; simp)
        have S1 := Aside0.mk (show impl_Table_cube.seen a0_1 a1 a2 1 (i + 1) = impl_Table_cube.seen a0_1 a1 a2 1 i by simp only [impl_Table_cube.seen]; rw [hc2]; simp)
        go_wp2
        go_roundw
        case rel => exact ⟨i + 1, by omega, by go_num, BK, ⟨by rw [S0.out, S1.out]; exact AR.out⟩, HB⟩
        case measure => simp [intOf]; omega
    · obtain rfl : i = N := by omega
      have k0 := (blk_cell AR.out 0).trans rfl
      have k1 := (blk_cell AR.out 1).trans rfl
      replace hr := hr.out
      cases h0 : impl_Table_cube.seen a0_1 a1 a2 0 i <;> cases h1 : impl_Table_cube.seen a0_1 a1 a2 1 i <;> rw [h0] at k0 <;> rw [h1] at k1 <;> simp only [h0, h1, if_true, Bool.false_eq_true, if_false] at hr <;> subst hr
      all_goals
        clear h0 h1
        go_wp2
        go_ret
        exact ⟨rfl, HB.out⟩


end Go.Proofs.Yteljkpglgjjnlaa.P
