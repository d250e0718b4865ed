-- Out of the translation, by this session's program over the printer's; Lean checks it.
import Derived.Test.YtflnlnkbepoimaaSh
import Derived.Test.YtflnlnkbepoimaaQ0
import Derived.Test.YtflnlnkbepoimaaQ2
namespace Go.Proofs.Ytflnlnkbepoimaa.P
open Go.RowKit Go.Proofs.YtflnlnkbepoimaaW.PrintWords Go.Proofs.YtflnlnkbepoimaaW.PrintLast Go.Proofs.YtflnlnkbepoimaaW.PrintMore
attribute [local go_sem] max2_int min2_int max_two min_two max_three min_three max_four min_four
set_option linter.unusedVariables false
set_option linter.unusedSimpArgs false

/-! ### spec_DrawPermuteTable: function 21 -/
def spec_DrawPermuteTable.l0 : Nat → List Int → Int → List Int → Int → Int → Int → Int → Option (Int × Int × List Int)
  | 0, _, _, _, _, _, _, _ => none
  | k + 1, x6, x7, x284000, x284001, x284002, x289000, x289001 => if x7 < (mn x289000 6) then ((spec_l1Below.f x284000 x284001 x284002 (wrap64 ((x6.length : Int) + 1))).bind fun bt292 => (if x6.length < 17592186044416 then (if 0 ≤ bt292.1 ∧ bt292.1 ≤ (x6.length : Int) then (spec_DrawPermuteTable.l0 k (x6.take bt292.1.toNat ++ [x7] ++ x6.drop bt292.1.toNat) (wrap64 (x7 + 1)) x284000 bt292.2.1 bt292.2.2 x289000 x289001) else (none)) else (none))) else (if (x6.length : Int) > 0 then ((spec_l1Once.f x284000 x284001 x284002 8).bind fun bt298 => (if bt298.1 = true then ((spec_l1PickInt.f x284000 bt298.2.1 bt298.2.2 (([(-1), 0, 5, 9223372036854775807] : List Int))).bind fun bt304 => (if 0 < (x6.length : Int) then (some (x289000, x289001, (x6.set (0 : Int).toNat bt304.1))) else (none))) else (some (x289000, x289001, x6)))) else (some (x289000, x289001, x6)))
def spec_DrawPermuteTable.f (k : Nat) (l0 : List Int) : Option (Int × Int × List Int) := (spec_l1New.f k l0).bind fun bt280 => ((spec_l2Any.f k bt280.1 bt280.2.1 bt280.2.2).bind fun bt284 => (spec_DrawPermuteTable.l0 k (([] : List Int)) 0 bt280.1 bt284.2.2.1 bt284.2.2.2 bt284.1 bt284.2.1))
theorem spec_DrawPermuteTable.mono_l : ∀ k, (∀ y0 y1 y2 y3 y4 y5 y6, LeO (spec_DrawPermuteTable.l0 k y0 y1 y2 y3 y4 y5 y6) (spec_DrawPermuteTable.l0 (k + 1) y0 y1 y2 y3 y4 y5 y6))
  | 0 => fun _ _ _ _ _ _ _ r h => by simp [spec_DrawPermuteTable.l0] at h
  | k + 1 => by
    have ih0 := spec_DrawPermuteTable.mono_l k
    · intro y0 y1 y2 y3 y4 y5 y6
      unfold spec_DrawPermuteTable.l0
      repeat' first
      | (with_reducible exact ih0 _ _ _ _ _ _ _)
      | (with_reducible exact spec_l1New.mono _ _)
      | (with_reducible exact spec_l2Any.mono _ _ _ _)
      | (with_reducible exact LeO.refl _)
      | (with_reducible exact LeO.none _)
      | (with_reducible refine LeO.ite ?_ ?_)
      | (with_reducible refine LeO.bind ?_ (fun _ => ?_))
      | exact ih0 _ _ _ _ _ _ _
      | exact spec_l1New.mono _ _
      | exact spec_l2Any.mono _ _ _ _
      | exact LeO.none _
      | refine LeO.ite ?_ ?_
      | refine LeO.bind ?_ (fun _ => ?_)
theorem spec_DrawPermuteTable.mono : ∀ a0 k, LeO (spec_DrawPermuteTable.f k a0) (spec_DrawPermuteTable.f (k + 1) a0) := by
  intro a0 k
  have ih0 := spec_DrawPermuteTable.mono_l k
  unfold spec_DrawPermuteTable.f
  repeat' first
      | (with_reducible exact ih0 _ _ _ _ _ _ _)
      | (with_reducible exact spec_l1New.mono _ _)
      | (with_reducible exact spec_l2Any.mono _ _ _ _)
      | (with_reducible exact LeO.refl _)
      | (with_reducible exact LeO.none _)
      | (with_reducible refine LeO.ite ?_ ?_)
      | (with_reducible refine LeO.bind ?_ (fun _ => ?_))
      | exact ih0 _ _ _ _ _ _ _
      | exact spec_l1New.mono _ _
      | exact spec_l2Any.mono _ _ _ _
      | exact LeO.none _
      | refine LeO.ite ?_ ?_
      | refine LeO.bind ?_ (fun _ => ?_)
def spec_DrawPermuteTable.T8 : Bool × List (List Nat × List Nat) := (true, [([], []), ([], []), ([], []), ([1, 2], [1, 2]), ([0, 3], [0, 3]), ([], []), ([5], [5]), ([4, 6, 4], [4, 6]), ([], []), ([], []), ([8, 9], [8, 9]), ([7, 10, 7], [7, 10]), ([11, 11, 0, 1, 2, 3, 4, 5, 6, 7, 8, 9, 10, 11], [1, 8, 11])])
def spec_DrawPermuteTable.B8 : List Nat := [0, 0, 0, 6, 15, 0, 32, 127, 0, 0, 768, 2047, 4095]
theorem spec_DrawPermuteTable.tab8 : rtab .any (opsOf Try.f21 8) = spec_DrawPermuteTable.T8 := by kernel_rfl
theorem spec_DrawPermuteTable.bits8 : waitsOk spec_DrawPermuteTable.T8.2 spec_DrawPermuteTable.B8 = true := by kernel_rfl
set_option maxHeartbeats 8000000 in
set_option maxRecDepth 100000 in
theorem spec_DrawPermuteTable.calls (k : Nat) (A0 : Option Addr) (c0 : Nat) (l0 : List Int) (r1 : Int) (r2 : Int) (r3 : List Int) (w : World) (hr0 : Kd.C (Kd.int .u8) w A0 l0.length l0) (hc0 : l0.length ≤ c0) (h : spec_DrawPermuteTable.f k l0 = some (r1, r2, r3)) :
    Calls Try.prog 21 #[.slice A0 l0.length c0] w fun e w' => ∃ v2_ : Value, e = .returned (.tuple #[.agg #[.int .i64 r1, .int .i64 r2], v2_]) ∧ Kd.R (Kd.int .i64) 3 w' w.heap.size (fun _ => True) v2_ r3 ∧ Below w.heap.size w w' := by
  have hu25 := Try.underlying25
  have HR0 := Aside0.mk hr0
  have HC0 := Aside0.mk hc0
  clear hr0 hc0
  have HB := Aside0.mk (Below.refl w.heap.size w)
  have H : ((spec_l1New.f k l0).bind fun bt280 => ((spec_l2Any.f k bt280.1 bt280.2.1 bt280.2.2).bind fun bt284 => (spec_DrawPermuteTable.l0 k (([] : List Int)) 0 bt280.1 bt284.2.2.1 bt284.2.2.2 bt284.1 bt284.2.1))) = some (r1, r2, r3) := h
  clear h
  replace H := Option.bind_eq_some_iff.mp H
  obtain ⟨⟨t280, t281, t282⟩, A20, H⟩ := H
  replace H : ((spec_l2Any.f k t280 t281 t282).bind fun bt284 => (spec_DrawPermuteTable.l0 k (([] : List Int)) 0 t280 bt284.2.2.1 bt284.2.2.2 bt284.1 bt284.2.1)) = some (r1, r2, r3) := H
  have A2 := Aside0.mk A20
  clear A20
  replace H := Option.bind_eq_some_iff.mp H
  obtain ⟨⟨t284, t285, t286, t287⟩, A30, H⟩ := H
  replace H : (spec_DrawPermuteTable.l0 k (([] : List Int)) 0 t280 t286 t287 t284 t285) = some (r1, r2, r3) := H
  have A3 := Aside0.mk A30
  clear A30
  obtain ⟨y289, hy289⟩ : ∃ y_ : List Int, y_ = (([] : List Int)) := ⟨_, rfl⟩
  replace H : (spec_DrawPermuteTable.l0 k y289 0 t280 t286 t287 t284 t285) = some (r1, r2, r3) := by first | (rw [hy289]; with_reducible exact H) | (have H2_ := (Option.bind_some _ _).symm.trans H; rw [hy289]; with_reducible exact H2_) | (have H2_ := (Option.bind_some _ _).symm.trans H; with_reducible exact H2_) | with_reducible exact H | (rw [hy289]; exact H) | exact H
  have Ny289 := Aside0.mk hy289
  clear hy289
  have H' := Aside0.mk H
  clear H
  go_enter Try.func21, Try.ntmps21
  go_wp2_with (first | ((with_reducible refine gate_dst (N := 2) rfl ?_); refine box_event ?hg (N := 2) ?hd (cs := #[.int .i64 0, .int .i64 0]) (t := 25) ?hr ?_; (case hd => rfl); (case hg => rfl); (case hr => first | (go_simp; done) | (go_simp; rfl)); intro gb279 hg w4 hbox hb; have n0_ := Aside0.mk (below_step (by repeat (first | (with_reducible first | exact HB.out | apply below_alloc | apply pw_below_drewN | apply below_drew1) | exact HB.out)) hb); have n1_ := Aside0.mk (hbox); have n2_ := Aside0.mk ((by rw [hg]; exact (below_size (by repeat (first | (with_reducible first | exact HB.out | apply below_alloc | apply pw_below_drewN | apply below_drew1) | exact HB.out))) : w.heap.size ≤ gb279)); have n3_ := Aside0.mk ((by rw [hg]; exact (below_size (by repeat (first | (with_reducible first | exact HB.out | apply below_alloc | apply pw_below_drewN | apply below_drew1) | exact HB.out))) : w.heap.size ≤ gb279)); clear HB; have HB := n0_; have BK279 := n1_; have GW279 := n2_; have GE279 := n3_; clear n0_ n1_ n2_ n3_; clear hb hbox hg) | ((with_reducible refine gate_callee (f := 38) rfl ?_); refine goesL_ (some 10) rfl rfl Try.func38 (by kernel_rfl) rfl #[.slice A0 l0.length c0] rfl (by (try simp only [List.map_toArray, List.map_cons, List.map_nil]); first | done | rfl | (simp only [List.length_drop, List.length_take]; rfl)) ?_; (with_reducible refine (spec_l1New.calls k _ _ l0 t280 t281 t282 w _ ?side1 ?side2 ?side3 A2.out).mono ?_); (case side1 => repeat (first | (with_reducible first | exact HB.out | apply below_alloc | apply pw_below_drewN | apply below_drew1 | refine below_set ?_ GE279.out) | exact HB.out)); (case side2 => exact HR0.out); (case side3 => exact HC0.out); rintro e w5 ⟨g283, rfl, hi, hb, hb2⟩; refine ⟨_, rfl, ?_⟩; have n0_ := Aside0.mk (blk_below (g := gb279) (o := .cells #[.int .i64 0, .int .i64 0] 25 (0, 0)) (by (with_reducible repeat (first | refine blk_drewN ?_ _ | refine blk_drew ?_ | refine blk_alloc ?_ _)); exact BK279.out) hb2); have n1_ := Aside0.mk (hb); have n2_ := Aside0.mk (hi); have n3_ := Aside0.mk (IsS67.ne_blk hi (blk_below (g := gb279) (o := .cells #[.int .i64 0, .int .i64 0] 25 (0, 0)) (by (with_reducible repeat (first | refine blk_drewN ?_ _ | refine blk_drew ?_ | refine blk_alloc ?_ _)); exact BK279.out) hb2) (by decide)); have n4_ := Aside0.mk (Ne.symm (IsS67.ne_blk hi (blk_below (g := gb279) (o := .cells #[.int .i64 0, .int .i64 0] 25 (0, 0)) (by (with_reducible repeat (first | refine blk_drewN ?_ _ | refine blk_drew ?_ | refine blk_alloc ?_ _)); exact BK279.out) hb2) (by decide))); clear BK279; clear HB; have BK279 := n0_; have HB := n1_; have HI283 := n2_; have NB283_279 := n3_; have NB279_283 := n4_; clear n0_ n1_ n2_ n3_ n4_; (try clear hb); (try clear hb2); (try clear hk); (try clear hi)) | ((with_reducible refine gate_callee (f := 37) rfl ?_); refine goesL_ (some 12) rfl rfl Try.func37 (by kernel_rfl) rfl #[.pointer (some ⟨g283, 0, none⟩)] rfl (by (try simp only [List.map_toArray, List.map_cons, List.map_nil]); first | done | rfl | (simp only [List.length_drop, List.length_take]; rfl)) ?_; (with_reducible refine (spec_l2Any.calls k g283 t280 t281 t282 t284 t285 t286 t287 w _ ?side1 ?side2 A3.out).mono ?_); (case side1 => repeat (first | (with_reducible first | exact HI283.out | apply IsS67.alloc | apply IsS67.drewN | apply IsS67.drew | apply IsS67.set_1 | apply IsS67.set_2 | refine IsS67.far ?_ NB283_279.out _) | exact HI283.out)); (case side2 => repeat (first | (with_reducible first | exact HB.out | apply below_alloc | apply pw_below_drewN | apply below_drew1 | refine below_set ?_ (IsS67.ge HI283.out) | refine below_set ?_ GE279.out) | exact HB.out)); rintro e w6 ⟨rfl, hi, hb, hk⟩; refine ⟨_, rfl, ?_⟩; have n0_ := Aside0.mk (KeepBut.blk hk (g' := gb279) (o := .cells #[.int .i64 0, .int .i64 0] 25 (0, 0)) (by (with_reducible repeat (first | refine blk_drewN ?_ _ | refine blk_drew ?_ | refine blk_alloc ?_ _)); exact BK279.out) NB279_283.out (by simp)); have n1_ := Aside0.mk (hb); have n2_ := Aside0.mk (hi); clear BK279; clear HB; clear HI283; have BK279 := n0_; have HB := n1_; have HI283 := n2_; clear n0_ n1_ n2_; (try clear hb); (try clear hb2); (try clear hk); (try clear hi)) | ((with_reducible refine gate_dst (N := 5) rfl ?_); refine box_event ?hg (N := 5) ?hd (cs := #[.int .i64 0, .int .i64 0]) (t := 25) ?hr ?_; (case hd => rfl); (case hg => rfl); (case hr => first | (go_simp; done) | (go_simp; rfl)); intro gb288 hg w7 hbox hb; have n0_ := Aside0.mk (blk_below (g := gb279) (o := .cells #[.int .i64 0, .int .i64 0] 25 (0, 0)) (by (with_reducible repeat (first | refine blk_drewN ?_ _ | refine blk_drew ?_ | refine blk_alloc ?_ _)); exact BK279.out) hb); have n1_ := Aside0.mk (IsS67.below (by repeat (first | (with_reducible first | exact HI283.out | apply IsS67.alloc | apply IsS67.drewN | apply IsS67.drew | apply IsS67.set_1 | apply IsS67.set_2 | refine IsS67.far ?_ NB283_279.out _) | exact HI283.out)) hb); have n2_ := Aside0.mk (below_step (by repeat (first | (with_reducible first | exact HB.out | apply below_alloc | apply pw_below_drewN | apply below_drew1 | refine below_set ?_ (IsS67.ge HI283.out) | refine below_set ?_ GE279.out) | exact HB.out)) hb); have n3_ := Aside0.mk (hbox); have n4_ := Aside0.mk ((by rw [hg]; exact (below_size (by repeat (first | (with_reducible first | exact HB.out | apply below_alloc | apply pw_below_drewN | apply below_drew1 | refine below_set ?_ (IsS67.ge HI283.out) | refine below_set ?_ GE279.out) | exact HB.out))) : w.heap.size ≤ gb288)); have n5_ := Aside0.mk ((by rw [hg]; exact (below_size (by repeat (first | (with_reducible first | exact HB.out | apply below_alloc | apply pw_below_drewN | apply below_drew1 | refine below_set ?_ (IsS67.ge HI283.out) | refine below_set ?_ GE279.out) | exact HB.out))) : w.heap.size ≤ gb288)); have n6_ := Aside0.mk ((by rw [hg]; exact Nat.ne_of_lt (blk_lt (g := gb279) (o := .cells #[.int .i64 0, .int .i64 0] 25 (0, 0)) (by (with_reducible repeat (first | refine blk_drewN ?_ _ | refine blk_drew ?_ | refine blk_alloc ?_ _)); exact BK279.out)) : gb279 ≠ gb288)); have n7_ := Aside0.mk ((by rw [hg]; exact Nat.ne_of_gt (blk_lt (g := gb279) (o := .cells #[.int .i64 0, .int .i64 0] 25 (0, 0)) (by (with_reducible repeat (first | refine blk_drewN ?_ _ | refine blk_drew ?_ | refine blk_alloc ?_ _)); exact BK279.out)) : gb288 ≠ gb279)); have n8_ := Aside0.mk ((by rw [hg]; exact Nat.ne_of_lt (IsS67.lt (show IsS67 w _ g283 t280 t286 t287 from by repeat (first | (with_reducible first | exact HI283.out | apply IsS67.alloc | apply IsS67.drewN | apply IsS67.drew | apply IsS67.set_1 | apply IsS67.set_2 | refine IsS67.far ?_ NB283_279.out _) | exact HI283.out))) : g283 ≠ gb288)); have n9_ := Aside0.mk ((by rw [hg]; exact Nat.ne_of_gt (IsS67.lt (show IsS67 w _ g283 t280 t286 t287 from by repeat (first | (with_reducible first | exact HI283.out | apply IsS67.alloc | apply IsS67.drewN | apply IsS67.drew | apply IsS67.set_1 | apply IsS67.set_2 | refine IsS67.far ?_ NB283_279.out _) | exact HI283.out))) : gb288 ≠ g283)); clear BK279; clear HI283; clear HB; have BK279 := n0_; have HI283 := n1_; have HB := n2_; have BK288 := n3_; have GW288 := n4_; have GE288 := n5_; have NB279_288 := n6_; have NB288_279 := n7_; have NB283_288 := n8_; have NB288_283 := n9_; clear n0_ n1_ n2_ n3_ n4_ n5_ n6_ n7_ n8_ n9_; clear hb hbox hg; have hnb8 := NB288_279.out; have hnc8 := NB279_288.out; have hnb9 := NB288_283.out; have hnc9 := NB283_288.out; have hcz10_0 : w7.cell? ⟨gb288, 0, none⟩ = some (.int .i64 0) := (blk_cell BK288.out 0).trans rfl; have hcz10_1 : w7.cell? ⟨gb288, 1, none⟩ = some (.int .i64 0) := (blk_cell BK288.out 1).trans rfl; have hfz10_0 := blk_frozen BK288.out 0; have hfz10_1 := blk_frozen BK288.out 1) | ((with_reducible refine gate_dst (N := 13) rfl ?_); refine Kd.R_lit (Kd.int .i64) _ 3 ?hg (N := 13) ?hd (xs := ([] : List Int)) (inner := []) (ok := fun _ => True) (okp := fun _ => True) ?hr ?hp (fun _ hk => hk) trivial (Below.refl _ _) (Nat.le_refl _) (by simp) ?_; (case hd => rfl); (case hg => rfl); (case hr => first | (go_simp; done) | (go_simp; rfl)); (case hp => exact (Reps.none _ _)); intro v290 w11 ho12 hb hg_ hnew_; clear hg_ hnew_; (first | rw [← Ny289.out] at ho12 | (simp only [Int.reduceToNat] at ho12; rw [← Ny289.out] at ho12)); have n0_ := Aside0.mk (Kd.R_lower ho12 (below_size (by repeat (first | (with_reducible first | exact HB.out | apply below_alloc | apply pw_below_drewN | apply below_drew1 | refine below_set ?_ (IsS67.ge HI283.out) | refine below_set ?_ GE279.out | refine below_set ?_ GE288.out) | exact HB.out)))); have n1_ := Aside0.mk (blk_below (g := gb279) (o := .cells #[.int .i64 0, .int .i64 0] 25 (0, 0)) (by (with_reducible repeat (first | refine blk_drewN ?_ _ | refine blk_drew ?_ | refine blk_alloc ?_ _)); refine blk_far ?_ NB279_288.out _; (with_reducible repeat (first | refine blk_drewN ?_ _ | refine blk_drew ?_ | refine blk_alloc ?_ _)); refine blk_far ?_ NB279_288.out _; (with_reducible repeat (first | refine blk_drewN ?_ _ | refine blk_drew ?_ | refine blk_alloc ?_ _)); exact BK279.out) hb); have n2_ := Aside0.mk (IsS67.below (show IsS67 w ((w7.setCell ⟨gb288, 0, none⟩ (.int .i64 t284)).setCell ⟨gb288, 1, none⟩ (.int .i64 t285)) g283 t280 t286 t287 from by repeat (first | (with_reducible first | exact HI283.out | apply IsS67.alloc | apply IsS67.drewN | apply IsS67.drew | apply IsS67.set_1 | apply IsS67.set_2 | refine IsS67.far ?_ NB283_279.out _ | refine IsS67.far ?_ NB283_288.out _) | exact HI283.out)) hb); have n3_ := Aside0.mk (blk_below (g := gb288) (o := .cells #[.int .i64 t284, .int .i64 t285] 25 (0, 0)) (by (with_reducible repeat (first | refine blk_drewN ?_ _ | refine blk_drew ?_ | refine blk_alloc ?_ _)); refine blk_put (cs := #[.int .i64 t284, .int .i64 0]) ?_ 1 _ rfl; (with_reducible repeat (first | refine blk_drewN ?_ _ | refine blk_drew ?_ | refine blk_alloc ?_ _)); refine blk_put (cs := #[.int .i64 0, .int .i64 0]) ?_ 0 _ rfl; (with_reducible repeat (first | refine blk_drewN ?_ _ | refine blk_drew ?_ | refine blk_alloc ?_ _)); exact BK288.out) hb); have n4_ := Aside0.mk (below_step (by repeat (first | (with_reducible first | exact HB.out | apply below_alloc | apply pw_below_drewN | apply below_drew1 | refine below_set ?_ (IsS67.ge HI283.out) | refine below_set ?_ GE279.out | refine below_set ?_ GE288.out) | exact HB.out)) hb); clear BK279; clear HI283; clear BK288; clear HB; have HO291 := n0_; have BK279 := n1_; have HI283 := n2_; have BK288 := n3_; have HB := n4_; clear n0_ n1_ n2_ n3_ n4_; clear hb ho12))
  go_loopg [6, 7] k (fun kq v6 v7 w' => ∃ (x6_1 : List Int) (x7_1 : Int) (x284001_1 : Int) (x284002_1 : Int), v7 = .int .i64 x7_1 ∧ Aside0 (spec_DrawPermuteTable.l0 kq x6_1 x7_1 t280 x284001_1 x284002_1 t284 t285 = some (r1, r2, r3)) ∧ Aside0 (kq ≤ k) ∧ Aside0 (Kd.R (Kd.int .i64) 3 w' w.heap.size (fun _ => True) v6 x6_1) ∧ Aside0 (w'.heap[gb279]? = some (.cells #[.int .i64 0, .int .i64 0] 25 (0, 0))) ∧ Aside0 (w'.heap[gb288]? = some (.cells #[.int .i64 t284, .int .i64 t285] 25 (0, 0))) ∧ Aside0 (IsS67 w w' g283 t280 x284001_1 x284002_1) ∧ Aside0 (Below w.heap.size w w'))
  case atStart => exact ⟨(y289), (0), (t286), (t287), (by first | rfl | (simp; done) | (simp [*]; done)), H', ⟨Nat.le_refl _⟩, ⟨by (with_reducible repeat (first | apply Kd.R_alloc | apply Kd.R_drewN | apply Kd.R_drew)); exact HO291.out⟩, ⟨by (with_reducible repeat (first | refine blk_drewN ?_ _ | refine blk_drew ?_ | refine blk_alloc ?_ _)); exact BK279.out⟩, ⟨by (with_reducible repeat (first | refine blk_drewN ?_ _ | refine blk_drew ?_ | refine blk_alloc ?_ _)); exact BK288.out⟩, ⟨by repeat (first | (with_reducible first | exact HI283.out | apply IsS67.alloc | apply IsS67.drewN | apply IsS67.drew | apply IsS67.set_1 | apply IsS67.set_2 | refine IsS67.far ?_ NB283_279.out _ | refine IsS67.far ?_ NB283_288.out _) | exact HI283.out)⟩, ⟨by repeat (first | (with_reducible first | exact HB.out | apply below_alloc | apply pw_below_drewN | apply below_drew1 | refine below_set ?_ (IsS67.ge HI283.out) | refine below_set ?_ GE279.out | refine below_set ?_ GE288.out) | exact HB.out)⟩⟩
  case round =>
    clear H'
    try clear c2
    try clear p2
    try clear c3
    try clear c8
    try clear c9
    try clear hcz10_0
    try clear hcz10_1
    try clear hfz10_0
    try clear hfz10_1
    obtain ⟨x6_1, x7_1, x284001_1, x284002_1, rfl, HA, HK1, HO_6, BK279, BK288, HI283, HB⟩ := hrel
    cases gk with
    | zero => exact absurd HA.out (by simp [spec_DrawPermuteTable.l0])
    | succ k1 =>
      have H := HA.out
      clear HA
      simp only [spec_DrawPermuteTable.l0] at H
      obtain ⟨ji13, hji13⟩ : ∃ j_ : Int, (mn t284 6) = j_ := ⟨_, rfl⟩
      replace H : (if x7_1 < (ji13) then ((spec_l1Below.f t280 x284001_1 x284002_1 (wrap64 ((x6_1.length : Int) + 1))).bind fun bt292 => (if x6_1.length < 17592186044416 then (if 0 ≤ bt292.1 ∧ bt292.1 ≤ (x6_1.length : Int) then (spec_DrawPermuteTable.l0 k1 (x6_1.take bt292.1.toNat ++ [x7_1] ++ x6_1.drop bt292.1.toNat) (wrap64 (x7_1 + 1)) t280 bt292.2.1 bt292.2.2 t284 t285) else (none)) else (none))) else (if (x6_1.length : Int) > 0 then ((spec_l1Once.f t280 x284001_1 x284002_1 8).bind fun bt298 => (if bt298.1 = true then ((spec_l1PickInt.f t280 bt298.2.1 bt298.2.2 (([(-1), 0, 5, 9223372036854775807] : List Int))).bind fun bt304 => (if 0 < (x6_1.length : Int) then (some (t284, t285, (x6_1.set (0 : Int).toNat bt304.1))) else (none))) else (some (t284, t285, x6_1)))) else (some (t284, t285, x6_1)))) = some (r1, r2, r3) := by first | (rw [hji13] at H; exact H) | (simp only [hji13] at H ⊢; exact H)
      have hji13_ : (if 6 < t284 then 6 else t284) = ji13 := hji13
      by_cases c14 : x7_1 < (ji13)
      · rw [if_pos c14] at H
        have c14b0 : decide (x7_1 < (ji13)) = true := decide_eq_true c14
        clear c14
        replace H := Option.bind_eq_some_iff.mp H
        obtain ⟨⟨t292, t293, t294⟩, A150, H⟩ := H
        replace H : (if x6_1.length < 17592186044416 then (if 0 ≤ t292 ∧ t292 ≤ (x6_1.length : Int) then (spec_DrawPermuteTable.l0 k1 (x6_1.take t292.toNat ++ [x7_1] ++ x6_1.drop t292.toNat) (wrap64 (x7_1 + 1)) t280 t293 t294 t284 t285) else (none)) else (none)) = some (r1, r2, r3) := H
        have A15 := Aside0.mk A150
        clear A150
        by_cases c16 : x6_1.length < 17592186044416
        · rw [if_pos c16] at H
          have LMc16 := Aside0.mk c16
          clear c16
          by_cases cz : 0 ≤ t292 ∧ t292 ≤ (x6_1.length : Int)
          case neg => rw [if_neg cz] at H; exact absurd H (by simp)
          rw [if_pos cz] at H
          obtain ⟨cz0, cz1⟩ := cz
          obtain ⟨kk, rfl⟩ := Int.eq_ofNat_of_zero_le cz0
          rw [Int.toNat_natCast] at H
          have hkl : kk ≤ x6_1.length := by omega
          have LK := Aside0.mk hkl
          clear cz0 cz1 hkl
          obtain ⟨y295, hy295⟩ : ∃ y_ : List Int, y_ = (x6_1.take kk ++ [x7_1] ++ x6_1.drop kk) := ⟨_, rfl⟩
          replace H : (spec_DrawPermuteTable.l0 k1 y295 (wrap64 (x7_1 + 1)) t280 t293 t294 t284 t285) = some (r1, r2, r3) := by first | (rw [hy295]; with_reducible exact H) | (have H2_ := (Option.bind_some _ _).symm.trans H; rw [hy295]; with_reducible exact H2_) | (have H2_ := (Option.bind_some _ _).symm.trans H; with_reducible exact H2_) | with_reducible exact H | (rw [hy295]; exact H) | exact H
          have Ny295 := Aside0.mk hy295
          clear hy295
          have H' := Aside0.mk H
          clear H
          have hnb17 := NB288_279.out
          have hnc17 := NB279_288.out
          have hnb18 := NB288_283.out
          have hnc18 := NB283_288.out
          have hcz19_0 : wr.cell? ⟨gb288, 0, none⟩ = some (.int .i64 t284) := (blk_cell BK288.out 0).trans rfl
          have hcz19_1 : wr.cell? ⟨gb288, 1, none⟩ = some (.int .i64 t285) := (blk_cell BK288.out 1).trans rfl
          have hfz19_0 := blk_frozen BK288.out 0
          have hfz19_1 := blk_frozen BK288.out 1
          obtain ⟨Ao20, co20, eo20⟩ := Kd.R_slice HO_6.out
          subst eo20
          go_wp2_with (first | ((with_reducible refine gate_callee (f := 41) rfl ?_); refine goesL_ (some 25) rfl rfl Try.func41 (by kernel_rfl) rfl #[.pointer (some ⟨g283, 0, none⟩), .int .i64 (wrap64 ((x6_1.length : Int) + 1))] rfl (by (try simp only [List.map_toArray, List.map_cons, List.map_nil]); first | done | rfl | (simp only [List.length_drop, List.length_take]; rfl)) ?_; (with_reducible refine (spec_l1Below.calls g283 t280 x284001_1 x284002_1 (wrap64 ((x6_1.length : Int) + 1)) ((kk : Nat) : Int) t293 t294 w _ ?side1 ?side2 A15.out).mono ?_); (case side1 => repeat (first | (with_reducible first | exact HI283.out | apply IsS67.alloc | apply IsS67.drewN | apply IsS67.drew | apply IsS67.set_1 | apply IsS67.set_2 | refine IsS67.far ?_ NB283_279.out _ | refine IsS67.far ?_ NB283_288.out _) | exact HI283.out)); (case side2 => repeat (first | (with_reducible first | exact HB.out | apply below_alloc | apply pw_below_drewN | apply below_drew1 | refine below_set ?_ (IsS67.ge HI283.out) | refine below_set ?_ GE279.out | refine below_set ?_ GE288.out) | exact HB.out)); rintro e w21 ⟨rfl, hi, hb, hk⟩; refine ⟨_, rfl, ?_⟩; have n0_ := Aside0.mk (Kd.R_mono (Kd.R_keep (IsS67.apart (show IsS67 w _ g283 t280 x284001_1 x284002_1 from by repeat (first | (with_reducible first | exact HI283.out | apply IsS67.alloc | apply IsS67.drewN | apply IsS67.drew | apply IsS67.set_1 | apply IsS67.set_2 | refine IsS67.far ?_ NB283_279.out _ | refine IsS67.far ?_ NB283_288.out _) | exact HI283.out)) (by (with_reducible repeat (first | apply Kd.R_alloc | apply Kd.R_drewN | apply Kd.R_drew)); exact HO_6.out) (by decide)) hk (fun _ h => h.2)) (fun _ h => h.1)); have n1_ := Aside0.mk (KeepBut.blk hk (g' := gb279) (o := .cells #[.int .i64 0, .int .i64 0] 25 (0, 0)) (by (with_reducible repeat (first | refine blk_drewN ?_ _ | refine blk_drew ?_ | refine blk_alloc ?_ _)); exact BK279.out) NB279_283.out (by simp)); have n2_ := Aside0.mk (KeepBut.blk hk (g' := gb288) (o := .cells #[.int .i64 t284, .int .i64 t285] 25 (0, 0)) (by (with_reducible repeat (first | refine blk_drewN ?_ _ | refine blk_drew ?_ | refine blk_alloc ?_ _)); exact BK288.out) NB288_283.out (by simp)); have n3_ := Aside0.mk (hb); have n4_ := Aside0.mk (hi); clear HO_6; clear BK279; clear BK288; clear HB; clear HI283; have HO_6 := n0_; have BK279 := n1_; have BK288 := n2_; have HB := n3_; have HI283 := n4_; clear n0_ n1_ n2_ n3_ n4_; (try clear hb); (try clear hb2); (try clear hk); (try clear hi)))
          have hco := (Kd.R_reads' HO_6.out).2.1
          have HCO := Aside0.mk hco
          have CT0 := Aside0.mk (Kd.C_take (Kd.R_reads' HO_6.out).2.2 LK.out)
          have CD0 := Aside0.mk (Kd.C_drop (Kd.R_reads' HO_6.out).2.2 LK.out hco)
          clear hco
          refine start_ (n := 13) (S := fun w' => True) (ds := []) #[false, false, false, false, false, false, false, false, false, false, false, false, false] (by kernel_rfl) rfl rfl trivial (fun hHeld => ?_); refine with_tabW spec_DrawPermuteTable.tab8 spec_DrawPermuteTable.bits8 (fun HT_ HW_ => ?_)
          have CT := Aside0.mk (Kd.C_drew CT0.out)
          have CD := Aside0.mk (Kd.C_drew CD0.out)
          have BK279z := Aside0.mk (blk_drew BK279.out)
          have BK288z := Aside0.mk (blk_drew BK288.out)
          have HBz := Aside0.mk (below_drew1 HB.out)
          have HIz := Aside0.mk (IsS67.drew HI283.out)
          clear CT0 CD0 BK279 BK288 HB HI283 HO_6 hHeld
          generalize w21.drew = wz at CT CD BK279z BK288z HBz HIz ⊢
          refine inv_at [0, 1, 2, 3, 4, 5, 6, 7, 8, 9, 10, 11, 12] (fun a0_ b a w' => ∃ (v0 v1 v2 v3 v4 : Value) (h : Nat), a = putSel a0_ b [(0, 26, v0), (1, 27, .slice Ao20 x6_1.length co20), (2, 28, .int .i64 (kk : Int)), (3, 29, .slice Ao20 kk co20), (4, 30, v1), (5, 31, .int .i64 x7_1), (6, 32, .slice (some ⟨h, 0, none⟩) 1 1), (7, 33, v2), (8, 34, .slice Ao20 x6_1.length co20), (9, 35, .int .i64 (kk : Int)), (10, 36, .slice (if co20 = kk then Ao20 else Ao20.map (·.add (kk * 1))) (x6_1.length - kk) (co20 - kk)), (11, 37, v3), (12, 6, v4)] ∧ Below wz.heap.size wz w' ∧ (b 0 = true → b 4 = false → Kd.R (Kd.int .i64) 3 w' wz.heap.size (fun _ => True) v0 []) ∧ (b 4 = true → b 7 = false → Kd.R (Kd.int .i64) 3 w' wz.heap.size (fun _ => True) v1 (x6_1.take kk)) ∧ (b 7 = true → b 11 = false → Kd.R (Kd.int .i64) 3 w' wz.heap.size (fun _ => True) v2 (x6_1.take kk ++ [x7_1])) ∧ (b 11 = true → Kd.R (Kd.int .i64) 3 w' wz.heap.size (fun _ => True) v3 (x6_1.take kk ++ [x7_1] ++ x6_1.drop kk)) ∧ (b 12 = true → v4 = v3) ∧ (b 6 = true → b 7 = false → w'.heap[h]? = some (.cells #[.int .i64 x7_1] 3 (0, 0)) ∧ (b 0 = true → b 4 = false → some h ≠ v0.ownBlock))) HT_.out HW_.out (by kernel_rfl) (by kernel_rfl) ?_ ?_ ?_
          · exact ⟨.bool false, .bool false, .bool false, .bool false, .bool false, 0, by simp only [putSel, Bool.false_eq_true, if_false], Below.refl _ _, fun h_ => absurd h_ (by decide), fun h_ => absurd h_ (by decide), fun h_ => absurd h_ (by decide), fun h_ => absurd h_ (by decide), fun h_ => absurd h_ (by decide), fun h_ => absurd h_ (by decide)⟩
          · skip
            refine steps_cons ?_ ?_
            · rintro b a w' ⟨v0, v1, v2, v3, v4, h, ha, QB, Q0, Q1, Q2, Q3, Q4, QH⟩ hb_ hon hoff
              refine ⟨_, rfl, fun K_ hK => ?_⟩
              replace ha := Aside0.mk ha
              refine Kd.R_lit_step (Kd.int .i64) wz.heap.size 3 ?hg (N := 26) ?hd (w0 := wz) (xs := ([] : List Int)) (inner := []) (ok := fun _ => True) (okp := fun _ => True) ?hr ?hp (fun _ hk => hk) trivial QB QB.size (by simp) ?_; (case hd => rfl); (case hg => rfl); (case hr => first | (go_simp; done) | (go_simp; rfl)); (case hp => exact Reps.none _ _)
              intro u0 w1 ho hb1 hg1 hnew
              refine hK.out _ _ ⟨u0, v1, v2, v3, v4, h, (by rw [ha.out]; exact putSel_upk 0 hb_ rfl rfl rfl), hb1, fun _ _ => ho, fun h_ => absurd ((hoff 4 (by kernel_rfl)).symm.trans h_) (by decide), fun h_ => absurd ((hoff 7 (by kernel_rfl)).symm.trans h_) (by decide), fun h_ => absurd ((hoff 11 (by kernel_rfl)).symm.trans h_) (by decide), fun h_ => absurd ((hoff 12 (by kernel_rfl)).symm.trans h_) (by decide), fun h6 h7 => ⟨blk_grown (QH h6 h7).1 hg1 (by simp), fun _ _ he => by obtain ⟨b_, hb_1, hle⟩ := hnew; rw [hb_1] at he; cases he; exact absurd (blk_lt (QH h6 h7).1) (by omega)⟩⟩
            refine steps_cons ?_ ?_
            · rintro b a w' ⟨v0, v1, v2, v3, v4, h, ha, QB, Q0, Q1, Q2, Q3, Q4, QH⟩ hb_ hon hoff
              refine ⟨_, rfl, fun K_ hK => ?_⟩
              have e6 : a.tmps[6]? = some (.slice Ao20 x6_1.length co20) := by rw [ha]; exact (putSel_not (j := 12) (hoff 12 (by kernel_rfl)) rfl).trans rfl
              replace ha := Aside0.mk ha
              refine value_ (w1 := w') (v := .slice Ao20 x6_1.length co20) (by rfl) rfl ?_ ?_
              · have hc_ := HCO.out
                have hl_ := LK.out
                have hx1 : (co20 < kk) = False := eq_false (by omega)
                have hx2 : (co20 < x6_1.length) = False := eq_false (by omega)
                have hx3 : (x6_1.length < kk) = False := eq_false (by omega)
                go_simp
                (try simp only [i64_w])
                try rfl
              refine hK.out _ _ ⟨v0, v1, v2, v3, v4, h, (by rw [ha.out]; exact putSel_upk 1 hb_ rfl rfl rfl), QB, Q0, Q1, Q2, Q3, fun h_ => absurd ((hoff 12 (by kernel_rfl)).symm.trans h_) (by decide), QH⟩
            refine steps_cons ?_ ?_
            · rintro b a w' ⟨v0, v1, v2, v3, v4, h, ha, QB, Q0, Q1, Q2, Q3, Q4, QH⟩ hb_ hon hoff
              refine ⟨_, rfl, fun K_ hK => ?_⟩
              have e8 : a.tmps[8]? = some (.int .i64 (kk : Int)) := by rw [ha]; exact (putSel_not (j := 12) (hoff 12 (by kernel_rfl)) rfl).trans rfl
              replace ha := Aside0.mk ha
              refine value_ (w1 := w') (v := .int .i64 (kk : Int)) (by rfl) rfl ?_ ?_
              · have hc_ := HCO.out
                have hl_ := LK.out
                have hx1 : (co20 < kk) = False := eq_false (by omega)
                have hx2 : (co20 < x6_1.length) = False := eq_false (by omega)
                have hx3 : (x6_1.length < kk) = False := eq_false (by omega)
                go_simp
                (try simp only [i64_w])
                try rfl
              refine hK.out _ _ ⟨v0, v1, v2, v3, v4, h, (by rw [ha.out]; exact putSel_upk 2 hb_ rfl rfl rfl), QB, Q0, Q1, Q2, Q3, fun h_ => absurd ((hoff 12 (by kernel_rfl)).symm.trans h_) (by decide), QH⟩
            refine steps_cons ?_ ?_
            · rintro b a w' ⟨v0, v1, v2, v3, v4, h, ha, QB, Q0, Q1, Q2, Q3, Q4, QH⟩ hb_ hon hoff
              refine ⟨_, rfl, fun K_ hK => ?_⟩
              have e27 : a.tmps[27]? = some (.slice Ao20 x6_1.length co20) := by rw [ha]; exact putSel_on (e := (1, 27, .slice Ao20 x6_1.length co20)) 1 rfl rfl (hon 1 (by kernel_rfl)) rfl
              have e28 : a.tmps[28]? = some (.int .i64 (kk : Int)) := by rw [ha]; exact putSel_on (e := (2, 28, .int .i64 (kk : Int))) 2 rfl rfl (hon 2 (by kernel_rfl)) rfl
              replace ha := Aside0.mk ha
              refine value_ (w1 := w') (v := .slice Ao20 kk co20) (by rfl) rfl ?_ ?_
              · have hc_ := HCO.out
                have hl_ := LK.out
                have hx1 : (co20 < kk) = False := eq_false (by omega)
                have hx2 : (co20 < x6_1.length) = False := eq_false (by omega)
                have hx3 : (x6_1.length < kk) = False := eq_false (by omega)
                go_simp
                (try simp only [i64_w])
                try rfl
              refine hK.out _ _ ⟨v0, v1, v2, v3, v4, h, (by rw [ha.out]; exact putSel_upk 3 hb_ rfl rfl rfl), QB, Q0, Q1, Q2, Q3, fun h_ => absurd ((hoff 12 (by kernel_rfl)).symm.trans h_) (by decide), QH⟩
            refine steps_cons ?_ ?_
            · rintro b a w' ⟨v0, v1, v2, v3, v4, h, ha, QB, Q0, Q1, Q2, Q3, Q4, QH⟩ hb_ hon hoff
              refine ⟨_, rfl, fun K_ hK => ?_⟩
              have e26 : a.tmps[26]? = some (v0) := by rw [ha]; exact putSel_on (e := (0, 26, v0)) 0 rfl rfl (hon 0 (by kernel_rfl)) rfl
              have e29 : a.tmps[29]? = some (.slice Ao20 kk co20) := by rw [ha]; exact putSel_on (e := (3, 29, .slice Ao20 kk co20)) 3 rfl rfl (hon 3 (by kernel_rfl)) rfl
              replace ha := Aside0.mk ha
              refine Kd.R_append_rows_step (Kd.int .i64) (Rr := (Kd.int .i64).K w') (w0 := wz) wz.heap.size ?hg (.tmp 26) (.tmp 29) 26 3 (.int .i64 0) 8 rfl Try.underlying26 info3 rfl (by decide) (by omega) v0 [] (x6_1.take kk) Ao20 kk co20 (fun _ => True) (fun _ => False) ?hs ?hx (Q0 (hon 0 (by kernel_rfl)) hb_) (by have h_ := Kd.C_below CT.out QB; rw [show (x6_1.take kk).length = kk by rw [List.length_take]; have := LK.out; omega] at h_; exact h_) (fun _ _ h_ => h_) (fun _ hk => hk.elim) (fun _ _ => trivial) QB QB.size (by have := LK.out; have := LMc16.out; simp; omega) ?_; (case hg => rfl); (case hs => go_simp); (case hx => go_simp)
              intro u1 w1 ho hb1 hg1 hat
              rw [List.nil_append] at ho
              refine hK.out _ _ ⟨v0, u1, v2, v3, v4, h, (by rw [ha.out]; exact putSel_upk 4 hb_ rfl rfl rfl), hb1, fun _ h_ => absurd ((up_self b 4).symm.trans h_) (by decide), fun _ _ => ho, fun h_ => absurd ((hoff 7 (by kernel_rfl)).symm.trans h_) (by decide), fun h_ => absurd ((hoff 11 (by kernel_rfl)).symm.trans h_) (by decide), fun h_ => absurd ((hoff 12 (by kernel_rfl)).symm.trans h_) (by decide), fun h6 h7 => ⟨blk_grown (QH h6 h7).1 hg1 ((QH h6 h7).2 (hon 0 (by kernel_rfl)) hb_), fun _ h_ => absurd ((up_self b 4).symm.trans h_) (by decide)⟩⟩
            refine steps_cons ?_ ?_
            · rintro b a w' ⟨v0, v1, v2, v3, v4, h, ha, QB, Q0, Q1, Q2, Q3, Q4, QH⟩ hb_ hon hoff
              refine ⟨_, rfl, fun K_ hK => ?_⟩
              have e7 : a.tmps[7]? = some (.int .i64 x7_1) := by rw [ha]; exact (putSel_not (j := 12) (hoff 12 (by kernel_rfl)) rfl).trans rfl
              replace ha := Aside0.mk ha
              refine value_ (w1 := w') (v := .int .i64 x7_1) (by rfl) rfl ?_ ?_
              · have hc_ := HCO.out
                have hl_ := LK.out
                have hx1 : (co20 < kk) = False := eq_false (by omega)
                have hx2 : (co20 < x6_1.length) = False := eq_false (by omega)
                have hx3 : (x6_1.length < kk) = False := eq_false (by omega)
                go_simp
                (try simp only [i64_w])
                try rfl
              refine hK.out _ _ ⟨v0, v1, v2, v3, v4, h, (by rw [ha.out]; exact putSel_upk 5 hb_ rfl rfl rfl), QB, Q0, Q1, Q2, Q3, fun h_ => absurd ((hoff 12 (by kernel_rfl)).symm.trans h_) (by decide), QH⟩
            refine steps_cons ?_ ?_
            · rintro b a w' ⟨v0, v1, v2, v3, v4, h, ha, QB, Q0, Q1, Q2, Q3, Q4, QH⟩ hb_ hon hoff
              refine ⟨_, rfl, fun K_ hK => ?_⟩
              have e31 : a.tmps[31]? = some (.int .i64 x7_1) := by rw [ha]; exact putSel_on (e := (5, 31, .int .i64 x7_1)) 5 rfl rfl (hon 5 (by kernel_rfl)) rfl
              replace ha := Aside0.mk ha
              refine value_ (w1 := w'.alloc (.cells #[.int .i64 x7_1] 3)) (v := .slice (some ⟨w'.heap.size, 0, none⟩) 1 1) (by rfl) rfl ?_ ?_
              · go_simp
                try rfl
              have hba : Below w'.heap.size w' (w'.alloc (.cells #[.int .i64 x7_1] 3)) := below_alloc (Below.refl _ _) _
              refine hK.out _ _ ⟨v0, v1, v2, v3, v4, w'.heap.size, (by rw [ha.out]; exact putSel_upk 6 hb_ rfl rfl rfl), below_alloc QB _, fun h0 h4 => Kd.R_below (Q0 h0 h4) hba, fun h4 h7 => Kd.R_below (Q1 h4 h7) hba, fun h_ => absurd ((hoff 7 (by kernel_rfl)).symm.trans h_) (by decide), fun h_ => absurd ((hoff 11 (by kernel_rfl)).symm.trans h_) (by decide), fun h_ => absurd ((hoff 12 (by kernel_rfl)).symm.trans h_) (by decide), fun _ _ => ⟨blk_new w' _, fun h0 h4 he => absurd (Kd.R_lt (Q0 h0 h4) _ he.symm) (by omega)⟩⟩
            refine steps_cons ?_ ?_
            · rintro b a w' ⟨v0, v1, v2, v3, v4, h, ha, QB, Q0, Q1, Q2, Q3, Q4, QH⟩ hb_ hon hoff
              refine ⟨_, rfl, fun K_ hK => ?_⟩
              have e30 : a.tmps[30]? = some (v1) := by rw [ha]; exact putSel_on (e := (4, 30, v1)) 4 rfl rfl (hon 4 (by kernel_rfl)) rfl
              have e32 : a.tmps[32]? = some (.slice (some ⟨h, 0, none⟩) 1 1) := by rw [ha]; exact putSel_on (e := (6, 32, .slice (some ⟨h, 0, none⟩) 1 1)) 6 rfl rfl (hon 6 (by kernel_rfl)) rfl
              replace ha := Aside0.mk ha
              have hh := (QH (hon 6 (by kernel_rfl)) hb_).1
              refine Kd.R_append_rows_step (Kd.int .i64) (Rr := (Kd.int .i64).K w') (w0 := wz) wz.heap.size ?hg (.tmp 30) (.tmp 32) 26 3 (.int .i64 0) 8 rfl Try.underlying26 info3 rfl (by decide) (by omega) v1 (x6_1.take kk) [x7_1] (some ⟨h, 0, none⟩) 1 1 (fun _ => True) (fun _ => False) ?hs ?hx (Q1 (hon 4 (by kernel_rfl)) hb_) ⟨rfl, by omega, fun _ => ⟨_, rfl, fun j p hj => by cases j with | zero => (refine ⟨[.int .i64 x7_1], rfl, ?_, fun i u hi => ?_⟩; (· cases hj; exact rfl); (· cases i with | zero => (cases hi; exact (blk_cell hh 0).trans rfl) | succ i => simp at hi)) | succ j => simp at hj⟩⟩ (fun _ _ h_ => h_) (fun _ hk => hk.elim) (fun _ _ => trivial) QB QB.size (by have := LK.out; have := LMc16.out; rw [List.length_take]; omega) ?_; (case hg => rfl); (case hs => go_simp); (case hx => go_simp)
              intro u2 w1 ho hb1 hg1 hat
              refine hK.out _ _ ⟨v0, v1, u2, v3, v4, h, (by rw [ha.out]; exact putSel_upk 7 hb_ rfl rfl rfl), hb1, fun _ h_ => absurd ((hon 4 (by kernel_rfl)).symm.trans h_) (by decide), fun _ h_ => absurd ((up_self b 7).symm.trans h_) (by decide), fun _ _ => ho, fun h_ => absurd ((hoff 11 (by kernel_rfl)).symm.trans h_) (by decide), fun h_ => absurd ((hoff 12 (by kernel_rfl)).symm.trans h_) (by decide), fun _ h_ => absurd ((up_self b 7).symm.trans h_) (by decide)⟩
            refine steps_cons ?_ ?_
            · rintro b a w' ⟨v0, v1, v2, v3, v4, h, ha, QB, Q0, Q1, Q2, Q3, Q4, QH⟩ hb_ hon hoff
              refine ⟨_, rfl, fun K_ hK => ?_⟩
              have e6 : a.tmps[6]? = some (.slice Ao20 x6_1.length co20) := by rw [ha]; exact (putSel_not (j := 12) (hoff 12 (by kernel_rfl)) rfl).trans rfl
              replace ha := Aside0.mk ha
              refine value_ (w1 := w') (v := .slice Ao20 x6_1.length co20) (by rfl) rfl ?_ ?_
              · have hc_ := HCO.out
                have hl_ := LK.out
                have hx1 : (co20 < kk) = False := eq_false (by omega)
                have hx2 : (co20 < x6_1.length) = False := eq_false (by omega)
                have hx3 : (x6_1.length < kk) = False := eq_false (by omega)
                go_simp
                (try simp only [i64_w])
                try rfl
              refine hK.out _ _ ⟨v0, v1, v2, v3, v4, h, (by rw [ha.out]; exact putSel_upk 8 hb_ rfl rfl rfl), QB, Q0, Q1, Q2, Q3, fun h_ => absurd ((hoff 12 (by kernel_rfl)).symm.trans h_) (by decide), QH⟩
            refine steps_cons ?_ ?_
            · rintro b a w' ⟨v0, v1, v2, v3, v4, h, ha, QB, Q0, Q1, Q2, Q3, Q4, QH⟩ hb_ hon hoff
              refine ⟨_, rfl, fun K_ hK => ?_⟩
              have e8 : a.tmps[8]? = some (.int .i64 (kk : Int)) := by rw [ha]; exact (putSel_not (j := 12) (hoff 12 (by kernel_rfl)) rfl).trans rfl
              replace ha := Aside0.mk ha
              refine value_ (w1 := w') (v := .int .i64 (kk : Int)) (by rfl) rfl ?_ ?_
              · have hc_ := HCO.out
                have hl_ := LK.out
                have hx1 : (co20 < kk) = False := eq_false (by omega)
                have hx2 : (co20 < x6_1.length) = False := eq_false (by omega)
                have hx3 : (x6_1.length < kk) = False := eq_false (by omega)
                go_simp
                (try simp only [i64_w])
                try rfl
              refine hK.out _ _ ⟨v0, v1, v2, v3, v4, h, (by rw [ha.out]; exact putSel_upk 9 hb_ rfl rfl rfl), QB, Q0, Q1, Q2, Q3, fun h_ => absurd ((hoff 12 (by kernel_rfl)).symm.trans h_) (by decide), QH⟩
            refine steps_cons ?_ ?_
            · rintro b a w' ⟨v0, v1, v2, v3, v4, h, ha, QB, Q0, Q1, Q2, Q3, Q4, QH⟩ hb_ hon hoff
              refine ⟨_, rfl, fun K_ hK => ?_⟩
              have e34 : a.tmps[34]? = some (.slice Ao20 x6_1.length co20) := by rw [ha]; exact putSel_on (e := (8, 34, .slice Ao20 x6_1.length co20)) 8 rfl rfl (hon 8 (by kernel_rfl)) rfl
              have e35 : a.tmps[35]? = some (.int .i64 (kk : Int)) := by rw [ha]; exact putSel_on (e := (9, 35, .int .i64 (kk : Int))) 9 rfl rfl (hon 9 (by kernel_rfl)) rfl
              replace ha := Aside0.mk ha
              refine value_ (w1 := w') (v := .slice (if co20 = kk then Ao20 else Ao20.map (·.add (kk * 1))) (x6_1.length - kk) (co20 - kk)) (by rfl) rfl ?_ ?_
              · have hc_ := HCO.out
                have hl_ := LK.out
                have hx1 : (co20 < kk) = False := eq_false (by omega)
                have hx2 : (co20 < x6_1.length) = False := eq_false (by omega)
                have hx3 : (x6_1.length < kk) = False := eq_false (by omega)
                go_simp
                (try simp only [i64_w])
                try rfl
              refine hK.out _ _ ⟨v0, v1, v2, v3, v4, h, (by rw [ha.out]; exact putSel_upk 10 hb_ rfl rfl rfl), QB, Q0, Q1, Q2, Q3, fun h_ => absurd ((hoff 12 (by kernel_rfl)).symm.trans h_) (by decide), QH⟩
            refine steps_cons ?_ ?_
            · rintro b a w' ⟨v0, v1, v2, v3, v4, h, ha, QB, Q0, Q1, Q2, Q3, Q4, QH⟩ hb_ hon hoff
              refine ⟨_, rfl, fun K_ hK => ?_⟩
              have e33 : a.tmps[33]? = some (v2) := by rw [ha]; exact putSel_on (e := (7, 33, v2)) 7 rfl rfl (hon 7 (by kernel_rfl)) rfl
              have e36 : a.tmps[36]? = some (.slice (if co20 = kk then Ao20 else Ao20.map (·.add (kk * 1))) (x6_1.length - kk) (co20 - kk)) := by rw [ha]; exact putSel_on (e := (10, 36, .slice (if co20 = kk then Ao20 else Ao20.map (·.add (kk * 1))) (x6_1.length - kk) (co20 - kk))) 10 rfl rfl (hon 10 (by kernel_rfl)) rfl
              replace ha := Aside0.mk ha
              refine Kd.R_append_rows_step (Kd.int .i64) (Rr := (Kd.int .i64).K w') (w0 := wz) wz.heap.size ?hg (.tmp 33) (.tmp 36) 26 3 (.int .i64 0) 8 rfl Try.underlying26 info3 rfl (by decide) (by omega) v2 (x6_1.take kk ++ [x7_1]) (x6_1.drop kk) (if co20 = kk then Ao20 else Ao20.map (·.add (kk * 1))) (x6_1.length - kk) (co20 - kk) (fun _ => True) (fun _ => False) ?hs ?hx (Q2 (hon 7 (by kernel_rfl)) hb_) (by have h_ := Kd.C_below CD.out QB; rw [show (x6_1.drop kk).length = x6_1.length - kk from List.length_drop] at h_; exact h_) (fun _ _ h_ => h_) (fun _ hk => hk.elim) (fun _ _ => trivial) QB QB.size (by have := LK.out; have := LMc16.out; rw [List.length_append, List.length_take]; simp; omega) ?_; (case hg => rfl); (case hs => go_simp); (case hx => go_simp)
              intro u3 w1 ho hb1 hg1 hat
              refine hK.out _ _ ⟨v0, v1, v2, u3, v4, h, (by rw [ha.out]; exact putSel_upk 11 hb_ rfl rfl rfl), hb1, fun _ h_ => absurd ((hon 4 (by kernel_rfl)).symm.trans h_) (by decide), fun _ h_ => absurd ((hon 7 (by kernel_rfl)).symm.trans h_) (by decide), fun _ h_ => absurd ((up_self b 11).symm.trans h_) (by decide), fun _ => ho, fun h_ => absurd ((hoff 12 (by kernel_rfl)).symm.trans h_) (by decide), fun _ h_ => absurd ((hon 7 (by kernel_rfl)).symm.trans h_) (by decide)⟩
            refine steps_cons ?_ ?_
            · rintro b a w' ⟨v0, v1, v2, v3, v4, h, ha, QB, Q0, Q1, Q2, Q3, Q4, QH⟩ hb_ hon hoff
              refine ⟨_, rfl, fun K_ hK => ?_⟩
              have e37 : a.tmps[37]? = some (v3) := by rw [ha]; exact putSel_on (e := (11, 37, v3)) 11 rfl rfl (hon 11 (by kernel_rfl)) rfl
              replace ha := Aside0.mk ha
              refine value_ (w1 := w') (v := v3) (by rfl) rfl ?_ ?_
              · have hc_ := HCO.out
                have hl_ := LK.out
                have hx1 : (co20 < kk) = False := eq_false (by omega)
                have hx2 : (co20 < x6_1.length) = False := eq_false (by omega)
                have hx3 : (x6_1.length < kk) = False := eq_false (by omega)
                go_simp
                (try simp only [i64_w])
                try rfl
              refine hK.out _ _ ⟨v0, v1, v2, v3, v3, h, (by rw [ha.out]; exact putSel_upk 12 hb_ rfl rfl rfl), QB, Q0, Q1, Q2, Q3, fun _ => rfl, QH⟩
            exact steps_nil
          rintro b a w22 hall ⟨v0, v1, v2, v3, v4, h, ha, QB, Q0, Q1, Q2, Q3, Q4, QH⟩
          have hb0_ := hall 0 (by kernel_rfl)
          have hb1_ := hall 1 (by kernel_rfl)
          have hb2_ := hall 2 (by kernel_rfl)
          have hb3_ := hall 3 (by kernel_rfl)
          have hb4_ := hall 4 (by kernel_rfl)
          have hb5_ := hall 5 (by kernel_rfl)
          have hb6_ := hall 6 (by kernel_rfl)
          have hb7_ := hall 7 (by kernel_rfl)
          have hb8_ := hall 8 (by kernel_rfl)
          have hb9_ := hall 9 (by kernel_rfl)
          have hb10_ := hall 10 (by kernel_rfl)
          have hb11_ := hall 11 (by kernel_rfl)
          have hb12_ := hall 12 (by kernel_rfl)
          have HO297 := Aside0.mk (Kd.R_lower (Q3 hb11_) HBz.out.size)
          obtain rfl := Q4 hb12_
          rw [← Ny295.out] at HO297
          have BK279 := Aside0.mk (blk_below BK279z.out QB)
          have BK288 := Aside0.mk (blk_below BK288z.out QB)
          have HI283 := Aside0.mk (IsS67.below HIz.out QB)
          have HB := Aside0.mk (below_step HBz.out QB)
          clear QB Q0 Q1 Q2 Q3 Q4 QH CT CD BK279z BK288z HBz HIz
          subst ha
          simp only [putSel, hb0_, hb1_, hb2_, hb3_, hb4_, hb5_, hb6_, hb7_, hb8_, hb9_, hb10_, hb11_, hb12_, if_true, Act.put, List.setIfInBounds_toArray, List.set_cons_zero, List.set_cons_succ]
          clear hall hb0_ hb1_ hb2_ hb3_ hb4_ hb5_ hb6_ hb7_ hb8_ hb9_ hb10_ hb11_ hb12_
          generalize (if co20 = kk then Ao20 else Ao20.map (·.add (kk * 1))) = AX
          go_wp2_with fail
          go_roundg k1
          case measure => have := HK1.out; omega
          case rel => exact ⟨(y295), (wrap64 (x7_1 + 1)), (t293), (t294), (by first | rfl | (simp; done) | (simp [*]; done)), H', ⟨by have := HK1.out; omega⟩, ⟨by (with_reducible repeat (first | apply Kd.R_alloc | apply Kd.R_drewN | apply Kd.R_drew)); exact HO297.out⟩, ⟨by (with_reducible repeat (first | refine blk_drewN ?_ _ | refine blk_drew ?_ | refine blk_alloc ?_ _)); exact BK279.out⟩, ⟨by (with_reducible repeat (first | refine blk_drewN ?_ _ | refine blk_drew ?_ | refine blk_alloc ?_ _)); exact BK288.out⟩, ⟨by repeat (first | (with_reducible first | exact HI283.out | apply IsS67.alloc | apply IsS67.drewN | apply IsS67.drew | apply IsS67.set_1 | apply IsS67.set_2 | refine IsS67.far ?_ NB283_279.out _ | refine IsS67.far ?_ NB283_288.out _) | exact HI283.out)⟩, ⟨by repeat (first | (with_reducible first | exact HB.out | apply below_alloc | apply pw_below_drewN | apply below_drew1 | refine below_set ?_ (IsS67.ge HI283.out) | refine below_set ?_ GE279.out | refine below_set ?_ GE288.out) | exact HB.out)⟩⟩
        · rw [if_neg c16] at H
          exact absurd H (by simp)
      · rw [if_neg c14] at H
        have c14b0 : decide (x7_1 < (ji13)) = false := decide_eq_false c14
        clear c14
        by_cases c23 : (x6_1.length : Int) > 0
        · rw [if_pos c23] at H
          have c23b0 : decide (0 < (x6_1.length : Int)) = true := decide_eq_true c23
          have c23b1 : decide (0 < x6_1.length) = true := decide_eq_true (by omega)
          clear c23
          replace H := Option.bind_eq_some_iff.mp H
          obtain ⟨⟨t298, t299, t300⟩, A240, H⟩ := H
          replace H : (if t298 = true then ((spec_l1PickInt.f t280 t299 t300 (([(-1), 0, 5, 9223372036854775807] : List Int))).bind fun bt304 => (if 0 < (x6_1.length : Int) then (some (t284, t285, (x6_1.set (0 : Int).toNat bt304.1))) else (none))) else (some (t284, t285, x6_1))) = some (r1, r2, r3) := H
          have A24 := Aside0.mk A240
          clear A240
          by_cases c25 : t298 = true
          · subst c25
            have H1 : ((spec_l1PickInt.f t280 t299 t300 (([(-1), 0, 5, 9223372036854775807] : List Int))).bind fun bt304 => (if 0 < (x6_1.length : Int) then (some (t284, t285, (x6_1.set (0 : Int).toNat bt304.1))) else (none))) = some (r1, r2, r3) := by rw [if_pos rfl] at H; exact H
            clear H
            have H := H1
            clear H1
            obtain ⟨y301, hy301⟩ : ∃ y_ : List Int, y_ = (([(-1), 0, 5, 9223372036854775807] : List Int)) := ⟨_, rfl⟩
            replace H : ((spec_l1PickInt.f t280 t299 t300 y301).bind fun bt304 => (if 0 < (x6_1.length : Int) then (some (t284, t285, (x6_1.set (0 : Int).toNat bt304.1))) else (none))) = some (r1, r2, r3) := by first | (rw [hy301]; with_reducible exact H) | (have H2_ := (Option.bind_some _ _).symm.trans H; rw [hy301]; with_reducible exact H2_) | (have H2_ := (Option.bind_some _ _).symm.trans H; with_reducible exact H2_) | with_reducible exact H | (rw [hy301]; exact H) | exact H
            have Ny301 := Aside0.mk hy301
            clear hy301
            replace H := Option.bind_eq_some_iff.mp H
            obtain ⟨⟨t304, t305, t306⟩, A260, H⟩ := H
            replace H : (if 0 < (x6_1.length : Int) then (some (t284, t285, (x6_1.set (0 : Int).toNat t304))) else (none)) = some (r1, r2, r3) := H
            have A26 := Aside0.mk A260
            clear A260
            by_cases c27 : 0 < (x6_1.length : Int)
            · rw [if_pos c27] at H
              have c27b0 : decide (0 < (x6_1.length : Int)) = true := decide_eq_true c27
              have c27b1 : decide (0 < x6_1.length) = true := decide_eq_true (by omega)
              clear c27
              obtain ⟨y307, hy307⟩ : ∃ y_ : List Int, y_ = (x6_1.set (0 : Int).toNat t304) := ⟨_, rfl⟩
              replace H : (some (t284, t285, y307)) = some (r1, r2, r3) := by first | (rw [hy307]; with_reducible exact H) | (have H2_ := (Option.bind_some _ _).symm.trans H; rw [hy307]; with_reducible exact H2_) | (have H2_ := (Option.bind_some _ _).symm.trans H; with_reducible exact H2_) | with_reducible exact H | (rw [hy307]; exact H) | exact H
              have Ny307 := Aside0.mk hy307
              clear hy307
              simp only [Option.some.injEq, Prod.mk.injEq] at H
              obtain ⟨rfl, rfl, rfl⟩ := H
              have hnb29 := NB288_279.out
              have hnc29 := NB279_288.out
              have hnb30 := NB288_283.out
              have hnc30 := NB283_288.out
              have hcz31_0 : wr.cell? ⟨gb288, 0, none⟩ = some (.int .i64 t284) := (blk_cell BK288.out 0).trans rfl
              have hcz31_1 : wr.cell? ⟨gb288, 1, none⟩ = some (.int .i64 t285) := (blk_cell BK288.out 1).trans rfl
              have hfz31_0 := blk_frozen BK288.out 0
              have hfz31_1 := blk_frozen BK288.out 1
              obtain ⟨Ao32, co32, eo32⟩ := Kd.R_slice HO_6.out
              subst eo32
              go_wp2_with (first | (go_at_call 42; (with_reducible refine (spec_l1Once.calls g283 t280 x284001_1 x284002_1 8 true t299 t300 w _ ?side1 ?side2 A24.out).mono ?_); (case side1 => repeat (first | (with_reducible first | exact HI283.out | apply IsS67.alloc | apply IsS67.drewN | apply IsS67.drew | apply IsS67.set_1 | apply IsS67.set_2 | refine IsS67.far ?_ NB283_279.out _ | refine IsS67.far ?_ NB283_288.out _) | exact HI283.out)); (case side2 => repeat (first | (with_reducible first | exact HB.out | apply below_alloc | apply pw_below_drewN | apply below_drew1 | refine below_set ?_ (IsS67.ge HI283.out) | refine below_set ?_ GE279.out | refine below_set ?_ GE288.out) | exact HB.out)); rintro e w33 ⟨rfl, hi, hb, hk⟩; have n0_ := Aside0.mk (Kd.R_mono (Kd.R_keep (IsS67.apart (show IsS67 w _ g283 t280 x284001_1 x284002_1 from by repeat (first | (with_reducible first | exact HI283.out | apply IsS67.alloc | apply IsS67.drewN | apply IsS67.drew | apply IsS67.set_1 | apply IsS67.set_2 | refine IsS67.far ?_ NB283_279.out _ | refine IsS67.far ?_ NB283_288.out _) | exact HI283.out)) (by (with_reducible repeat (first | apply Kd.R_alloc | apply Kd.R_drewN | apply Kd.R_drew)); exact HO_6.out) (by decide)) hk (fun _ h => h.2)) (fun _ h => h.1)); have n1_ := Aside0.mk (KeepBut.blk hk (g' := gb279) (o := .cells #[.int .i64 0, .int .i64 0] 25 (0, 0)) (by (with_reducible repeat (first | refine blk_drewN ?_ _ | refine blk_drew ?_ | refine blk_alloc ?_ _)); exact BK279.out) NB279_283.out (by simp)); have n2_ := Aside0.mk (KeepBut.blk hk (g' := gb288) (o := .cells #[.int .i64 t284, .int .i64 t285] 25 (0, 0)) (by (with_reducible repeat (first | refine blk_drewN ?_ _ | refine blk_drew ?_ | refine blk_alloc ?_ _)); exact BK288.out) NB288_283.out (by simp)); have n3_ := Aside0.mk (hb); have n4_ := Aside0.mk (hi); clear HO_6; clear BK279; clear BK288; clear HB; clear HI283; have HO_6 := n0_; have BK279 := n1_; have BK288 := n2_; have HB := n3_; have HI283 := n4_; clear n0_ n1_ n2_ n3_ n4_; (try clear hb); (try clear hb2); (try clear hk); (try clear hi)) | ((with_reducible refine gate_dst (N := 47) rfl ?_); refine Kd.R_lit (Kd.int .i64) _ 3 ?hg (N := 47) ?hd (xs := ([(-1), 0, 5, 9223372036854775807] : List Int)) (inner := [.int .i64 (-1), .int .i64 0, .int .i64 5, .int .i64 9223372036854775807]) (ok := fun _ => True) (okp := fun _ => True) ?hr ?hp (fun _ hk => hk) trivial (Below.refl _ _) (Nat.le_refl _) (by simp) ?_; (case hd => rfl); (case hg => rfl); (case hr => first | (go_simp; done) | (go_simp; rfl)); (case hp => exact (Reps.one (show Kd.M (Kd.int .i64) _ _ _ (-1) [.int .i64 (-1)] from rfl) (Reps.one (show Kd.M (Kd.int .i64) _ _ _ 0 [.int .i64 0] from rfl) (Reps.one (show Kd.M (Kd.int .i64) _ _ _ 5 [.int .i64 5] from rfl) (Reps.one (show Kd.M (Kd.int .i64) _ _ _ 9223372036854775807 [.int .i64 9223372036854775807] from rfl) (Reps.none _ _)))))); intro v302 w34 ho35 hb hg_ hnew_; clear hg_ hnew_; (first | rw [← Ny301.out] at ho35 | (simp only [Int.reduceToNat] at ho35; rw [← Ny301.out] at ho35)); have n0_ := Aside0.mk (Kd.R_elder' (by (with_reducible repeat (first | apply Kd.R_alloc | apply Kd.R_drewN | apply Kd.R_drew)); exact HO_6.out) (Kd.R_base ho35) hb); have n1_ := Aside0.mk (Kd.R_lower (Kd.R_new' ho35 (Kd.R_lt (by (with_reducible repeat (first | apply Kd.R_alloc | apply Kd.R_drewN | apply Kd.R_drew)); exact HO_6.out))) (below_size (by repeat (first | (with_reducible first | exact HB.out | apply below_alloc | apply pw_below_drewN | apply below_drew1 | refine below_set ?_ (IsS67.ge HI283.out) | refine below_set ?_ GE279.out | refine below_set ?_ GE288.out) | exact HB.out)))); have n2_ := Aside0.mk (blk_below (g := gb279) (o := .cells #[.int .i64 0, .int .i64 0] 25 (0, 0)) (by (with_reducible repeat (first | refine blk_drewN ?_ _ | refine blk_drew ?_ | refine blk_alloc ?_ _)); exact BK279.out) hb); have n3_ := Aside0.mk (blk_below (g := gb288) (o := .cells #[.int .i64 t284, .int .i64 t285] 25 (0, 0)) (by (with_reducible repeat (first | refine blk_drewN ?_ _ | refine blk_drew ?_ | refine blk_alloc ?_ _)); exact BK288.out) hb); have n4_ := Aside0.mk (IsS67.below (by repeat (first | (with_reducible first | exact HI283.out | apply IsS67.alloc | apply IsS67.drewN | apply IsS67.drew | apply IsS67.set_1 | apply IsS67.set_2 | refine IsS67.far ?_ NB283_279.out _ | refine IsS67.far ?_ NB283_288.out _) | exact HI283.out)) hb); have n5_ := Aside0.mk (below_step (by repeat (first | (with_reducible first | exact HB.out | apply below_alloc | apply pw_below_drewN | apply below_drew1 | refine below_set ?_ (IsS67.ge HI283.out) | refine below_set ?_ GE279.out | refine below_set ?_ GE288.out) | exact HB.out)) hb); clear HO_6; clear BK279; clear BK288; clear HI283; clear HB; have HO_6 := n0_; have HO303 := n1_; have BK279 := n2_; have BK288 := n3_; have HI283 := n4_; have HB := n5_; clear n0_ n1_ n2_ n3_ n4_ n5_; clear hb ho35; obtain ⟨Ao36, co36, eo36⟩ := Kd.R_slice HO303.out; subst eo36) | ((with_reducible refine gate_callee (f := 43) rfl ?_); refine goesL_ (some 48) rfl rfl Try.func43 (by kernel_rfl) rfl #[.pointer (some ⟨g283, 0, none⟩), .slice Ao36 y301.length co36] rfl (by (try simp only [List.map_toArray, List.map_cons, List.map_nil]); first | done | rfl | (simp only [List.length_drop, List.length_take]; rfl)) ?_; (with_reducible refine (spec_l1PickInt.calls g283 t280 t299 t300 _ _ y301 t304 t305 t306 w _ ?side1 ?side2 ?side3 ?side4 ?side5 A26.out).mono ?_); (case side1 => repeat (first | (with_reducible first | exact HI283.out | apply IsS67.alloc | apply IsS67.drewN | apply IsS67.drew | apply IsS67.set_1 | apply IsS67.set_2 | refine IsS67.far ?_ NB283_279.out _ | refine IsS67.far ?_ NB283_288.out _) | exact HI283.out)); (case side2 => repeat (first | (with_reducible first | exact HB.out | apply below_alloc | apply pw_below_drewN | apply below_drew1 | refine below_set ?_ (IsS67.ge HI283.out) | refine below_set ?_ GE279.out | refine below_set ?_ GE288.out) | exact HB.out)); (case side3 => repeat (first | exact (Kd.R_reads' HO303.out).2.2 | (with_reducible refine Kd.C_alloc ?_ _) | (with_reducible refine Kd.C_drewN ?_ _) | (with_reducible refine Kd.C_drew ?_))); (case side4 => exact (Kd.R_reads' HO303.out).2.1); (case side5 => exact far_slice (IsS67.own_ne HI283.out HO303.out (by decide))); rintro e w37 ⟨rfl, hi, hb, hk⟩; refine ⟨_, rfl, ?_⟩; have n0_ := Aside0.mk (Kd.R_mono (Kd.R_keep (IsS67.apart (show IsS67 w _ g283 t280 t299 t300 from by repeat (first | (with_reducible first | exact HI283.out | apply IsS67.alloc | apply IsS67.drewN | apply IsS67.drew | apply IsS67.set_1 | apply IsS67.set_2 | refine IsS67.far ?_ NB283_279.out _ | refine IsS67.far ?_ NB283_288.out _) | exact HI283.out)) (by (with_reducible repeat (first | apply Kd.R_alloc | apply Kd.R_drewN | apply Kd.R_drew)); exact HO_6.out) (by decide)) hk (fun _ h => h.2)) (fun _ h => h.1)); have n1_ := Aside0.mk (KeepBut.blk hk (g' := gb279) (o := .cells #[.int .i64 0, .int .i64 0] 25 (0, 0)) (by (with_reducible repeat (first | refine blk_drewN ?_ _ | refine blk_drew ?_ | refine blk_alloc ?_ _)); exact BK279.out) NB279_283.out (by simp)); have n2_ := Aside0.mk (KeepBut.blk hk (g' := gb288) (o := .cells #[.int .i64 t284, .int .i64 t285] 25 (0, 0)) (by (with_reducible repeat (first | refine blk_drewN ?_ _ | refine blk_drew ?_ | refine blk_alloc ?_ _)); exact BK288.out) NB288_283.out (by simp)); have n3_ := Aside0.mk (Kd.R_mono (Kd.R_keep (IsS67.apart (show IsS67 w _ g283 t280 t299 t300 from by repeat (first | (with_reducible first | exact HI283.out | apply IsS67.alloc | apply IsS67.drewN | apply IsS67.drew | apply IsS67.set_1 | apply IsS67.set_2 | refine IsS67.far ?_ NB283_279.out _ | refine IsS67.far ?_ NB283_288.out _) | exact HI283.out)) (by (with_reducible repeat (first | apply Kd.R_alloc | apply Kd.R_drewN | apply Kd.R_drew)); exact HO303.out) (by decide)) hk (fun _ h => h.2)) (fun _ h => h.1)); have n4_ := Aside0.mk (hb); have n5_ := Aside0.mk (hi); clear HO_6; clear BK279; clear BK288; clear HO303; clear HB; clear HI283; have HO_6 := n0_; have BK279 := n1_; have BK288 := n2_; have HO303 := n3_; have HB := n4_; have HI283 := n5_; clear n0_ n1_ n2_ n3_ n4_ n5_; (try clear hb); (try clear hb2); (try clear hk); (try clear hi); have p28 : 0 ≤ (0 : Int) := (by omega); have q28 : (0 : Int) < ((x6_1.length : Int) : Int) := of_decide_eq_true (by first | (with_reducible assumption) | assumption); have qi28 : (0 < x6_1.length) = True := eq_true (by omega); obtain ⟨go28, co28, eo28, gb28, gl28, cl28, HG28⟩ := Kd.R_form HO_6.out (by omega); (first | cases eo28 | (injection eo28 with ea_ en_ ec_; (first | subst ea_ | (injection ea_ with ea_; subst ea_)); subst ec_; clear en_)); have GB28 := Aside0.mk gb28; have GG28 := Aside0.mk HG28; clear gb28 gl28 HG28; obtain ⟨hx28_0, hf28_0⟩ := Kd.R_celln 0 HO_6.out (0 : Int) p28 q28; (try rw [show ((0 : Int)).toNat = 0 from rfl] at hx28_0); (try simp only [Nat.reduceMul, Nat.zero_mul, Nat.zero_add, Nat.reduceAdd] at hx28_0); (try rw [show ((0 : Int)).toNat = 0 from rfl] at hf28_0); (try simp only [Nat.reduceMul, Nat.zero_mul, Nat.zero_add, Nat.reduceAdd] at hf28_0); replace p28 := eq_true p28; replace q28 := eq_true q28; have n_ := Aside0.mk (Kd.R_mono (ok' := (fun k_ => some k_ ≠ (.slice Ao36 y301.length co36 : Value).ownBlock)) HO_6.out (fun k_ hk => hk.2)); clear HO_6; have HO_6 := n_; clear n_; obtain ⟨hy38_, hz38_⟩ := Kd.R_celln 0 HO_6.out (0 : Int) (by omega) (of_decide_eq_true (by first | (with_reducible assumption) | assumption)); (try simp only [Int.reduceToNat, Int.toNat_zero, Int.toNat_ofNat, Nat.reduceMul, Nat.zero_mul, Nat.zero_add] at hy38_ hz38_); (try rw [show ((0 : Int)).toNat = 0 from rfl] at hy38_); (try rw [show ((0 : Int)).toNat = 0 from rfl] at hz38_); have HP38 := Kd.R_putg HO_6.out (0 : Int) t304) | ((with_reducible refine gate_store (t := 3) (p := 49) rfl ?_); refine store_event (t := 3) (p := 49) (v := ?vo_w39) (w1 := (w37.setCell ⟨go28, (0 : Int).toNat, none⟩ (.int .i64 t304))) ?hg ?ho ?hn ?hr ?_; (case ho => rfl); (case hg => rfl); (case hn => rfl); (case hr => first | (go_simp; done) | (go_simp; rfl)); intro w39 hw; have hg : w37.grownBy w39 (some go28) := (by rw [hw]; exact HP38.2); have hp_ : Kd.R (Kd.int .i64) 3 w39 w.heap.size (fun k_ => some k_ ≠ (.slice Ao36 y301.length co36 : Value).ownBlock) (.slice (some ⟨go28, 0, none⟩) x6_1.length co32) y307 := (by rw [hw, Ny307.out]; exact HP38.1); clear HP38; have n0_ := Aside0.mk (hp_); have n1_ := Aside0.mk (blk_grown (g := gb279) (o := .cells #[.int .i64 0, .int .i64 0] 25 (0, 0)) (by (with_reducible repeat (first | refine blk_drewN ?_ _ | refine blk_drew ?_ | refine blk_alloc ?_ _)); exact BK279.out) hg (Kd.R_ne HO_6.out BK279.out (by decide))); have n2_ := Aside0.mk (blk_grown (g := gb288) (o := .cells #[.int .i64 t284, .int .i64 t285] 25 (0, 0)) (by (with_reducible repeat (first | refine blk_drewN ?_ _ | refine blk_drew ?_ | refine blk_alloc ?_ _)); exact BK288.out) hg (Kd.R_ne HO_6.out BK288.out (by decide))); have n3_ := Aside0.mk (IsS67.grown (by repeat (first | (with_reducible first | exact HI283.out | apply IsS67.alloc | apply IsS67.drewN | apply IsS67.drew | apply IsS67.set_1 | apply IsS67.set_2 | refine IsS67.far ?_ NB283_279.out _ | refine IsS67.far ?_ NB283_288.out _) | exact HI283.out)) hg (IsS67.own_ne HI283.out HO_6.out (by decide))); have n4_ := Aside0.mk (Kd.R_after (v := (.slice (some ⟨go28, 0, none⟩) x6_1.length co32)) (v1 := (.slice (some ⟨go28, 0, none⟩) x6_1.length co32)) (ok := (fun _ => True)) (by (with_reducible repeat (first | apply Kd.R_alloc | apply Kd.R_drewN | apply Kd.R_drew)); exact HO303.out) hg (.inl rfl)); have n5_ := Aside0.mk ((by rw [hw]; exact below_set (HB.out) GB28.out : Below w.heap.size w w39)); clear HO_6; clear BK279; clear BK288; clear HI283; clear HO303; clear HB; have HO_6 := n0_; have BK279 := n1_; have BK288 := n2_; have HI283 := n3_; have HO303 := n4_; have HB := n5_; clear n0_ n1_ n2_ n3_ n4_ n5_; clear hg hw hp_; have hcz40_0 : w39.cell? ⟨gb288, 0, none⟩ = some (.int .i64 t284) := (blk_cell BK288.out 0).trans rfl; have hcz40_1 : w39.cell? ⟨gb288, 1, none⟩ = some (.int .i64 t285) := (blk_cell BK288.out 1).trans rfl; have hfz40_0 := blk_frozen BK288.out 0; have hfz40_1 := blk_frozen BK288.out 1; have hnb41 := NB279_283.out; have hnc41 := NB283_279.out; have hcz42_0 : w39.cell? ⟨gb279, 0, none⟩ = some (.int .i64 0) := (blk_cell BK279.out 0).trans rfl; have hcz42_1 : w39.cell? ⟨gb279, 1, none⟩ = some (.int .i64 0) := (blk_cell BK279.out 1).trans rfl; have hfz42_0 := blk_frozen BK279.out 0; have hfz42_1 := blk_frozen BK279.out 1))
              refine bodyPost_ret (results_ct rfl _ _ gb279 25 #[.int .i64 t284, .int .i64 t285] (0, 0) _ rfl (by (with_reducible repeat (first | refine blk_drewN ?_ _ | refine blk_drew ?_ | refine blk_alloc ?_ _)); refine blk_put (cs := #[.int .i64 t284, .int .i64 0]) ?_ 1 _ rfl; (with_reducible repeat (first | refine blk_drewN ?_ _ | refine blk_drew ?_ | refine blk_alloc ?_ _)); refine blk_put (cs := #[.int .i64 0, .int .i64 0]) ?_ 0 _ rfl; (with_reducible repeat (first | refine blk_drewN ?_ _ | refine blk_drew ?_ | refine blk_alloc ?_ _)); exact BK279.out) Try.underlying25 rfl (by kernel_rfl)) rfl ?_
              exact ⟨_, by first | rfl | (simp [errW_none, errW_some] <;> rfl) | (simp only [← hji13]; first | rfl | (simp [errW_none, errW_some] <;> rfl)) | (simp [*, errW_none, errW_some] <;> rfl), by (with_reducible repeat (first | apply Kd.R_alloc | apply Kd.R_drewN | apply Kd.R_drew)); exact Kd.R_mono (Kd.R_far (p := ⟨gb279, 1, none⟩) (Kd.R_far (p := ⟨gb279, 0, none⟩) (Kd.R_types HO_6.out BK279.out (by decide)) (fun _ hk => hk.2) (.int .i64 t284)) (fun _ hk => hk.2) (.int .i64 t285)) (fun _ hk => trivial), by repeat (first | (with_reducible first | exact HB.out | apply below_alloc | apply pw_below_drewN | apply below_drew1 | refine below_set ?_ (IsS67.ge HI283.out) | refine below_set ?_ GE279.out | refine below_set ?_ GE288.out) | exact HB.out)⟩
            · rw [if_neg c27] at H
              exact absurd H (by simp)
          · replace c25 := Bool.eq_false_iff.mpr c25
            subst c25
            have H1 : (some (t284, t285, x6_1)) = some (r1, r2, r3) := by rw [if_neg (show ¬ (false = true) by decide)] at H; exact H
            clear H
            have H := H1
            clear H1
            simp only [Option.some.injEq, Prod.mk.injEq] at H
            obtain ⟨rfl, rfl, rfl⟩ := H
            have hnb43 := NB288_279.out
            have hnc43 := NB279_288.out
            have hnb44 := NB288_283.out
            have hnc44 := NB283_288.out
            have hcz45_0 : wr.cell? ⟨gb288, 0, none⟩ = some (.int .i64 t284) := (blk_cell BK288.out 0).trans rfl
            have hcz45_1 : wr.cell? ⟨gb288, 1, none⟩ = some (.int .i64 t285) := (blk_cell BK288.out 1).trans rfl
            have hfz45_0 := blk_frozen BK288.out 0
            have hfz45_1 := blk_frozen BK288.out 1
            obtain ⟨Ao46, co46, eo46⟩ := Kd.R_slice HO_6.out
            subst eo46
            go_wp2_with (first | (go_at_call 42; (with_reducible refine (spec_l1Once.calls g283 t280 x284001_1 x284002_1 8 false t299 t300 w _ ?side1 ?side2 A24.out).mono ?_); (case side1 => repeat (first | (with_reducible first | exact HI283.out | apply IsS67.alloc | apply IsS67.drewN | apply IsS67.drew | apply IsS67.set_1 | apply IsS67.set_2 | refine IsS67.far ?_ NB283_279.out _ | refine IsS67.far ?_ NB283_288.out _) | exact HI283.out)); (case side2 => repeat (first | (with_reducible first | exact HB.out | apply below_alloc | apply pw_below_drewN | apply below_drew1 | refine below_set ?_ (IsS67.ge HI283.out) | refine below_set ?_ GE279.out | refine below_set ?_ GE288.out) | exact HB.out)); rintro e w47 ⟨rfl, hi, hb, hk⟩; have n0_ := Aside0.mk (Kd.R_mono (Kd.R_keep (IsS67.apart (show IsS67 w _ g283 t280 x284001_1 x284002_1 from by repeat (first | (with_reducible first | exact HI283.out | apply IsS67.alloc | apply IsS67.drewN | apply IsS67.drew | apply IsS67.set_1 | apply IsS67.set_2 | refine IsS67.far ?_ NB283_279.out _ | refine IsS67.far ?_ NB283_288.out _) | exact HI283.out)) (by (with_reducible repeat (first | apply Kd.R_alloc | apply Kd.R_drewN | apply Kd.R_drew)); exact HO_6.out) (by decide)) hk (fun _ h => h.2)) (fun _ h => h.1)); have n1_ := Aside0.mk (KeepBut.blk hk (g' := gb279) (o := .cells #[.int .i64 0, .int .i64 0] 25 (0, 0)) (by (with_reducible repeat (first | refine blk_drewN ?_ _ | refine blk_drew ?_ | refine blk_alloc ?_ _)); exact BK279.out) NB279_283.out (by simp)); have n2_ := Aside0.mk (KeepBut.blk hk (g' := gb288) (o := .cells #[.int .i64 t284, .int .i64 t285] 25 (0, 0)) (by (with_reducible repeat (first | refine blk_drewN ?_ _ | refine blk_drew ?_ | refine blk_alloc ?_ _)); exact BK288.out) NB288_283.out (by simp)); have n3_ := Aside0.mk (hb); have n4_ := Aside0.mk (hi); clear HO_6; clear BK279; clear BK288; clear HB; clear HI283; have HO_6 := n0_; have BK279 := n1_; have BK288 := n2_; have HB := n3_; have HI283 := n4_; clear n0_ n1_ n2_ n3_ n4_; (try clear hb); (try clear hb2); (try clear hk); (try clear hi); have hcz48_0 : w47.cell? ⟨gb288, 0, none⟩ = some (.int .i64 t284) := (blk_cell BK288.out 0).trans rfl; have hcz48_1 : w47.cell? ⟨gb288, 1, none⟩ = some (.int .i64 t285) := (blk_cell BK288.out 1).trans rfl; have hfz48_0 := blk_frozen BK288.out 0; have hfz48_1 := blk_frozen BK288.out 1; have hnb49 := NB279_283.out; have hnc49 := NB283_279.out; have hcz50_0 : w47.cell? ⟨gb279, 0, none⟩ = some (.int .i64 0) := (blk_cell BK279.out 0).trans rfl; have hcz50_1 : w47.cell? ⟨gb279, 1, none⟩ = some (.int .i64 0) := (blk_cell BK279.out 1).trans rfl; have hfz50_0 := blk_frozen BK279.out 0; have hfz50_1 := blk_frozen BK279.out 1))
            refine bodyPost_ret (results_ct rfl _ _ gb279 25 #[.int .i64 t284, .int .i64 t285] (0, 0) _ rfl (by (with_reducible repeat (first | refine blk_drewN ?_ _ | refine blk_drew ?_ | refine blk_alloc ?_ _)); refine blk_put (cs := #[.int .i64 t284, .int .i64 0]) ?_ 1 _ rfl; (with_reducible repeat (first | refine blk_drewN ?_ _ | refine blk_drew ?_ | refine blk_alloc ?_ _)); refine blk_put (cs := #[.int .i64 0, .int .i64 0]) ?_ 0 _ rfl; (with_reducible repeat (first | refine blk_drewN ?_ _ | refine blk_drew ?_ | refine blk_alloc ?_ _)); exact BK279.out) Try.underlying25 rfl (by kernel_rfl)) rfl ?_
            exact ⟨_, by first | rfl | (simp [errW_none, errW_some] <;> rfl) | (simp only [← hji13]; first | rfl | (simp [errW_none, errW_some] <;> rfl)) | (simp [*, errW_none, errW_some] <;> rfl), by (with_reducible repeat (first | apply Kd.R_alloc | apply Kd.R_drewN | apply Kd.R_drew)); exact Kd.R_mono (Kd.R_far (p := ⟨gb279, 1, none⟩) (Kd.R_far (p := ⟨gb279, 0, none⟩) (Kd.R_types HO_6.out BK279.out (by decide)) (fun _ hk => hk.2) (.int .i64 t284)) (fun _ hk => hk.2) (.int .i64 t285)) (fun _ hk => trivial), by repeat (first | (with_reducible first | exact HB.out | apply below_alloc | apply pw_below_drewN | apply below_drew1 | refine below_set ?_ (IsS67.ge HI283.out) | refine below_set ?_ GE279.out | refine below_set ?_ GE288.out) | exact HB.out)⟩
        · rw [if_neg c23] at H
          have c23b0 : decide (0 < (x6_1.length : Int)) = false := decide_eq_false c23
          have c23b1 : decide (0 < x6_1.length) = false := decide_eq_false (by omega)
          clear c23
          simp only [Option.some.injEq, Prod.mk.injEq] at H
          obtain ⟨rfl, rfl, rfl⟩ := H
          have hnb51 := NB288_279.out
          have hnc51 := NB279_288.out
          have hnb52 := NB288_283.out
          have hnc52 := NB283_288.out
          have hcz53_0 : wr.cell? ⟨gb288, 0, none⟩ = some (.int .i64 t284) := (blk_cell BK288.out 0).trans rfl
          have hcz53_1 : wr.cell? ⟨gb288, 1, none⟩ = some (.int .i64 t285) := (blk_cell BK288.out 1).trans rfl
          have hfz53_0 := blk_frozen BK288.out 0
          have hfz53_1 := blk_frozen BK288.out 1
          obtain ⟨Ao54, co54, eo54⟩ := Kd.R_slice HO_6.out
          subst eo54
          have hnb55 := NB279_283.out
          have hnc55 := NB283_279.out
          have hcz56_0 : wr.cell? ⟨gb279, 0, none⟩ = some (.int .i64 0) := (blk_cell BK279.out 0).trans rfl
          have hcz56_1 : wr.cell? ⟨gb279, 1, none⟩ = some (.int .i64 0) := (blk_cell BK279.out 1).trans rfl
          have hfz56_0 := blk_frozen BK279.out 0
          have hfz56_1 := blk_frozen BK279.out 1
          go_wp2
          refine bodyPost_ret (results_ct rfl _ _ gb279 25 #[.int .i64 t284, .int .i64 t285] (0, 0) _ rfl (by (with_reducible repeat (first | refine blk_drewN ?_ _ | refine blk_drew ?_ | refine blk_alloc ?_ _)); refine blk_put (cs := #[.int .i64 t284, .int .i64 0]) ?_ 1 _ rfl; (with_reducible repeat (first | refine blk_drewN ?_ _ | refine blk_drew ?_ | refine blk_alloc ?_ _)); refine blk_put (cs := #[.int .i64 0, .int .i64 0]) ?_ 0 _ rfl; (with_reducible repeat (first | refine blk_drewN ?_ _ | refine blk_drew ?_ | refine blk_alloc ?_ _)); exact BK279.out) Try.underlying25 rfl (by kernel_rfl)) rfl ?_
          exact ⟨_, by first | rfl | (simp [errW_none, errW_some] <;> rfl) | (simp only [← hji13]; first | rfl | (simp [errW_none, errW_some] <;> rfl)) | (simp [*, errW_none, errW_some] <;> rfl), by (with_reducible repeat (first | apply Kd.R_alloc | apply Kd.R_drewN | apply Kd.R_drew)); exact Kd.R_mono (Kd.R_far (p := ⟨gb279, 1, none⟩) (Kd.R_far (p := ⟨gb279, 0, none⟩) (Kd.R_types HO_6.out BK279.out (by decide)) (fun _ hk => hk.2) (.int .i64 t284)) (fun _ hk => hk.2) (.int .i64 t285)) (fun _ hk => trivial), by repeat (first | (with_reducible first | exact HB.out | apply below_alloc | apply pw_below_drewN | apply below_drew1 | refine below_set ?_ (IsS67.ge HI283.out) | refine below_set ?_ GE279.out | refine below_set ?_ GE288.out) | exact HB.out)⟩

end Go.Proofs.Ytflnlnkbepoimaa.P
