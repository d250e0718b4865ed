-- Out of the translation, by this session's program over the printer's; Lean checks it.
import Derived.Test.YtflnlnkbepoimaaSh
import Derived.Test.YtflnlnkbepoimaaQ0
import Derived.Test.YtflnlnkbepoimaaQ2
import Derived.Test.YtflnlnkbepoimaaQ4
namespace Go.Proofs.Ytflnlnkbepoimaa.P
open Go.RowKit Go.Proofs.YtflnlnkbepoimaaW.PrintWords Go.Proofs.YtflnlnkbepoimaaW.PrintLast Go.Proofs.YtflnlnkbepoimaaW.PrintMore
attribute [local go_sem] max2_int min2_int max_two min_two max_three min_three max_four min_four
set_option linter.unusedVariables false
set_option linter.unusedSimpArgs false

/-! ### spec_l8Draw: function 32 -/
def spec_l8Draw.f (k : Nat) (l0 : List Int) : Option (Int × Int × Int × Int) := (spec_l1New.f k l0).bind fun bt641 => ((spec_l2Any.f k bt641.1 bt641.2.1 bt641.2.2).bind fun bt645 => ((spec_l1Below.f bt641.1 bt645.2.2.1 bt645.2.2.2 17).bind fun bt650 => ((spec_l1Below.f bt641.1 bt650.2.1 bt650.2.2 17).bind fun bt653 => ((spec_l1Once.f bt641.1 bt653.2.1 bt653.2.2 14).bind fun bt656 => (if bt656.1 = true then ((spec_l1PickInt.f bt641.1 bt656.2.1 bt656.2.2 (([(-1), 16, 9223372036854775807] : List Int))).bind fun bt662 => (some (bt645.1, bt645.2.1, bt650.1, bt662.1))) else (some (bt645.1, bt645.2.1, bt650.1, Go.bits .and .i64 bt650.1 bt653.1)))))))
theorem spec_l8Draw.mono : ∀ a0 k, LeO (spec_l8Draw.f k a0) (spec_l8Draw.f (k + 1) a0) := by
 intro a0 k
 unfold spec_l8Draw.f
 repeat' first
   | (with_reducible exact spec_l1New.mono _ _)
   | (with_reducible exact spec_l2Any.mono _ _ _ _)
   | (with_reducible exact LeO.refl _)
   | (with_reducible exact LeO.none _)
   | (with_reducible refine LeO.ite ?_ ?_)
   | (with_reducible refine LeO.bind ?_ (fun _ => ?_))
   | exact spec_l1New.mono _ _
   | exact spec_l2Any.mono _ _ _ _
   | exact LeO.none _
   | refine LeO.ite ?_ ?_
   | refine LeO.bind ?_ (fun _ => ?_)
set_option maxHeartbeats 8000000 in
set_option maxRecDepth 100000 in
theorem spec_l8Draw.calls (k : Nat) (A0 : Option Addr) (c0 : Nat) (l0 : List Int) (r1 : Int) (r2 : Int) (r3 : Int) (r4 : Int) (w : World) (hr0 : Kd.C (Kd.int .u8) w A0 l0.length l0) (hc0 : l0.length ≤ c0) (h : spec_l8Draw.f k l0 = some (r1, r2, r3, r4)) :
  Calls Try.prog 32 #[.slice A0 l0.length c0] w fun e w' => e = .returned (.tuple #[.agg #[.int .i64 r1, .int .i64 r2], .int .i64 r3, .int .i64 r4]) ∧ Below w.heap.size w w' := by
 have hu25 := Try.underlying25
 have HR0 := Aside0.mk hr0
 have HC0 := Aside0.mk hc0
 clear hr0 hc0
 have HB := Aside0.mk (Below.refl w.heap.size w)
 have H : ((spec_l1New.f k l0).bind fun bt641 => ((spec_l2Any.f k bt641.1 bt641.2.1 bt641.2.2).bind fun bt645 => ((spec_l1Below.f bt641.1 bt645.2.2.1 bt645.2.2.2 17).bind fun bt650 => ((spec_l1Below.f bt641.1 bt650.2.1 bt650.2.2 17).bind fun bt653 => ((spec_l1Once.f bt641.1 bt653.2.1 bt653.2.2 14).bind fun bt656 => (if bt656.1 = true then ((spec_l1PickInt.f bt641.1 bt656.2.1 bt656.2.2 (([(-1), 16, 9223372036854775807] : List Int))).bind fun bt662 => (some (bt645.1, bt645.2.1, bt650.1, bt662.1))) else (some (bt645.1, bt645.2.1, bt650.1, Go.bits .and .i64 bt650.1 bt653.1)))))))) = some (r1, r2, r3, r4) := h
 clear h
 replace H := Option.bind_eq_some_iff.mp H
 obtain ⟨⟨t641, t642, t643⟩, A20, H⟩ := H
 dsimp only at H
 have A2 := Aside0.mk A20
 clear A20
 replace H := Option.bind_eq_some_iff.mp H
 obtain ⟨⟨t645, t646, t647, t648⟩, A30, H⟩ := H
 dsimp only at H
 have A3 := Aside0.mk A30
 clear A30
 replace H := Option.bind_eq_some_iff.mp H
 obtain ⟨⟨t650, t651, t652⟩, A40, H⟩ := H
 dsimp only at H
 have A4 := Aside0.mk A40
 clear A40
 replace H := Option.bind_eq_some_iff.mp H
 obtain ⟨⟨t653, t654, t655⟩, A50, H⟩ := H
 dsimp only at H
 have A5 := Aside0.mk A50
 clear A50
 replace H := Option.bind_eq_some_iff.mp H
 obtain ⟨⟨t656, t657, t658⟩, A60, H⟩ := H
 dsimp only at H
 have A6 := Aside0.mk A60
 clear A60
 by_cases c7 : t656 = true
 ·subst c7
  rw [if_pos rfl] at H
  obtain ⟨y659, hy659⟩ : ∃ y_ : List Int, y_ = (([(-1), 16, 9223372036854775807] : List Int)) := ⟨_, rfl⟩
  replace H : ((spec_l1PickInt.f t641 t657 t658 y659).bind fun bt662 => (some (t645, t646, t650, bt662.1))) = some (r1, r2, r3, r4) := by first | (rw [hy659]; with_reducible exact H) | (have H2_ := (Option.bind_some _ _).symm.trans H; rw [hy659]; with_reducible exact H2_) | (have H2_ := (Option.bind_some _ _).symm.trans H; with_reducible exact H2_) | with_reducible exact H | (rw [hy659]; exact H) | exact H
  have Ny659 := Aside0.mk hy659
  clear hy659
  replace H := Option.bind_eq_some_iff.mp H
  obtain ⟨⟨t662, t663, t664⟩, A80, H⟩ := H
  replace H : (some (t645, t646, t650, t662)) = some (r1, r2, r3, r4) := H
  have A8 := Aside0.mk A80
  clear A80
  simp only [Option.some.injEq, Prod.mk.injEq] at H
  obtain ⟨rfl, rfl, rfl, rfl⟩ := H
  go_enter Try.func32, Try.ntmps32
  go_wp2_with (first | ((with_reducible refine gate_dst (N := 2) rfl ?_); refine bx_ 2 #[.int .i64 0, .int .i64 0] 25 ?_; intro gb640 hg w9 hbox hb; have BK640 := Aside0.mk (hbox); have GW640 := gw_ hg (below_size (bv_ HB)); have GE640 := GW640; replace HB := Aside0.mk (below_step (bv_ HB) hb); clear hb hbox hg) | ((with_reducible refine gate_callee (f := 38) rfl ?_); refine gl_ 10 Try.func38 #[.slice A0 l0.length c0] rfl mp_ ?_; (with_reducible refine (spec_l1New.calls k _ _ l0 t641 t642 t643 w _ ?side1 ?side2 ?side3 A2.out).mono ?_); (case side1 => repeat (first | (with_reducible first | exact HB.out | apply below_alloc | apply pw_below_drewN | apply below_drew1 | refine below_set ?_ GE640.out) | exact HB.out)); (case side2 => exact HR0.out); (case side3 => exact HC0.out); rintro e w10 ⟨g644, rfl, hi, hb, hb2⟩; refine ⟨_, rfl, ?_⟩; replace HB := Aside0.mk (hb); have HI644 := Aside0.mk (hi); have NB644_640 := Aside0.mk (IsS67.ne_blk hi (blk_below (g := gb640) (o := .cells #[.int .i64 0, .int .i64 0] 25 (0, 0)) (kv_ BK640) hb2) (by decide)); have NB640_644 := Aside0.mk (Ne.symm (IsS67.ne_blk hi (blk_below (g := gb640) (o := .cells #[.int .i64 0, .int .i64 0] 25 (0, 0)) (kv_ BK640) hb2) (by decide))); replace BK640 := kb_ BK640 hb2; (try clear hb); (try clear hb2); (try clear hk); (try clear hi)) | ((with_reducible refine gate_callee (f := 37) rfl ?_); refine gl_ 12 Try.func37 #[.pointer (some ⟨g644, 0, none⟩)] rfl mp_ ?_; (with_reducible refine (spec_l2Any.calls k g644 t641 t642 t643 t645 t646 t647 t648 w _ ?side1 ?side2 A3.out).mono ?_); (case side1 => repeat (first | (with_reducible first | exact HI644.out | apply IsS67.alloc | apply IsS67.drewN | apply IsS67.drew | apply IsS67.set_1 | apply IsS67.set_2 | refine IsS67.far ?_ NB644_640.out _) | exact HI644.out)); (case side2 => repeat (first | (with_reducible first | exact HB.out | apply below_alloc | apply pw_below_drewN | apply below_drew1 | refine below_set ?_ (IsS67.ge HI644.out) | refine below_set ?_ GE640.out) | exact HB.out)); rintro e w11 ⟨rfl, hi, hb, hk⟩; refine ⟨_, rfl, ?_⟩; replace BK640 := Aside0.mk (KeepBut.blk hk (g' := gb640) (o := .cells #[.int .i64 0, .int .i64 0] 25 (0, 0)) (kv_ BK640) NB640_644.out (by simp)); replace HB := Aside0.mk (hb); replace HI644 := Aside0.mk (hi); (try clear hb); (try clear hb2); (try clear hk); (try clear hi)) | ((with_reducible refine gate_dst (N := 6) rfl ?_); refine bx_ 6 #[.int .i64 0, .int .i64 0] 25 ?_; intro gb649 hg w12 hbox hb; have BK649 := Aside0.mk (hbox); have GW649 := Aside0.mk ((by rw [hg]; exact (below_size (by repeat (first | (with_reducible first | exact HB.out | apply below_alloc | apply pw_below_drewN | apply below_drew1 | refine below_set ?_ (IsS67.ge HI644.out) | refine below_set ?_ GE640.out) | exact HB.out))) : w.heap.size ≤ gb649)); have GE649 := GW649; replace HB := Aside0.mk (below_step (by repeat (first | (with_reducible first | exact HB.out | apply below_alloc | apply pw_below_drewN | apply below_drew1 | refine below_set ?_ (IsS67.ge HI644.out) | refine below_set ?_ GE640.out) | exact HB.out)) hb); have NB640_649 := nb_ hg (blk_lt (g := gb640) (o := .cells #[.int .i64 0, .int .i64 0] 25 (0, 0)) (kv_ BK640)); have NB649_640 := nc_ hg (blk_lt (g := gb640) (o := .cells #[.int .i64 0, .int .i64 0] 25 (0, 0)) (kv_ BK640)); replace BK640 := kb_ BK640 hb; have NB644_649 := Aside0.mk ((by rw [hg]; exact Nat.ne_of_lt (IsS67.lt (show IsS67 w _ g644 t641 t647 t648 from by repeat (first | (with_reducible first | exact HI644.out | apply IsS67.alloc | apply IsS67.drewN | apply IsS67.drew | apply IsS67.set_1 | apply IsS67.set_2 | refine IsS67.far ?_ NB644_640.out _) | exact HI644.out))) : g644 ≠ gb649)); have NB649_644 := Aside0.mk ((by rw [hg]; exact Nat.ne_of_gt (IsS67.lt (show IsS67 w _ g644 t641 t647 t648 from by repeat (first | (with_reducible first | exact HI644.out | apply IsS67.alloc | apply IsS67.drewN | apply IsS67.drew | apply IsS67.set_1 | apply IsS67.set_2 | refine IsS67.far ?_ NB644_640.out _) | exact HI644.out))) : gb649 ≠ g644)); replace HI644 := Aside0.mk (IsS67.below (by repeat (first | (with_reducible first | exact HI644.out | apply IsS67.alloc | apply IsS67.drewN | apply IsS67.drew | apply IsS67.set_1 | apply IsS67.set_2 | refine IsS67.far ?_ NB644_640.out _) | exact HI644.out)) hb); clear hb hbox hg; have hnb13 := NB649_640.out; have hnc13 := NB640_649.out; have hnb14 := NB649_644.out; have hnc14 := NB644_649.out; obtain ⟨hcz15_0, hcz15_1, hfz15_0, hfz15_1⟩ := c2_ BK649) | ((with_reducible refine gate_callee (f := 41) rfl ?_); refine gl_ 14 Try.func41 #[.pointer (some ⟨g644, 0, none⟩), .int .i64 17] rfl mp_ ?_; (with_reducible refine (spec_l1Below.calls g644 t641 t647 t648 17 t650 t651 t652 w _ ?side1 ?side2 A4.out).mono ?_); (case side1 => repeat (first | (with_reducible first | exact HI644.out | apply IsS67.alloc | apply IsS67.drewN | apply IsS67.drew | apply IsS67.set_1 | apply IsS67.set_2 | refine IsS67.far ?_ NB644_640.out _ | refine IsS67.far ?_ NB644_649.out _) | exact HI644.out)); (case side2 => repeat (first | (with_reducible first | exact HB.out | apply below_alloc | apply pw_below_drewN | apply below_drew1 | refine below_set ?_ (IsS67.ge HI644.out) | refine below_set ?_ GE640.out | refine below_set ?_ GE649.out) | exact HB.out)); rintro e w16 ⟨rfl, hi, hb, hk⟩; refine ⟨_, rfl, ?_⟩; replace BK640 := Aside0.mk (KeepBut.blk hk (g' := gb640) (o := .cells #[.int .i64 0, .int .i64 0] 25 (0, 0)) (by (with_reducible repeat (first | refine blk_drewN ?_ _ | refine blk_drew ?_ | refine blk_alloc ?_ _)); refine blk_far ?_ NB640_649.out _; (with_reducible repeat (first | refine blk_drewN ?_ _ | refine blk_drew ?_ | refine blk_alloc ?_ _)); refine blk_far ?_ NB640_649.out _; (with_reducible repeat (first | refine blk_drewN ?_ _ | refine blk_drew ?_ | refine blk_alloc ?_ _)); exact BK640.out) NB640_644.out (by simp)); replace BK649 := Aside0.mk (KeepBut.blk hk (g' := gb649) (o := .cells #[.int .i64 t645, .int .i64 t646] 25 (0, 0)) (by (with_reducible repeat (first | refine blk_drewN ?_ _ | refine blk_drew ?_ | refine blk_alloc ?_ _)); refine blk_put (cs := #[.int .i64 t645, .int .i64 0]) ?_ 1 _ rfl; (with_reducible repeat (first | refine blk_drewN ?_ _ | refine blk_drew ?_ | refine blk_alloc ?_ _)); refine blk_put (cs := #[.int .i64 0, .int .i64 0]) ?_ 0 _ rfl; (with_reducible repeat (first | refine blk_drewN ?_ _ | refine blk_drew ?_ | refine blk_alloc ?_ _)); exact BK649.out) NB649_644.out (by simp)); replace HB := Aside0.mk (hb); replace HI644 := Aside0.mk (hi); (try clear hb); (try clear hb2); (try clear hk); (try clear hi)) | ((with_reducible refine gate_callee (f := 41) rfl ?_); refine gl_ 17 Try.func41 #[.pointer (some ⟨g644, 0, none⟩), .int .i64 17] rfl mp_ ?_; (with_reducible refine (spec_l1Below.calls g644 t641 t651 t652 17 t653 t654 t655 w _ ?side1 ?side2 A5.out).mono ?_); (case side1 => repeat (first | (with_reducible first | exact HI644.out | apply IsS67.alloc | apply IsS67.drewN | apply IsS67.drew | apply IsS67.set_1 | apply IsS67.set_2 | refine IsS67.far ?_ NB644_640.out _ | refine IsS67.far ?_ NB644_649.out _) | exact HI644.out)); (case side2 => repeat (first | (with_reducible first | exact HB.out | apply below_alloc | apply pw_below_drewN | apply below_drew1 | refine below_set ?_ (IsS67.ge HI644.out) | refine below_set ?_ GE640.out | refine below_set ?_ GE649.out) | exact HB.out)); rintro e w17 ⟨rfl, hi, hb, hk⟩; refine ⟨_, rfl, ?_⟩; replace BK640 := Aside0.mk (KeepBut.blk hk (g' := gb640) (o := .cells #[.int .i64 0, .int .i64 0] 25 (0, 0)) (kv_ BK640) NB640_644.out (by simp)); replace BK649 := Aside0.mk (KeepBut.blk hk (g' := gb649) (o := .cells #[.int .i64 t645, .int .i64 t646] 25 (0, 0)) (kv_ BK649) NB649_644.out (by simp)); replace HB := Aside0.mk (hb); replace HI644 := Aside0.mk (hi); (try clear hb); (try clear hb2); (try clear hk); (try clear hi)) | ((with_reducible refine gate_callee (f := 42) rfl ?_); refine gl_ 20 Try.func42 #[.pointer (some ⟨g644, 0, none⟩), .int .i64 14] rfl mp_ ?_; (with_reducible refine (spec_l1Once.calls g644 t641 t654 t655 14 true t657 t658 w _ ?side1 ?side2 A6.out).mono ?_); (case side1 => repeat (first | (with_reducible first | exact HI644.out | apply IsS67.alloc | apply IsS67.drewN | apply IsS67.drew | apply IsS67.set_1 | apply IsS67.set_2 | refine IsS67.far ?_ NB644_640.out _ | refine IsS67.far ?_ NB644_649.out _) | exact HI644.out)); (case side2 => repeat (first | (with_reducible first | exact HB.out | apply below_alloc | apply pw_below_drewN | apply below_drew1 | refine below_set ?_ (IsS67.ge HI644.out) | refine below_set ?_ GE640.out | refine below_set ?_ GE649.out) | exact HB.out)); rintro e w18 ⟨rfl, hi, hb, hk⟩; refine ⟨_, rfl, ?_⟩; replace BK640 := Aside0.mk (KeepBut.blk hk (g' := gb640) (o := .cells #[.int .i64 0, .int .i64 0] 25 (0, 0)) (kv_ BK640) NB640_644.out (by simp)); replace BK649 := Aside0.mk (KeepBut.blk hk (g' := gb649) (o := .cells #[.int .i64 t645, .int .i64 t646] 25 (0, 0)) (kv_ BK649) NB649_644.out (by simp)); replace HB := Aside0.mk (hb); replace HI644 := Aside0.mk (hi); (try clear hb); (try clear hb2); (try clear hk); (try clear hi)) | ((with_reducible refine gate_dst (N := 22) rfl ?_); refine Kd.R_lit (Kd.int .i64) _ 3 ?hg (N := 22) ?hd (xs := ([(-1), 16, 9223372036854775807] : List Int)) (inner := [.int .i64 (-1), .int .i64 16, .int .i64 9223372036854775807]) (ok := fun _ => True) (okp := fun _ => True) ?hr ?hp (fun _ hk => hk) trivial (Below.refl _ _) (Nat.le_refl _) (by simp) ?_; (case hd => rfl); (case hg => rfl); (case hr => first | (go_simp; done) | (go_simp; rfl)); (case hp => exact (Reps.one (show Kd.M (Kd.int .i64) _ _ _ (-1) [.int .i64 (-1)] from rfl) (Reps.one (show Kd.M (Kd.int .i64) _ _ _ 16 [.int .i64 16] from rfl) (Reps.one (show Kd.M (Kd.int .i64) _ _ _ 9223372036854775807 [.int .i64 9223372036854775807] from rfl) (Reps.none _ _))))); intro v660 w19 ho20 hb hg_ hnew_; clear hg_ hnew_; (first | rw [← Ny659.out] at ho20 | (simp only [Int.reduceToNat] at ho20; rw [← Ny659.out] at ho20)); have HO661 := Aside0.mk (Kd.R_lower ho20 (below_size (by repeat (first | (with_reducible first | exact HB.out | apply below_alloc | apply pw_below_drewN | apply below_drew1 | refine below_set ?_ (IsS67.ge HI644.out) | refine below_set ?_ GE640.out | refine below_set ?_ GE649.out) | exact HB.out)))); replace BK640 := kb_ BK640 hb; replace BK649 := kb_ BK649 hb; replace HB := Aside0.mk (below_step (by repeat (first | (with_reducible first | exact HB.out | apply below_alloc | apply pw_below_drewN | apply below_drew1 | refine below_set ?_ (IsS67.ge HI644.out) | refine below_set ?_ GE640.out | refine below_set ?_ GE649.out) | exact HB.out)) hb); replace HI644 := Aside0.mk (IsS67.below (by repeat (first | (with_reducible first | exact HI644.out | apply IsS67.alloc | apply IsS67.drewN | apply IsS67.drew | apply IsS67.set_1 | apply IsS67.set_2 | refine IsS67.far ?_ NB644_640.out _ | refine IsS67.far ?_ NB644_649.out _) | exact HI644.out)) hb); clear hb ho20; obtain ⟨Ao21, co21, eo21⟩ := Kd.R_slice HO661.out; subst eo21) | ((with_reducible refine gate_callee (f := 43) rfl ?_); refine gl_ 23 Try.func43 #[.pointer (some ⟨g644, 0, none⟩), .slice Ao21 y659.length co21] rfl mp_ ?_; (with_reducible refine (spec_l1PickInt.calls g644 t641 t657 t658 _ _ y659 t662 t663 t664 w _ ?side1 ?side2 ?side3 ?side4 ?side5 A8.out).mono ?_); (case side1 => repeat (first | (with_reducible first | exact HI644.out | apply IsS67.alloc | apply IsS67.drewN | apply IsS67.drew | apply IsS67.set_1 | apply IsS67.set_2 | refine IsS67.far ?_ NB644_640.out _ | refine IsS67.far ?_ NB644_649.out _) | exact HI644.out)); (case side2 => repeat (first | (with_reducible first | exact HB.out | apply below_alloc | apply pw_below_drewN | apply below_drew1 | refine below_set ?_ (IsS67.ge HI644.out) | refine below_set ?_ GE640.out | refine below_set ?_ GE649.out) | exact HB.out)); (case side3 => repeat (first | exact (Kd.R_reads' HO661.out).2.2 | (with_reducible refine Kd.C_alloc ?_ _) | (with_reducible refine Kd.C_drewN ?_ _) | (with_reducible refine Kd.C_drew ?_))); (case side4 => exact (Kd.R_reads' HO661.out).2.1); (case side5 => exact far_slice (IsS67.own_ne HI644.out HO661.out (by decide))); rintro e w22 ⟨rfl, hi, hb, hk⟩; refine ⟨_, rfl, ?_⟩; replace BK640 := Aside0.mk (KeepBut.blk hk (g' := gb640) (o := .cells #[.int .i64 0, .int .i64 0] 25 (0, 0)) (kv_ BK640) NB640_644.out (by simp)); replace BK649 := Aside0.mk (KeepBut.blk hk (g' := gb649) (o := .cells #[.int .i64 t645, .int .i64 t646] 25 (0, 0)) (kv_ BK649) NB649_644.out (by simp)); replace HO661 := Aside0.mk (Kd.R_mono (Kd.R_keep (IsS67.apart (show IsS67 w _ g644 t641 t657 t658 from by repeat (first | (with_reducible first | exact HI644.out | apply IsS67.alloc | apply IsS67.drewN | apply IsS67.drew | apply IsS67.set_1 | apply IsS67.set_2 | refine IsS67.far ?_ NB644_640.out _ | refine IsS67.far ?_ NB644_649.out _) | exact HI644.out)) (rv_ HO661) (by decide)) hk (fun _ h => h.2)) (fun _ h => h.1)); replace HB := Aside0.mk (hb); replace HI644 := Aside0.mk (hi); (try clear hb); (try clear hb2); (try clear hk); (try clear hi); obtain ⟨hcz23_0, hcz23_1, hfz23_0, hfz23_1⟩ := c2_ BK649; have hnb24 := NB640_644.out; have hnc24 := NB644_640.out; obtain ⟨hcz25_0, hcz25_1, hfz25_0, hfz25_1⟩ := c2_ BK640))
  refine bodyPost_ret (results_ctt rfl _ _ gb640 25 #[.int .i64 t645, .int .i64 t646] (0, 0) _ rfl (by (with_reducible repeat (first | refine blk_drewN ?_ _ | refine blk_drew ?_ | refine blk_alloc ?_ _)); refine blk_put (cs := #[.int .i64 t645, .int .i64 0]) ?_ 1 _ rfl; (with_reducible repeat (first | refine blk_drewN ?_ _ | refine blk_drew ?_ | refine blk_alloc ?_ _)); refine blk_put (cs := #[.int .i64 0, .int .i64 0]) ?_ 0 _ rfl; (with_reducible repeat (first | refine blk_drewN ?_ _ | refine blk_drew ?_ | refine blk_alloc ?_ _)); exact BK640.out) Try.underlying25 rfl (by kernel_rfl)) rfl ?_
  exact ⟨by first | rfl | (simp [errW_none, errW_some] <;> rfl) | (simp [*, errW_none, errW_some] <;> rfl), by repeat (first | (with_reducible first | exact HB.out | apply below_alloc | apply pw_below_drewN | apply below_drew1 | refine below_set ?_ (IsS67.ge HI644.out) | refine below_set ?_ GE640.out | refine below_set ?_ GE649.out) | exact HB.out)⟩
 ·replace c7 := Bool.eq_false_iff.mpr c7
  subst c7
  rw [if_neg (show ¬ (false = true) by decide)] at H
  simp only [Option.some.injEq, Prod.mk.injEq] at H
  obtain ⟨rfl, rfl, rfl, rfl⟩ := H
  go_enter Try.func32, Try.ntmps32
  go_wp2_with (first | ((with_reducible refine gate_dst (N := 2) rfl ?_); refine bx_ 2 #[.int .i64 0, .int .i64 0] 25 ?_; intro gb640 hg w26 hbox hb; have BK640 := Aside0.mk (hbox); have GW640 := gw_ hg (below_size (bv_ HB)); have GE640 := GW640; replace HB := Aside0.mk (below_step (bv_ HB) hb); clear hb hbox hg) | ((with_reducible refine gate_callee (f := 38) rfl ?_); refine gl_ 10 Try.func38 #[.slice A0 l0.length c0] rfl mp_ ?_; (with_reducible refine (spec_l1New.calls k _ _ l0 t641 t642 t643 w _ ?side1 ?side2 ?side3 A2.out).mono ?_); (case side1 => repeat (first | (with_reducible first | exact HB.out | apply below_alloc | apply pw_below_drewN | apply below_drew1 | refine below_set ?_ GE640.out) | exact HB.out)); (case side2 => exact HR0.out); (case side3 => exact HC0.out); rintro e w27 ⟨g644, rfl, hi, hb, hb2⟩; refine ⟨_, rfl, ?_⟩; replace HB := Aside0.mk (hb); have HI644 := Aside0.mk (hi); have NB644_640 := Aside0.mk (IsS67.ne_blk hi (blk_below (g := gb640) (o := .cells #[.int .i64 0, .int .i64 0] 25 (0, 0)) (kv_ BK640) hb2) (by decide)); have NB640_644 := Aside0.mk (Ne.symm (IsS67.ne_blk hi (blk_below (g := gb640) (o := .cells #[.int .i64 0, .int .i64 0] 25 (0, 0)) (kv_ BK640) hb2) (by decide))); replace BK640 := kb_ BK640 hb2; (try clear hb); (try clear hb2); (try clear hk); (try clear hi)) | ((with_reducible refine gate_callee (f := 37) rfl ?_); refine gl_ 12 Try.func37 #[.pointer (some ⟨g644, 0, none⟩)] rfl mp_ ?_; (with_reducible refine (spec_l2Any.calls k g644 t641 t642 t643 t645 t646 t647 t648 w _ ?side1 ?side2 A3.out).mono ?_); (case side1 => repeat (first | (with_reducible first | exact HI644.out | apply IsS67.alloc | apply IsS67.drewN | apply IsS67.drew | apply IsS67.set_1 | apply IsS67.set_2 | refine IsS67.far ?_ NB644_640.out _) | exact HI644.out)); (case side2 => repeat (first | (with_reducible first | exact HB.out | apply below_alloc | apply pw_below_drewN | apply below_drew1 | refine below_set ?_ (IsS67.ge HI644.out) | refine below_set ?_ GE640.out) | exact HB.out)); rintro e w28 ⟨rfl, hi, hb, hk⟩; refine ⟨_, rfl, ?_⟩; replace BK640 := Aside0.mk (KeepBut.blk hk (g' := gb640) (o := .cells #[.int .i64 0, .int .i64 0] 25 (0, 0)) (kv_ BK640) NB640_644.out (by simp)); replace HB := Aside0.mk (hb); replace HI644 := Aside0.mk (hi); (try clear hb); (try clear hb2); (try clear hk); (try clear hi)) | ((with_reducible refine gate_dst (N := 6) rfl ?_); refine bx_ 6 #[.int .i64 0, .int .i64 0] 25 ?_; intro gb649 hg w29 hbox hb; have BK649 := Aside0.mk (hbox); have GW649 := Aside0.mk ((by rw [hg]; exact (below_size (by repeat (first | (with_reducible first | exact HB.out | apply below_alloc | apply pw_below_drewN | apply below_drew1 | refine below_set ?_ (IsS67.ge HI644.out) | refine below_set ?_ GE640.out) | exact HB.out))) : w.heap.size ≤ gb649)); have GE649 := GW649; replace HB := Aside0.mk (below_step (by repeat (first | (with_reducible first | exact HB.out | apply below_alloc | apply pw_below_drewN | apply below_drew1 | refine below_set ?_ (IsS67.ge HI644.out) | refine below_set ?_ GE640.out) | exact HB.out)) hb); have NB640_649 := nb_ hg (blk_lt (g := gb640) (o := .cells #[.int .i64 0, .int .i64 0] 25 (0, 0)) (kv_ BK640)); have NB649_640 := nc_ hg (blk_lt (g := gb640) (o := .cells #[.int .i64 0, .int .i64 0] 25 (0, 0)) (kv_ BK640)); replace BK640 := kb_ BK640 hb; have NB644_649 := Aside0.mk ((by rw [hg]; exact Nat.ne_of_lt (IsS67.lt (show IsS67 w _ g644 t641 t647 t648 from by repeat (first | (with_reducible first | exact HI644.out | apply IsS67.alloc | apply IsS67.drewN | apply IsS67.drew | apply IsS67.set_1 | apply IsS67.set_2 | refine IsS67.far ?_ NB644_640.out _) | exact HI644.out))) : g644 ≠ gb649)); have NB649_644 := Aside0.mk ((by rw [hg]; exact Nat.ne_of_gt (IsS67.lt (show IsS67 w _ g644 t641 t647 t648 from by repeat (first | (with_reducible first | exact HI644.out | apply IsS67.alloc | apply IsS67.drewN | apply IsS67.drew | apply IsS67.set_1 | apply IsS67.set_2 | refine IsS67.far ?_ NB644_640.out _) | exact HI644.out))) : gb649 ≠ g644)); replace HI644 := Aside0.mk (IsS67.below (by repeat (first | (with_reducible first | exact HI644.out | apply IsS67.alloc | apply IsS67.drewN | apply IsS67.drew | apply IsS67.set_1 | apply IsS67.set_2 | refine IsS67.far ?_ NB644_640.out _) | exact HI644.out)) hb); clear hb hbox hg; have hnb30 := NB649_640.out; have hnc30 := NB640_649.out; have hnb31 := NB649_644.out; have hnc31 := NB644_649.out; obtain ⟨hcz32_0, hcz32_1, hfz32_0, hfz32_1⟩ := c2_ BK649) | ((with_reducible refine gate_callee (f := 41) rfl ?_); refine gl_ 14 Try.func41 #[.pointer (some ⟨g644, 0, none⟩), .int .i64 17] rfl mp_ ?_; (with_reducible refine (spec_l1Below.calls g644 t641 t647 t648 17 t650 t651 t652 w _ ?side1 ?side2 A4.out).mono ?_); (case side1 => repeat (first | (with_reducible first | exact HI644.out | apply IsS67.alloc | apply IsS67.drewN | apply IsS67.drew | apply IsS67.set_1 | apply IsS67.set_2 | refine IsS67.far ?_ NB644_640.out _ | refine IsS67.far ?_ NB644_649.out _) | exact HI644.out)); (case side2 => repeat (first | (with_reducible first | exact HB.out | apply below_alloc | apply pw_below_drewN | apply below_drew1 | refine below_set ?_ (IsS67.ge HI644.out) | refine below_set ?_ GE640.out | refine below_set ?_ GE649.out) | exact HB.out)); rintro e w33 ⟨rfl, hi, hb, hk⟩; refine ⟨_, rfl, ?_⟩; replace BK640 := Aside0.mk (KeepBut.blk hk (g' := gb640) (o := .cells #[.int .i64 0, .int .i64 0] 25 (0, 0)) (by (with_reducible repeat (first | refine blk_drewN ?_ _ | refine blk_drew ?_ | refine blk_alloc ?_ _)); refine blk_far ?_ NB640_649.out _; (with_reducible repeat (first | refine blk_drewN ?_ _ | refine blk_drew ?_ | refine blk_alloc ?_ _)); refine blk_far ?_ NB640_649.out _; (with_reducible repeat (first | refine blk_drewN ?_ _ | refine blk_drew ?_ | refine blk_alloc ?_ _)); exact BK640.out) NB640_644.out (by simp)); replace BK649 := Aside0.mk (KeepBut.blk hk (g' := gb649) (o := .cells #[.int .i64 t645, .int .i64 t646] 25 (0, 0)) (by (with_reducible repeat (first | refine blk_drewN ?_ _ | refine blk_drew ?_ | refine blk_alloc ?_ _)); refine blk_put (cs := #[.int .i64 t645, .int .i64 0]) ?_ 1 _ rfl; (with_reducible repeat (first | refine blk_drewN ?_ _ | refine blk_drew ?_ | refine blk_alloc ?_ _)); refine blk_put (cs := #[.int .i64 0, .int .i64 0]) ?_ 0 _ rfl; (with_reducible repeat (first | refine blk_drewN ?_ _ | refine blk_drew ?_ | refine blk_alloc ?_ _)); exact BK649.out) NB649_644.out (by simp)); replace HB := Aside0.mk (hb); replace HI644 := Aside0.mk (hi); (try clear hb); (try clear hb2); (try clear hk); (try clear hi)) | ((with_reducible refine gate_callee (f := 41) rfl ?_); refine gl_ 17 Try.func41 #[.pointer (some ⟨g644, 0, none⟩), .int .i64 17] rfl mp_ ?_; (with_reducible refine (spec_l1Below.calls g644 t641 t651 t652 17 t653 t654 t655 w _ ?side1 ?side2 A5.out).mono ?_); (case side1 => repeat (first | (with_reducible first | exact HI644.out | apply IsS67.alloc | apply IsS67.drewN | apply IsS67.drew | apply IsS67.set_1 | apply IsS67.set_2 | refine IsS67.far ?_ NB644_640.out _ | refine IsS67.far ?_ NB644_649.out _) | exact HI644.out)); (case side2 => repeat (first | (with_reducible first | exact HB.out | apply below_alloc | apply pw_below_drewN | apply below_drew1 | refine below_set ?_ (IsS67.ge HI644.out) | refine below_set ?_ GE640.out | refine below_set ?_ GE649.out) | exact HB.out)); rintro e w34 ⟨rfl, hi, hb, hk⟩; refine ⟨_, rfl, ?_⟩; replace BK640 := Aside0.mk (KeepBut.blk hk (g' := gb640) (o := .cells #[.int .i64 0, .int .i64 0] 25 (0, 0)) (kv_ BK640) NB640_644.out (by simp)); replace BK649 := Aside0.mk (KeepBut.blk hk (g' := gb649) (o := .cells #[.int .i64 t645, .int .i64 t646] 25 (0, 0)) (kv_ BK649) NB649_644.out (by simp)); replace HB := Aside0.mk (hb); replace HI644 := Aside0.mk (hi); (try clear hb); (try clear hb2); (try clear hk); (try clear hi)) | ((with_reducible refine gate_callee (f := 42) rfl ?_); refine gl_ 20 Try.func42 #[.pointer (some ⟨g644, 0, none⟩), .int .i64 14] rfl mp_ ?_; (with_reducible refine (spec_l1Once.calls g644 t641 t654 t655 14 false t657 t658 w _ ?side1 ?side2 A6.out).mono ?_); (case side1 => repeat (first | (with_reducible first | exact HI644.out | apply IsS67.alloc | apply IsS67.drewN | apply IsS67.drew | apply IsS67.set_1 | apply IsS67.set_2 | refine IsS67.far ?_ NB644_640.out _ | refine IsS67.far ?_ NB644_649.out _) | exact HI644.out)); (case side2 => repeat (first | (with_reducible first | exact HB.out | apply below_alloc | apply pw_below_drewN | apply below_drew1 | refine below_set ?_ (IsS67.ge HI644.out) | refine below_set ?_ GE640.out | refine below_set ?_ GE649.out) | exact HB.out)); rintro e w35 ⟨rfl, hi, hb, hk⟩; refine ⟨_, rfl, ?_⟩; replace BK640 := Aside0.mk (KeepBut.blk hk (g' := gb640) (o := .cells #[.int .i64 0, .int .i64 0] 25 (0, 0)) (kv_ BK640) NB640_644.out (by simp)); replace BK649 := Aside0.mk (KeepBut.blk hk (g' := gb649) (o := .cells #[.int .i64 t645, .int .i64 t646] 25 (0, 0)) (kv_ BK649) NB649_644.out (by simp)); replace HB := Aside0.mk (hb); replace HI644 := Aside0.mk (hi); (try clear hb); (try clear hb2); (try clear hk); (try clear hi); obtain ⟨hcz36_0, hcz36_1, hfz36_0, hfz36_1⟩ := c2_ BK649; have hnb37 := NB640_644.out; have hnc37 := NB644_640.out; obtain ⟨hcz38_0, hcz38_1, hfz38_0, hfz38_1⟩ := c2_ BK640))
  refine bodyPost_ret (results_ctt rfl _ _ gb640 25 #[.int .i64 t645, .int .i64 t646] (0, 0) _ rfl (by (with_reducible repeat (first | refine blk_drewN ?_ _ | refine blk_drew ?_ | refine blk_alloc ?_ _)); refine blk_put (cs := #[.int .i64 t645, .int .i64 0]) ?_ 1 _ rfl; (with_reducible repeat (first | refine blk_drewN ?_ _ | refine blk_drew ?_ | refine blk_alloc ?_ _)); refine blk_put (cs := #[.int .i64 0, .int .i64 0]) ?_ 0 _ rfl; (with_reducible repeat (first | refine blk_drewN ?_ _ | refine blk_drew ?_ | refine blk_alloc ?_ _)); exact BK640.out) Try.underlying25 rfl (by kernel_rfl)) rfl ?_
  exact ⟨by first | rfl | (simp [errW_none, errW_some] <;> rfl) | (simp [*, errW_none, errW_some] <;> rfl), by repeat (first | (with_reducible first | exact HB.out | apply below_alloc | apply pw_below_drewN | apply below_drew1 | refine below_set ?_ (IsS67.ge HI644.out) | refine below_set ?_ GE640.out | refine below_set ?_ GE649.out) | exact HB.out)⟩


/-! ### spec_DrawAdversaryAnswer: function 9 -/
def spec_DrawAdversaryAnswer.f (k : Nat) (l0 : List Int) : Option (Int × Int × Int × Int × Int) := (spec_l8Draw.f k l0).bind fun bt666 => ((some (([0, 1, 2, 3, (-1), 4] : List Int) : List Int)).bind fun y671 => (if 0 ≤ ((l0.length : Int) % 6) then (if ((l0.length : Int) % 6) < (y671.length : Int) then (some (bt666.1, bt666.2.1, bt666.2.2.1, bt666.2.2.2, rd y671 ((l0.length : Int) % 6))) else (none)) else (none)))
theorem spec_DrawAdversaryAnswer.mono : ∀ a0 k, LeO (spec_DrawAdversaryAnswer.f k a0) (spec_DrawAdversaryAnswer.f (k + 1) a0) := by
 intro a0 k
 unfold spec_DrawAdversaryAnswer.f
 repeat' first
   | (with_reducible exact spec_l8Draw.mono _ _)
   | (with_reducible exact LeO.refl _)
   | (with_reducible exact LeO.none _)
   | (with_reducible refine LeO.ite ?_ ?_)
   | (with_reducible refine LeO.bind ?_ (fun _ => ?_))
   | exact spec_l8Draw.mono _ _
   | exact LeO.none _
   | refine LeO.ite ?_ ?_
   | refine LeO.bind ?_ (fun _ => ?_)
def spec_DrawAdversaryAnswer.T2 : Bool × List (List Nat × List Nat) := (true, [([], []), ([], []), ([], []), ([], []), ([], []), ([4], [4]), ([5], [5]), ([3, 6], [3, 6]), ([7], [7]), ([0, 0], [0]), ([1, 9, 0, 1, 9], [1]), ([2, 10, 0, 1, 2, 9, 10], [2]), ([8, 11, 0, 1, 2, 3, 4, 5, 6, 7, 8, 9, 10, 11], [8])])
def spec_DrawAdversaryAnswer.B2 : List Nat := [0, 0, 0, 0, 0, 16, 48, 120, 248, 1, 515, 1543, 4095]
theorem spec_DrawAdversaryAnswer.tab2 : rtab .any (opsOf Try.f9 2) = spec_DrawAdversaryAnswer.T2 := by kernel_rfl
theorem spec_DrawAdversaryAnswer.bits2 : waitsOk spec_DrawAdversaryAnswer.T2.2 spec_DrawAdversaryAnswer.B2 = true := by kernel_rfl
set_option maxHeartbeats 8000000 in
set_option maxRecDepth 100000 in
theorem spec_DrawAdversaryAnswer.calls (k : Nat) (A0 : Option Addr) (c0 : Nat) (l0 : List Int) (r1 : Int) (r2 : Int) (r3 : Int) (r4 : Int) (r5 : Int) (w : World) (hr0 : Kd.C (Kd.int .u8) w A0 l0.length l0) (hc0 : l0.length ≤ c0) (h : spec_DrawAdversaryAnswer.f k l0 = some (r1, r2, r3, r4, r5)) :
  Calls Try.prog 9 #[.slice A0 l0.length c0] w fun e w' => e = .returned (.tuple #[.agg #[.int .i64 r1, .int .i64 r2], .int .i64 r3, .int .i64 r4, .int .i64 r5]) ∧ Below w.heap.size w w' := by
 have hu25 := Try.underlying25
 have HR0 := Aside0.mk hr0
 have HC0 := Aside0.mk hc0
 clear hr0 hc0
 have HB := Aside0.mk (Below.refl w.heap.size w)
 have H : ((spec_l8Draw.f k l0).bind fun bt666 => ((some (([0, 1, 2, 3, (-1), 4] : List Int) : List Int)).bind fun y671 => (if 0 ≤ ((l0.length : Int) % 6) then (if ((l0.length : Int) % 6) < (y671.length : Int) then (some (bt666.1, bt666.2.1, bt666.2.2.1, bt666.2.2.2, rd y671 ((l0.length : Int) % 6))) else (none)) else (none)))) = some (r1, r2, r3, r4, r5) := h
 clear h
 replace H := Option.bind_eq_some_iff.mp H
 obtain ⟨⟨t666, t667, t668, t669⟩, A20, H⟩ := H
 dsimp only at H
 have A2 := Aside0.mk A20
 clear A20
 obtain ⟨y671, hy671⟩ : ∃ y_ : List Int, y_ = (([0, 1, 2, 3, (-1), 4] : List Int)) := ⟨_, rfl⟩
 replace H : (if 0 ≤ ((l0.length : Int) % 6) then (if ((l0.length : Int) % 6) < (y671.length : Int) then (some (t666, t667, t668, t669, rd y671 ((l0.length : Int) % 6))) else (none)) else (none)) = some (r1, r2, r3, r4, r5) := by first | (rw [hy671]; with_reducible exact H) | (have H2_ := (Option.bind_some _ _).symm.trans H; rw [hy671]; with_reducible exact H2_) | (have H2_ := (Option.bind_some _ _).symm.trans H; with_reducible exact H2_) | with_reducible exact H | (rw [hy671]; exact H) | exact H
 have Ny671 := Aside0.mk hy671
 clear hy671
 obtain ⟨ji3, hji3⟩ : ∃ j_ : Int, ((l0.length : Int) % 6) = j_ := ⟨_, rfl⟩
 replace H : (if 0 ≤ (ji3) then (if (ji3) < (y671.length : Int) then (some (t666, t667, t668, t669, rd y671 (ji3))) else (none)) else (none)) = some (r1, r2, r3, r4, r5) := by first | (rw [hji3] at H; exact H) | (simp only [hji3] at H ⊢; exact H)
 (try rw [hji3] at A2)
 by_cases c4 : 0 ≤ (ji3)
 ·rw [if_pos c4] at H
  have c4b0 : decide (0 ≤ (ji3)) = true := decide_eq_true c4
  clear c4
  by_cases c5 : (ji3) < (y671.length : Int)
  ·rw [if_pos c5] at H
   have c5b0 : decide ((ji3) < (y671.length : Int)) = true := decide_eq_true c5
   clear c5
   simp only [Option.some.injEq, Prod.mk.injEq] at H
   obtain ⟨rfl, rfl, rfl, rfl, rfl⟩ := H
   go_enter Try.func9, Try.ntmps9
   try go_wp2_with (first | ((with_reducible refine gate_dst (N := 2) rfl ?_); refine bx_ 2 #[.int .i64 0, .int .i64 0] 25 ?_; intro gb665 hg w6 hbox hb; have BK665 := Aside0.mk (hbox); have GW665 := gw_ hg (below_size (bv_ HB)); have GE665 := GW665; replace HB := Aside0.mk (below_step (bv_ HB) hb); clear hb hbox hg) | ((with_reducible refine gate_callee (f := 32) rfl ?_); refine gl_ 11 Try.func32 #[.slice A0 l0.length c0] rfl mp_ ?_; (with_reducible refine (spec_l8Draw.calls k _ _ l0 t666 t667 t668 t669 _ ?side1 ?side2 A2.out).mono ?_); (case side1 => exact cv_ (Kd.C_below HR0.out HB.out)); (case side2 => exact HC0.out); rintro e w7 ⟨rfl, hb⟩; refine ⟨_, rfl, ?_⟩; replace BK665 := kb_ BK665 hb; replace HB := Aside0.mk (below_step (bv1_ HB GE665) hb); (try clear hb); (try clear hb2); (try clear hk); (try clear hi)) | ((with_reducible refine gate_dst (N := 6) rfl ?_); refine bx_ 6 #[.int .i64 0, .int .i64 0] 25 ?_; intro gb670 hg w8 hbox hb; have BK670 := Aside0.mk (hbox); have GW670 := gw_ hg (below_size (bv1_ HB GE665)); have GE670 := GW670; replace HB := Aside0.mk (below_step (bv1_ HB GE665) hb); have NB665_670 := nb_ hg (blk_lt (g := gb665) (o := .cells #[.int .i64 0, .int .i64 0] 25 (0, 0)) (kv_ BK665)); have NB670_665 := nc_ hg (blk_lt (g := gb665) (o := .cells #[.int .i64 0, .int .i64 0] 25 (0, 0)) (kv_ BK665)); replace BK665 := kb_ BK665 hb; clear hb hbox hg; have hnb9 := NB670_665.out; have hnc9 := NB665_670.out; obtain ⟨hcz10_0, hcz10_1, hfz10_0, hfz10_1⟩ := c2_ BK670))
   have pi674 : (0 ≤ ((ji3) : Int)) = True := eq_true (of_decide_eq_true (by first | (with_reducible assumption) | assumption))
   have qi674 : ((ji3) < (y671.length : Int)) = True := eq_true (of_decide_eq_true (by first | (with_reducible assumption) | assumption))
   have n0_ : Aside0 (((w8.setCell ⟨gb670, 0, none⟩ (.int .i64 t666)).setCell ⟨gb670, 1, none⟩ (.int .i64 t667)).heap[gb665]? = some (.cells #[.int .i64 0, .int .i64 0] 25 (0, 0))) := ⟨by (with_reducible repeat (first | refine blk_drewN ?_ _ | refine blk_drew ?_ | refine blk_alloc ?_ _)); refine blk_far ?_ NB665_670.out _; (with_reducible repeat (first | refine blk_drewN ?_ _ | refine blk_drew ?_ | refine blk_alloc ?_ _)); refine blk_far ?_ NB665_670.out _; (with_reducible repeat (first | refine blk_drewN ?_ _ | refine blk_drew ?_ | refine blk_alloc ?_ _)); exact BK665.out⟩
   have n1_ : Aside0 (((w8.setCell ⟨gb670, 0, none⟩ (.int .i64 t666)).setCell ⟨gb670, 1, none⟩ (.int .i64 t667)).heap[gb670]? = some (.cells #[.int .i64 t666, .int .i64 t667] 25 (0, 0))) := ⟨by (with_reducible repeat (first | refine blk_drewN ?_ _ | refine blk_drew ?_ | refine blk_alloc ?_ _)); refine blk_put (cs := #[.int .i64 t666, .int .i64 0]) ?_ 1 _ rfl; (with_reducible repeat (first | refine blk_drewN ?_ _ | refine blk_drew ?_ | refine blk_alloc ?_ _)); refine blk_put (cs := #[.int .i64 0, .int .i64 0]) ?_ 0 _ rfl; (with_reducible repeat (first | refine blk_drewN ?_ _ | refine blk_drew ?_ | refine blk_alloc ?_ _)); exact BK670.out⟩
   have n2_ : Aside0 (Below w.heap.size w ((w8.setCell ⟨gb670, 0, none⟩ (.int .i64 t666)).setCell ⟨gb670, 1, none⟩ (.int .i64 t667))) := ⟨bv2_ HB GE665 GE670⟩
   (try clear BK665)
   (try clear BK670)
   (try clear HB)
   generalize ((w8.setCell ⟨gb670, 0, none⟩ (.int .i64 t666)).setCell ⟨gb670, 1, none⟩ (.int .i64 t667)) = w11 at n0_ n1_ n2_ ⊢
   have BK665 := n0_
   have BK670 := n1_
   have HB := n2_
   clear n0_ n1_ n2_
   replace BK665 := Aside0.mk (blk_drew BK665.out)
   replace BK670 := Aside0.mk (blk_drew BK670.out)
   replace HB := Aside0.mk (below_drew1 HB.out)
   refine start_ (n := 13) (S := fun w' => True) (ds := []) (bs 13 0) (by kernel_rfl) rfl (by kernel_rfl) trivial (fun hHeld => ?_); refine with_tabW spec_DrawAdversaryAnswer.tab2 spec_DrawAdversaryAnswer.bits2 (fun HT_ HW_ => ?_)
   generalize w11.drew = w12 at BK665 BK670 HB hHeld ⊢
   refine pu_ HT_ 1 16 (bs 13 2) ?_
   refine pu_ HT_ 2 17 (bs 13 6) ?_
   refine pu_ HT_ 4 19 (bs 13 22) ?_
   refine inv_at [0, 3, 5, 6, 7, 8, 9, 10, 11, 12] (fun a0_ b a w' => ∃ (v672 : Value) (adz_v672 : Addr) (m7_ : Value), a = putSel a0_ b [(0, 15, .agg #[.int .i64 t666, .int .i64 t667]), (3, 18, v672), (5, 20, .int .i64 (l0.length : Int)), (6, 21, .int .i64 ji3), (7, 22, m7_), (8, 23, .int .i64 (rd y671 (ji3))), (10, 3, .int .i64 t668), (11, 4, .int .i64 t669), (12, 5, .int .i64 (rd y671 (ji3)))] ∧ (b 9 = false → w'.heap[gb665]? = some (.cells #[.int .i64 0, .int .i64 0] 25 (0, 0))) ∧ (w'.heap[gb670]? = some (.cells #[.int .i64 t666, .int .i64 t667] 25 (0, 0))) ∧ (Below w.heap.size w w') ∧ (b 3 = true → Kd.R (Kd.int .i64) 3 w' w.heap.size (fun _ => True) v672 y671) ∧ (b 3 = true → ∃ c_, (v672 : Value) = .slice (some adz_v672) y671.length c_) ∧ (b 9 = true → w'.heap[gb665]? = some (.cells #[.int .i64 t666, .int .i64 t667] 25 (0, 0))) ∧ (b 7 = true → (m7_ : Value) = .pointer (some (adz_v672.add ((ji3)).toNat)))) HT_.out HW_.out (by kernel_rfl) (by kernel_rfl) ?_ ?_ ?_
   ·exact ⟨.bool false, ⟨0, 0, none⟩, .bool false, by simp only [putSel, Bool.false_eq_true, if_false], fun _ => BK665.out, BK670.out, HB.out, fun h_ => absurd h_ (by decide), fun h_ => absurd h_ (by decide), fun h_ => absurd h_ (by decide), fun h_ => absurd h_ (by decide)⟩
   ·skip
    clear BK665 BK670 HB
    refine steps_cons ?_ ?_
    ·rintro b a w' ⟨v672, adz_v672, m7_, ha, Q_BK665, Q_BK670, Q_HB, Q_HO673, Q_HA_HO673, Q_BK665_e9, Q_X7_⟩ hb_ hon hoff
     refine ⟨_, rfl, fun K hK => ?_⟩
     have e6 : a.tmps[6]? = some (.pointer (some ⟨gb670, 0, none⟩)) := by rw [ha]; exact (putSel_off rfl).trans rfl
     replace ha := Aside0.mk ha
     have BK665 := Aside0.mk (Q_BK665 (hoff 9 (by kernel_rfl)))
     have BK670 := Aside0.mk Q_BK670
     have HB := Aside0.mk Q_HB
     have hc0_ : w'.cell? ⟨gb670, 0, none⟩ = some (.int .i64 t666) := (blk_cell BK670.out 0).trans rfl
     have hc1_ : w'.cell? ⟨gb670, 1, none⟩ = some (.int .i64 t667) := (blk_cell BK670.out 1).trans rfl
     refine value_ (w1 := w') (v := .agg #[.int .i64 t666, .int .i64 t667]) (by rfl) rfl ?_ ?_
     ·go_simp
      (try simp only [i64_w])
      try rfl
     refine hK.out _ _ ⟨v672, adz_v672, m7_, (by rw [ha.out]; exact putSel_upk 0 hb_ rfl rfl rfl), Q_BK665, Q_BK670, Q_HB, Q_HO673, Q_HA_HO673, fun h0_ => absurd ((hoff 9 (by kernel_rfl)).symm.trans h0_) (by decide), Q_X7_⟩
    refine steps_cons ?_ ?_
    ·rintro b a w' ⟨v672, adz_v672, m7_, ha, Q_BK665, Q_BK670, Q_HB, Q_HO673, Q_HA_HO673, Q_BK665_e9, Q_X7_⟩ hb_ hon hoff
     refine ⟨_, rfl, fun K hK => ?_⟩
     replace ha := Aside0.mk ha
     have BK670 := Aside0.mk Q_BK670
     have HB := Aside0.mk Q_HB
     refine Kd.R_lit_step (Kd.int .i64) _ 3 ?hg (N := 18) ?hd (xs := ([0, 1, 2, 3, (-1), 4] : List Int)) (inner := [.int .i64 0, .int .i64 1, .int .i64 2, .int .i64 3, .int .i64 (-1), .int .i64 4]) (ok := fun _ => True) (okp := fun _ => True) ?hr ?hp (fun _ hk => hk) trivial (Below.refl _ _) (Nat.le_refl _) (by simp) ?_; (case hd => rfl); (case hg => rfl); (case hr => first | (go_simp; done) | (go_simp; rfl)); (case hp => exact (Reps.one (show Kd.M (Kd.int .i64) _ _ _ 0 [.int .i64 0] from rfl) (Reps.one (show Kd.M (Kd.int .i64) _ _ _ 1 [.int .i64 1] from rfl) (Reps.one (show Kd.M (Kd.int .i64) _ _ _ 2 [.int .i64 2] from rfl) (Reps.one (show Kd.M (Kd.int .i64) _ _ _ 3 [.int .i64 3] from rfl) (Reps.one (show Kd.M (Kd.int .i64) _ _ _ (-1) [.int .i64 (-1)] from rfl) (Reps.one (show Kd.M (Kd.int .i64) _ _ _ 4 [.int .i64 4] from rfl) (Reps.none _ _))))))))
     intro v672 w13 ho14 hb hg_ hnew_
     clear hg_ hnew_
     (first | rw [← Ny671.out] at ho14 | (simp only [Int.reduceToNat] at ho14; rw [← Ny671.out] at ho14))
     have n0_ := Aside0.mk (Kd.R_lower ho14 (below_size (bv2_ HB GE665 GE670)))
     have n2_ := kb_ BK670 hb
     have n3_ := Aside0.mk (below_step (bv2_ HB GE665 GE670) hb)
     have z_BK665 := fun (h0_ : b 9 = false) => (show w13.heap[gb665]? = some (.cells #[.int .i64 0, .int .i64 0] 25 (0, 0)) from by first | exact (blk_below (g := gb665) (o := .cells #[.int .i64 0, .int .i64 0] 25 (0, 0)) (by (with_reducible repeat (first | refine blk_drewN ?_ _ | refine blk_drew ?_ | refine blk_alloc ?_ _)); exact (Q_BK665 h0_)) hb))
     have z_BK665_e9 := fun (h0_ : b 9 = true) => (show w13.heap[gb665]? = some (.cells #[.int .i64 t666, .int .i64 t667] 25 (0, 0)) from by first | exact (blk_below (g := gb665) (o := .cells #[.int .i64 t666, .int .i64 t667] 25 (0, 0)) (by (with_reducible repeat (first | refine blk_drewN ?_ _ | refine blk_drew ?_ | refine blk_alloc ?_ _)); exact (Q_BK665_e9 h0_)) hb))
     clear BK670
     clear HB
     have HO673 := n0_
     have BK670 := n2_
     have HB := n3_
     clear n0_ n2_ n3_
     clear hb ho14
     obtain ⟨Ao15, co15, eo15⟩ := Kd.R_slice HO673.out
     subst eo15
     obtain ⟨ado15, fo15, _⟩ := Kd.at_int (Kd.R_reads' HO673.out).2.2 0 (by decide) (by rw [Ny671.out]; simp)
     cases fo15
     refine hK.out _ _ ⟨.slice (some ado15) y671.length co15, ado15, m7_, (by rw [ha.out]; exact putSel_upk 1 hb_ rfl rfl rfl), z_BK665, (kv_ BK670), (bv2_ HB GE665 GE670), fun _ => (rv_ HO673), fun _ => ⟨_, rfl⟩, z_BK665_e9, fun h0_ => absurd ((hoff 7 (by kernel_rfl)).symm.trans h0_) (by decide)⟩
    refine steps_cons ?_ ?_
    ·rintro b a w' ⟨v672, adz_v672, m7_, ha, Q_BK665, Q_BK670, Q_HB, Q_HO673, Q_HA_HO673, Q_BK665_e9, Q_X7_⟩ hb_ hon hoff
     refine ⟨_, rfl, fun K hK => ?_⟩
     have e19 : a.tmps[19]? = some (.slice A0 l0.length c0) := by rw [ha]; exact (putSel_off rfl).trans rfl
     replace ha := Aside0.mk ha
     have BK670 := Aside0.mk Q_BK670
     have HB := Aside0.mk Q_HB
     refine value_ (w1 := w') (v := .int .i64 (l0.length : Int)) (by rfl) rfl ?_ ?_
     ·go_simp
      (try simp only [i64_w])
      try rfl
     refine hK.out _ _ ⟨v672, adz_v672, m7_, (by rw [ha.out]; exact putSel_upk 2 hb_ rfl rfl rfl), Q_BK665, Q_BK670, Q_HB, Q_HO673, Q_HA_HO673, Q_BK665_e9, fun h0_ => absurd ((hoff 7 (by kernel_rfl)).symm.trans h0_) (by decide)⟩
    refine steps_cons ?_ ?_
    ·rintro b a w' ⟨v672, adz_v672, m7_, ha, Q_BK665, Q_BK670, Q_HB, Q_HO673, Q_HA_HO673, Q_BK665_e9, Q_X7_⟩ hb_ hon hoff
     refine ⟨_, rfl, fun K hK => ?_⟩
     have e20 : a.tmps[20]? = some (.int .i64 (l0.length : Int)) := by rw [ha]; exact putSel_on (e := (5, 20, .int .i64 (l0.length : Int))) 2 rfl rfl (hon 5 (by kernel_rfl)) rfl
     replace ha := Aside0.mk ha
     have BK670 := Aside0.mk Q_BK670
     have HB := Aside0.mk Q_HB
     refine value_ (w1 := w') (v := .int .i64 ji3) (by rfl) rfl ?_ ?_
     ·go_simp
      (try simp only [i64_w])
      try first | rfl | exact (Int.tmod_eq_emod_of_nonneg (Int.natCast_nonneg _)).trans hji3
     refine hK.out _ _ ⟨v672, adz_v672, m7_, (by rw [ha.out]; exact putSel_upk 3 hb_ rfl rfl rfl), Q_BK665, Q_BK670, Q_HB, Q_HO673, Q_HA_HO673, Q_BK665_e9, fun h0_ => absurd ((hoff 7 (by kernel_rfl)).symm.trans h0_) (by decide)⟩
    refine steps_cons ?_ ?_
    ·rintro b a w' ⟨v672, adz_v672, m7_, ha, Q_BK665, Q_BK670, Q_HB, Q_HO673, Q_HA_HO673, Q_BK665_e9, Q_X7_⟩ hb_ hon hoff
     refine ⟨_, rfl, fun K hK => ?_⟩
     have e18 : a.tmps[18]? = some (v672) := by rw [ha]; exact putSel_on (e := (3, 18, v672)) 1 rfl rfl (hon 3 (by kernel_rfl)) rfl
     have e21 : a.tmps[21]? = some (.int .i64 ji3) := by rw [ha]; exact putSel_on (e := (6, 21, .int .i64 ji3)) 3 rfl rfl (hon 6 (by kernel_rfl)) rfl
     replace ha := Aside0.mk ha
     have BK670 := Aside0.mk Q_BK670
     have HB := Aside0.mk Q_HB
     have HO673 := Aside0.mk (Q_HO673 (hon 3 (by kernel_rfl)))
     have HA_HO673 := Aside0.mk (Q_HA_HO673 (hon 3 (by kernel_rfl)))
     obtain ⟨c_, hv_⟩ := HA_HO673.out
     rw [hv_] at e18
     refine value_ (w1 := w') (v := .pointer (some (adz_v672.add ((ji3)).toNat))) (by rfl) rfl ?_ ?_
     ·go_simp
      (try simp only [i64_w])
      try rfl
     refine hK.out _ _ ⟨v672, adz_v672, (.pointer (some (adz_v672.add ((ji3)).toNat))), (by rw [ha.out]; exact putSel_upk 4 hb_ rfl rfl rfl), Q_BK665, Q_BK670, Q_HB, Q_HO673, Q_HA_HO673, Q_BK665_e9, fun _ => rfl⟩
    refine steps_cons ?_ ?_
    ·rintro b a w' ⟨v672, adz_v672, m7_, ha, Q_BK665, Q_BK670, Q_HB, Q_HO673, Q_HA_HO673, Q_BK665_e9, Q_X7_⟩ hb_ hon hoff
     refine ⟨_, rfl, fun K hK => ?_⟩
     have e22 : a.tmps[22]? = some (m7_) := by rw [ha]; exact putSel_on (e := (7, 22, m7_)) 4 rfl rfl (hon 7 (by kernel_rfl)) rfl
     rw [Q_X7_ (hon 7 (by kernel_rfl))] at e22
     replace ha := Aside0.mk ha
     have BK670 := Aside0.mk Q_BK670
     have HB := Aside0.mk Q_HB
     have HO673 := Aside0.mk (Q_HO673 (hon 3 (by kernel_rfl)))
     have HA_HO673 := Aside0.mk (Q_HA_HO673 (hon 3 (by kernel_rfl)))
     obtain ⟨c_, hv_⟩ := HA_HO673.out
     have hF_ := HO673.out
     rw [hv_] at hF_
     obtain ⟨ad_, ea_, hx_⟩ := Kd.at_int (Kd.R_reads' hF_).2.2 (ji3) (of_eq_true pi674) (of_eq_true qi674)
     cases ea_
     refine value_ (w1 := w') (v := .int .i64 (rd y671 (ji3))) (by rfl) rfl ?_ ?_
     ·go_simp
      (try simp only [i64_w])
      try rfl
     refine hK.out _ _ ⟨v672, adz_v672, m7_, (by rw [ha.out]; exact putSel_upk 5 hb_ rfl rfl rfl), Q_BK665, Q_BK670, Q_HB, Q_HO673, Q_HA_HO673, Q_BK665_e9, Q_X7_⟩
    refine steps_cons ?_ ?_
    ·rintro b a w' ⟨v672, adz_v672, m7_, ha, Q_BK665, Q_BK670, Q_HB, Q_HO673, Q_HA_HO673, Q_BK665_e9, Q_X7_⟩ hb_ hon hoff
     refine ⟨_, rfl, fun K hK => ?_⟩
     have e2 : a.tmps[2]? = some (.pointer (some ⟨gb665, 0, none⟩)) := by rw [ha]; exact (putSel_off rfl).trans rfl
     have e15 : a.tmps[15]? = some (.agg #[.int .i64 t666, .int .i64 t667]) := by rw [ha]; exact putSel_on (e := (0, 15, .agg #[.int .i64 t666, .int .i64 t667])) 0 rfl rfl (hon 0 (by kernel_rfl)) rfl
     replace ha := Aside0.mk ha
     have BK665 := Aside0.mk (Q_BK665 hb_)
     have BK670 := Aside0.mk Q_BK670
     have HB := Aside0.mk Q_HB
     have hs13 : w'.cell? ⟨gb665, 0, none⟩ = some (.int .i64 0) := (blk_cell BK665.out 0).trans rfl
     have hfs13 := blk_frozen BK665.out 0
     have hns13_1 := NB670_665.out
     have hms13_1 := NB665_670.out
     have hs14 : w'.cell? ⟨gb665, 1, none⟩ = some (.int .i64 0) := (blk_cell BK665.out 1).trans rfl
     have hfs14 := blk_frozen BK665.out 1
     have hns14_1 := NB670_665.out
     have hms14_1 := NB665_670.out
     refine skip_ (w1 := ?_) (by rfl) rfl ?_ ?_
     rotate_left
     ·go_simp
      rfl
     refine hK.out _ _ ⟨v672, adz_v672, m7_, (by rw [ha.out]; exact putSel_none (v := undef) rfl), fun h0_ => absurd ((up_self b 9).symm.trans h0_) (by decide), (by (with_reducible repeat (first | refine blk_drewN ?_ _ | refine blk_drew ?_ | refine blk_alloc ?_ _)); refine blk_far ?_ NB670_665.out _; (with_reducible repeat (first | refine blk_drewN ?_ _ | refine blk_drew ?_ | refine blk_alloc ?_ _)); refine blk_far ?_ NB670_665.out _; (with_reducible repeat (first | refine blk_drewN ?_ _ | refine blk_drew ?_ | refine blk_alloc ?_ _)); exact BK670.out), (bv2_ HB GE665 GE670), fun h0_ => (by (with_reducible repeat (first | apply Kd.R_alloc | apply Kd.R_drewN | apply Kd.R_drew)); exact Kd.R_mono (Kd.R_far (p := ⟨gb665, 1, none⟩) (Kd.R_far (p := ⟨gb665, 0, none⟩) (Kd.R_types (Q_HO673 h0_) BK665.out (by decide)) (fun _ hk => hk.2) (.int .i64 t666)) (fun _ hk => hk.2) (.int .i64 t667)) (fun _ hk => trivial)), Q_HA_HO673, fun _ => (by (with_reducible repeat (first | refine blk_drewN ?_ _ | refine blk_drew ?_ | refine blk_alloc ?_ _)); refine blk_put (cs := #[.int .i64 t666, .int .i64 0]) ?_ 1 _ rfl; (with_reducible repeat (first | refine blk_drewN ?_ _ | refine blk_drew ?_ | refine blk_alloc ?_ _)); refine blk_put (cs := #[.int .i64 0, .int .i64 0]) ?_ 0 _ rfl; (with_reducible repeat (first | refine blk_drewN ?_ _ | refine blk_drew ?_ | refine blk_alloc ?_ _)); exact BK665.out), Q_X7_⟩
    refine steps_cons ?_ ?_
    ·rintro b a w' ⟨v672, adz_v672, m7_, ha, Q_BK665, Q_BK670, Q_HB, Q_HO673, Q_HA_HO673, Q_BK665_e9, Q_X7_⟩ hb_ hon hoff
     refine ⟨_, rfl, fun K hK => ?_⟩
     have e16 : a.tmps[16]? = some (.int .i64 t668) := by rw [ha]; exact (putSel_off rfl).trans rfl
     replace ha := Aside0.mk ha
     have BK670 := Aside0.mk Q_BK670
     have HB := Aside0.mk Q_HB
     have BK665 := Aside0.mk (Q_BK665_e9 (hon 9 (by kernel_rfl)))
     refine value_ (w1 := w') (v := .int .i64 t668) (by rfl) rfl ?_ ?_
     ·go_simp
      (try simp only [i64_w])
      try rfl
     refine hK.out _ _ ⟨v672, adz_v672, m7_, (by rw [ha.out]; exact putSel_upk 6 hb_ rfl rfl rfl), fun h0_ => absurd ((hon 9 (by kernel_rfl)).symm.trans h0_) (by decide), Q_BK670, Q_HB, Q_HO673, Q_HA_HO673, Q_BK665_e9, Q_X7_⟩
    refine steps_cons ?_ ?_
    ·rintro b a w' ⟨v672, adz_v672, m7_, ha, Q_BK665, Q_BK670, Q_HB, Q_HO673, Q_HA_HO673, Q_BK665_e9, Q_X7_⟩ hb_ hon hoff
     refine ⟨_, rfl, fun K hK => ?_⟩
     have e17 : a.tmps[17]? = some (.int .i64 t669) := by rw [ha]; exact (putSel_off rfl).trans rfl
     replace ha := Aside0.mk ha
     have BK670 := Aside0.mk Q_BK670
     have HB := Aside0.mk Q_HB
     have BK665 := Aside0.mk (Q_BK665_e9 (hon 9 (by kernel_rfl)))
     refine value_ (w1 := w') (v := .int .i64 t669) (by rfl) rfl ?_ ?_
     ·go_simp
      (try simp only [i64_w])
      try rfl
     refine hK.out _ _ ⟨v672, adz_v672, m7_, (by rw [ha.out]; exact putSel_upk 7 hb_ rfl rfl rfl), fun h0_ => absurd ((hon 9 (by kernel_rfl)).symm.trans h0_) (by decide), Q_BK670, Q_HB, Q_HO673, Q_HA_HO673, Q_BK665_e9, Q_X7_⟩
    refine steps_cons ?_ ?_
    ·rintro b a w' ⟨v672, adz_v672, m7_, ha, Q_BK665, Q_BK670, Q_HB, Q_HO673, Q_HA_HO673, Q_BK665_e9, Q_X7_⟩ hb_ hon hoff
     refine ⟨_, rfl, fun K hK => ?_⟩
     have e23 : a.tmps[23]? = some (.int .i64 (rd y671 (ji3))) := by rw [ha]; exact putSel_on (e := (8, 23, .int .i64 (rd y671 (ji3)))) 5 rfl rfl (hon 8 (by kernel_rfl)) rfl
     replace ha := Aside0.mk ha
     have BK670 := Aside0.mk Q_BK670
     have HB := Aside0.mk Q_HB
     have HO673 := Aside0.mk (Q_HO673 (hon 3 (by kernel_rfl)))
     have HA_HO673 := Aside0.mk (Q_HA_HO673 (hon 3 (by kernel_rfl)))
     have BK665 := Aside0.mk (Q_BK665_e9 (hon 9 (by kernel_rfl)))
     refine value_ (w1 := w') (v := .int .i64 (rd y671 (ji3))) (by rfl) rfl ?_ ?_
     ·go_simp
      (try simp only [i64_w])
      try rfl
     refine hK.out _ _ ⟨v672, adz_v672, m7_, (by rw [ha.out]; exact putSel_upk 8 hb_ rfl rfl rfl), fun h0_ => absurd ((hon 9 (by kernel_rfl)).symm.trans h0_) (by decide), Q_BK670, Q_HB, Q_HO673, Q_HA_HO673, Q_BK665_e9, Q_X7_⟩
    exact steps_nil
   rintro b a w18 hall ⟨v672, adz_v672, m7_, ha, Q_BK665, Q_BK670, Q_HB, Q_HO673, Q_HA_HO673, Q_BK665_e9, Q_X7_⟩
   clear BK665 BK670 HB
   have hb0_ := hall 0 (by kernel_rfl)
   have hb3_ := hall 3 (by kernel_rfl)
   have hb5_ := hall 5 (by kernel_rfl)
   have hb6_ := hall 6 (by kernel_rfl)
   have hb7_ := hall 7 (by kernel_rfl)
   have hb8_ := hall 8 (by kernel_rfl)
   have hb9_ := hall 9 (by kernel_rfl)
   have hb10_ := hall 10 (by kernel_rfl)
   have hb11_ := hall 11 (by kernel_rfl)
   have hb12_ := hall 12 (by kernel_rfl)
   subst ha
   obtain rfl := Q_X7_ hb7_
   simp only [putSel, hb0_, hb3_, hb5_, hb6_, hb7_, hb8_, hb9_, hb10_, hb11_, hb12_, if_true, Act.put, List.setIfInBounds_toArray, List.set_cons_zero, List.set_cons_succ]
   clear Q_BK665
   have BK670 := Aside0.mk Q_BK670
   clear Q_BK670
   have HB := Aside0.mk Q_HB
   clear Q_HB
   have HO673 := Aside0.mk (Q_HO673 hb3_)
   clear Q_HO673
   have HA_HO673 := Aside0.mk (Q_HA_HO673 hb3_)
   clear Q_HA_HO673
   have BK665 := Aside0.mk (Q_BK665_e9 hb9_)
   clear Q_BK665_e9
   clear hall hb0_ hb3_ hb5_ hb6_ hb7_ hb8_ hb9_ hb10_ hb11_ hb12_
   obtain ⟨co19, eo19⟩ := HA_HO673.out
   clear HA_HO673
   subst eo19
   try go_wp2
   refine bodyPost_ret (results_list (rs := [.cell 2 25, .tmp 3, .tmp 4, .tmp 5]) rfl (by simp) (.cell gb665 25 #[.int .i64 t666, .int .i64 t667] (0, 0) _ rfl (kv_ BK665) Try.underlying25 rfl (by kernel_rfl) (.tmp (.tmp (.tmp .nil))))) rfl ?_
   exact ⟨by first | rfl | (simp [errW_none, errW_some] <;> rfl) | (simp only [← hji3]; first | rfl | (simp [errW_none, errW_some] <;> rfl)) | (simp [*, errW_none, errW_some] <;> rfl), bv2_ HB GE665 GE670⟩
  ·rw [if_neg c5] at H
   exact absurd H (by simp)
 ·rw [if_neg c4] at H
  exact absurd H (by simp)


/-! ### impl_isInput: function 57 -/
def impl_isInput.f (a0 : Int) (a1 : Int) : Option (Bool) := if a1 ≥ 0 then (if 0 ≤ a0 then (some (decide (a1 < (shl .i64 1 a0)))) else (none)) else (some false)
set_option maxHeartbeats 8000000 in
set_option maxRecDepth 100000 in
theorem impl_isInput.calls (a0 : Int) (a1 : Int) (r : Bool) (w : World) (h : impl_isInput.f a0 a1 = some r) :
  Calls Try.prog 57 #[.int .i64 a0, .int .i64 a1] w fun e w' => e = .returned (.bool r) ∧ Drawn0 w w' := by
 have H : (if a1 ≥ 0 then (if 0 ≤ a0 then (some (decide (a1 < (shl .i64 1 a0)))) else (none)) else (some false)) = some r := h
 clear h
 by_cases c3 : a1 ≥ 0
 ·rw [if_pos c3] at H
  have c3b0 : decide (0 ≤ a1) = true := decide_eq_true c3
  clear c3
  by_cases c4 : 0 ≤ a0
  ·rw [if_pos c4] at H
   have c4b0 := eq_true c4
   have c4b1 : decide (0 ≤ a0) = true := decide_eq_true c4
   clear c4
   obtain ⟨ji5, hji5⟩ : ∃ j_ : Int, (shl .i64 1 a0) = j_ := ⟨_, rfl⟩
   replace H : (some (decide (a1 < (ji5)))) = some r := by first | (rw [hji5] at H; exact H) | (simp only [hji5] at H ⊢; exact H)
   have hji5_ : (IntKind.i64.wrap (1 * 2 ^ min a0.toNat 64)) = ji5 := hji5
   have hji5z : a0 ≤ 64 → (IntKind.i64.wrap (1 * 2 ^ a0.toNat)) = ji5 := shl_small hji5
   have hji5u : (IntKind.i64.wrap (2 ^ min a0.toNat 64)) = ji5 := by have h_ := hji5_; rw [Int.one_mul] at h_; exact h_
   have hji5v : a0 ≤ 64 → (IntKind.i64.wrap (2 ^ a0.toNat)) = ji5 := fun hle_ => by have h_ := hji5z hle_; rw [Int.one_mul] at h_; exact h_
   have hji5y : (wrap64 (1 * 2 ^ min a0.toNat 64)) = ji5 := (i64_w _).symm.trans hji5_
   have hji5x : a0 ≤ 64 → (wrap64 (1 * 2 ^ a0.toNat)) = ji5 := fun h_ => (i64_w _).symm.trans (hji5z h_)
   obtain rfl := Option.some.inj H
   go_enter Try.func57, Try.ntmps57
   go_wp2
   go_ret
   exact ⟨by first | rfl | (simp; done) | (simp only [← hji5] <;> (first | rfl | simp)) | (simp [*]; done), by repeat (first | exact Drawn0.refl _ | apply Drawn0.step)⟩
  ·rw [if_neg c4] at H
   exact absurd H (by simp)
 ·rw [if_neg c3] at H
  have c3b0 : decide (0 ≤ a1) = false := decide_eq_false c3
  clear c3
  obtain rfl := Option.some.inj H
  go_enter Try.func57, Try.ntmps57
  go_wp2
  go_ret
  exact ⟨by first | rfl | (simp; done) | (simp [*]; done), by repeat (first | exact Drawn0.refl _ | apply Drawn0.step)⟩


/-! ### impl_hasInput: function 53 -/
def impl_hasInput.f (a0_0 : Int) (a0_1 : Int) (a1 : Int) : Option (Bool) := (impl_IsTable.f a0_0 a0_1).bind fun t676 => (if t676 = true then ((impl_isInput.f a0_0 a1).bind fun t677 => (some t677)) else (some false))
set_option maxHeartbeats 8000000 in
set_option maxRecDepth 100000 in
theorem impl_hasInput.calls (a0_0 : Int) (a0_1 : Int) (a1 : Int) (r : Bool) (w : World) (h : impl_hasInput.f a0_0 a0_1 a1 = some r) :
  Calls Try.prog 53 #[.agg #[.int .i64 a0_0, .int .i64 a0_1], .int .i64 a1] w fun e w' => e = .returned (.bool r) ∧ Below w.heap.size w w' := by
 have hu25 := Try.underlying25
 have HB := Aside0.mk (Below.refl w.heap.size w)
 have H : ((impl_IsTable.f a0_0 a0_1).bind fun t676 => (if t676 = true then ((impl_isInput.f a0_0 a1).bind fun t677 => (some t677)) else (some false))) = some r := h
 clear h
 replace H := Option.bind_eq_some_iff.mp H
 obtain ⟨t676, A30, H⟩ := H
 have A3 := Aside0.mk A30
 clear A30
 by_cases c4 : t676 = true
 ·subst c4
  rw [if_pos rfl] at H
  replace H := Option.bind_eq_some_iff.mp H
  obtain ⟨t677, A50, H⟩ := H
  have A5 := Aside0.mk A50
  clear A50
  obtain rfl := Option.some.inj H
  go_enter Try.func53, Try.ntmps53
  go_wp2_with (first | ((with_reducible refine gate_dst (N := 2) rfl ?_); refine bx_ 2 #[.int .i64 a0_0, .int .i64 a0_1] 25 ?_; intro gb675 hg w6 hbox hb; have BK675 := Aside0.mk (hbox); have GW675 := gw_ hg (below_size (bv_ HB)); have GE675 := GW675; replace HB := Aside0.mk (below_step (bv_ HB) hb); clear hb hbox hg; obtain ⟨hcz7_0, hcz7_1, hfz7_0, hfz7_1⟩ := c2_ BK675) | ((with_reducible refine gate_callee (f := 44) rfl ?_); refine gl_ 6 Try.func44 #[.agg #[.int .i64 a0_0, .int .i64 a0_1]] rfl mp_ ?_; (with_reducible refine (impl_IsTable.calls a0_0 a0_1 true _ A3.out).mono ?_); rintro e w8 ⟨rfl, hb⟩; refine ⟨_, rfl, ?_⟩; replace BK675 := kb_ BK675 hb; replace HB := Aside0.mk (below_step (bv1_ HB GE675) hb); (try clear hb); (try clear hb2); (try clear hk); (try clear hi); obtain ⟨hcz9_0, hcz9_1, hfz9_0, hfz9_1⟩ := c2_ BK675) | (go_at_call 57; (with_reducible refine (impl_isInput.calls a0_0 a1 t677 _ A5.out).mono ?_); rintro e w' ⟨rfl, ⟨nd, rfl⟩⟩))
  go_ret
  exact ⟨by first | rfl | (simp [errW_none, errW_some] <;> rfl) | (simp [*, errW_none, errW_some] <;> rfl), bv1_ HB GE675⟩
 ·replace c4 := Bool.eq_false_iff.mpr c4
  subst c4
  rw [if_neg (show ¬ (false = true) by decide)] at H
  obtain rfl := Option.some.inj H
  go_enter Try.func53, Try.ntmps53
  go_wp2_with (first | ((with_reducible refine gate_dst (N := 2) rfl ?_); refine bx_ 2 #[.int .i64 a0_0, .int .i64 a0_1] 25 ?_; intro gb675 hg w10 hbox hb; have BK675 := Aside0.mk (hbox); have GW675 := gw_ hg (below_size (bv_ HB)); have GE675 := GW675; replace HB := Aside0.mk (below_step (bv_ HB) hb); clear hb hbox hg; obtain ⟨hcz11_0, hcz11_1, hfz11_0, hfz11_1⟩ := c2_ BK675) | ((with_reducible refine gate_callee (f := 44) rfl ?_); refine gl_ 6 Try.func44 #[.agg #[.int .i64 a0_0, .int .i64 a0_1]] rfl mp_ ?_; (with_reducible refine (impl_IsTable.calls a0_0 a0_1 false _ A3.out).mono ?_); rintro e w12 ⟨rfl, hb⟩; refine ⟨_, rfl, ?_⟩; replace BK675 := kb_ BK675 hb; replace HB := Aside0.mk (below_step (bv1_ HB GE675) hb); (try clear hb); (try clear hb2); (try clear hk); (try clear hi)))
  go_ret
  exact ⟨by first | rfl | (simp [errW_none, errW_some] <;> rfl) | (simp [*, errW_none, errW_some] <;> rfl), bv1_ HB GE675⟩


/-! ### impl_isCube: function 48 -/
def impl_isCube.f (a0_0 : Int) (a0_1 : Int) (a1 : Int) (a2 : Int) : Option (Bool) := (impl_hasInput.f a0_0 a0_1 a1).bind fun t679 => (if t679 = true then (if a2 ≥ 0 then (some ((Go.bits .andNot .i64 a2 a1) == 0)) else (some false)) else (some false))
set_option maxHeartbeats 8000000 in
set_option maxRecDepth 100000 in
theorem impl_isCube.calls (a0_0 : Int) (a0_1 : Int) (a1 : Int) (a2 : Int) (r : Bool) (w : World) (h : impl_isCube.f a0_0 a0_1 a1 a2 = some r) :
  Calls Try.prog 48 #[.agg #[.int .i64 a0_0, .int .i64 a0_1], .int .i64 a1, .int .i64 a2] w fun e w' => e = .returned (.bool r) ∧ Below w.heap.size w w' := by
 have hu25 := Try.underlying25
 have HB := Aside0.mk (Below.refl w.heap.size w)
 have H : ((impl_hasInput.f a0_0 a0_1 a1).bind fun t679 => (if t679 = true then (if a2 ≥ 0 then (some ((Go.bits .andNot .i64 a2 a1) == 0)) else (some false)) else (some false))) = some r := h
 clear h
 replace H := Option.bind_eq_some_iff.mp H
 obtain ⟨t679, A40, H⟩ := H
 have A4 := Aside0.mk A40
 clear A40
 by_cases c5 : t679 = true
 ·subst c5
  rw [if_pos rfl] at H
  by_cases c6 : a2 ≥ 0
  ·rw [if_pos c6] at H
   have c6b0 : decide (0 ≤ a2) = true := decide_eq_true c6
   clear c6
   obtain rfl := Option.some.inj H
   go_enter Try.func48, Try.ntmps48
   go_wp2_with (first | ((with_reducible refine gate_dst (N := 3) rfl ?_); refine bx_ 3 #[.int .i64 a0_0, .int .i64 a0_1] 25 ?_; intro gb678 hg w7 hbox hb; have BK678 := Aside0.mk (hbox); have GW678 := gw_ hg (below_size (bv_ HB)); have GE678 := GW678; replace HB := Aside0.mk (below_step (bv_ HB) hb); clear hb hbox hg; obtain ⟨hcz8_0, hcz8_1, hfz8_0, hfz8_1⟩ := c2_ BK678) | ((with_reducible refine gate_callee (f := 53) rfl ?_); refine gl_ 9 Try.func53 #[.agg #[.int .i64 a0_0, .int .i64 a0_1], .int .i64 a1] rfl mp_ ?_; (with_reducible refine (impl_hasInput.calls a0_0 a0_1 a1 true _ A4.out).mono ?_); rintro e w9 ⟨rfl, hb⟩; refine ⟨_, rfl, ?_⟩; replace BK678 := kb_ BK678 hb; replace HB := Aside0.mk (below_step (bv1_ HB GE678) hb); (try clear hb); (try clear hb2); (try clear hk); (try clear hi)))
   go_ret
   exact ⟨by first | rfl | (simp [errW_none, errW_some] <;> rfl) | (simp [*, errW_none, errW_some] <;> rfl), bv1_ HB GE678⟩
  ·rw [if_neg c6] at H
   have c6b0 : decide (0 ≤ a2) = false := decide_eq_false c6
   clear c6
   obtain rfl := Option.some.inj H
   go_enter Try.func48, Try.ntmps48
   go_wp2_with (first | ((with_reducible refine gate_dst (N := 3) rfl ?_); refine bx_ 3 #[.int .i64 a0_0, .int .i64 a0_1] 25 ?_; intro gb678 hg w10 hbox hb; have BK678 := Aside0.mk (hbox); have GW678 := gw_ hg (below_size (bv_ HB)); have GE678 := GW678; replace HB := Aside0.mk (below_step (bv_ HB) hb); clear hb hbox hg; obtain ⟨hcz11_0, hcz11_1, hfz11_0, hfz11_1⟩ := c2_ BK678) | ((with_reducible refine gate_callee (f := 53) rfl ?_); refine gl_ 9 Try.func53 #[.agg #[.int .i64 a0_0, .int .i64 a0_1], .int .i64 a1] rfl mp_ ?_; (with_reducible refine (impl_hasInput.calls a0_0 a0_1 a1 true _ A4.out).mono ?_); rintro e w12 ⟨rfl, hb⟩; refine ⟨_, rfl, ?_⟩; replace BK678 := kb_ BK678 hb; replace HB := Aside0.mk (below_step (bv1_ HB GE678) hb); (try clear hb); (try clear hb2); (try clear hk); (try clear hi)))
   go_ret
   exact ⟨by first | rfl | (simp [errW_none, errW_some] <;> rfl) | (simp [*, errW_none, errW_some] <;> rfl), bv1_ HB GE678⟩
 ·replace c5 := Bool.eq_false_iff.mpr c5
  subst c5
  rw [if_neg (show ¬ (false = true) by decide)] at H
  obtain rfl := Option.some.inj H
  go_enter Try.func48, Try.ntmps48
  go_wp2_with (first | ((with_reducible refine gate_dst (N := 3) rfl ?_); refine bx_ 3 #[.int .i64 a0_0, .int .i64 a0_1] 25 ?_; intro gb678 hg w13 hbox hb; have BK678 := Aside0.mk (hbox); have GW678 := gw_ hg (below_size (bv_ HB)); have GE678 := GW678; replace HB := Aside0.mk (below_step (bv_ HB) hb); clear hb hbox hg; obtain ⟨hcz14_0, hcz14_1, hfz14_0, hfz14_1⟩ := c2_ BK678) | ((with_reducible refine gate_callee (f := 53) rfl ?_); refine gl_ 9 Try.func53 #[.agg #[.int .i64 a0_0, .int .i64 a0_1], .int .i64 a1] rfl mp_ ?_; (with_reducible refine (impl_hasInput.calls a0_0 a0_1 a1 false _ A4.out).mono ?_); rintro e w15 ⟨rfl, hb⟩; refine ⟨_, rfl, ?_⟩; replace BK678 := kb_ BK678 hb; replace HB := Aside0.mk (below_step (bv1_ HB GE678) hb); (try clear hb); (try clear hb2); (try clear hk); (try clear hi)))
  go_ret
  exact ⟨by first | rfl | (simp [errW_none, errW_some] <;> rfl) | (simp [*, errW_none, errW_some] <;> rfl), bv1_ HB GE678⟩


/-! ### impl_isKnown: function 33 -/
def impl_isKnown.f (a0_0 : Int) (a0_1 : Int) (a1 : Int) (a2 : Int) : Option (Bool) := (impl_isSmall.f a0_0 a0_1 4).bind fun t681 => (if t681 = true then ((impl_isCube.f a0_0 a0_1 a1 a2).bind fun t682 => (some t682)) else (some false))
set_option maxHeartbeats 8000000 in
set_option maxRecDepth 100000 in
theorem impl_isKnown.calls (a0_0 : Int) (a0_1 : Int) (a1 : Int) (a2 : Int) (r : Bool) (w : World) (h : impl_isKnown.f a0_0 a0_1 a1 a2 = some r) :
  Calls Try.prog 33 #[.agg #[.int .i64 a0_0, .int .i64 a0_1], .int .i64 a1, .int .i64 a2] w fun e w' => e = .returned (.bool r) ∧ Below w.heap.size w w' := by
 have hu25 := Try.underlying25
 have HB := Aside0.mk (Below.refl w.heap.size w)
 have H : ((impl_isSmall.f a0_0 a0_1 4).bind fun t681 => (if t681 = true then ((impl_isCube.f a0_0 a0_1 a1 a2).bind fun t682 => (some t682)) else (some false))) = some r := h
 clear h
 replace H := Option.bind_eq_some_iff.mp H
 obtain ⟨t681, A40, H⟩ := H
 have A4 := Aside0.mk A40
 clear A40
 by_cases c5 : t681 = true
 ·subst c5
  rw [if_pos rfl] at H
  replace H := Option.bind_eq_some_iff.mp H
  obtain ⟨t682, A60, H⟩ := H
  have A6 := Aside0.mk A60
  clear A60
  obtain rfl := Option.some.inj H
  go_enter Try.func33, Try.ntmps33
  go_wp2_with (first | ((with_reducible refine gate_dst (N := 3) rfl ?_); refine bx_ 3 #[.int .i64 a0_0, .int .i64 a0_1] 25 ?_; intro gb680 hg w7 hbox hb; have BK680 := Aside0.mk (hbox); have GW680 := gw_ hg (below_size (bv_ HB)); have GE680 := GW680; replace HB := Aside0.mk (below_step (bv_ HB) hb); clear hb hbox hg; obtain ⟨hcz8_0, hcz8_1, hfz8_0, hfz8_1⟩ := c2_ BK680) | ((with_reducible refine gate_callee (f := 22) rfl ?_); refine gl_ 8 Try.func22 #[.agg #[.int .i64 a0_0, .int .i64 a0_1], .int .i64 4] rfl mp_ ?_; (with_reducible refine (impl_isSmall.calls a0_0 a0_1 4 true _ A4.out).mono ?_); rintro e w9 ⟨rfl, hb⟩; refine ⟨_, rfl, ?_⟩; replace BK680 := kb_ BK680 hb; replace HB := Aside0.mk (below_step (bv1_ HB GE680) hb); (try clear hb); (try clear hb2); (try clear hk); (try clear hi); obtain ⟨hcz10_0, hcz10_1, hfz10_0, hfz10_1⟩ := c2_ BK680) | (go_at_call 48; (with_reducible refine (impl_isCube.calls a0_0 a0_1 a1 a2 t682 _ A6.out).mono ?_); rintro e w11 ⟨rfl, hb⟩; replace BK680 := kb_ BK680 hb; replace HB := Aside0.mk (below_step (bv1_ HB GE680) hb); (try clear hb); (try clear hb2); (try clear hk); (try clear hi)))
  go_ret
  exact ⟨by first | rfl | (simp [errW_none, errW_some] <;> rfl) | (simp [*, errW_none, errW_some] <;> rfl), bv1_ HB GE680⟩
 ·replace c5 := Bool.eq_false_iff.mpr c5
  subst c5
  rw [if_neg (show ¬ (false = true) by decide)] at H
  obtain rfl := Option.some.inj H
  go_enter Try.func33, Try.ntmps33
  go_wp2_with (first | ((with_reducible refine gate_dst (N := 3) rfl ?_); refine bx_ 3 #[.int .i64 a0_0, .int .i64 a0_1] 25 ?_; intro gb680 hg w12 hbox hb; have BK680 := Aside0.mk (hbox); have GW680 := gw_ hg (below_size (bv_ HB)); have GE680 := GW680; replace HB := Aside0.mk (below_step (bv_ HB) hb); clear hb hbox hg; obtain ⟨hcz13_0, hcz13_1, hfz13_0, hfz13_1⟩ := c2_ BK680) | ((with_reducible refine gate_callee (f := 22) rfl ?_); refine gl_ 8 Try.func22 #[.agg #[.int .i64 a0_0, .int .i64 a0_1], .int .i64 4] rfl mp_ ?_; (with_reducible refine (impl_isSmall.calls a0_0 a0_1 4 false _ A4.out).mono ?_); rintro e w14 ⟨rfl, hb⟩; refine ⟨_, rfl, ?_⟩; replace BK680 := kb_ BK680 hb; replace HB := Aside0.mk (below_step (bv1_ HB GE680) hb); (try clear hb); (try clear hb2); (try clear hk); (try clear hi)))
  go_ret
  exact ⟨by first | rfl | (simp [errW_none, errW_some] <;> rfl) | (simp [*, errW_none, errW_some] <;> rfl), bv1_ HB GE680⟩


end Go.Proofs.Ytflnlnkbepoimaa.P
