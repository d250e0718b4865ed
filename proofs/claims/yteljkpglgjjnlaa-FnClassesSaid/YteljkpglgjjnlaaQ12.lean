-- Out of the translation, by this session's program over the printer's; Lean checks it.
import Derived.Test.YteljkpglgjjnlaaSh
import Derived.Test.YteljkpglgjjnlaaQ0
import Derived.Test.YteljkpglgjjnlaaQ3
import Derived.Test.YteljkpglgjjnlaaQ10
import Derived.Test.YteljkpglgjjnlaaQ11
namespace Go.Proofs.Yteljkpglgjjnlaa.P
open Go.RowKit Go.Proofs.YteljkpglgjjnlaaW.PrintWords Go.Proofs.YteljkpglgjjnlaaW.PrintLast Go.Proofs.YteljkpglgjjnlaaW.PrintMore
attribute [local go_sem] max2_int min2_int max_two min_two max_three min_three max_four min_four
set_option linter.unusedVariables false
set_option linter.unusedSimpArgs false

/-! ### spec_l4Pair: function 55 -/
def spec_l4Pair.f (k : Nat) (l0 : List Int) : Option (Int × Int × Int × Int) := (spec_l1New.f k l0).bind fun bt900 => ((spec_l2Any.f k bt900.1 bt900.2.1 bt900.2.2).bind fun bt904 => ((spec_l1Below.f bt900.1 bt904.2.2.1 bt904.2.2.2 5).bind fun bt909 => ((spec_ShiftTable.f k bt904.1 bt904.2.1 bt909.1).bind fun bt912 => (if bt912.2.2 = true then ((spec_l1Once.f bt900.1 bt909.2.1 bt909.2.2 2).bind fun bt916 => (if bt916.1 = true then (some (bt904.1, bt904.2.1, bt912.1, bt912.2.1)) else ((spec_l2Any.f k bt900.1 bt916.2.1 bt916.2.2).bind fun bt919 => (some (bt904.1, bt904.2.1, bt919.1, bt919.2.1))))) else ((spec_l2Any.f k bt900.1 bt909.2.1 bt909.2.2).bind fun bt923 => (some (bt904.1, bt904.2.1, bt923.1, bt923.2.1)))))))
theorem spec_l4Pair.mono : ∀ a0 k, LeO (spec_l4Pair.f k a0) (spec_l4Pair.f (k + 1) a0) := by
 intro a0 k
 unfold spec_l4Pair.f
 repeat' first
   | (with_reducible exact spec_ShiftTable.mono _ _ _ _)
   | (with_reducible exact spec_l1New.mono _ _)
   | (with_reducible exact spec_l2Any.mono _ _ _ _)
   | (with_reducible exact LeO.refl _)
   | (with_reducible exact LeO.none _)
   | (with_reducible refine LeO.ite ?_ ?_)
   | (with_reducible refine LeO.bind ?_ (fun _ => ?_))
   | exact spec_ShiftTable.mono _ _ _ _
   | exact spec_l1New.mono _ _
   | exact spec_l2Any.mono _ _ _ _
   | exact LeO.none _
   | refine LeO.ite ?_ ?_
   | refine LeO.bind ?_ (fun _ => ?_)
def spec_l4Pair.T3 : Bool × List (List Nat × List Nat) := (true, [([], []), ([], []), ([1], [1]), ([0, 2, 2], [0, 2]), ([3], [3]), ([4], [4]), ([4], [4]), ([], []), ([7, 5, 3, 0, 1, 2, 3, 4, 5, 7], [5, 7]), ([6, 8, 0, 1, 2, 3, 4, 5, 6, 7, 8], [6])])
def spec_l4Pair.B3 : List Nat := [0, 0, 2, 7, 15, 31, 31, 0, 191, 511]
theorem spec_l4Pair.tab3 : rtab .any (opsOf Try.f55 3) = spec_l4Pair.T3 := by kernel_rfl
theorem spec_l4Pair.bits3 : waitsOk spec_l4Pair.T3.2 spec_l4Pair.B3 = true := by kernel_rfl
set_option maxHeartbeats 8000000 in
set_option maxRecDepth 100000 in
theorem spec_l4Pair.calls (k : Nat) (A0 : Option Addr) (c0 : Nat) (l0 : List Int) (r1 : Int) (r2 : Int) (r3 : Int) (r4 : Int) (w : World) (hr0 : Kd.C (Kd.int .u8) w A0 l0.length l0) (hc0 : l0.length ≤ c0) (h : spec_l4Pair.f k l0 = some (r1, r2, r3, r4)) :
  Calls Try.prog 55 #[.slice A0 l0.length c0] w fun e w' => e = .returned (.tuple #[.agg #[.int .i64 r1, .int .i64 r2], .agg #[.int .i64 r3, .int .i64 r4]]) ∧ Below w.heap.size w w' := by
 have hu25 := Try.underlying25
 have HR0 := Aside0.mk hr0
 have HC0 := Aside0.mk hc0
 clear hr0 hc0
 have HB := Aside0.mk (Below.refl w.heap.size w)
 have H : ((spec_l1New.f k l0).bind fun bt900 => ((spec_l2Any.f k bt900.1 bt900.2.1 bt900.2.2).bind fun bt904 => ((spec_l1Below.f bt900.1 bt904.2.2.1 bt904.2.2.2 5).bind fun bt909 => ((spec_ShiftTable.f k bt904.1 bt904.2.1 bt909.1).bind fun bt912 => (if bt912.2.2 = true then ((spec_l1Once.f bt900.1 bt909.2.1 bt909.2.2 2).bind fun bt916 => (if bt916.1 = true then (some (bt904.1, bt904.2.1, bt912.1, bt912.2.1)) else ((spec_l2Any.f k bt900.1 bt916.2.1 bt916.2.2).bind fun bt919 => (some (bt904.1, bt904.2.1, bt919.1, bt919.2.1))))) else ((spec_l2Any.f k bt900.1 bt909.2.1 bt909.2.2).bind fun bt923 => (some (bt904.1, bt904.2.1, bt923.1, bt923.2.1)))))))) = some (r1, r2, r3, r4) := h
 clear h
 replace H := Option.bind_eq_some_iff.mp H
 obtain ⟨⟨t900, t901, t902⟩, A20, H⟩ := H
 dsimp only at H
 have A2 := Aside0.mk A20
 clear A20
 replace H := Option.bind_eq_some_iff.mp H
 obtain ⟨⟨t904, t905, t906, t907⟩, A30, H⟩ := H
 dsimp only at H
 have A3 := Aside0.mk A30
 clear A30
 replace H := Option.bind_eq_some_iff.mp H
 obtain ⟨⟨t909, t910, t911⟩, A40, H⟩ := H
 dsimp only at H
 have A4 := Aside0.mk A40
 clear A40
 replace H := Option.bind_eq_some_iff.mp H
 obtain ⟨⟨t912, t913, t914⟩, A50, H⟩ := H
 dsimp only at H
 have A5 := Aside0.mk A50
 clear A50
 by_cases c6 : t914 = true
 ·subst c6
  rw [if_pos rfl] at H
  replace H := Option.bind_eq_some_iff.mp H
  obtain ⟨⟨t916, t917, t918⟩, A70, H⟩ := H
  dsimp only at H
  have A7 := Aside0.mk A70
  clear A70
  by_cases c8 : t916 = true
  ·subst c8
   rw [if_pos rfl] at H
   simp only [Option.some.injEq, Prod.mk.injEq] at H
   obtain ⟨rfl, rfl, rfl, rfl⟩ := H
   go_enter Try.func55, Try.ntmps55
   try go_wp2_with (first | ((with_reducible refine gate_dst (N := 2) rfl ?_); refine bx_ 2 #[.int .i64 0, .int .i64 0] 25 ?_; intro gb898 hg w9 hbox hb; have BK898 := Aside0.mk (hbox); have GW898 := gw_ hg (below_size (bv_ HB)); have GE898 := GW898; replace HB := Aside0.mk (below_step (bv_ HB) hb); clear hb hbox hg) | ((with_reducible refine gate_dst (N := 3) rfl ?_); refine bx_ 3 #[.int .i64 0, .int .i64 0] 25 ?_; intro gb899 hg w10 hbox hb; have BK899 := Aside0.mk (hbox); have GW899 := gw_ hg (below_size (bv1_ HB GE898)); have GE899 := GW899; replace HB := Aside0.mk (below_step (bv1_ HB GE898) hb); have NB898_899 := nb_ hg (blk_lt (g := gb898) (o := .cells #[.int .i64 0, .int .i64 0] 25 (0, 0)) (kv_ BK898)); have NB899_898 := nc_ hg (blk_lt (g := gb898) (o := .cells #[.int .i64 0, .int .i64 0] 25 (0, 0)) (kv_ BK898)); replace BK898 := kb_ BK898 hb; clear hb hbox hg) | ((with_reducible refine gate_callee (f := 40) rfl ?_); refine gl_ 9 Try.func40 #[.slice A0 l0.length c0] rfl mp_ ?_; (with_reducible refine (spec_l1New.calls k _ _ l0 t900 t901 t902 w _ ?side1 ?side2 ?side3 A2.out).mono ?_); (case side1 => repeat (first | (with_reducible first | exact HB.out | apply below_alloc | apply pw_below_drewN | apply below_drew1 | refine below_set ?_ GE898.out | refine below_set ?_ GE899.out) | exact HB.out)); (case side2 => exact HR0.out); (case side3 => exact HC0.out); rintro e w11 ⟨g903, rfl, hi, hb, hb2⟩; refine ⟨_, rfl, ?_⟩; replace HB := Aside0.mk (hb); have HI903 := Aside0.mk (hi); have NB903_898 := Aside0.mk (IsS87.ne_blk hi (blk_below (g := gb898) (o := .cells #[.int .i64 0, .int .i64 0] 25 (0, 0)) (kv_ BK898) hb2) (by decide)); have NB898_903 := Aside0.mk (Ne.symm (IsS87.ne_blk hi (blk_below (g := gb898) (o := .cells #[.int .i64 0, .int .i64 0] 25 (0, 0)) (kv_ BK898) hb2) (by decide))); replace BK898 := kb_ BK898 hb2; have NB903_899 := Aside0.mk (IsS87.ne_blk hi (blk_below (g := gb899) (o := .cells #[.int .i64 0, .int .i64 0] 25 (0, 0)) (kv_ BK899) hb2) (by decide)); have NB899_903 := Aside0.mk (Ne.symm (IsS87.ne_blk hi (blk_below (g := gb899) (o := .cells #[.int .i64 0, .int .i64 0] 25 (0, 0)) (kv_ BK899) hb2) (by decide))); replace BK899 := kb_ BK899 hb2; (try clear hb); (try clear hb2); (try clear hk); (try clear hi)) | ((with_reducible refine gate_callee (f := 39) rfl ?_); refine gl_ 11 Try.func39 #[.pointer (some ⟨g903, 0, none⟩)] rfl mp_ ?_; (with_reducible refine (spec_l2Any.calls k g903 t900 t901 t902 t904 t905 t906 t907 w _ ?side1 ?side2 A3.out).mono ?_); (case side1 => exact ia2_ HI903 NB903_898 NB903_899); (case side2 => exact bi2_ HB HI903 GE898 GE899); rintro e w12 ⟨rfl, hi, hb, hk⟩; refine ⟨_, rfl, ?_⟩; replace BK898 := Aside0.mk (KeepBut.blk hk (g' := gb898) (o := .cells #[.int .i64 0, .int .i64 0] 25 (0, 0)) (kv_ BK898) NB898_903.out (by simp)); replace BK899 := Aside0.mk (KeepBut.blk hk (g' := gb899) (o := .cells #[.int .i64 0, .int .i64 0] 25 (0, 0)) (kv_ BK899) NB899_903.out (by simp)); replace HB := Aside0.mk (hb); replace HI903 := Aside0.mk (hi); (try clear hb); (try clear hb2); (try clear hk); (try clear hi)) | ((with_reducible refine gate_dst (N := 5) rfl ?_); refine bx_ 5 #[.int .i64 0, .int .i64 0] 25 ?_; intro gb908 hg w13 hbox hb; have BK908 := Aside0.mk (hbox); have GW908 := Aside0.mk ((by rw [hg]; exact (below_size (bi2_ HB HI903 GE898 GE899)) : w.heap.size ≤ gb908)); have GE908 := GW908; replace HB := Aside0.mk (below_step (bi2_ HB HI903 GE898 GE899) hb); have NB898_908 := nb_ hg (blk_lt (g := gb898) (o := .cells #[.int .i64 0, .int .i64 0] 25 (0, 0)) (kv_ BK898)); have NB908_898 := nc_ hg (blk_lt (g := gb898) (o := .cells #[.int .i64 0, .int .i64 0] 25 (0, 0)) (kv_ BK898)); replace BK898 := kb_ BK898 hb; have NB899_908 := nb_ hg (blk_lt (g := gb899) (o := .cells #[.int .i64 0, .int .i64 0] 25 (0, 0)) (kv_ BK899)); have NB908_899 := nc_ hg (blk_lt (g := gb899) (o := .cells #[.int .i64 0, .int .i64 0] 25 (0, 0)) (kv_ BK899)); replace BK899 := kb_ BK899 hb; have NB903_908 := Aside0.mk ((by rw [hg]; exact Nat.ne_of_lt (IsS87.lt (show IsS87 w _ g903 t900 t906 t907 from ia2_ HI903 NB903_898 NB903_899)) : g903 ≠ gb908)); have NB908_903 := Aside0.mk ((by rw [hg]; exact Nat.ne_of_gt (IsS87.lt (show IsS87 w _ g903 t900 t906 t907 from ia2_ HI903 NB903_898 NB903_899)) : gb908 ≠ g903)); replace HI903 := Aside0.mk (IsS87.below (ia2_ HI903 NB903_898 NB903_899) hb); clear hb hbox hg; have hnb14 := NB908_898.out; have hnc14 := NB898_908.out; have hnb15 := NB908_899.out; have hnc15 := NB899_908.out; have hnb16 := NB908_903.out; have hnc16 := NB903_908.out; obtain ⟨hcz17_0, hcz17_1, hfz17_0, hfz17_1⟩ := c2_ BK908))
   have n0_ : Aside0 (((w13.setCell ⟨gb908, 0, none⟩ (.int .i64 t904)).setCell ⟨gb908, 1, none⟩ (.int .i64 t905)).heap[gb898]? = some (.cells #[.int .i64 0, .int .i64 0] 25 (0, 0))) := ⟨by (with_reducible repeat (first | refine blk_drewN ?_ _ | refine blk_drew ?_ | refine blk_alloc ?_ _)); refine blk_far ?_ NB898_908.out _; (with_reducible repeat (first | refine blk_drewN ?_ _ | refine blk_drew ?_ | refine blk_alloc ?_ _)); refine blk_far ?_ NB898_908.out _; (with_reducible repeat (first | refine blk_drewN ?_ _ | refine blk_drew ?_ | refine blk_alloc ?_ _)); exact BK898.out⟩
   have n1_ : Aside0 (((w13.setCell ⟨gb908, 0, none⟩ (.int .i64 t904)).setCell ⟨gb908, 1, none⟩ (.int .i64 t905)).heap[gb899]? = some (.cells #[.int .i64 0, .int .i64 0] 25 (0, 0))) := ⟨by (with_reducible repeat (first | refine blk_drewN ?_ _ | refine blk_drew ?_ | refine blk_alloc ?_ _)); refine blk_far ?_ NB899_908.out _; (with_reducible repeat (first | refine blk_drewN ?_ _ | refine blk_drew ?_ | refine blk_alloc ?_ _)); refine blk_far ?_ NB899_908.out _; (with_reducible repeat (first | refine blk_drewN ?_ _ | refine blk_drew ?_ | refine blk_alloc ?_ _)); exact BK899.out⟩
   have n2_ : Aside0 (((w13.setCell ⟨gb908, 0, none⟩ (.int .i64 t904)).setCell ⟨gb908, 1, none⟩ (.int .i64 t905)).heap[gb908]? = some (.cells #[.int .i64 t904, .int .i64 t905] 25 (0, 0))) := ⟨by (with_reducible repeat (first | refine blk_drewN ?_ _ | refine blk_drew ?_ | refine blk_alloc ?_ _)); refine blk_put (cs := #[.int .i64 t904, .int .i64 0]) ?_ 1 _ rfl; (with_reducible repeat (first | refine blk_drewN ?_ _ | refine blk_drew ?_ | refine blk_alloc ?_ _)); refine blk_put (cs := #[.int .i64 0, .int .i64 0]) ?_ 0 _ rfl; (with_reducible repeat (first | refine blk_drewN ?_ _ | refine blk_drew ?_ | refine blk_alloc ?_ _)); exact BK908.out⟩
   have n3_ : Aside0 (IsS87 w ((w13.setCell ⟨gb908, 0, none⟩ (.int .i64 t904)).setCell ⟨gb908, 1, none⟩ (.int .i64 t905)) g903 t900 t906 t907) := ⟨by repeat (first | (with_reducible first | exact HI903.out | apply IsS87.alloc | apply IsS87.drewN | apply IsS87.drew | apply IsS87.set_1 | apply IsS87.set_2 | refine IsS87.far ?_ NB903_898.out _ | refine IsS87.far ?_ NB903_899.out _ | refine IsS87.far ?_ NB903_908.out _) | exact HI903.out)⟩
   have n4_ : Aside0 (Below w.heap.size w ((w13.setCell ⟨gb908, 0, none⟩ (.int .i64 t904)).setCell ⟨gb908, 1, none⟩ (.int .i64 t905))) := ⟨by repeat (first | (with_reducible first | exact HB.out | apply below_alloc | apply pw_below_drewN | apply below_drew1 | refine below_set ?_ (IsS87.ge HI903.out) | refine below_set ?_ GE898.out | refine below_set ?_ GE899.out | refine below_set ?_ GE908.out) | exact HB.out)⟩
   (try clear BK898)
   (try clear BK899)
   (try clear BK908)
   (try clear HI903)
   (try clear HB)
   generalize ((w13.setCell ⟨gb908, 0, none⟩ (.int .i64 t904)).setCell ⟨gb908, 1, none⟩ (.int .i64 t905)) = w18 at n0_ n1_ n2_ n3_ n4_ ⊢
   have BK898 := n0_
   have BK899 := n1_
   have BK908 := n2_
   have HI903 := n3_
   have HB := n4_
   clear n0_ n1_ n2_ n3_ n4_
   replace BK898 := Aside0.mk (blk_drew BK898.out)
   replace BK899 := Aside0.mk (blk_drew BK899.out)
   replace BK908 := Aside0.mk (blk_drew BK908.out)
   replace HI903 := Aside0.mk (IsS87.drew HI903.out)
   replace HB := Aside0.mk (below_drew1 HB.out)
   refine start_ (n := 10) (S := fun w' => w'.cell? ⟨gb908, 0, none⟩ = some (.int .i64 t904) ∧ w'.cell? ⟨gb908, 1, none⟩ = some (.int .i64 t905)) (ds := []) (bs 10 0) (by kernel_rfl) rfl (by kernel_rfl) ⟨(blk_cell BK908.out 0).trans rfl, (blk_cell BK908.out 1).trans rfl⟩ (fun hHeld => ?_); refine with_tabW spec_l4Pair.tab3 spec_l4Pair.bits3 (fun HT_ HW_ => ?_)
   generalize w18.drew = w19 at BK898 BK899 BK908 HI903 HB hHeld ⊢
   refine pu_ HT_ 1 14 (bs 10 2) ?_
   refine ta2_ HT_ HW_ 0 13 (bs 10 3) hHeld ?_
   refine join_ (σ := Nat) 2 (bs 10 255) (fun s_ => [(15, .int .i64 t909), (16, .tuple #[.agg #[.int .i64 t912, .int .i64 t913], .bool true]), (6, .pointer (some ⟨s_, 0, none⟩)), (12, .tuple #[.agg #[.int .i64 t912, .int .i64 t913], .bool true]), (17, .agg #[.int .i64 t912, .int .i64 t913]), (18, .bool true)]) (fun s_ w' => (w'.cell? ⟨gb908, 0, none⟩ = some (.int .i64 t904) ∧ w'.cell? ⟨gb908, 1, none⟩ = some (.int .i64 t905)) ∧ (w'.heap[gb898]? = some (.cells #[.int .i64 0, .int .i64 0] 25 (0, 0))) ∧ (w'.heap[gb899]? = some (.cells #[.int .i64 0, .int .i64 0] 25 (0, 0))) ∧ (w'.heap[gb908]? = some (.cells #[.int .i64 t904, .int .i64 t905] 25 (0, 0))) ∧ (w'.heap[s_]? = some (.cells #[.int .i64 0, .int .i64 0] 25 (0, 0))) ∧ (w.heap.size ≤ s_) ∧ (w.heap.size ≤ s_) ∧ (g903 ≠ s_) ∧ (s_ ≠ g903) ∧ (gb898 ≠ s_) ∧ (s_ ≠ gb898) ∧ (gb899 ≠ s_) ∧ (s_ ≠ gb899) ∧ (gb908 ≠ s_) ∧ (s_ ≠ gb908) ∧ (IsS87 w w' g903 t900 t910 t911) ∧ (Below w.heap.size w w')) ?_ ?_
   rotate_left
   ·intro hCont
    refine two_ (i := 2) (j := 7) (Ni := some 15) (Nj := some 6) (bs 10 7) (bs 10 131) rfl rfl rfl rfl (two_of HT_.out (by kernel_rfl)) (by decide) (by decide) (fun K hK => ?_) (fun K hK => ?_)
    ·skip
     refine goes_ Try.func56 (by kernel_rfl) rfl #[.pointer (some ⟨g903, 0, none⟩), .int .i64 5] (by rfl) rfl rfl mp_ ?_
     with_reducible refine (spec_l1Below.calls g903 t900 t906 t907 5 t909 t910 t911 w _ ?side1 ?side2 A4.out).mono ?_
     (case side1 => repeat (first | (with_reducible first | exact HI903.out | apply IsS87.alloc | apply IsS87.drewN | apply IsS87.drew | apply IsS87.set_1 | apply IsS87.set_2 | refine IsS87.far ?_ NB903_898.out _ | refine IsS87.far ?_ NB903_899.out _ | refine IsS87.far ?_ NB903_908.out _) | exact HI903.out))
     (case side2 => repeat (first | (with_reducible first | exact HB.out | apply below_alloc | apply pw_below_drewN | apply below_drew1 | refine below_set ?_ (IsS87.ge HI903.out) | refine below_set ?_ GE898.out | refine below_set ?_ GE899.out | refine below_set ?_ GE908.out) | exact HB.out))
     rintro e w20 ⟨rfl, hi, hb, hk⟩
     refine ⟨_, rfl, ?_⟩
     replace BK898 := Aside0.mk (KeepBut.blk hk (g' := gb898) (o := .cells #[.int .i64 0, .int .i64 0] 25 (0, 0)) (kv_ BK898) NB898_903.out (by simp))
     replace BK899 := Aside0.mk (KeepBut.blk hk (g' := gb899) (o := .cells #[.int .i64 0, .int .i64 0] 25 (0, 0)) (kv_ BK899) NB899_903.out (by simp))
     replace BK908 := Aside0.mk (KeepBut.blk hk (g' := gb908) (o := .cells #[.int .i64 t904, .int .i64 t905] 25 (0, 0)) (kv_ BK908) NB908_903.out (by simp))
     replace HB := Aside0.mk (hb)
     replace HI903 := Aside0.mk (hi)
     (try clear hb)
     (try clear hb2)
     (try clear hk)
     (try clear hi)
     refine hK.out _ _ ⟨(blk_cell BK908.out 0).trans rfl, (blk_cell BK908.out 1).trans rfl⟩ (fun hHeld => ?_)
     clear hK K
     refine no_ 15 ?_
     refine two_ (i := 3) (j := 7) (Ni := some 16) (Nj := some 6) (bs 10 15) (bs 10 135) rfl rfl rfl rfl (two_of HT_.out (by kernel_rfl)) (by decide) (by decide) (fun K hK => ?_) (fun K hK => ?_)
     ·skip
      refine goes_ Try.func19 (by kernel_rfl) rfl #[.agg #[.int .i64 t904, .int .i64 t905], .int .i64 t909] (by rfl) rfl rfl mp_ ?_
      with_reducible refine (spec_ShiftTable.calls k t904 t905 t909 t912 t913 true _ A5.out).mono ?_
      rintro e w21 ⟨rfl, hb⟩
      refine ⟨_, rfl, ?_⟩
      replace BK898 := kb_ BK898 hb
      replace BK899 := kb_ BK899 hb
      replace BK908 := kb_ BK908 hb
      replace HB := Aside0.mk (below_step (by repeat (first | (with_reducible first | exact HB.out | apply below_alloc | apply pw_below_drewN | apply below_drew1 | refine below_set ?_ (IsS87.ge HI903.out) | refine below_set ?_ GE898.out | refine below_set ?_ GE899.out | refine below_set ?_ GE908.out) | exact HB.out)) hb)
      replace HI903 := Aside0.mk (IsS87.below (by repeat (first | (with_reducible first | exact HI903.out | apply IsS87.alloc | apply IsS87.drewN | apply IsS87.drew | apply IsS87.set_1 | apply IsS87.set_2 | refine IsS87.far ?_ NB903_898.out _ | refine IsS87.far ?_ NB903_899.out _ | refine IsS87.far ?_ NB903_908.out _) | exact HI903.out)) hb)
      (try clear hb)
      (try clear hb2)
      (try clear hk)
      (try clear hi)
      refine hK.out _ _ ⟨(blk_cell BK908.out 0).trans rfl, (blk_cell BK908.out 1).trans rfl⟩ (fun hHeld => ?_)
      clear hK K
      refine no_ 16 ?_
      refine pu_ HT_ 4 12 (bs 10 31) ?_
      refine pu_ HT_ 5 17 (bs 10 63) ?_
      refine pu_ HT_ 6 18 (bs 10 127) ?_
      refine on_ HT_ 7 6 (bs 10 255) (fun K hK => ?_)
      refine box_step ?hg (N := 6) ?hd (cs := #[.int .i64 0, .int .i64 0]) (t := 25) ?hr ?_; (case hd => rfl); (case hg => rfl); (case hr => first | (go_simp; done) | (go_simp; rfl))
      intro gb915 hg w22 hbox hb
      have BK915 := Aside0.mk (hbox)
      have GW915 := Aside0.mk ((by rw [hg]; exact (below_size (by repeat (first | (with_reducible first | exact HB.out | apply below_alloc | apply pw_below_drewN | apply below_drew1 | refine below_set ?_ (IsS87.ge HI903.out) | refine below_set ?_ GE898.out | refine below_set ?_ GE899.out | refine below_set ?_ GE908.out) | exact HB.out))) : w.heap.size ≤ gb915))
      have GE915 := GW915
      replace HB := Aside0.mk (below_step (by repeat (first | (with_reducible first | exact HB.out | apply below_alloc | apply pw_below_drewN | apply below_drew1 | refine below_set ?_ (IsS87.ge HI903.out) | refine below_set ?_ GE898.out | refine below_set ?_ GE899.out | refine below_set ?_ GE908.out) | exact HB.out)) hb)
      have NB898_915 := nb_ hg (blk_lt (g := gb898) (o := .cells #[.int .i64 0, .int .i64 0] 25 (0, 0)) (kv_ BK898))
      have NB915_898 := nc_ hg (blk_lt (g := gb898) (o := .cells #[.int .i64 0, .int .i64 0] 25 (0, 0)) (kv_ BK898))
      replace BK898 := kb_ BK898 hb
      have NB899_915 := nb_ hg (blk_lt (g := gb899) (o := .cells #[.int .i64 0, .int .i64 0] 25 (0, 0)) (kv_ BK899))
      have NB915_899 := nc_ hg (blk_lt (g := gb899) (o := .cells #[.int .i64 0, .int .i64 0] 25 (0, 0)) (kv_ BK899))
      replace BK899 := kb_ BK899 hb
      have NB908_915 := nb_ hg (blk_lt (g := gb908) (o := .cells #[.int .i64 t904, .int .i64 t905] 25 (0, 0)) (kv_ BK908))
      have NB915_908 := nc_ hg (blk_lt (g := gb908) (o := .cells #[.int .i64 t904, .int .i64 t905] 25 (0, 0)) (kv_ BK908))
      replace BK908 := kb_ BK908 hb
      have NB903_915 := Aside0.mk ((by rw [hg]; exact Nat.ne_of_lt (IsS87.lt (show IsS87 w _ g903 t900 t910 t911 from by repeat (first | (with_reducible first | exact HI903.out | apply IsS87.alloc | apply IsS87.drewN | apply IsS87.drew | apply IsS87.set_1 | apply IsS87.set_2 | refine IsS87.far ?_ NB903_898.out _ | refine IsS87.far ?_ NB903_899.out _ | refine IsS87.far ?_ NB903_908.out _) | exact HI903.out))) : g903 ≠ gb915))
      have NB915_903 := Aside0.mk ((by rw [hg]; exact Nat.ne_of_gt (IsS87.lt (show IsS87 w _ g903 t900 t910 t911 from by repeat (first | (with_reducible first | exact HI903.out | apply IsS87.alloc | apply IsS87.drewN | apply IsS87.drew | apply IsS87.set_1 | apply IsS87.set_2 | refine IsS87.far ?_ NB903_898.out _ | refine IsS87.far ?_ NB903_899.out _ | refine IsS87.far ?_ NB903_908.out _) | exact HI903.out))) : gb915 ≠ g903))
      replace HI903 := Aside0.mk (IsS87.below (by repeat (first | (with_reducible first | exact HI903.out | apply IsS87.alloc | apply IsS87.drewN | apply IsS87.drew | apply IsS87.set_1 | apply IsS87.set_2 | refine IsS87.far ?_ NB903_898.out _ | refine IsS87.far ?_ NB903_899.out _ | refine IsS87.far ?_ NB903_908.out _) | exact HI903.out)) hb)
      clear hb hbox hg
      refine hK.out _ _ ⟨(blk_cell BK908.out 0).trans rfl, (blk_cell BK908.out 1).trans rfl⟩ (fun hHeld => ?_)
      clear hK K
      refine no_ 6 ?_
      exact norm_ (by simp only [putAll, Act.put, List.setIfInBounds_toArray, List.set_cons_zero, List.set_cons_succ]) (hCont (gb915) _ ⟨hHeld, (kv_ BK898), (kv_ BK899), (kv_ BK908), (kv_ BK915), GW915.out, GE915.out, NB903_915.out, NB915_903.out, NB898_915.out, NB915_898.out, NB899_915.out, NB915_899.out, NB908_915.out, NB915_908.out, (by repeat (first | (with_reducible first | exact HI903.out | apply IsS87.alloc | apply IsS87.drewN | apply IsS87.drew | apply IsS87.set_1 | apply IsS87.set_2 | refine IsS87.far ?_ NB903_898.out _ | refine IsS87.far ?_ NB903_899.out _ | refine IsS87.far ?_ NB903_908.out _ | refine IsS87.far ?_ NB903_915.out _) | exact HI903.out)), (by repeat (first | (with_reducible first | exact HB.out | apply below_alloc | apply pw_below_drewN | apply below_drew1 | refine below_set ?_ (IsS87.ge HI903.out) | refine below_set ?_ GE898.out | refine below_set ?_ GE899.out | refine below_set ?_ GE908.out | refine below_set ?_ GE915.out) | exact HB.out))⟩)
     ·skip
      refine box_step ?hg (N := 6) ?hd (cs := #[.int .i64 0, .int .i64 0]) (t := 25) ?hr ?_; (case hd => rfl); (case hg => rfl); (case hr => first | (go_simp; done) | (go_simp; rfl))
      intro gb915 hg w21 hbox hb
      have BK915 := Aside0.mk (hbox)
      have GW915 := Aside0.mk ((by rw [hg]; exact (below_size (by repeat (first | (with_reducible first | exact HB.out | apply below_alloc | apply pw_below_drewN | apply below_drew1 | refine below_set ?_ (IsS87.ge HI903.out) | refine below_set ?_ GE898.out | refine below_set ?_ GE899.out | refine below_set ?_ GE908.out) | exact HB.out))) : w.heap.size ≤ gb915))
      have GE915 := GW915
      replace HB := Aside0.mk (below_step (by repeat (first | (with_reducible first | exact HB.out | apply below_alloc | apply pw_below_drewN | apply below_drew1 | refine below_set ?_ (IsS87.ge HI903.out) | refine below_set ?_ GE898.out | refine below_set ?_ GE899.out | refine below_set ?_ GE908.out) | exact HB.out)) hb)
      have NB898_915 := nb_ hg (blk_lt (g := gb898) (o := .cells #[.int .i64 0, .int .i64 0] 25 (0, 0)) (kv_ BK898))
      have NB915_898 := nc_ hg (blk_lt (g := gb898) (o := .cells #[.int .i64 0, .int .i64 0] 25 (0, 0)) (kv_ BK898))
      replace BK898 := kb_ BK898 hb
      have NB899_915 := nb_ hg (blk_lt (g := gb899) (o := .cells #[.int .i64 0, .int .i64 0] 25 (0, 0)) (kv_ BK899))
      have NB915_899 := nc_ hg (blk_lt (g := gb899) (o := .cells #[.int .i64 0, .int .i64 0] 25 (0, 0)) (kv_ BK899))
      replace BK899 := kb_ BK899 hb
      have NB908_915 := nb_ hg (blk_lt (g := gb908) (o := .cells #[.int .i64 t904, .int .i64 t905] 25 (0, 0)) (kv_ BK908))
      have NB915_908 := nc_ hg (blk_lt (g := gb908) (o := .cells #[.int .i64 t904, .int .i64 t905] 25 (0, 0)) (kv_ BK908))
      replace BK908 := kb_ BK908 hb
      have NB903_915 := Aside0.mk ((by rw [hg]; exact Nat.ne_of_lt (IsS87.lt (show IsS87 w _ g903 t900 t910 t911 from by repeat (first | (with_reducible first | exact HI903.out | apply IsS87.alloc | apply IsS87.drewN | apply IsS87.drew | apply IsS87.set_1 | apply IsS87.set_2 | refine IsS87.far ?_ NB903_898.out _ | refine IsS87.far ?_ NB903_899.out _ | refine IsS87.far ?_ NB903_908.out _) | exact HI903.out))) : g903 ≠ gb915))
      have NB915_903 := Aside0.mk ((by rw [hg]; exact Nat.ne_of_gt (IsS87.lt (show IsS87 w _ g903 t900 t910 t911 from by repeat (first | (with_reducible first | exact HI903.out | apply IsS87.alloc | apply IsS87.drewN | apply IsS87.drew | apply IsS87.set_1 | apply IsS87.set_2 | refine IsS87.far ?_ NB903_898.out _ | refine IsS87.far ?_ NB903_899.out _ | refine IsS87.far ?_ NB903_908.out _) | exact HI903.out))) : gb915 ≠ g903))
      replace HI903 := Aside0.mk (IsS87.below (by repeat (first | (with_reducible first | exact HI903.out | apply IsS87.alloc | apply IsS87.drewN | apply IsS87.drew | apply IsS87.set_1 | apply IsS87.set_2 | refine IsS87.far ?_ NB903_898.out _ | refine IsS87.far ?_ NB903_899.out _ | refine IsS87.far ?_ NB903_908.out _) | exact HI903.out)) hb)
      clear hb hbox hg
      refine hK.out _ _ ⟨(blk_cell BK908.out 0).trans rfl, (blk_cell BK908.out 1).trans rfl⟩ (fun hHeld => ?_)
      clear hK K
      refine no_ 6 ?_
      refine on_ HT_ 3 16 (bs 10 143) (fun K hK => ?_)
      refine goes_ Try.func19 (by kernel_rfl) rfl #[.agg #[.int .i64 t904, .int .i64 t905], .int .i64 t909] (by rfl) rfl rfl mp_ ?_
      with_reducible refine (spec_ShiftTable.calls k t904 t905 t909 t912 t913 true _ A5.out).mono ?_
      rintro e w22 ⟨rfl, hb⟩
      refine ⟨_, rfl, ?_⟩
      replace BK898 := kb_ BK898 hb
      replace BK899 := kb_ BK899 hb
      replace BK908 := kb_ BK908 hb
      replace BK915 := kb_ BK915 hb
      replace HB := Aside0.mk (below_step (by repeat (first | (with_reducible first | exact HB.out | apply below_alloc | apply pw_below_drewN | apply below_drew1 | refine below_set ?_ (IsS87.ge HI903.out) | refine below_set ?_ GE898.out | refine below_set ?_ GE899.out | refine below_set ?_ GE908.out | refine below_set ?_ GE915.out) | exact HB.out)) hb)
      replace HI903 := Aside0.mk (IsS87.below (by repeat (first | (with_reducible first | exact HI903.out | apply IsS87.alloc | apply IsS87.drewN | apply IsS87.drew | apply IsS87.set_1 | apply IsS87.set_2 | refine IsS87.far ?_ NB903_898.out _ | refine IsS87.far ?_ NB903_899.out _ | refine IsS87.far ?_ NB903_908.out _ | refine IsS87.far ?_ NB903_915.out _) | exact HI903.out)) hb)
      (try clear hb)
      (try clear hb2)
      (try clear hk)
      (try clear hi)
      refine hK.out _ _ ⟨(blk_cell BK908.out 0).trans rfl, (blk_cell BK908.out 1).trans rfl⟩ (fun hHeld => ?_)
      clear hK K
      refine no_ 16 ?_
      refine pu_ HT_ 4 12 (bs 10 159) ?_
      refine pu_ HT_ 5 17 (bs 10 191) ?_
      refine pu_ HT_ 6 18 (bs 10 255) ?_
      exact norm_ (by simp only [putAll, Act.put, List.setIfInBounds_toArray, List.set_cons_zero, List.set_cons_succ]) (hCont (gb915) _ ⟨hHeld, (kv_ BK898), (kv_ BK899), (kv_ BK908), (kv_ BK915), GW915.out, GE915.out, NB903_915.out, NB915_903.out, NB898_915.out, NB915_898.out, NB899_915.out, NB915_899.out, NB908_915.out, NB915_908.out, (by repeat (first | (with_reducible first | exact HI903.out | apply IsS87.alloc | apply IsS87.drewN | apply IsS87.drew | apply IsS87.set_1 | apply IsS87.set_2 | refine IsS87.far ?_ NB903_898.out _ | refine IsS87.far ?_ NB903_899.out _ | refine IsS87.far ?_ NB903_908.out _ | refine IsS87.far ?_ NB903_915.out _) | exact HI903.out)), (by repeat (first | (with_reducible first | exact HB.out | apply below_alloc | apply pw_below_drewN | apply below_drew1 | refine below_set ?_ (IsS87.ge HI903.out) | refine below_set ?_ GE898.out | refine below_set ?_ GE899.out | refine below_set ?_ GE908.out | refine below_set ?_ GE915.out) | exact HB.out))⟩)
    ·skip
     refine box_step ?hg (N := 6) ?hd (cs := #[.int .i64 0, .int .i64 0]) (t := 25) ?hr ?_; (case hd => rfl); (case hg => rfl); (case hr => first | (go_simp; done) | (go_simp; rfl))
     intro gb915 hg w20 hbox hb
     have BK915 := Aside0.mk (hbox)
     have GW915 := Aside0.mk ((by rw [hg]; exact (below_size (by repeat (first | (with_reducible first | exact HB.out | apply below_alloc | apply pw_below_drewN | apply below_drew1 | refine below_set ?_ (IsS87.ge HI903.out) | refine below_set ?_ GE898.out | refine below_set ?_ GE899.out | refine below_set ?_ GE908.out) | exact HB.out))) : w.heap.size ≤ gb915))
     have GE915 := GW915
     replace HB := Aside0.mk (below_step (by repeat (first | (with_reducible first | exact HB.out | apply below_alloc | apply pw_below_drewN | apply below_drew1 | refine below_set ?_ (IsS87.ge HI903.out) | refine below_set ?_ GE898.out | refine below_set ?_ GE899.out | refine below_set ?_ GE908.out) | exact HB.out)) hb)
     have NB898_915 := nb_ hg (blk_lt (g := gb898) (o := .cells #[.int .i64 0, .int .i64 0] 25 (0, 0)) (kv_ BK898))
     have NB915_898 := nc_ hg (blk_lt (g := gb898) (o := .cells #[.int .i64 0, .int .i64 0] 25 (0, 0)) (kv_ BK898))
     replace BK898 := kb_ BK898 hb
     have NB899_915 := nb_ hg (blk_lt (g := gb899) (o := .cells #[.int .i64 0, .int .i64 0] 25 (0, 0)) (kv_ BK899))
     have NB915_899 := nc_ hg (blk_lt (g := gb899) (o := .cells #[.int .i64 0, .int .i64 0] 25 (0, 0)) (kv_ BK899))
     replace BK899 := kb_ BK899 hb
     have NB908_915 := nb_ hg (blk_lt (g := gb908) (o := .cells #[.int .i64 t904, .int .i64 t905] 25 (0, 0)) (kv_ BK908))
     have NB915_908 := nc_ hg (blk_lt (g := gb908) (o := .cells #[.int .i64 t904, .int .i64 t905] 25 (0, 0)) (kv_ BK908))
     replace BK908 := kb_ BK908 hb
     have NB903_915 := Aside0.mk ((by rw [hg]; exact Nat.ne_of_lt (IsS87.lt (show IsS87 w _ g903 t900 t906 t907 from by repeat (first | (with_reducible first | exact HI903.out | apply IsS87.alloc | apply IsS87.drewN | apply IsS87.drew | apply IsS87.set_1 | apply IsS87.set_2 | refine IsS87.far ?_ NB903_898.out _ | refine IsS87.far ?_ NB903_899.out _ | refine IsS87.far ?_ NB903_908.out _) | exact HI903.out))) : g903 ≠ gb915))
     have NB915_903 := Aside0.mk ((by rw [hg]; exact Nat.ne_of_gt (IsS87.lt (show IsS87 w _ g903 t900 t906 t907 from by repeat (first | (with_reducible first | exact HI903.out | apply IsS87.alloc | apply IsS87.drewN | apply IsS87.drew | apply IsS87.set_1 | apply IsS87.set_2 | refine IsS87.far ?_ NB903_898.out _ | refine IsS87.far ?_ NB903_899.out _ | refine IsS87.far ?_ NB903_908.out _) | exact HI903.out))) : gb915 ≠ g903))
     replace HI903 := Aside0.mk (IsS87.below (by repeat (first | (with_reducible first | exact HI903.out | apply IsS87.alloc | apply IsS87.drewN | apply IsS87.drew | apply IsS87.set_1 | apply IsS87.set_2 | refine IsS87.far ?_ NB903_898.out _ | refine IsS87.far ?_ NB903_899.out _ | refine IsS87.far ?_ NB903_908.out _) | exact HI903.out)) hb)
     clear hb hbox hg
     refine hK.out _ _ ⟨(blk_cell BK908.out 0).trans rfl, (blk_cell BK908.out 1).trans rfl⟩ (fun hHeld => ?_)
     clear hK K
     refine no_ 6 ?_
     refine on_ HT_ 2 15 (bs 10 135) (fun K hK => ?_)
     refine goes_ Try.func56 (by kernel_rfl) rfl #[.pointer (some ⟨g903, 0, none⟩), .int .i64 5] (by rfl) rfl rfl mp_ ?_
     with_reducible refine (spec_l1Below.calls g903 t900 t906 t907 5 t909 t910 t911 w _ ?side1 ?side2 A4.out).mono ?_
     (case side1 => repeat (first | (with_reducible first | exact HI903.out | apply IsS87.alloc | apply IsS87.drewN | apply IsS87.drew | apply IsS87.set_1 | apply IsS87.set_2 | refine IsS87.far ?_ NB903_898.out _ | refine IsS87.far ?_ NB903_899.out _ | refine IsS87.far ?_ NB903_908.out _ | refine IsS87.far ?_ NB903_915.out _) | exact HI903.out))
     (case side2 => repeat (first | (with_reducible first | exact HB.out | apply below_alloc | apply pw_below_drewN | apply below_drew1 | refine below_set ?_ (IsS87.ge HI903.out) | refine below_set ?_ GE898.out | refine below_set ?_ GE899.out | refine below_set ?_ GE908.out | refine below_set ?_ GE915.out) | exact HB.out))
     rintro e w21 ⟨rfl, hi, hb, hk⟩
     refine ⟨_, rfl, ?_⟩
     replace BK898 := Aside0.mk (KeepBut.blk hk (g' := gb898) (o := .cells #[.int .i64 0, .int .i64 0] 25 (0, 0)) (kv_ BK898) NB898_903.out (by simp))
     replace BK899 := Aside0.mk (KeepBut.blk hk (g' := gb899) (o := .cells #[.int .i64 0, .int .i64 0] 25 (0, 0)) (kv_ BK899) NB899_903.out (by simp))
     replace BK908 := Aside0.mk (KeepBut.blk hk (g' := gb908) (o := .cells #[.int .i64 t904, .int .i64 t905] 25 (0, 0)) (kv_ BK908) NB908_903.out (by simp))
     replace BK915 := Aside0.mk (KeepBut.blk hk (g' := gb915) (o := .cells #[.int .i64 0, .int .i64 0] 25 (0, 0)) (kv_ BK915) NB915_903.out (by simp))
     replace HB := Aside0.mk (hb)
     replace HI903 := Aside0.mk (hi)
     (try clear hb)
     (try clear hb2)
     (try clear hk)
     (try clear hi)
     refine hK.out _ _ ⟨(blk_cell BK908.out 0).trans rfl, (blk_cell BK908.out 1).trans rfl⟩ (fun hHeld => ?_)
     clear hK K
     refine no_ 15 ?_
     refine on_ HT_ 3 16 (bs 10 143) (fun K hK => ?_)
     refine goes_ Try.func19 (by kernel_rfl) rfl #[.agg #[.int .i64 t904, .int .i64 t905], .int .i64 t909] (by rfl) rfl rfl mp_ ?_
     with_reducible refine (spec_ShiftTable.calls k t904 t905 t909 t912 t913 true _ A5.out).mono ?_
     rintro e w22 ⟨rfl, hb⟩
     refine ⟨_, rfl, ?_⟩
     replace BK898 := kb_ BK898 hb
     replace BK899 := kb_ BK899 hb
     replace BK908 := kb_ BK908 hb
     replace BK915 := kb_ BK915 hb
     replace HB := Aside0.mk (below_step (by repeat (first | (with_reducible first | exact HB.out | apply below_alloc | apply pw_below_drewN | apply below_drew1 | refine below_set ?_ (IsS87.ge HI903.out) | refine below_set ?_ GE898.out | refine below_set ?_ GE899.out | refine below_set ?_ GE908.out | refine below_set ?_ GE915.out) | exact HB.out)) hb)
     replace HI903 := Aside0.mk (IsS87.below (by repeat (first | (with_reducible first | exact HI903.out | apply IsS87.alloc | apply IsS87.drewN | apply IsS87.drew | apply IsS87.set_1 | apply IsS87.set_2 | refine IsS87.far ?_ NB903_898.out _ | refine IsS87.far ?_ NB903_899.out _ | refine IsS87.far ?_ NB903_908.out _ | refine IsS87.far ?_ NB903_915.out _) | exact HI903.out)) hb)
     (try clear hb)
     (try clear hb2)
     (try clear hk)
     (try clear hi)
     refine hK.out _ _ ⟨(blk_cell BK908.out 0).trans rfl, (blk_cell BK908.out 1).trans rfl⟩ (fun hHeld => ?_)
     clear hK K
     refine no_ 16 ?_
     refine pu_ HT_ 4 12 (bs 10 159) ?_
     refine pu_ HT_ 5 17 (bs 10 191) ?_
     refine pu_ HT_ 6 18 (bs 10 255) ?_
     exact norm_ (by simp only [putAll, Act.put, List.setIfInBounds_toArray, List.set_cons_zero, List.set_cons_succ]) (hCont (gb915) _ ⟨hHeld, (kv_ BK898), (kv_ BK899), (kv_ BK908), (kv_ BK915), GW915.out, GE915.out, NB903_915.out, NB915_903.out, NB898_915.out, NB915_898.out, NB899_915.out, NB915_899.out, NB908_915.out, NB915_908.out, (by repeat (first | (with_reducible first | exact HI903.out | apply IsS87.alloc | apply IsS87.drewN | apply IsS87.drew | apply IsS87.set_1 | apply IsS87.set_2 | refine IsS87.far ?_ NB903_898.out _ | refine IsS87.far ?_ NB903_899.out _ | refine IsS87.far ?_ NB903_908.out _ | refine IsS87.far ?_ NB903_915.out _) | exact HI903.out)), (by repeat (first | (with_reducible first | exact HB.out | apply below_alloc | apply pw_below_drewN | apply below_drew1 | refine below_set ?_ (IsS87.ge HI903.out) | refine below_set ?_ GE898.out | refine below_set ?_ GE899.out | refine below_set ?_ GE908.out | refine below_set ?_ GE915.out) | exact HB.out))⟩)
   rintro gb915 w23 ⟨hS_, h0_, h1_, h2_, h3_, h4_, h5_, h6_, h7_, h8_, h9_, h10_, h11_, h12_, h13_, h14_, h15_⟩
   have n0_ : Aside0 (w23.heap[gb898]? = some (.cells #[.int .i64 0, .int .i64 0] 25 (0, 0))) := ⟨h0_⟩
   have n1_ : Aside0 (w23.heap[gb899]? = some (.cells #[.int .i64 0, .int .i64 0] 25 (0, 0))) := ⟨h1_⟩
   have n2_ : Aside0 (w23.heap[gb908]? = some (.cells #[.int .i64 t904, .int .i64 t905] 25 (0, 0))) := ⟨h2_⟩
   have n3_ : Aside0 (w23.heap[gb915]? = some (.cells #[.int .i64 0, .int .i64 0] 25 (0, 0))) := ⟨h3_⟩
   have n4_ : Aside0 (w.heap.size ≤ gb915) := ⟨h4_⟩
   have n5_ : Aside0 (w.heap.size ≤ gb915) := ⟨h5_⟩
   have n6_ : Aside0 (g903 ≠ gb915) := ⟨h6_⟩
   have n7_ : Aside0 (gb915 ≠ g903) := ⟨h7_⟩
   have n8_ : Aside0 (gb898 ≠ gb915) := ⟨h8_⟩
   have n9_ : Aside0 (gb915 ≠ gb898) := ⟨h9_⟩
   have n10_ : Aside0 (gb899 ≠ gb915) := ⟨h10_⟩
   have n11_ : Aside0 (gb915 ≠ gb899) := ⟨h11_⟩
   have n12_ : Aside0 (gb908 ≠ gb915) := ⟨h12_⟩
   have n13_ : Aside0 (gb915 ≠ gb908) := ⟨h13_⟩
   have n14_ : Aside0 (IsS87 w w23 g903 t900 t910 t911) := ⟨h14_⟩
   have n15_ : Aside0 (Below w.heap.size w w23) := ⟨h15_⟩
   clear BK898
   clear BK899
   clear BK908
   clear HI903
   clear HB
   clear h0_ h1_ h2_ h3_ h4_ h5_ h6_ h7_ h8_ h9_ h10_ h11_ h12_ h13_ h14_ h15_
   have BK898 := n0_
   have BK899 := n1_
   have BK908 := n2_
   have BK915 := n3_
   have GW915 := n4_
   have GE915 := n5_
   have NB903_915 := n6_
   have NB915_903 := n7_
   have NB898_915 := n8_
   have NB915_898 := n9_
   have NB899_915 := n10_
   have NB915_899 := n11_
   have NB908_915 := n12_
   have NB915_908 := n13_
   have HI903 := n14_
   have HB := n15_
   clear n0_ n1_ n2_ n3_ n4_ n5_ n6_ n7_ n8_ n9_ n10_ n11_ n12_ n13_ n14_ n15_
   have hHeld : w23.cell? ⟨gb908, 0, none⟩ = some (.int .i64 t904) ∧ w23.cell? ⟨gb908, 1, none⟩ = some (.int .i64 t905) := hS_
   refine norm_ (a' := ?_) ?_ ?_
   rotate_left
   ·simp only [putAll, Act.put, List.setIfInBounds_toArray, List.set_cons_zero, List.set_cons_succ]
    rfl
   refine one_ (i := 8) (N := none) (bs 10 511) rfl rfl (one_of HT_.out (by kernel_rfl)) (by decide) (fun K hK => ?_)
   have hs24 : w23.cell? ⟨gb915, 0, none⟩ = some (.int .i64 0) := (blk_cell BK915.out 0).trans rfl
   have hfs24 := blk_frozen BK915.out 0
   have hns24_0 := NB898_915.out
   have hns24_1 := NB899_915.out
   have hns24_2 := NB908_915.out
   have hms24_0 := NB915_898.out
   have hms24_1 := NB915_899.out
   have hms24_2 := NB915_908.out
   have hs25 : w23.cell? ⟨gb915, 1, none⟩ = some (.int .i64 0) := (blk_cell BK915.out 1).trans rfl
   have hfs25 := blk_frozen BK915.out 1
   have hns25_0 := NB898_915.out
   have hns25_1 := NB899_915.out
   have hns25_2 := NB908_915.out
   have hms25_0 := NB915_898.out
   have hms25_1 := NB915_899.out
   have hms25_2 := NB915_908.out
   refine skip_ (w1 := ?_) (by rfl) rfl ?_ ?_
   rotate_left
   ·go_simp
    rfl
   refine hK.out _ _ ⟨((cell_far (p := ⟨gb915, _, none⟩) NB908_915.out _).trans (((cell_far (p := ⟨gb915, _, none⟩) NB908_915.out _).trans (hHeld.1)))), ((cell_far (p := ⟨gb915, _, none⟩) NB908_915.out _).trans (((cell_far (p := ⟨gb915, _, none⟩) NB908_915.out _).trans (hHeld.2))))⟩ (fun hHeld => ?_)
   clear hK K
   refine pu_ HT_ 9 7 (bs 10 1023) ?_
   refine done_ (done_of HT_.out (by kernel_rfl)) ?_
   try go_wp2_with (first | (go_at_call 77; (with_reducible refine (spec_l1Once.calls g903 t900 t910 t911 2 true t917 t918 w _ ?side1 ?side2 A7.out).mono ?_); (case side1 => repeat (first | (with_reducible first | exact HI903.out | apply IsS87.alloc | apply IsS87.drewN | apply IsS87.drew | apply IsS87.set_1 | apply IsS87.set_2 | refine IsS87.far ?_ NB903_898.out _ | refine IsS87.far ?_ NB903_899.out _ | refine IsS87.far ?_ NB903_908.out _ | refine IsS87.far ?_ NB903_915.out _) | exact HI903.out)); (case side2 => repeat (first | (with_reducible first | exact HB.out | apply below_alloc | apply pw_below_drewN | apply below_drew1 | refine below_set ?_ (IsS87.ge HI903.out) | refine below_set ?_ GE898.out | refine below_set ?_ GE899.out | refine below_set ?_ GE908.out | refine below_set ?_ GE915.out) | exact HB.out)); rintro e w26 ⟨rfl, hi, hb, hk⟩; replace BK898 := Aside0.mk (KeepBut.blk hk (g' := gb898) (o := .cells #[.int .i64 0, .int .i64 0] 25 (0, 0)) (by (with_reducible repeat (first | refine blk_drewN ?_ _ | refine blk_drew ?_ | refine blk_alloc ?_ _)); refine blk_far ?_ NB898_915.out _; (with_reducible repeat (first | refine blk_drewN ?_ _ | refine blk_drew ?_ | refine blk_alloc ?_ _)); refine blk_far ?_ NB898_915.out _; (with_reducible repeat (first | refine blk_drewN ?_ _ | refine blk_drew ?_ | refine blk_alloc ?_ _)); exact BK898.out) NB898_903.out (by simp)); replace BK899 := Aside0.mk (KeepBut.blk hk (g' := gb899) (o := .cells #[.int .i64 0, .int .i64 0] 25 (0, 0)) (by (with_reducible repeat (first | refine blk_drewN ?_ _ | refine blk_drew ?_ | refine blk_alloc ?_ _)); refine blk_far ?_ NB899_915.out _; (with_reducible repeat (first | refine blk_drewN ?_ _ | refine blk_drew ?_ | refine blk_alloc ?_ _)); refine blk_far ?_ NB899_915.out _; (with_reducible repeat (first | refine blk_drewN ?_ _ | refine blk_drew ?_ | refine blk_alloc ?_ _)); exact BK899.out) NB899_903.out (by simp)); replace BK908 := Aside0.mk (KeepBut.blk hk (g' := gb908) (o := .cells #[.int .i64 t904, .int .i64 t905] 25 (0, 0)) (by (with_reducible repeat (first | refine blk_drewN ?_ _ | refine blk_drew ?_ | refine blk_alloc ?_ _)); refine blk_far ?_ NB908_915.out _; (with_reducible repeat (first | refine blk_drewN ?_ _ | refine blk_drew ?_ | refine blk_alloc ?_ _)); refine blk_far ?_ NB908_915.out _; (with_reducible repeat (first | refine blk_drewN ?_ _ | refine blk_drew ?_ | refine blk_alloc ?_ _)); exact BK908.out) NB908_903.out (by simp)); replace BK915 := Aside0.mk (KeepBut.blk hk (g' := gb915) (o := .cells #[.int .i64 t912, .int .i64 t913] 25 (0, 0)) (by (with_reducible repeat (first | refine blk_drewN ?_ _ | refine blk_drew ?_ | refine blk_alloc ?_ _)); refine blk_put (cs := #[.int .i64 t912, .int .i64 0]) ?_ 1 _ rfl; (with_reducible repeat (first | refine blk_drewN ?_ _ | refine blk_drew ?_ | refine blk_alloc ?_ _)); refine blk_put (cs := #[.int .i64 0, .int .i64 0]) ?_ 0 _ rfl; (with_reducible repeat (first | refine blk_drewN ?_ _ | refine blk_drew ?_ | refine blk_alloc ?_ _)); exact BK915.out) NB915_903.out (by simp)); replace HB := Aside0.mk (hb); replace HI903 := Aside0.mk (hi); (try clear hb); (try clear hb2); (try clear hk); (try clear hi)))
   replace BK898 := Aside0.mk (blk_drew BK898.out)
   replace BK899 := Aside0.mk (blk_drew BK899.out)
   replace BK908 := Aside0.mk (blk_drew BK908.out)
   replace BK915 := Aside0.mk (blk_drew BK915.out)
   replace HI903 := Aside0.mk (IsS87.drew HI903.out)
   replace HB := Aside0.mk (below_drew1 HB.out)
   refine start_ (n := 4) (S := fun w' => w'.cell? ⟨gb908, 0, none⟩ = some (.int .i64 t904) ∧ w'.cell? ⟨gb908, 1, none⟩ = some (.int .i64 t905) ∧ w'.cell? ⟨gb915, 0, none⟩ = some (.int .i64 t912) ∧ w'.cell? ⟨gb915, 1, none⟩ = some (.int .i64 t913)) (ds := []) (bs 4 0) (by kernel_rfl) rfl (by kernel_rfl) ⟨(blk_cell BK908.out 0).trans rfl, (blk_cell BK908.out 1).trans rfl, (blk_cell BK915.out 0).trans rfl, (blk_cell BK915.out 1).trans rfl⟩ (fun hHeld => ?_)
   generalize w26.drew = w27 at BK898 BK899 BK908 BK915 HI903 HB hHeld ⊢
   refine take_ (i := 0) (N := some 24) (v := ?_) (a' := ?_) (bs 4 1) rfl rfl (by kernel_rfl) (fun _ _ _ h => h) (Or.inl ⟨by rfl, ?_⟩) hHeld ?_ ?_
   rotate_left
   ·rintro w' ⟨s0, s1, s2, s3⟩
    go_simp
    with_reducible rfl
   rotate_left
   ·simp only [Act.put, List.setIfInBounds_toArray, List.set_cons_zero, List.set_cons_succ, i64_w, i32_w]
    rfl
   refine take_ (i := 1) (N := some 25) (v := ?_) (a' := ?_) (bs 4 3) rfl rfl (by kernel_rfl) (fun _ _ _ h => h) (Or.inl ⟨by rfl, ?_⟩) hHeld ?_ ?_
   rotate_left
   ·rintro w' ⟨s0, s1, s2, s3⟩
    go_simp
    with_reducible rfl
   rotate_left
   ·simp only [Act.put, List.setIfInBounds_toArray, List.set_cons_zero, List.set_cons_succ, i64_w, i32_w]
    rfl
   refine one_ (i := 2) (N := none) (bs 4 7) rfl rfl (by kernel_rfl) (by decide) (fun K hK => ?_)
   have hs28 : w27.cell? ⟨gb898, 0, none⟩ = some (.int .i64 0) := (blk_cell BK898.out 0).trans rfl
   have hfs28 := blk_frozen BK898.out 0
   have hns28_1 := NB899_898.out
   have hns28_2 := NB908_898.out
   have hns28_3 := NB915_898.out
   have hms28_1 := NB898_899.out
   have hms28_2 := NB898_908.out
   have hms28_3 := NB898_915.out
   have hs29 : w27.cell? ⟨gb898, 1, none⟩ = some (.int .i64 0) := (blk_cell BK898.out 1).trans rfl
   have hfs29 := blk_frozen BK898.out 1
   have hns29_1 := NB899_898.out
   have hns29_2 := NB908_898.out
   have hns29_3 := NB915_898.out
   have hms29_1 := NB898_899.out
   have hms29_2 := NB898_908.out
   have hms29_3 := NB898_915.out
   refine skip_ (w1 := ?_) (by rfl) rfl ?_ ?_
   rotate_left
   ·go_simp
    rfl
   refine hK.out _ _ ⟨((cell_far (p := ⟨gb898, _, none⟩) NB908_898.out _).trans (((cell_far (p := ⟨gb898, _, none⟩) NB908_898.out _).trans (hHeld.1)))), ((cell_far (p := ⟨gb898, _, none⟩) NB908_898.out _).trans (((cell_far (p := ⟨gb898, _, none⟩) NB908_898.out _).trans (hHeld.2.1)))), ((cell_far (p := ⟨gb898, _, none⟩) NB915_898.out _).trans (((cell_far (p := ⟨gb898, _, none⟩) NB915_898.out _).trans (hHeld.2.2.1)))), ((cell_far (p := ⟨gb898, _, none⟩) NB915_898.out _).trans (((cell_far (p := ⟨gb898, _, none⟩) NB915_898.out _).trans (hHeld.2.2.2))))⟩ (fun hHeld => ?_)
   clear hK K
   refine one_ (i := 3) (N := none) (bs 4 15) rfl rfl (by kernel_rfl) (by decide) (fun K hK => ?_)
   have hs30 : w27.cell? ⟨gb899, 0, none⟩ = some (.int .i64 0) := (blk_cell BK899.out 0).trans rfl
   have hfs30 := blk_frozen BK899.out 0
   have hns30_0 := NB898_899.out
   have hns30_2 := NB908_899.out
   have hns30_3 := NB915_899.out
   have hms30_0 := NB899_898.out
   have hms30_2 := NB899_908.out
   have hms30_3 := NB899_915.out
   have hs31 : w27.cell? ⟨gb899, 1, none⟩ = some (.int .i64 0) := (blk_cell BK899.out 1).trans rfl
   have hfs31 := blk_frozen BK899.out 1
   have hns31_0 := NB898_899.out
   have hns31_2 := NB908_899.out
   have hns31_3 := NB915_899.out
   have hms31_0 := NB899_898.out
   have hms31_2 := NB899_908.out
   have hms31_3 := NB899_915.out
   refine skip_ (w1 := ?_) (by rfl) rfl ?_ ?_
   rotate_left
   ·go_simp
    rfl
   refine hK.out _ _ ⟨((cell_far (p := ⟨gb899, _, none⟩) NB908_899.out _).trans (((cell_far (p := ⟨gb899, _, none⟩) NB908_899.out _).trans (hHeld.1)))), ((cell_far (p := ⟨gb899, _, none⟩) NB908_899.out _).trans (((cell_far (p := ⟨gb899, _, none⟩) NB908_899.out _).trans (hHeld.2.1)))), ((cell_far (p := ⟨gb899, _, none⟩) NB915_899.out _).trans (((cell_far (p := ⟨gb899, _, none⟩) NB915_899.out _).trans (hHeld.2.2.1)))), ((cell_far (p := ⟨gb899, _, none⟩) NB915_899.out _).trans (((cell_far (p := ⟨gb899, _, none⟩) NB915_899.out _).trans (hHeld.2.2.2))))⟩ (fun hHeld => ?_)
   clear hK K
   refine done_ (by kernel_rfl) ?_
   try go_wp2
   refine bodyPost_ret (results_cc rfl _ _ gb898 gb899 25 25 #[.int .i64 t904, .int .i64 t905] #[.int .i64 t912, .int .i64 t913] (0, 0) (0, 0) _ _ rfl (by (with_reducible repeat (first | refine blk_drewN ?_ _ | refine blk_drew ?_ | refine blk_alloc ?_ _)); refine blk_far ?_ NB898_899.out _; (with_reducible repeat (first | refine blk_drewN ?_ _ | refine blk_drew ?_ | refine blk_alloc ?_ _)); refine blk_far ?_ NB898_899.out _; (with_reducible repeat (first | refine blk_drewN ?_ _ | refine blk_drew ?_ | refine blk_alloc ?_ _)); refine blk_put (cs := #[.int .i64 t904, .int .i64 0]) ?_ 1 _ rfl; (with_reducible repeat (first | refine blk_drewN ?_ _ | refine blk_drew ?_ | refine blk_alloc ?_ _)); refine blk_put (cs := #[.int .i64 0, .int .i64 0]) ?_ 0 _ rfl; (with_reducible repeat (first | refine blk_drewN ?_ _ | refine blk_drew ?_ | refine blk_alloc ?_ _)); exact BK898.out) Try.underlying25 rfl (by kernel_rfl) rfl (by (with_reducible repeat (first | refine blk_drewN ?_ _ | refine blk_drew ?_ | refine blk_alloc ?_ _)); refine blk_put (cs := #[.int .i64 t912, .int .i64 0]) ?_ 1 _ rfl; (with_reducible repeat (first | refine blk_drewN ?_ _ | refine blk_drew ?_ | refine blk_alloc ?_ _)); refine blk_put (cs := #[.int .i64 0, .int .i64 0]) ?_ 0 _ rfl; (with_reducible repeat (first | refine blk_drewN ?_ _ | refine blk_drew ?_ | refine blk_alloc ?_ _)); refine blk_far ?_ NB899_898.out _; (with_reducible repeat (first | refine blk_drewN ?_ _ | refine blk_drew ?_ | refine blk_alloc ?_ _)); refine blk_far ?_ NB899_898.out _; (with_reducible repeat (first | refine blk_drewN ?_ _ | refine blk_drew ?_ | refine blk_alloc ?_ _)); exact BK899.out) Try.underlying25 rfl (by kernel_rfl)) rfl ?_
   exact ⟨er_, by repeat (first | (with_reducible first | exact HB.out | apply below_alloc | apply pw_below_drewN | apply below_drew1 | refine below_set ?_ (IsS87.ge HI903.out) | refine below_set ?_ GE898.out | refine below_set ?_ GE899.out | refine below_set ?_ GE908.out | refine below_set ?_ GE915.out) | exact HB.out)⟩
  ·replace c8 := Bool.eq_false_iff.mpr c8
   subst c8
   rw [if_neg (show ¬ (false = true) by decide)] at H
   replace H := Option.bind_eq_some_iff.mp H
   obtain ⟨⟨t919, t920, t921, t922⟩, A320, H⟩ := H
   replace H : (some (t904, t905, t919, t920)) = some (r1, r2, r3, r4) := H
   have A32 := Aside0.mk A320
   clear A320
   simp only [Option.some.injEq, Prod.mk.injEq] at H
   obtain ⟨rfl, rfl, rfl, rfl⟩ := H
   go_enter Try.func55, Try.ntmps55
   try go_wp2_with (first | ((with_reducible refine gate_dst (N := 2) rfl ?_); refine bx_ 2 #[.int .i64 0, .int .i64 0] 25 ?_; intro gb898 hg w33 hbox hb; have BK898 := Aside0.mk (hbox); have GW898 := gw_ hg (below_size (bv_ HB)); have GE898 := GW898; replace HB := Aside0.mk (below_step (bv_ HB) hb); clear hb hbox hg) | ((with_reducible refine gate_dst (N := 3) rfl ?_); refine bx_ 3 #[.int .i64 0, .int .i64 0] 25 ?_; intro gb899 hg w34 hbox hb; have BK899 := Aside0.mk (hbox); have GW899 := gw_ hg (below_size (bv1_ HB GE898)); have GE899 := GW899; replace HB := Aside0.mk (below_step (bv1_ HB GE898) hb); have NB898_899 := nb_ hg (blk_lt (g := gb898) (o := .cells #[.int .i64 0, .int .i64 0] 25 (0, 0)) (kv_ BK898)); have NB899_898 := nc_ hg (blk_lt (g := gb898) (o := .cells #[.int .i64 0, .int .i64 0] 25 (0, 0)) (kv_ BK898)); replace BK898 := kb_ BK898 hb; clear hb hbox hg) | ((with_reducible refine gate_callee (f := 40) rfl ?_); refine gl_ 9 Try.func40 #[.slice A0 l0.length c0] rfl mp_ ?_; (with_reducible refine (spec_l1New.calls k _ _ l0 t900 t901 t902 w _ ?side1 ?side2 ?side3 A2.out).mono ?_); (case side1 => repeat (first | (with_reducible first | exact HB.out | apply below_alloc | apply pw_below_drewN | apply below_drew1 | refine below_set ?_ GE898.out | refine below_set ?_ GE899.out) | exact HB.out)); (case side2 => exact HR0.out); (case side3 => exact HC0.out); rintro e w35 ⟨g903, rfl, hi, hb, hb2⟩; refine ⟨_, rfl, ?_⟩; replace HB := Aside0.mk (hb); have HI903 := Aside0.mk (hi); have NB903_898 := Aside0.mk (IsS87.ne_blk hi (blk_below (g := gb898) (o := .cells #[.int .i64 0, .int .i64 0] 25 (0, 0)) (kv_ BK898) hb2) (by decide)); have NB898_903 := Aside0.mk (Ne.symm (IsS87.ne_blk hi (blk_below (g := gb898) (o := .cells #[.int .i64 0, .int .i64 0] 25 (0, 0)) (kv_ BK898) hb2) (by decide))); replace BK898 := kb_ BK898 hb2; have NB903_899 := Aside0.mk (IsS87.ne_blk hi (blk_below (g := gb899) (o := .cells #[.int .i64 0, .int .i64 0] 25 (0, 0)) (kv_ BK899) hb2) (by decide)); have NB899_903 := Aside0.mk (Ne.symm (IsS87.ne_blk hi (blk_below (g := gb899) (o := .cells #[.int .i64 0, .int .i64 0] 25 (0, 0)) (kv_ BK899) hb2) (by decide))); replace BK899 := kb_ BK899 hb2; (try clear hb); (try clear hb2); (try clear hk); (try clear hi)) | ((with_reducible refine gate_callee (f := 39) rfl ?_); refine gl_ 11 Try.func39 #[.pointer (some ⟨g903, 0, none⟩)] rfl mp_ ?_; (with_reducible refine (spec_l2Any.calls k g903 t900 t901 t902 t904 t905 t906 t907 w _ ?side1 ?side2 A3.out).mono ?_); (case side1 => exact ia2_ HI903 NB903_898 NB903_899); (case side2 => exact bi2_ HB HI903 GE898 GE899); rintro e w36 ⟨rfl, hi, hb, hk⟩; refine ⟨_, rfl, ?_⟩; replace BK898 := Aside0.mk (KeepBut.blk hk (g' := gb898) (o := .cells #[.int .i64 0, .int .i64 0] 25 (0, 0)) (kv_ BK898) NB898_903.out (by simp)); replace BK899 := Aside0.mk (KeepBut.blk hk (g' := gb899) (o := .cells #[.int .i64 0, .int .i64 0] 25 (0, 0)) (kv_ BK899) NB899_903.out (by simp)); replace HB := Aside0.mk (hb); replace HI903 := Aside0.mk (hi); (try clear hb); (try clear hb2); (try clear hk); (try clear hi)) | ((with_reducible refine gate_dst (N := 5) rfl ?_); refine bx_ 5 #[.int .i64 0, .int .i64 0] 25 ?_; intro gb908 hg w37 hbox hb; have BK908 := Aside0.mk (hbox); have GW908 := Aside0.mk ((by rw [hg]; exact (below_size (bi2_ HB HI903 GE898 GE899)) : w.heap.size ≤ gb908)); have GE908 := GW908; replace HB := Aside0.mk (below_step (bi2_ HB HI903 GE898 GE899) hb); have NB898_908 := nb_ hg (blk_lt (g := gb898) (o := .cells #[.int .i64 0, .int .i64 0] 25 (0, 0)) (kv_ BK898)); have NB908_898 := nc_ hg (blk_lt (g := gb898) (o := .cells #[.int .i64 0, .int .i64 0] 25 (0, 0)) (kv_ BK898)); replace BK898 := kb_ BK898 hb; have NB899_908 := nb_ hg (blk_lt (g := gb899) (o := .cells #[.int .i64 0, .int .i64 0] 25 (0, 0)) (kv_ BK899)); have NB908_899 := nc_ hg (blk_lt (g := gb899) (o := .cells #[.int .i64 0, .int .i64 0] 25 (0, 0)) (kv_ BK899)); replace BK899 := kb_ BK899 hb; have NB903_908 := Aside0.mk ((by rw [hg]; exact Nat.ne_of_lt (IsS87.lt (show IsS87 w _ g903 t900 t906 t907 from ia2_ HI903 NB903_898 NB903_899)) : g903 ≠ gb908)); have NB908_903 := Aside0.mk ((by rw [hg]; exact Nat.ne_of_gt (IsS87.lt (show IsS87 w _ g903 t900 t906 t907 from ia2_ HI903 NB903_898 NB903_899)) : gb908 ≠ g903)); replace HI903 := Aside0.mk (IsS87.below (ia2_ HI903 NB903_898 NB903_899) hb); clear hb hbox hg; have hnb38 := NB908_898.out; have hnc38 := NB898_908.out; have hnb39 := NB908_899.out; have hnc39 := NB899_908.out; have hnb40 := NB908_903.out; have hnc40 := NB903_908.out; obtain ⟨hcz41_0, hcz41_1, hfz41_0, hfz41_1⟩ := c2_ BK908))
   have n0_ : Aside0 (((w37.setCell ⟨gb908, 0, none⟩ (.int .i64 t904)).setCell ⟨gb908, 1, none⟩ (.int .i64 t905)).heap[gb898]? = some (.cells #[.int .i64 0, .int .i64 0] 25 (0, 0))) := ⟨by (with_reducible repeat (first | refine blk_drewN ?_ _ | refine blk_drew ?_ | refine blk_alloc ?_ _)); refine blk_far ?_ NB898_908.out _; (with_reducible repeat (first | refine blk_drewN ?_ _ | refine blk_drew ?_ | refine blk_alloc ?_ _)); refine blk_far ?_ NB898_908.out _; (with_reducible repeat (first | refine blk_drewN ?_ _ | refine blk_drew ?_ | refine blk_alloc ?_ _)); exact BK898.out⟩
   have n1_ : Aside0 (((w37.setCell ⟨gb908, 0, none⟩ (.int .i64 t904)).setCell ⟨gb908, 1, none⟩ (.int .i64 t905)).heap[gb899]? = some (.cells #[.int .i64 0, .int .i64 0] 25 (0, 0))) := ⟨by (with_reducible repeat (first | refine blk_drewN ?_ _ | refine blk_drew ?_ | refine blk_alloc ?_ _)); refine blk_far ?_ NB899_908.out _; (with_reducible repeat (first | refine blk_drewN ?_ _ | refine blk_drew ?_ | refine blk_alloc ?_ _)); refine blk_far ?_ NB899_908.out _; (with_reducible repeat (first | refine blk_drewN ?_ _ | refine blk_drew ?_ | refine blk_alloc ?_ _)); exact BK899.out⟩
   have n2_ : Aside0 (((w37.setCell ⟨gb908, 0, none⟩ (.int .i64 t904)).setCell ⟨gb908, 1, none⟩ (.int .i64 t905)).heap[gb908]? = some (.cells #[.int .i64 t904, .int .i64 t905] 25 (0, 0))) := ⟨by (with_reducible repeat (first | refine blk_drewN ?_ _ | refine blk_drew ?_ | refine blk_alloc ?_ _)); refine blk_put (cs := #[.int .i64 t904, .int .i64 0]) ?_ 1 _ rfl; (with_reducible repeat (first | refine blk_drewN ?_ _ | refine blk_drew ?_ | refine blk_alloc ?_ _)); refine blk_put (cs := #[.int .i64 0, .int .i64 0]) ?_ 0 _ rfl; (with_reducible repeat (first | refine blk_drewN ?_ _ | refine blk_drew ?_ | refine blk_alloc ?_ _)); exact BK908.out⟩
   have n3_ : Aside0 (IsS87 w ((w37.setCell ⟨gb908, 0, none⟩ (.int .i64 t904)).setCell ⟨gb908, 1, none⟩ (.int .i64 t905)) g903 t900 t906 t907) := ⟨by repeat (first | (with_reducible first | exact HI903.out | apply IsS87.alloc | apply IsS87.drewN | apply IsS87.drew | apply IsS87.set_1 | apply IsS87.set_2 | refine IsS87.far ?_ NB903_898.out _ | refine IsS87.far ?_ NB903_899.out _ | refine IsS87.far ?_ NB903_908.out _) | exact HI903.out)⟩
   have n4_ : Aside0 (Below w.heap.size w ((w37.setCell ⟨gb908, 0, none⟩ (.int .i64 t904)).setCell ⟨gb908, 1, none⟩ (.int .i64 t905))) := ⟨by repeat (first | (with_reducible first | exact HB.out | apply below_alloc | apply pw_below_drewN | apply below_drew1 | refine below_set ?_ (IsS87.ge HI903.out) | refine below_set ?_ GE898.out | refine below_set ?_ GE899.out | refine below_set ?_ GE908.out) | exact HB.out)⟩
   (try clear BK898)
   (try clear BK899)
   (try clear BK908)
   (try clear HI903)
   (try clear HB)
   generalize ((w37.setCell ⟨gb908, 0, none⟩ (.int .i64 t904)).setCell ⟨gb908, 1, none⟩ (.int .i64 t905)) = w42 at n0_ n1_ n2_ n3_ n4_ ⊢
   have BK898 := n0_
   have BK899 := n1_
   have BK908 := n2_
   have HI903 := n3_
   have HB := n4_
   clear n0_ n1_ n2_ n3_ n4_
   replace BK898 := Aside0.mk (blk_drew BK898.out)
   replace BK899 := Aside0.mk (blk_drew BK899.out)
   replace BK908 := Aside0.mk (blk_drew BK908.out)
   replace HI903 := Aside0.mk (IsS87.drew HI903.out)
   replace HB := Aside0.mk (below_drew1 HB.out)
   refine start_ (n := 10) (S := fun w' => w'.cell? ⟨gb908, 0, none⟩ = some (.int .i64 t904) ∧ w'.cell? ⟨gb908, 1, none⟩ = some (.int .i64 t905)) (ds := []) (bs 10 0) (by kernel_rfl) rfl (by kernel_rfl) ⟨(blk_cell BK908.out 0).trans rfl, (blk_cell BK908.out 1).trans rfl⟩ (fun hHeld => ?_); refine with_tabW spec_l4Pair.tab3 spec_l4Pair.bits3 (fun HT_ HW_ => ?_)
   generalize w42.drew = w43 at BK898 BK899 BK908 HI903 HB hHeld ⊢
   refine pu_ HT_ 1 14 (bs 10 2) ?_
   refine ta2_ HT_ HW_ 0 13 (bs 10 3) hHeld ?_
   refine join_ (σ := Nat) 2 (bs 10 255) (fun s_ => [(15, .int .i64 t909), (16, .tuple #[.agg #[.int .i64 t912, .int .i64 t913], .bool true]), (6, .pointer (some ⟨s_, 0, none⟩)), (12, .tuple #[.agg #[.int .i64 t912, .int .i64 t913], .bool true]), (17, .agg #[.int .i64 t912, .int .i64 t913]), (18, .bool true)]) (fun s_ w' => (w'.cell? ⟨gb908, 0, none⟩ = some (.int .i64 t904) ∧ w'.cell? ⟨gb908, 1, none⟩ = some (.int .i64 t905)) ∧ (w'.heap[gb898]? = some (.cells #[.int .i64 0, .int .i64 0] 25 (0, 0))) ∧ (w'.heap[gb899]? = some (.cells #[.int .i64 0, .int .i64 0] 25 (0, 0))) ∧ (w'.heap[gb908]? = some (.cells #[.int .i64 t904, .int .i64 t905] 25 (0, 0))) ∧ (w'.heap[s_]? = some (.cells #[.int .i64 0, .int .i64 0] 25 (0, 0))) ∧ (w.heap.size ≤ s_) ∧ (w.heap.size ≤ s_) ∧ (g903 ≠ s_) ∧ (s_ ≠ g903) ∧ (gb898 ≠ s_) ∧ (s_ ≠ gb898) ∧ (gb899 ≠ s_) ∧ (s_ ≠ gb899) ∧ (gb908 ≠ s_) ∧ (s_ ≠ gb908) ∧ (IsS87 w w' g903 t900 t910 t911) ∧ (Below w.heap.size w w')) ?_ ?_
   rotate_left
   ·intro hCont
    refine two_ (i := 2) (j := 7) (Ni := some 15) (Nj := some 6) (bs 10 7) (bs 10 131) rfl rfl rfl rfl (two_of HT_.out (by kernel_rfl)) (by decide) (by decide) (fun K hK => ?_) (fun K hK => ?_)
    ·skip
     refine goes_ Try.func56 (by kernel_rfl) rfl #[.pointer (some ⟨g903, 0, none⟩), .int .i64 5] (by rfl) rfl rfl mp_ ?_
     with_reducible refine (spec_l1Below.calls g903 t900 t906 t907 5 t909 t910 t911 w _ ?side1 ?side2 A4.out).mono ?_
     (case side1 => repeat (first | (with_reducible first | exact HI903.out | apply IsS87.alloc | apply IsS87.drewN | apply IsS87.drew | apply IsS87.set_1 | apply IsS87.set_2 | refine IsS87.far ?_ NB903_898.out _ | refine IsS87.far ?_ NB903_899.out _ | refine IsS87.far ?_ NB903_908.out _) | exact HI903.out))
     (case side2 => repeat (first | (with_reducible first | exact HB.out | apply below_alloc | apply pw_below_drewN | apply below_drew1 | refine below_set ?_ (IsS87.ge HI903.out) | refine below_set ?_ GE898.out | refine below_set ?_ GE899.out | refine below_set ?_ GE908.out) | exact HB.out))
     rintro e w44 ⟨rfl, hi, hb, hk⟩
     refine ⟨_, rfl, ?_⟩
     replace BK898 := Aside0.mk (KeepBut.blk hk (g' := gb898) (o := .cells #[.int .i64 0, .int .i64 0] 25 (0, 0)) (kv_ BK898) NB898_903.out (by simp))
     replace BK899 := Aside0.mk (KeepBut.blk hk (g' := gb899) (o := .cells #[.int .i64 0, .int .i64 0] 25 (0, 0)) (kv_ BK899) NB899_903.out (by simp))
     replace BK908 := Aside0.mk (KeepBut.blk hk (g' := gb908) (o := .cells #[.int .i64 t904, .int .i64 t905] 25 (0, 0)) (kv_ BK908) NB908_903.out (by simp))
     replace HB := Aside0.mk (hb)
     replace HI903 := Aside0.mk (hi)
     (try clear hb)
     (try clear hb2)
     (try clear hk)
     (try clear hi)
     refine hK.out _ _ ⟨(blk_cell BK908.out 0).trans rfl, (blk_cell BK908.out 1).trans rfl⟩ (fun hHeld => ?_)
     clear hK K
     refine no_ 15 ?_
     refine two_ (i := 3) (j := 7) (Ni := some 16) (Nj := some 6) (bs 10 15) (bs 10 135) rfl rfl rfl rfl (two_of HT_.out (by kernel_rfl)) (by decide) (by decide) (fun K hK => ?_) (fun K hK => ?_)
     ·skip
      refine goes_ Try.func19 (by kernel_rfl) rfl #[.agg #[.int .i64 t904, .int .i64 t905], .int .i64 t909] (by rfl) rfl rfl mp_ ?_
      with_reducible refine (spec_ShiftTable.calls k t904 t905 t909 t912 t913 true _ A5.out).mono ?_
      rintro e w45 ⟨rfl, hb⟩
      refine ⟨_, rfl, ?_⟩
      replace BK898 := kb_ BK898 hb
      replace BK899 := kb_ BK899 hb
      replace BK908 := kb_ BK908 hb
      replace HB := Aside0.mk (below_step (by repeat (first | (with_reducible first | exact HB.out | apply below_alloc | apply pw_below_drewN | apply below_drew1 | refine below_set ?_ (IsS87.ge HI903.out) | refine below_set ?_ GE898.out | refine below_set ?_ GE899.out | refine below_set ?_ GE908.out) | exact HB.out)) hb)
      replace HI903 := Aside0.mk (IsS87.below (by repeat (first | (with_reducible first | exact HI903.out | apply IsS87.alloc | apply IsS87.drewN | apply IsS87.drew | apply IsS87.set_1 | apply IsS87.set_2 | refine IsS87.far ?_ NB903_898.out _ | refine IsS87.far ?_ NB903_899.out _ | refine IsS87.far ?_ NB903_908.out _) | exact HI903.out)) hb)
      (try clear hb)
      (try clear hb2)
      (try clear hk)
      (try clear hi)
      refine hK.out _ _ ⟨(blk_cell BK908.out 0).trans rfl, (blk_cell BK908.out 1).trans rfl⟩ (fun hHeld => ?_)
      clear hK K
      refine no_ 16 ?_
      refine pu_ HT_ 4 12 (bs 10 31) ?_
      refine pu_ HT_ 5 17 (bs 10 63) ?_
      refine pu_ HT_ 6 18 (bs 10 127) ?_
      refine on_ HT_ 7 6 (bs 10 255) (fun K hK => ?_)
      refine box_step ?hg (N := 6) ?hd (cs := #[.int .i64 0, .int .i64 0]) (t := 25) ?hr ?_; (case hd => rfl); (case hg => rfl); (case hr => first | (go_simp; done) | (go_simp; rfl))
      intro gb915 hg w46 hbox hb
      have BK915 := Aside0.mk (hbox)
      have GW915 := Aside0.mk ((by rw [hg]; exact (below_size (by repeat (first | (with_reducible first | exact HB.out | apply below_alloc | apply pw_below_drewN | apply below_drew1 | refine below_set ?_ (IsS87.ge HI903.out) | refine below_set ?_ GE898.out | refine below_set ?_ GE899.out | refine below_set ?_ GE908.out) | exact HB.out))) : w.heap.size ≤ gb915))
      have GE915 := GW915
      replace HB := Aside0.mk (below_step (by repeat (first | (with_reducible first | exact HB.out | apply below_alloc | apply pw_below_drewN | apply below_drew1 | refine below_set ?_ (IsS87.ge HI903.out) | refine below_set ?_ GE898.out | refine below_set ?_ GE899.out | refine below_set ?_ GE908.out) | exact HB.out)) hb)
      have NB898_915 := nb_ hg (blk_lt (g := gb898) (o := .cells #[.int .i64 0, .int .i64 0] 25 (0, 0)) (kv_ BK898))
      have NB915_898 := nc_ hg (blk_lt (g := gb898) (o := .cells #[.int .i64 0, .int .i64 0] 25 (0, 0)) (kv_ BK898))
      replace BK898 := kb_ BK898 hb
      have NB899_915 := nb_ hg (blk_lt (g := gb899) (o := .cells #[.int .i64 0, .int .i64 0] 25 (0, 0)) (kv_ BK899))
      have NB915_899 := nc_ hg (blk_lt (g := gb899) (o := .cells #[.int .i64 0, .int .i64 0] 25 (0, 0)) (kv_ BK899))
      replace BK899 := kb_ BK899 hb
      have NB908_915 := nb_ hg (blk_lt (g := gb908) (o := .cells #[.int .i64 t904, .int .i64 t905] 25 (0, 0)) (kv_ BK908))
      have NB915_908 := nc_ hg (blk_lt (g := gb908) (o := .cells #[.int .i64 t904, .int .i64 t905] 25 (0, 0)) (kv_ BK908))
      replace BK908 := kb_ BK908 hb
      have NB903_915 := Aside0.mk ((by rw [hg]; exact Nat.ne_of_lt (IsS87.lt (show IsS87 w _ g903 t900 t910 t911 from by repeat (first | (with_reducible first | exact HI903.out | apply IsS87.alloc | apply IsS87.drewN | apply IsS87.drew | apply IsS87.set_1 | apply IsS87.set_2 | refine IsS87.far ?_ NB903_898.out _ | refine IsS87.far ?_ NB903_899.out _ | refine IsS87.far ?_ NB903_908.out _) | exact HI903.out))) : g903 ≠ gb915))
      have NB915_903 := Aside0.mk ((by rw [hg]; exact Nat.ne_of_gt (IsS87.lt (show IsS87 w _ g903 t900 t910 t911 from by repeat (first | (with_reducible first | exact HI903.out | apply IsS87.alloc | apply IsS87.drewN | apply IsS87.drew | apply IsS87.set_1 | apply IsS87.set_2 | refine IsS87.far ?_ NB903_898.out _ | refine IsS87.far ?_ NB903_899.out _ | refine IsS87.far ?_ NB903_908.out _) | exact HI903.out))) : gb915 ≠ g903))
      replace HI903 := Aside0.mk (IsS87.below (by repeat (first | (with_reducible first | exact HI903.out | apply IsS87.alloc | apply IsS87.drewN | apply IsS87.drew | apply IsS87.set_1 | apply IsS87.set_2 | refine IsS87.far ?_ NB903_898.out _ | refine IsS87.far ?_ NB903_899.out _ | refine IsS87.far ?_ NB903_908.out _) | exact HI903.out)) hb)
      clear hb hbox hg
      refine hK.out _ _ ⟨(blk_cell BK908.out 0).trans rfl, (blk_cell BK908.out 1).trans rfl⟩ (fun hHeld => ?_)
      clear hK K
      refine no_ 6 ?_
      exact norm_ (by simp only [putAll, Act.put, List.setIfInBounds_toArray, List.set_cons_zero, List.set_cons_succ]) (hCont (gb915) _ ⟨hHeld, (kv_ BK898), (kv_ BK899), (kv_ BK908), (kv_ BK915), GW915.out, GE915.out, NB903_915.out, NB915_903.out, NB898_915.out, NB915_898.out, NB899_915.out, NB915_899.out, NB908_915.out, NB915_908.out, (by repeat (first | (with_reducible first | exact HI903.out | apply IsS87.alloc | apply IsS87.drewN | apply IsS87.drew | apply IsS87.set_1 | apply IsS87.set_2 | refine IsS87.far ?_ NB903_898.out _ | refine IsS87.far ?_ NB903_899.out _ | refine IsS87.far ?_ NB903_908.out _ | refine IsS87.far ?_ NB903_915.out _) | exact HI903.out)), (by repeat (first | (with_reducible first | exact HB.out | apply below_alloc | apply pw_below_drewN | apply below_drew1 | refine below_set ?_ (IsS87.ge HI903.out) | refine below_set ?_ GE898.out | refine below_set ?_ GE899.out | refine below_set ?_ GE908.out | refine below_set ?_ GE915.out) | exact HB.out))⟩)
     ·skip
      refine box_step ?hg (N := 6) ?hd (cs := #[.int .i64 0, .int .i64 0]) (t := 25) ?hr ?_; (case hd => rfl); (case hg => rfl); (case hr => first | (go_simp; done) | (go_simp; rfl))
      intro gb915 hg w45 hbox hb
      have BK915 := Aside0.mk (hbox)
      have GW915 := Aside0.mk ((by rw [hg]; exact (below_size (by repeat (first | (with_reducible first | exact HB.out | apply below_alloc | apply pw_below_drewN | apply below_drew1 | refine below_set ?_ (IsS87.ge HI903.out) | refine below_set ?_ GE898.out | refine below_set ?_ GE899.out | refine below_set ?_ GE908.out) | exact HB.out))) : w.heap.size ≤ gb915))
      have GE915 := GW915
      replace HB := Aside0.mk (below_step (by repeat (first | (with_reducible first | exact HB.out | apply below_alloc | apply pw_below_drewN | apply below_drew1 | refine below_set ?_ (IsS87.ge HI903.out) | refine below_set ?_ GE898.out | refine below_set ?_ GE899.out | refine below_set ?_ GE908.out) | exact HB.out)) hb)
      have NB898_915 := nb_ hg (blk_lt (g := gb898) (o := .cells #[.int .i64 0, .int .i64 0] 25 (0, 0)) (kv_ BK898))
      have NB915_898 := nc_ hg (blk_lt (g := gb898) (o := .cells #[.int .i64 0, .int .i64 0] 25 (0, 0)) (kv_ BK898))
      replace BK898 := kb_ BK898 hb
      have NB899_915 := nb_ hg (blk_lt (g := gb899) (o := .cells #[.int .i64 0, .int .i64 0] 25 (0, 0)) (kv_ BK899))
      have NB915_899 := nc_ hg (blk_lt (g := gb899) (o := .cells #[.int .i64 0, .int .i64 0] 25 (0, 0)) (kv_ BK899))
      replace BK899 := kb_ BK899 hb
      have NB908_915 := nb_ hg (blk_lt (g := gb908) (o := .cells #[.int .i64 t904, .int .i64 t905] 25 (0, 0)) (kv_ BK908))
      have NB915_908 := nc_ hg (blk_lt (g := gb908) (o := .cells #[.int .i64 t904, .int .i64 t905] 25 (0, 0)) (kv_ BK908))
      replace BK908 := kb_ BK908 hb
      have NB903_915 := Aside0.mk ((by rw [hg]; exact Nat.ne_of_lt (IsS87.lt (show IsS87 w _ g903 t900 t910 t911 from by repeat (first | (with_reducible first | exact HI903.out | apply IsS87.alloc | apply IsS87.drewN | apply IsS87.drew | apply IsS87.set_1 | apply IsS87.set_2 | refine IsS87.far ?_ NB903_898.out _ | refine IsS87.far ?_ NB903_899.out _ | refine IsS87.far ?_ NB903_908.out _) | exact HI903.out))) : g903 ≠ gb915))
      have NB915_903 := Aside0.mk ((by rw [hg]; exact Nat.ne_of_gt (IsS87.lt (show IsS87 w _ g903 t900 t910 t911 from by repeat (first | (with_reducible first | exact HI903.out | apply IsS87.alloc | apply IsS87.drewN | apply IsS87.drew | apply IsS87.set_1 | apply IsS87.set_2 | refine IsS87.far ?_ NB903_898.out _ | refine IsS87.far ?_ NB903_899.out _ | refine IsS87.far ?_ NB903_908.out _) | exact HI903.out))) : gb915 ≠ g903))
      replace HI903 := Aside0.mk (IsS87.below (by repeat (first | (with_reducible first | exact HI903.out | apply IsS87.alloc | apply IsS87.drewN | apply IsS87.drew | apply IsS87.set_1 | apply IsS87.set_2 | refine IsS87.far ?_ NB903_898.out _ | refine IsS87.far ?_ NB903_899.out _ | refine IsS87.far ?_ NB903_908.out _) | exact HI903.out)) hb)
      clear hb hbox hg
      refine hK.out _ _ ⟨(blk_cell BK908.out 0).trans rfl, (blk_cell BK908.out 1).trans rfl⟩ (fun hHeld => ?_)
      clear hK K
      refine no_ 6 ?_
      refine on_ HT_ 3 16 (bs 10 143) (fun K hK => ?_)
      refine goes_ Try.func19 (by kernel_rfl) rfl #[.agg #[.int .i64 t904, .int .i64 t905], .int .i64 t909] (by rfl) rfl rfl mp_ ?_
      with_reducible refine (spec_ShiftTable.calls k t904 t905 t909 t912 t913 true _ A5.out).mono ?_
      rintro e w46 ⟨rfl, hb⟩
      refine ⟨_, rfl, ?_⟩
      replace BK898 := kb_ BK898 hb
      replace BK899 := kb_ BK899 hb
      replace BK908 := kb_ BK908 hb
      replace BK915 := kb_ BK915 hb
      replace HB := Aside0.mk (below_step (by repeat (first | (with_reducible first | exact HB.out | apply below_alloc | apply pw_below_drewN | apply below_drew1 | refine below_set ?_ (IsS87.ge HI903.out) | refine below_set ?_ GE898.out | refine below_set ?_ GE899.out | refine below_set ?_ GE908.out | refine below_set ?_ GE915.out) | exact HB.out)) hb)
      replace HI903 := Aside0.mk (IsS87.below (by repeat (first | (with_reducible first | exact HI903.out | apply IsS87.alloc | apply IsS87.drewN | apply IsS87.drew | apply IsS87.set_1 | apply IsS87.set_2 | refine IsS87.far ?_ NB903_898.out _ | refine IsS87.far ?_ NB903_899.out _ | refine IsS87.far ?_ NB903_908.out _ | refine IsS87.far ?_ NB903_915.out _) | exact HI903.out)) hb)
      (try clear hb)
      (try clear hb2)
      (try clear hk)
      (try clear hi)
      refine hK.out _ _ ⟨(blk_cell BK908.out 0).trans rfl, (blk_cell BK908.out 1).trans rfl⟩ (fun hHeld => ?_)
      clear hK K
      refine no_ 16 ?_
      refine pu_ HT_ 4 12 (bs 10 159) ?_
      refine pu_ HT_ 5 17 (bs 10 191) ?_
      refine pu_ HT_ 6 18 (bs 10 255) ?_
      exact norm_ (by simp only [putAll, Act.put, List.setIfInBounds_toArray, List.set_cons_zero, List.set_cons_succ]) (hCont (gb915) _ ⟨hHeld, (kv_ BK898), (kv_ BK899), (kv_ BK908), (kv_ BK915), GW915.out, GE915.out, NB903_915.out, NB915_903.out, NB898_915.out, NB915_898.out, NB899_915.out, NB915_899.out, NB908_915.out, NB915_908.out, (by repeat (first | (with_reducible first | exact HI903.out | apply IsS87.alloc | apply IsS87.drewN | apply IsS87.drew | apply IsS87.set_1 | apply IsS87.set_2 | refine IsS87.far ?_ NB903_898.out _ | refine IsS87.far ?_ NB903_899.out _ | refine IsS87.far ?_ NB903_908.out _ | refine IsS87.far ?_ NB903_915.out _) | exact HI903.out)), (by repeat (first | (with_reducible first | exact HB.out | apply below_alloc | apply pw_below_drewN | apply below_drew1 | refine below_set ?_ (IsS87.ge HI903.out) | refine below_set ?_ GE898.out | refine below_set ?_ GE899.out | refine below_set ?_ GE908.out | refine below_set ?_ GE915.out) | exact HB.out))⟩)
    ·skip
     refine box_step ?hg (N := 6) ?hd (cs := #[.int .i64 0, .int .i64 0]) (t := 25) ?hr ?_; (case hd => rfl); (case hg => rfl); (case hr => first | (go_simp; done) | (go_simp; rfl))
     intro gb915 hg w44 hbox hb
     have BK915 := Aside0.mk (hbox)
     have GW915 := Aside0.mk ((by rw [hg]; exact (below_size (by repeat (first | (with_reducible first | exact HB.out | apply below_alloc | apply pw_below_drewN | apply below_drew1 | refine below_set ?_ (IsS87.ge HI903.out) | refine below_set ?_ GE898.out | refine below_set ?_ GE899.out | refine below_set ?_ GE908.out) | exact HB.out))) : w.heap.size ≤ gb915))
     have GE915 := GW915
     replace HB := Aside0.mk (below_step (by repeat (first | (with_reducible first | exact HB.out | apply below_alloc | apply pw_below_drewN | apply below_drew1 | refine below_set ?_ (IsS87.ge HI903.out) | refine below_set ?_ GE898.out | refine below_set ?_ GE899.out | refine below_set ?_ GE908.out) | exact HB.out)) hb)
     have NB898_915 := nb_ hg (blk_lt (g := gb898) (o := .cells #[.int .i64 0, .int .i64 0] 25 (0, 0)) (kv_ BK898))
     have NB915_898 := nc_ hg (blk_lt (g := gb898) (o := .cells #[.int .i64 0, .int .i64 0] 25 (0, 0)) (kv_ BK898))
     replace BK898 := kb_ BK898 hb
     have NB899_915 := nb_ hg (blk_lt (g := gb899) (o := .cells #[.int .i64 0, .int .i64 0] 25 (0, 0)) (kv_ BK899))
     have NB915_899 := nc_ hg (blk_lt (g := gb899) (o := .cells #[.int .i64 0, .int .i64 0] 25 (0, 0)) (kv_ BK899))
     replace BK899 := kb_ BK899 hb
     have NB908_915 := nb_ hg (blk_lt (g := gb908) (o := .cells #[.int .i64 t904, .int .i64 t905] 25 (0, 0)) (kv_ BK908))
     have NB915_908 := nc_ hg (blk_lt (g := gb908) (o := .cells #[.int .i64 t904, .int .i64 t905] 25 (0, 0)) (kv_ BK908))
     replace BK908 := kb_ BK908 hb
     have NB903_915 := Aside0.mk ((by rw [hg]; exact Nat.ne_of_lt (IsS87.lt (show IsS87 w _ g903 t900 t906 t907 from by repeat (first | (with_reducible first | exact HI903.out | apply IsS87.alloc | apply IsS87.drewN | apply IsS87.drew | apply IsS87.set_1 | apply IsS87.set_2 | refine IsS87.far ?_ NB903_898.out _ | refine IsS87.far ?_ NB903_899.out _ | refine IsS87.far ?_ NB903_908.out _) | exact HI903.out))) : g903 ≠ gb915))
     have NB915_903 := Aside0.mk ((by rw [hg]; exact Nat.ne_of_gt (IsS87.lt (show IsS87 w _ g903 t900 t906 t907 from by repeat (first | (with_reducible first | exact HI903.out | apply IsS87.alloc | apply IsS87.drewN | apply IsS87.drew | apply IsS87.set_1 | apply IsS87.set_2 | refine IsS87.far ?_ NB903_898.out _ | refine IsS87.far ?_ NB903_899.out _ | refine IsS87.far ?_ NB903_908.out _) | exact HI903.out))) : gb915 ≠ g903))
     replace HI903 := Aside0.mk (IsS87.below (by repeat (first | (with_reducible first | exact HI903.out | apply IsS87.alloc | apply IsS87.drewN | apply IsS87.drew | apply IsS87.set_1 | apply IsS87.set_2 | refine IsS87.far ?_ NB903_898.out _ | refine IsS87.far ?_ NB903_899.out _ | refine IsS87.far ?_ NB903_908.out _) | exact HI903.out)) hb)
     clear hb hbox hg
     refine hK.out _ _ ⟨(blk_cell BK908.out 0).trans rfl, (blk_cell BK908.out 1).trans rfl⟩ (fun hHeld => ?_)
     clear hK K
     refine no_ 6 ?_
     refine on_ HT_ 2 15 (bs 10 135) (fun K hK => ?_)
     refine goes_ Try.func56 (by kernel_rfl) rfl #[.pointer (some ⟨g903, 0, none⟩), .int .i64 5] (by rfl) rfl rfl mp_ ?_
     with_reducible refine (spec_l1Below.calls g903 t900 t906 t907 5 t909 t910 t911 w _ ?side1 ?side2 A4.out).mono ?_
     (case side1 => repeat (first | (with_reducible first | exact HI903.out | apply IsS87.alloc | apply IsS87.drewN | apply IsS87.drew | apply IsS87.set_1 | apply IsS87.set_2 | refine IsS87.far ?_ NB903_898.out _ | refine IsS87.far ?_ NB903_899.out _ | refine IsS87.far ?_ NB903_908.out _ | refine IsS87.far ?_ NB903_915.out _) | exact HI903.out))
     (case side2 => repeat (first | (with_reducible first | exact HB.out | apply below_alloc | apply pw_below_drewN | apply below_drew1 | refine below_set ?_ (IsS87.ge HI903.out) | refine below_set ?_ GE898.out | refine below_set ?_ GE899.out | refine below_set ?_ GE908.out | refine below_set ?_ GE915.out) | exact HB.out))
     rintro e w45 ⟨rfl, hi, hb, hk⟩
     refine ⟨_, rfl, ?_⟩
     replace BK898 := Aside0.mk (KeepBut.blk hk (g' := gb898) (o := .cells #[.int .i64 0, .int .i64 0] 25 (0, 0)) (kv_ BK898) NB898_903.out (by simp))
     replace BK899 := Aside0.mk (KeepBut.blk hk (g' := gb899) (o := .cells #[.int .i64 0, .int .i64 0] 25 (0, 0)) (kv_ BK899) NB899_903.out (by simp))
     replace BK908 := Aside0.mk (KeepBut.blk hk (g' := gb908) (o := .cells #[.int .i64 t904, .int .i64 t905] 25 (0, 0)) (kv_ BK908) NB908_903.out (by simp))
     replace BK915 := Aside0.mk (KeepBut.blk hk (g' := gb915) (o := .cells #[.int .i64 0, .int .i64 0] 25 (0, 0)) (kv_ BK915) NB915_903.out (by simp))
     replace HB := Aside0.mk (hb)
     replace HI903 := Aside0.mk (hi)
     (try clear hb)
     (try clear hb2)
     (try clear hk)
     (try clear hi)
     refine hK.out _ _ ⟨(blk_cell BK908.out 0).trans rfl, (blk_cell BK908.out 1).trans rfl⟩ (fun hHeld => ?_)
     clear hK K
     refine no_ 15 ?_
     refine on_ HT_ 3 16 (bs 10 143) (fun K hK => ?_)
     refine goes_ Try.func19 (by kernel_rfl) rfl #[.agg #[.int .i64 t904, .int .i64 t905], .int .i64 t909] (by rfl) rfl rfl mp_ ?_
     with_reducible refine (spec_ShiftTable.calls k t904 t905 t909 t912 t913 true _ A5.out).mono ?_
     rintro e w46 ⟨rfl, hb⟩
     refine ⟨_, rfl, ?_⟩
     replace BK898 := kb_ BK898 hb
     replace BK899 := kb_ BK899 hb
     replace BK908 := kb_ BK908 hb
     replace BK915 := kb_ BK915 hb
     replace HB := Aside0.mk (below_step (by repeat (first | (with_reducible first | exact HB.out | apply below_alloc | apply pw_below_drewN | apply below_drew1 | refine below_set ?_ (IsS87.ge HI903.out) | refine below_set ?_ GE898.out | refine below_set ?_ GE899.out | refine below_set ?_ GE908.out | refine below_set ?_ GE915.out) | exact HB.out)) hb)
     replace HI903 := Aside0.mk (IsS87.below (by repeat (first | (with_reducible first | exact HI903.out | apply IsS87.alloc | apply IsS87.drewN | apply IsS87.drew | apply IsS87.set_1 | apply IsS87.set_2 | refine IsS87.far ?_ NB903_898.out _ | refine IsS87.far ?_ NB903_899.out _ | refine IsS87.far ?_ NB903_908.out _ | refine IsS87.far ?_ NB903_915.out _) | exact HI903.out)) hb)
     (try clear hb)
     (try clear hb2)
     (try clear hk)
     (try clear hi)
     refine hK.out _ _ ⟨(blk_cell BK908.out 0).trans rfl, (blk_cell BK908.out 1).trans rfl⟩ (fun hHeld => ?_)
     clear hK K
     refine no_ 16 ?_
     refine pu_ HT_ 4 12 (bs 10 159) ?_
     refine pu_ HT_ 5 17 (bs 10 191) ?_
     refine pu_ HT_ 6 18 (bs 10 255) ?_
     exact norm_ (by simp only [putAll, Act.put, List.setIfInBounds_toArray, List.set_cons_zero, List.set_cons_succ]) (hCont (gb915) _ ⟨hHeld, (kv_ BK898), (kv_ BK899), (kv_ BK908), (kv_ BK915), GW915.out, GE915.out, NB903_915.out, NB915_903.out, NB898_915.out, NB915_898.out, NB899_915.out, NB915_899.out, NB908_915.out, NB915_908.out, (by repeat (first | (with_reducible first | exact HI903.out | apply IsS87.alloc | apply IsS87.drewN | apply IsS87.drew | apply IsS87.set_1 | apply IsS87.set_2 | refine IsS87.far ?_ NB903_898.out _ | refine IsS87.far ?_ NB903_899.out _ | refine IsS87.far ?_ NB903_908.out _ | refine IsS87.far ?_ NB903_915.out _) | exact HI903.out)), (by repeat (first | (with_reducible first | exact HB.out | apply below_alloc | apply pw_below_drewN | apply below_drew1 | refine below_set ?_ (IsS87.ge HI903.out) | refine below_set ?_ GE898.out | refine below_set ?_ GE899.out | refine below_set ?_ GE908.out | refine below_set ?_ GE915.out) | exact HB.out))⟩)
   rintro gb915 w47 ⟨hS_, h0_, h1_, h2_, h3_, h4_, h5_, h6_, h7_, h8_, h9_, h10_, h11_, h12_, h13_, h14_, h15_⟩
   have n0_ : Aside0 (w47.heap[gb898]? = some (.cells #[.int .i64 0, .int .i64 0] 25 (0, 0))) := ⟨h0_⟩
   have n1_ : Aside0 (w47.heap[gb899]? = some (.cells #[.int .i64 0, .int .i64 0] 25 (0, 0))) := ⟨h1_⟩
   have n2_ : Aside0 (w47.heap[gb908]? = some (.cells #[.int .i64 t904, .int .i64 t905] 25 (0, 0))) := ⟨h2_⟩
   have n3_ : Aside0 (w47.heap[gb915]? = some (.cells #[.int .i64 0, .int .i64 0] 25 (0, 0))) := ⟨h3_⟩
   have n4_ : Aside0 (w.heap.size ≤ gb915) := ⟨h4_⟩
   have n5_ : Aside0 (w.heap.size ≤ gb915) := ⟨h5_⟩
   have n6_ : Aside0 (g903 ≠ gb915) := ⟨h6_⟩
   have n7_ : Aside0 (gb915 ≠ g903) := ⟨h7_⟩
   have n8_ : Aside0 (gb898 ≠ gb915) := ⟨h8_⟩
   have n9_ : Aside0 (gb915 ≠ gb898) := ⟨h9_⟩
   have n10_ : Aside0 (gb899 ≠ gb915) := ⟨h10_⟩
   have n11_ : Aside0 (gb915 ≠ gb899) := ⟨h11_⟩
   have n12_ : Aside0 (gb908 ≠ gb915) := ⟨h12_⟩
   have n13_ : Aside0 (gb915 ≠ gb908) := ⟨h13_⟩
   have n14_ : Aside0 (IsS87 w w47 g903 t900 t910 t911) := ⟨h14_⟩
   have n15_ : Aside0 (Below w.heap.size w w47) := ⟨h15_⟩
   clear BK898
   clear BK899
   clear BK908
   clear HI903
   clear HB
   clear h0_ h1_ h2_ h3_ h4_ h5_ h6_ h7_ h8_ h9_ h10_ h11_ h12_ h13_ h14_ h15_
   have BK898 := n0_
   have BK899 := n1_
   have BK908 := n2_
   have BK915 := n3_
   have GW915 := n4_
   have GE915 := n5_
   have NB903_915 := n6_
   have NB915_903 := n7_
   have NB898_915 := n8_
   have NB915_898 := n9_
   have NB899_915 := n10_
   have NB915_899 := n11_
   have NB908_915 := n12_
   have NB915_908 := n13_
   have HI903 := n14_
   have HB := n15_
   clear n0_ n1_ n2_ n3_ n4_ n5_ n6_ n7_ n8_ n9_ n10_ n11_ n12_ n13_ n14_ n15_
   have hHeld : w47.cell? ⟨gb908, 0, none⟩ = some (.int .i64 t904) ∧ w47.cell? ⟨gb908, 1, none⟩ = some (.int .i64 t905) := hS_
   refine norm_ (a' := ?_) ?_ ?_
   rotate_left
   ·simp only [putAll, Act.put, List.setIfInBounds_toArray, List.set_cons_zero, List.set_cons_succ]
    rfl
   refine one_ (i := 8) (N := none) (bs 10 511) rfl rfl (one_of HT_.out (by kernel_rfl)) (by decide) (fun K hK => ?_)
   have hs48 : w47.cell? ⟨gb915, 0, none⟩ = some (.int .i64 0) := (blk_cell BK915.out 0).trans rfl
   have hfs48 := blk_frozen BK915.out 0
   have hns48_0 := NB898_915.out
   have hns48_1 := NB899_915.out
   have hns48_2 := NB908_915.out
   have hms48_0 := NB915_898.out
   have hms48_1 := NB915_899.out
   have hms48_2 := NB915_908.out
   have hs49 : w47.cell? ⟨gb915, 1, none⟩ = some (.int .i64 0) := (blk_cell BK915.out 1).trans rfl
   have hfs49 := blk_frozen BK915.out 1
   have hns49_0 := NB898_915.out
   have hns49_1 := NB899_915.out
   have hns49_2 := NB908_915.out
   have hms49_0 := NB915_898.out
   have hms49_1 := NB915_899.out
   have hms49_2 := NB915_908.out
   refine skip_ (w1 := ?_) (by rfl) rfl ?_ ?_
   rotate_left
   ·go_simp
    rfl
   refine hK.out _ _ ⟨((cell_far (p := ⟨gb915, _, none⟩) NB908_915.out _).trans (((cell_far (p := ⟨gb915, _, none⟩) NB908_915.out _).trans (hHeld.1)))), ((cell_far (p := ⟨gb915, _, none⟩) NB908_915.out _).trans (((cell_far (p := ⟨gb915, _, none⟩) NB908_915.out _).trans (hHeld.2))))⟩ (fun hHeld => ?_)
   clear hK K
   refine pu_ HT_ 9 7 (bs 10 1023) ?_
   refine done_ (done_of HT_.out (by kernel_rfl)) ?_
   try go_wp2_with (first | (go_at_call 77; (with_reducible refine (spec_l1Once.calls g903 t900 t910 t911 2 false t917 t918 w _ ?side1 ?side2 A7.out).mono ?_); (case side1 => repeat (first | (with_reducible first | exact HI903.out | apply IsS87.alloc | apply IsS87.drewN | apply IsS87.drew | apply IsS87.set_1 | apply IsS87.set_2 | refine IsS87.far ?_ NB903_898.out _ | refine IsS87.far ?_ NB903_899.out _ | refine IsS87.far ?_ NB903_908.out _ | refine IsS87.far ?_ NB903_915.out _) | exact HI903.out)); (case side2 => repeat (first | (with_reducible first | exact HB.out | apply below_alloc | apply pw_below_drewN | apply below_drew1 | refine below_set ?_ (IsS87.ge HI903.out) | refine below_set ?_ GE898.out | refine below_set ?_ GE899.out | refine below_set ?_ GE908.out | refine below_set ?_ GE915.out) | exact HB.out)); rintro e w50 ⟨rfl, hi, hb, hk⟩; replace BK898 := Aside0.mk (KeepBut.blk hk (g' := gb898) (o := .cells #[.int .i64 0, .int .i64 0] 25 (0, 0)) (by (with_reducible repeat (first | refine blk_drewN ?_ _ | refine blk_drew ?_ | refine blk_alloc ?_ _)); refine blk_far ?_ NB898_915.out _; (with_reducible repeat (first | refine blk_drewN ?_ _ | refine blk_drew ?_ | refine blk_alloc ?_ _)); refine blk_far ?_ NB898_915.out _; (with_reducible repeat (first | refine blk_drewN ?_ _ | refine blk_drew ?_ | refine blk_alloc ?_ _)); exact BK898.out) NB898_903.out (by simp)); replace BK899 := Aside0.mk (KeepBut.blk hk (g' := gb899) (o := .cells #[.int .i64 0, .int .i64 0] 25 (0, 0)) (by (with_reducible repeat (first | refine blk_drewN ?_ _ | refine blk_drew ?_ | refine blk_alloc ?_ _)); refine blk_far ?_ NB899_915.out _; (with_reducible repeat (first | refine blk_drewN ?_ _ | refine blk_drew ?_ | refine blk_alloc ?_ _)); refine blk_far ?_ NB899_915.out _; (with_reducible repeat (first | refine blk_drewN ?_ _ | refine blk_drew ?_ | refine blk_alloc ?_ _)); exact BK899.out) NB899_903.out (by simp)); replace BK908 := Aside0.mk (KeepBut.blk hk (g' := gb908) (o := .cells #[.int .i64 t904, .int .i64 t905] 25 (0, 0)) (by (with_reducible repeat (first | refine blk_drewN ?_ _ | refine blk_drew ?_ | refine blk_alloc ?_ _)); refine blk_far ?_ NB908_915.out _; (with_reducible repeat (first | refine blk_drewN ?_ _ | refine blk_drew ?_ | refine blk_alloc ?_ _)); refine blk_far ?_ NB908_915.out _; (with_reducible repeat (first | refine blk_drewN ?_ _ | refine blk_drew ?_ | refine blk_alloc ?_ _)); exact BK908.out) NB908_903.out (by simp)); replace BK915 := Aside0.mk (KeepBut.blk hk (g' := gb915) (o := .cells #[.int .i64 t912, .int .i64 t913] 25 (0, 0)) (by (with_reducible repeat (first | refine blk_drewN ?_ _ | refine blk_drew ?_ | refine blk_alloc ?_ _)); refine blk_put (cs := #[.int .i64 t912, .int .i64 0]) ?_ 1 _ rfl; (with_reducible repeat (first | refine blk_drewN ?_ _ | refine blk_drew ?_ | refine blk_alloc ?_ _)); refine blk_put (cs := #[.int .i64 0, .int .i64 0]) ?_ 0 _ rfl; (with_reducible repeat (first | refine blk_drewN ?_ _ | refine blk_drew ?_ | refine blk_alloc ?_ _)); exact BK915.out) NB915_903.out (by simp)); replace HB := Aside0.mk (hb); replace HI903 := Aside0.mk (hi); (try clear hb); (try clear hb2); (try clear hk); (try clear hi)))
   replace BK898 := Aside0.mk (blk_drew BK898.out)
   replace BK899 := Aside0.mk (blk_drew BK899.out)
   replace BK908 := Aside0.mk (blk_drew BK908.out)
   replace BK915 := Aside0.mk (blk_drew BK915.out)
   replace HI903 := Aside0.mk (IsS87.drew HI903.out)
   replace HB := Aside0.mk (below_drew1 HB.out)
   refine start_ (n := 5) (S := fun w' => w'.cell? ⟨gb908, 0, none⟩ = some (.int .i64 t904) ∧ w'.cell? ⟨gb908, 1, none⟩ = some (.int .i64 t905)) (ds := []) (bs 5 0) (by kernel_rfl) rfl (by kernel_rfl) ⟨(blk_cell BK908.out 0).trans rfl, (blk_cell BK908.out 1).trans rfl⟩ (fun hHeld => ?_)
   generalize w50.drew = w51 at BK898 BK899 BK908 BK915 HI903 HB hHeld ⊢
   refine pure_ (i := 1) (N := some 27) (v := ?_) (a' := ?_) (bs 5 2) rfl rfl (by kernel_rfl) (fun _ _ _ h => h) (Or.inl ⟨by rfl, ?_⟩) ?_ ?_
   rotate_left
   ·intro w'
    go_simp
    with_reducible rfl
   rotate_left
   ·simp only [Act.put, List.setIfInBounds_toArray, List.set_cons_zero, List.set_cons_succ, i64_w, i32_w]
    rfl
   refine take_ (i := 0) (N := some 26) (v := ?_) (a' := ?_) (bs 5 3) rfl rfl (by kernel_rfl) (fun _ _ _ h => h) (Or.inl ⟨by rfl, ?_⟩) hHeld ?_ ?_
   rotate_left
   ·rintro w' ⟨s0, s1⟩
    go_simp
    with_reducible rfl
   rotate_left
   ·simp only [Act.put, List.setIfInBounds_toArray, List.set_cons_zero, List.set_cons_succ, i64_w, i32_w]
    rfl
   refine one_ (i := 2) (N := some 28) (bs 5 7) rfl rfl (by kernel_rfl) (by decide) (fun K hK => ?_)
   refine goes_ Try.func39 (by kernel_rfl) rfl #[.pointer (some ⟨g903, 0, none⟩)] (by rfl) rfl rfl mp_ ?_
   with_reducible refine (spec_l2Any.calls k g903 t900 t917 t918 t919 t920 t921 t922 w _ ?side1 ?side2 A32.out).mono ?_
   (case side1 => repeat (first | (with_reducible first | exact HI903.out | apply IsS87.alloc | apply IsS87.drewN | apply IsS87.drew | apply IsS87.set_1 | apply IsS87.set_2 | refine IsS87.far ?_ NB903_898.out _ | refine IsS87.far ?_ NB903_899.out _ | refine IsS87.far ?_ NB903_908.out _ | refine IsS87.far ?_ NB903_915.out _) | exact HI903.out))
   (case side2 => repeat (first | (with_reducible first | exact HB.out | apply below_alloc | apply pw_below_drewN | apply below_drew1 | refine below_set ?_ (IsS87.ge HI903.out) | refine below_set ?_ GE898.out | refine below_set ?_ GE899.out | refine below_set ?_ GE908.out | refine below_set ?_ GE915.out) | exact HB.out))
   rintro e w52 ⟨rfl, hi, hb, hk⟩
   refine ⟨_, rfl, ?_⟩
   replace BK898 := Aside0.mk (KeepBut.blk hk (g' := gb898) (o := .cells #[.int .i64 0, .int .i64 0] 25 (0, 0)) (kv_ BK898) NB898_903.out (by simp))
   replace BK899 := Aside0.mk (KeepBut.blk hk (g' := gb899) (o := .cells #[.int .i64 0, .int .i64 0] 25 (0, 0)) (kv_ BK899) NB899_903.out (by simp))
   replace BK908 := Aside0.mk (KeepBut.blk hk (g' := gb908) (o := .cells #[.int .i64 t904, .int .i64 t905] 25 (0, 0)) (kv_ BK908) NB908_903.out (by simp))
   replace BK915 := Aside0.mk (KeepBut.blk hk (g' := gb915) (o := .cells #[.int .i64 t912, .int .i64 t913] 25 (0, 0)) (kv_ BK915) NB915_903.out (by simp))
   replace HB := Aside0.mk (hb)
   replace HI903 := Aside0.mk (hi)
   (try clear hb)
   (try clear hb2)
   (try clear hk)
   (try clear hi)
   refine hK.out _ _ ⟨(blk_cell BK908.out 0).trans rfl, (blk_cell BK908.out 1).trans rfl⟩ (fun hHeld => ?_)
   clear hK K
   refine no_ 28 ?_
   refine one_ (i := 3) (N := none) (bs 5 15) rfl rfl (by kernel_rfl) (by decide) (fun K hK => ?_)
   have hs53 : w52.cell? ⟨gb898, 0, none⟩ = some (.int .i64 0) := (blk_cell BK898.out 0).trans rfl
   have hfs53 := blk_frozen BK898.out 0
   have hns53_1 := NB899_898.out
   have hns53_2 := NB908_898.out
   have hns53_3 := NB915_898.out
   have hms53_1 := NB898_899.out
   have hms53_2 := NB898_908.out
   have hms53_3 := NB898_915.out
   have hs54 : w52.cell? ⟨gb898, 1, none⟩ = some (.int .i64 0) := (blk_cell BK898.out 1).trans rfl
   have hfs54 := blk_frozen BK898.out 1
   have hns54_1 := NB899_898.out
   have hns54_2 := NB908_898.out
   have hns54_3 := NB915_898.out
   have hms54_1 := NB898_899.out
   have hms54_2 := NB898_908.out
   have hms54_3 := NB898_915.out
   refine skip_ (w1 := ?_) (by rfl) rfl ?_ ?_
   rotate_left
   ·go_simp
    rfl
   refine hK.out _ _ ⟨((cell_far (p := ⟨gb898, _, none⟩) NB908_898.out _).trans (((cell_far (p := ⟨gb898, _, none⟩) NB908_898.out _).trans (hHeld.1)))), ((cell_far (p := ⟨gb898, _, none⟩) NB908_898.out _).trans (((cell_far (p := ⟨gb898, _, none⟩) NB908_898.out _).trans (hHeld.2))))⟩ (fun hHeld => ?_)
   clear hK K
   refine one_ (i := 4) (N := none) (bs 5 31) rfl rfl (by kernel_rfl) (by decide) (fun K hK => ?_)
   have hs55 : w52.cell? ⟨gb899, 0, none⟩ = some (.int .i64 0) := (blk_cell BK899.out 0).trans rfl
   have hfs55 := blk_frozen BK899.out 0
   have hns55_0 := NB898_899.out
   have hns55_2 := NB908_899.out
   have hns55_3 := NB915_899.out
   have hms55_0 := NB899_898.out
   have hms55_2 := NB899_908.out
   have hms55_3 := NB899_915.out
   have hs56 : w52.cell? ⟨gb899, 1, none⟩ = some (.int .i64 0) := (blk_cell BK899.out 1).trans rfl
   have hfs56 := blk_frozen BK899.out 1
   have hns56_0 := NB898_899.out
   have hns56_2 := NB908_899.out
   have hns56_3 := NB915_899.out
   have hms56_0 := NB899_898.out
   have hms56_2 := NB899_908.out
   have hms56_3 := NB899_915.out
   refine skip_ (w1 := ?_) (by rfl) rfl ?_ ?_
   rotate_left
   ·go_simp
    rfl
   refine hK.out _ _ ⟨((cell_far (p := ⟨gb899, _, none⟩) NB908_899.out _).trans (((cell_far (p := ⟨gb899, _, none⟩) NB908_899.out _).trans (hHeld.1)))), ((cell_far (p := ⟨gb899, _, none⟩) NB908_899.out _).trans (((cell_far (p := ⟨gb899, _, none⟩) NB908_899.out _).trans (hHeld.2))))⟩ (fun hHeld => ?_)
   clear hK K
   refine done_ (by kernel_rfl) ?_
   try go_wp2
   refine bodyPost_ret (results_cc rfl _ _ gb898 gb899 25 25 #[.int .i64 t904, .int .i64 t905] #[.int .i64 t919, .int .i64 t920] (0, 0) (0, 0) _ _ rfl (by (with_reducible repeat (first | refine blk_drewN ?_ _ | refine blk_drew ?_ | refine blk_alloc ?_ _)); refine blk_far ?_ NB898_899.out _; (with_reducible repeat (first | refine blk_drewN ?_ _ | refine blk_drew ?_ | refine blk_alloc ?_ _)); refine blk_far ?_ NB898_899.out _; (with_reducible repeat (first | refine blk_drewN ?_ _ | refine blk_drew ?_ | refine blk_alloc ?_ _)); refine blk_put (cs := #[.int .i64 t904, .int .i64 0]) ?_ 1 _ rfl; (with_reducible repeat (first | refine blk_drewN ?_ _ | refine blk_drew ?_ | refine blk_alloc ?_ _)); refine blk_put (cs := #[.int .i64 0, .int .i64 0]) ?_ 0 _ rfl; (with_reducible repeat (first | refine blk_drewN ?_ _ | refine blk_drew ?_ | refine blk_alloc ?_ _)); exact BK898.out) Try.underlying25 rfl (by kernel_rfl) rfl (by (with_reducible repeat (first | refine blk_drewN ?_ _ | refine blk_drew ?_ | refine blk_alloc ?_ _)); refine blk_put (cs := #[.int .i64 t919, .int .i64 0]) ?_ 1 _ rfl; (with_reducible repeat (first | refine blk_drewN ?_ _ | refine blk_drew ?_ | refine blk_alloc ?_ _)); refine blk_put (cs := #[.int .i64 0, .int .i64 0]) ?_ 0 _ rfl; (with_reducible repeat (first | refine blk_drewN ?_ _ | refine blk_drew ?_ | refine blk_alloc ?_ _)); refine blk_far ?_ NB899_898.out _; (with_reducible repeat (first | refine blk_drewN ?_ _ | refine blk_drew ?_ | refine blk_alloc ?_ _)); refine blk_far ?_ NB899_898.out _; (with_reducible repeat (first | refine blk_drewN ?_ _ | refine blk_drew ?_ | refine blk_alloc ?_ _)); exact BK899.out) Try.underlying25 rfl (by kernel_rfl)) rfl ?_
   exact ⟨er_, by repeat (first | (with_reducible first | exact HB.out | apply below_alloc | apply pw_below_drewN | apply below_drew1 | refine below_set ?_ (IsS87.ge HI903.out) | refine below_set ?_ GE898.out | refine below_set ?_ GE899.out | refine below_set ?_ GE908.out | refine below_set ?_ GE915.out) | exact HB.out)⟩
 ·replace c6 := Bool.eq_false_iff.mpr c6
  subst c6
  rw [if_neg (show ¬ (false = true) by decide)] at H
  replace H := Option.bind_eq_some_iff.mp H
  obtain ⟨⟨t923, t924, t925, t926⟩, A570, H⟩ := H
  replace H : (some (t904, t905, t923, t924)) = some (r1, r2, r3, r4) := H
  have A57 := Aside0.mk A570
  clear A570
  simp only [Option.some.injEq, Prod.mk.injEq] at H
  obtain ⟨rfl, rfl, rfl, rfl⟩ := H
  go_enter Try.func55, Try.ntmps55
  try go_wp2_with (first | ((with_reducible refine gate_dst (N := 2) rfl ?_); refine bx_ 2 #[.int .i64 0, .int .i64 0] 25 ?_; intro gb898 hg w58 hbox hb; have BK898 := Aside0.mk (hbox); have GW898 := gw_ hg (below_size (bv_ HB)); have GE898 := GW898; replace HB := Aside0.mk (below_step (bv_ HB) hb); clear hb hbox hg) | ((with_reducible refine gate_dst (N := 3) rfl ?_); refine bx_ 3 #[.int .i64 0, .int .i64 0] 25 ?_; intro gb899 hg w59 hbox hb; have BK899 := Aside0.mk (hbox); have GW899 := gw_ hg (below_size (bv1_ HB GE898)); have GE899 := GW899; replace HB := Aside0.mk (below_step (bv1_ HB GE898) hb); have NB898_899 := nb_ hg (blk_lt (g := gb898) (o := .cells #[.int .i64 0, .int .i64 0] 25 (0, 0)) (kv_ BK898)); have NB899_898 := nc_ hg (blk_lt (g := gb898) (o := .cells #[.int .i64 0, .int .i64 0] 25 (0, 0)) (kv_ BK898)); replace BK898 := kb_ BK898 hb; clear hb hbox hg) | ((with_reducible refine gate_callee (f := 40) rfl ?_); refine gl_ 9 Try.func40 #[.slice A0 l0.length c0] rfl mp_ ?_; (with_reducible refine (spec_l1New.calls k _ _ l0 t900 t901 t902 w _ ?side1 ?side2 ?side3 A2.out).mono ?_); (case side1 => repeat (first | (with_reducible first | exact HB.out | apply below_alloc | apply pw_below_drewN | apply below_drew1 | refine below_set ?_ GE898.out | refine below_set ?_ GE899.out) | exact HB.out)); (case side2 => exact HR0.out); (case side3 => exact HC0.out); rintro e w60 ⟨g903, rfl, hi, hb, hb2⟩; refine ⟨_, rfl, ?_⟩; replace HB := Aside0.mk (hb); have HI903 := Aside0.mk (hi); have NB903_898 := Aside0.mk (IsS87.ne_blk hi (blk_below (g := gb898) (o := .cells #[.int .i64 0, .int .i64 0] 25 (0, 0)) (kv_ BK898) hb2) (by decide)); have NB898_903 := Aside0.mk (Ne.symm (IsS87.ne_blk hi (blk_below (g := gb898) (o := .cells #[.int .i64 0, .int .i64 0] 25 (0, 0)) (kv_ BK898) hb2) (by decide))); replace BK898 := kb_ BK898 hb2; have NB903_899 := Aside0.mk (IsS87.ne_blk hi (blk_below (g := gb899) (o := .cells #[.int .i64 0, .int .i64 0] 25 (0, 0)) (kv_ BK899) hb2) (by decide)); have NB899_903 := Aside0.mk (Ne.symm (IsS87.ne_blk hi (blk_below (g := gb899) (o := .cells #[.int .i64 0, .int .i64 0] 25 (0, 0)) (kv_ BK899) hb2) (by decide))); replace BK899 := kb_ BK899 hb2; (try clear hb); (try clear hb2); (try clear hk); (try clear hi)) | ((with_reducible refine gate_callee (f := 39) rfl ?_); refine gl_ 11 Try.func39 #[.pointer (some ⟨g903, 0, none⟩)] rfl mp_ ?_; (with_reducible refine (spec_l2Any.calls k g903 t900 t901 t902 t904 t905 t906 t907 w _ ?side1 ?side2 A3.out).mono ?_); (case side1 => exact ia2_ HI903 NB903_898 NB903_899); (case side2 => exact bi2_ HB HI903 GE898 GE899); rintro e w61 ⟨rfl, hi, hb, hk⟩; refine ⟨_, rfl, ?_⟩; replace BK898 := Aside0.mk (KeepBut.blk hk (g' := gb898) (o := .cells #[.int .i64 0, .int .i64 0] 25 (0, 0)) (kv_ BK898) NB898_903.out (by simp)); replace BK899 := Aside0.mk (KeepBut.blk hk (g' := gb899) (o := .cells #[.int .i64 0, .int .i64 0] 25 (0, 0)) (kv_ BK899) NB899_903.out (by simp)); replace HB := Aside0.mk (hb); replace HI903 := Aside0.mk (hi); (try clear hb); (try clear hb2); (try clear hk); (try clear hi)) | ((with_reducible refine gate_dst (N := 5) rfl ?_); refine bx_ 5 #[.int .i64 0, .int .i64 0] 25 ?_; intro gb908 hg w62 hbox hb; have BK908 := Aside0.mk (hbox); have GW908 := Aside0.mk ((by rw [hg]; exact (below_size (bi2_ HB HI903 GE898 GE899)) : w.heap.size ≤ gb908)); have GE908 := GW908; replace HB := Aside0.mk (below_step (bi2_ HB HI903 GE898 GE899) hb); have NB898_908 := nb_ hg (blk_lt (g := gb898) (o := .cells #[.int .i64 0, .int .i64 0] 25 (0, 0)) (kv_ BK898)); have NB908_898 := nc_ hg (blk_lt (g := gb898) (o := .cells #[.int .i64 0, .int .i64 0] 25 (0, 0)) (kv_ BK898)); replace BK898 := kb_ BK898 hb; have NB899_908 := nb_ hg (blk_lt (g := gb899) (o := .cells #[.int .i64 0, .int .i64 0] 25 (0, 0)) (kv_ BK899)); have NB908_899 := nc_ hg (blk_lt (g := gb899) (o := .cells #[.int .i64 0, .int .i64 0] 25 (0, 0)) (kv_ BK899)); replace BK899 := kb_ BK899 hb; have NB903_908 := Aside0.mk ((by rw [hg]; exact Nat.ne_of_lt (IsS87.lt (show IsS87 w _ g903 t900 t906 t907 from ia2_ HI903 NB903_898 NB903_899)) : g903 ≠ gb908)); have NB908_903 := Aside0.mk ((by rw [hg]; exact Nat.ne_of_gt (IsS87.lt (show IsS87 w _ g903 t900 t906 t907 from ia2_ HI903 NB903_898 NB903_899)) : gb908 ≠ g903)); replace HI903 := Aside0.mk (IsS87.below (ia2_ HI903 NB903_898 NB903_899) hb); clear hb hbox hg; have hnb63 := NB908_898.out; have hnc63 := NB898_908.out; have hnb64 := NB908_899.out; have hnc64 := NB899_908.out; have hnb65 := NB908_903.out; have hnc65 := NB903_908.out; obtain ⟨hcz66_0, hcz66_1, hfz66_0, hfz66_1⟩ := c2_ BK908))
  have n0_ : Aside0 (((w62.setCell ⟨gb908, 0, none⟩ (.int .i64 t904)).setCell ⟨gb908, 1, none⟩ (.int .i64 t905)).heap[gb898]? = some (.cells #[.int .i64 0, .int .i64 0] 25 (0, 0))) := ⟨by (with_reducible repeat (first | refine blk_drewN ?_ _ | refine blk_drew ?_ | refine blk_alloc ?_ _)); refine blk_far ?_ NB898_908.out _; (with_reducible repeat (first | refine blk_drewN ?_ _ | refine blk_drew ?_ | refine blk_alloc ?_ _)); refine blk_far ?_ NB898_908.out _; (with_reducible repeat (first | refine blk_drewN ?_ _ | refine blk_drew ?_ | refine blk_alloc ?_ _)); exact BK898.out⟩
  have n1_ : Aside0 (((w62.setCell ⟨gb908, 0, none⟩ (.int .i64 t904)).setCell ⟨gb908, 1, none⟩ (.int .i64 t905)).heap[gb899]? = some (.cells #[.int .i64 0, .int .i64 0] 25 (0, 0))) := ⟨by (with_reducible repeat (first | refine blk_drewN ?_ _ | refine blk_drew ?_ | refine blk_alloc ?_ _)); refine blk_far ?_ NB899_908.out _; (with_reducible repeat (first | refine blk_drewN ?_ _ | refine blk_drew ?_ | refine blk_alloc ?_ _)); refine blk_far ?_ NB899_908.out _; (with_reducible repeat (first | refine blk_drewN ?_ _ | refine blk_drew ?_ | refine blk_alloc ?_ _)); exact BK899.out⟩
  have n2_ : Aside0 (((w62.setCell ⟨gb908, 0, none⟩ (.int .i64 t904)).setCell ⟨gb908, 1, none⟩ (.int .i64 t905)).heap[gb908]? = some (.cells #[.int .i64 t904, .int .i64 t905] 25 (0, 0))) := ⟨by (with_reducible repeat (first | refine blk_drewN ?_ _ | refine blk_drew ?_ | refine blk_alloc ?_ _)); refine blk_put (cs := #[.int .i64 t904, .int .i64 0]) ?_ 1 _ rfl; (with_reducible repeat (first | refine blk_drewN ?_ _ | refine blk_drew ?_ | refine blk_alloc ?_ _)); refine blk_put (cs := #[.int .i64 0, .int .i64 0]) ?_ 0 _ rfl; (with_reducible repeat (first | refine blk_drewN ?_ _ | refine blk_drew ?_ | refine blk_alloc ?_ _)); exact BK908.out⟩
  have n3_ : Aside0 (IsS87 w ((w62.setCell ⟨gb908, 0, none⟩ (.int .i64 t904)).setCell ⟨gb908, 1, none⟩ (.int .i64 t905)) g903 t900 t906 t907) := ⟨by repeat (first | (with_reducible first | exact HI903.out | apply IsS87.alloc | apply IsS87.drewN | apply IsS87.drew | apply IsS87.set_1 | apply IsS87.set_2 | refine IsS87.far ?_ NB903_898.out _ | refine IsS87.far ?_ NB903_899.out _ | refine IsS87.far ?_ NB903_908.out _) | exact HI903.out)⟩
  have n4_ : Aside0 (Below w.heap.size w ((w62.setCell ⟨gb908, 0, none⟩ (.int .i64 t904)).setCell ⟨gb908, 1, none⟩ (.int .i64 t905))) := ⟨by repeat (first | (with_reducible first | exact HB.out | apply below_alloc | apply pw_below_drewN | apply below_drew1 | refine below_set ?_ (IsS87.ge HI903.out) | refine below_set ?_ GE898.out | refine below_set ?_ GE899.out | refine below_set ?_ GE908.out) | exact HB.out)⟩
  (try clear BK898)
  (try clear BK899)
  (try clear BK908)
  (try clear HI903)
  (try clear HB)
  generalize ((w62.setCell ⟨gb908, 0, none⟩ (.int .i64 t904)).setCell ⟨gb908, 1, none⟩ (.int .i64 t905)) = w67 at n0_ n1_ n2_ n3_ n4_ ⊢
  have BK898 := n0_
  have BK899 := n1_
  have BK908 := n2_
  have HI903 := n3_
  have HB := n4_
  clear n0_ n1_ n2_ n3_ n4_
  replace BK898 := Aside0.mk (blk_drew BK898.out)
  replace BK899 := Aside0.mk (blk_drew BK899.out)
  replace BK908 := Aside0.mk (blk_drew BK908.out)
  replace HI903 := Aside0.mk (IsS87.drew HI903.out)
  replace HB := Aside0.mk (below_drew1 HB.out)
  refine start_ (n := 10) (S := fun w' => w'.cell? ⟨gb908, 0, none⟩ = some (.int .i64 t904) ∧ w'.cell? ⟨gb908, 1, none⟩ = some (.int .i64 t905)) (ds := []) (bs 10 0) (by kernel_rfl) rfl (by kernel_rfl) ⟨(blk_cell BK908.out 0).trans rfl, (blk_cell BK908.out 1).trans rfl⟩ (fun hHeld => ?_); refine with_tabW spec_l4Pair.tab3 spec_l4Pair.bits3 (fun HT_ HW_ => ?_)
  generalize w67.drew = w68 at BK898 BK899 BK908 HI903 HB hHeld ⊢
  refine pu_ HT_ 1 14 (bs 10 2) ?_
  refine ta2_ HT_ HW_ 0 13 (bs 10 3) hHeld ?_
  refine join_ (σ := Nat) 2 (bs 10 255) (fun s_ => [(15, .int .i64 t909), (16, .tuple #[.agg #[.int .i64 t912, .int .i64 t913], .bool false]), (6, .pointer (some ⟨s_, 0, none⟩)), (12, .tuple #[.agg #[.int .i64 t912, .int .i64 t913], .bool false]), (17, .agg #[.int .i64 t912, .int .i64 t913]), (18, .bool false)]) (fun s_ w' => (w'.cell? ⟨gb908, 0, none⟩ = some (.int .i64 t904) ∧ w'.cell? ⟨gb908, 1, none⟩ = some (.int .i64 t905)) ∧ (w'.heap[gb898]? = some (.cells #[.int .i64 0, .int .i64 0] 25 (0, 0))) ∧ (w'.heap[gb899]? = some (.cells #[.int .i64 0, .int .i64 0] 25 (0, 0))) ∧ (w'.heap[gb908]? = some (.cells #[.int .i64 t904, .int .i64 t905] 25 (0, 0))) ∧ (w'.heap[s_]? = some (.cells #[.int .i64 0, .int .i64 0] 25 (0, 0))) ∧ (w.heap.size ≤ s_) ∧ (w.heap.size ≤ s_) ∧ (g903 ≠ s_) ∧ (s_ ≠ g903) ∧ (gb898 ≠ s_) ∧ (s_ ≠ gb898) ∧ (gb899 ≠ s_) ∧ (s_ ≠ gb899) ∧ (gb908 ≠ s_) ∧ (s_ ≠ gb908) ∧ (IsS87 w w' g903 t900 t910 t911) ∧ (Below w.heap.size w w')) ?_ ?_
  rotate_left
  ·intro hCont
   refine two_ (i := 2) (j := 7) (Ni := some 15) (Nj := some 6) (bs 10 7) (bs 10 131) rfl rfl rfl rfl (two_of HT_.out (by kernel_rfl)) (by decide) (by decide) (fun K hK => ?_) (fun K hK => ?_)
   ·skip
    refine goes_ Try.func56 (by kernel_rfl) rfl #[.pointer (some ⟨g903, 0, none⟩), .int .i64 5] (by rfl) rfl rfl mp_ ?_
    with_reducible refine (spec_l1Below.calls g903 t900 t906 t907 5 t909 t910 t911 w _ ?side1 ?side2 A4.out).mono ?_
    (case side1 => repeat (first | (with_reducible first | exact HI903.out | apply IsS87.alloc | apply IsS87.drewN | apply IsS87.drew | apply IsS87.set_1 | apply IsS87.set_2 | refine IsS87.far ?_ NB903_898.out _ | refine IsS87.far ?_ NB903_899.out _ | refine IsS87.far ?_ NB903_908.out _) | exact HI903.out))
    (case side2 => repeat (first | (with_reducible first | exact HB.out | apply below_alloc | apply pw_below_drewN | apply below_drew1 | refine below_set ?_ (IsS87.ge HI903.out) | refine below_set ?_ GE898.out | refine below_set ?_ GE899.out | refine below_set ?_ GE908.out) | exact HB.out))
    rintro e w69 ⟨rfl, hi, hb, hk⟩
    refine ⟨_, rfl, ?_⟩
    replace BK898 := Aside0.mk (KeepBut.blk hk (g' := gb898) (o := .cells #[.int .i64 0, .int .i64 0] 25 (0, 0)) (kv_ BK898) NB898_903.out (by simp))
    replace BK899 := Aside0.mk (KeepBut.blk hk (g' := gb899) (o := .cells #[.int .i64 0, .int .i64 0] 25 (0, 0)) (kv_ BK899) NB899_903.out (by simp))
    replace BK908 := Aside0.mk (KeepBut.blk hk (g' := gb908) (o := .cells #[.int .i64 t904, .int .i64 t905] 25 (0, 0)) (kv_ BK908) NB908_903.out (by simp))
    replace HB := Aside0.mk (hb)
    replace HI903 := Aside0.mk (hi)
    (try clear hb)
    (try clear hb2)
    (try clear hk)
    (try clear hi)
    refine hK.out _ _ ⟨(blk_cell BK908.out 0).trans rfl, (blk_cell BK908.out 1).trans rfl⟩ (fun hHeld => ?_)
    clear hK K
    refine no_ 15 ?_
    refine two_ (i := 3) (j := 7) (Ni := some 16) (Nj := some 6) (bs 10 15) (bs 10 135) rfl rfl rfl rfl (two_of HT_.out (by kernel_rfl)) (by decide) (by decide) (fun K hK => ?_) (fun K hK => ?_)
    ·skip
     refine goes_ Try.func19 (by kernel_rfl) rfl #[.agg #[.int .i64 t904, .int .i64 t905], .int .i64 t909] (by rfl) rfl rfl mp_ ?_
     with_reducible refine (spec_ShiftTable.calls k t904 t905 t909 t912 t913 false _ A5.out).mono ?_
     rintro e w70 ⟨rfl, hb⟩
     refine ⟨_, rfl, ?_⟩
     replace BK898 := kb_ BK898 hb
     replace BK899 := kb_ BK899 hb
     replace BK908 := kb_ BK908 hb
     replace HB := Aside0.mk (below_step (by repeat (first | (with_reducible first | exact HB.out | apply below_alloc | apply pw_below_drewN | apply below_drew1 | refine below_set ?_ (IsS87.ge HI903.out) | refine below_set ?_ GE898.out | refine below_set ?_ GE899.out | refine below_set ?_ GE908.out) | exact HB.out)) hb)
     replace HI903 := Aside0.mk (IsS87.below (by repeat (first | (with_reducible first | exact HI903.out | apply IsS87.alloc | apply IsS87.drewN | apply IsS87.drew | apply IsS87.set_1 | apply IsS87.set_2 | refine IsS87.far ?_ NB903_898.out _ | refine IsS87.far ?_ NB903_899.out _ | refine IsS87.far ?_ NB903_908.out _) | exact HI903.out)) hb)
     (try clear hb)
     (try clear hb2)
     (try clear hk)
     (try clear hi)
     refine hK.out _ _ ⟨(blk_cell BK908.out 0).trans rfl, (blk_cell BK908.out 1).trans rfl⟩ (fun hHeld => ?_)
     clear hK K
     refine no_ 16 ?_
     refine pu_ HT_ 4 12 (bs 10 31) ?_
     refine pu_ HT_ 5 17 (bs 10 63) ?_
     refine pu_ HT_ 6 18 (bs 10 127) ?_
     refine on_ HT_ 7 6 (bs 10 255) (fun K hK => ?_)
     refine box_step ?hg (N := 6) ?hd (cs := #[.int .i64 0, .int .i64 0]) (t := 25) ?hr ?_; (case hd => rfl); (case hg => rfl); (case hr => first | (go_simp; done) | (go_simp; rfl))
     intro gb915 hg w71 hbox hb
     have BK915 := Aside0.mk (hbox)
     have GW915 := Aside0.mk ((by rw [hg]; exact (below_size (by repeat (first | (with_reducible first | exact HB.out | apply below_alloc | apply pw_below_drewN | apply below_drew1 | refine below_set ?_ (IsS87.ge HI903.out) | refine below_set ?_ GE898.out | refine below_set ?_ GE899.out | refine below_set ?_ GE908.out) | exact HB.out))) : w.heap.size ≤ gb915))
     have GE915 := GW915
     replace HB := Aside0.mk (below_step (by repeat (first | (with_reducible first | exact HB.out | apply below_alloc | apply pw_below_drewN | apply below_drew1 | refine below_set ?_ (IsS87.ge HI903.out) | refine below_set ?_ GE898.out | refine below_set ?_ GE899.out | refine below_set ?_ GE908.out) | exact HB.out)) hb)
     have NB898_915 := nb_ hg (blk_lt (g := gb898) (o := .cells #[.int .i64 0, .int .i64 0] 25 (0, 0)) (kv_ BK898))
     have NB915_898 := nc_ hg (blk_lt (g := gb898) (o := .cells #[.int .i64 0, .int .i64 0] 25 (0, 0)) (kv_ BK898))
     replace BK898 := kb_ BK898 hb
     have NB899_915 := nb_ hg (blk_lt (g := gb899) (o := .cells #[.int .i64 0, .int .i64 0] 25 (0, 0)) (kv_ BK899))
     have NB915_899 := nc_ hg (blk_lt (g := gb899) (o := .cells #[.int .i64 0, .int .i64 0] 25 (0, 0)) (kv_ BK899))
     replace BK899 := kb_ BK899 hb
     have NB908_915 := nb_ hg (blk_lt (g := gb908) (o := .cells #[.int .i64 t904, .int .i64 t905] 25 (0, 0)) (kv_ BK908))
     have NB915_908 := nc_ hg (blk_lt (g := gb908) (o := .cells #[.int .i64 t904, .int .i64 t905] 25 (0, 0)) (kv_ BK908))
     replace BK908 := kb_ BK908 hb
     have NB903_915 := Aside0.mk ((by rw [hg]; exact Nat.ne_of_lt (IsS87.lt (show IsS87 w _ g903 t900 t910 t911 from by repeat (first | (with_reducible first | exact HI903.out | apply IsS87.alloc | apply IsS87.drewN | apply IsS87.drew | apply IsS87.set_1 | apply IsS87.set_2 | refine IsS87.far ?_ NB903_898.out _ | refine IsS87.far ?_ NB903_899.out _ | refine IsS87.far ?_ NB903_908.out _) | exact HI903.out))) : g903 ≠ gb915))
     have NB915_903 := Aside0.mk ((by rw [hg]; exact Nat.ne_of_gt (IsS87.lt (show IsS87 w _ g903 t900 t910 t911 from by repeat (first | (with_reducible first | exact HI903.out | apply IsS87.alloc | apply IsS87.drewN | apply IsS87.drew | apply IsS87.set_1 | apply IsS87.set_2 | refine IsS87.far ?_ NB903_898.out _ | refine IsS87.far ?_ NB903_899.out _ | refine IsS87.far ?_ NB903_908.out _) | exact HI903.out))) : gb915 ≠ g903))
     replace HI903 := Aside0.mk (IsS87.below (by repeat (first | (with_reducible first | exact HI903.out | apply IsS87.alloc | apply IsS87.drewN | apply IsS87.drew | apply IsS87.set_1 | apply IsS87.set_2 | refine IsS87.far ?_ NB903_898.out _ | refine IsS87.far ?_ NB903_899.out _ | refine IsS87.far ?_ NB903_908.out _) | exact HI903.out)) hb)
     clear hb hbox hg
     refine hK.out _ _ ⟨(blk_cell BK908.out 0).trans rfl, (blk_cell BK908.out 1).trans rfl⟩ (fun hHeld => ?_)
     clear hK K
     refine no_ 6 ?_
     exact norm_ (by simp only [putAll, Act.put, List.setIfInBounds_toArray, List.set_cons_zero, List.set_cons_succ]) (hCont (gb915) _ ⟨hHeld, (kv_ BK898), (kv_ BK899), (kv_ BK908), (kv_ BK915), GW915.out, GE915.out, NB903_915.out, NB915_903.out, NB898_915.out, NB915_898.out, NB899_915.out, NB915_899.out, NB908_915.out, NB915_908.out, (by repeat (first | (with_reducible first | exact HI903.out | apply IsS87.alloc | apply IsS87.drewN | apply IsS87.drew | apply IsS87.set_1 | apply IsS87.set_2 | refine IsS87.far ?_ NB903_898.out _ | refine IsS87.far ?_ NB903_899.out _ | refine IsS87.far ?_ NB903_908.out _ | refine IsS87.far ?_ NB903_915.out _) | exact HI903.out)), (by repeat (first | (with_reducible first | exact HB.out | apply below_alloc | apply pw_below_drewN | apply below_drew1 | refine below_set ?_ (IsS87.ge HI903.out) | refine below_set ?_ GE898.out | refine below_set ?_ GE899.out | refine below_set ?_ GE908.out | refine below_set ?_ GE915.out) | exact HB.out))⟩)
    ·skip
     refine box_step ?hg (N := 6) ?hd (cs := #[.int .i64 0, .int .i64 0]) (t := 25) ?hr ?_; (case hd => rfl); (case hg => rfl); (case hr => first | (go_simp; done) | (go_simp; rfl))
     intro gb915 hg w70 hbox hb
     have BK915 := Aside0.mk (hbox)
     have GW915 := Aside0.mk ((by rw [hg]; exact (below_size (by repeat (first | (with_reducible first | exact HB.out | apply below_alloc | apply pw_below_drewN | apply below_drew1 | refine below_set ?_ (IsS87.ge HI903.out) | refine below_set ?_ GE898.out | refine below_set ?_ GE899.out | refine below_set ?_ GE908.out) | exact HB.out))) : w.heap.size ≤ gb915))
     have GE915 := GW915
     replace HB := Aside0.mk (below_step (by repeat (first | (with_reducible first | exact HB.out | apply below_alloc | apply pw_below_drewN | apply below_drew1 | refine below_set ?_ (IsS87.ge HI903.out) | refine below_set ?_ GE898.out | refine below_set ?_ GE899.out | refine below_set ?_ GE908.out) | exact HB.out)) hb)
     have NB898_915 := nb_ hg (blk_lt (g := gb898) (o := .cells #[.int .i64 0, .int .i64 0] 25 (0, 0)) (kv_ BK898))
     have NB915_898 := nc_ hg (blk_lt (g := gb898) (o := .cells #[.int .i64 0, .int .i64 0] 25 (0, 0)) (kv_ BK898))
     replace BK898 := kb_ BK898 hb
     have NB899_915 := nb_ hg (blk_lt (g := gb899) (o := .cells #[.int .i64 0, .int .i64 0] 25 (0, 0)) (kv_ BK899))
     have NB915_899 := nc_ hg (blk_lt (g := gb899) (o := .cells #[.int .i64 0, .int .i64 0] 25 (0, 0)) (kv_ BK899))
     replace BK899 := kb_ BK899 hb
     have NB908_915 := nb_ hg (blk_lt (g := gb908) (o := .cells #[.int .i64 t904, .int .i64 t905] 25 (0, 0)) (kv_ BK908))
     have NB915_908 := nc_ hg (blk_lt (g := gb908) (o := .cells #[.int .i64 t904, .int .i64 t905] 25 (0, 0)) (kv_ BK908))
     replace BK908 := kb_ BK908 hb
     have NB903_915 := Aside0.mk ((by rw [hg]; exact Nat.ne_of_lt (IsS87.lt (show IsS87 w _ g903 t900 t910 t911 from by repeat (first | (with_reducible first | exact HI903.out | apply IsS87.alloc | apply IsS87.drewN | apply IsS87.drew | apply IsS87.set_1 | apply IsS87.set_2 | refine IsS87.far ?_ NB903_898.out _ | refine IsS87.far ?_ NB903_899.out _ | refine IsS87.far ?_ NB903_908.out _) | exact HI903.out))) : g903 ≠ gb915))
     have NB915_903 := Aside0.mk ((by rw [hg]; exact Nat.ne_of_gt (IsS87.lt (show IsS87 w _ g903 t900 t910 t911 from by repeat (first | (with_reducible first | exact HI903.out | apply IsS87.alloc | apply IsS87.drewN | apply IsS87.drew | apply IsS87.set_1 | apply IsS87.set_2 | refine IsS87.far ?_ NB903_898.out _ | refine IsS87.far ?_ NB903_899.out _ | refine IsS87.far ?_ NB903_908.out _) | exact HI903.out))) : gb915 ≠ g903))
     replace HI903 := Aside0.mk (IsS87.below (by repeat (first | (with_reducible first | exact HI903.out | apply IsS87.alloc | apply IsS87.drewN | apply IsS87.drew | apply IsS87.set_1 | apply IsS87.set_2 | refine IsS87.far ?_ NB903_898.out _ | refine IsS87.far ?_ NB903_899.out _ | refine IsS87.far ?_ NB903_908.out _) | exact HI903.out)) hb)
     clear hb hbox hg
     refine hK.out _ _ ⟨(blk_cell BK908.out 0).trans rfl, (blk_cell BK908.out 1).trans rfl⟩ (fun hHeld => ?_)
     clear hK K
     refine no_ 6 ?_
     refine on_ HT_ 3 16 (bs 10 143) (fun K hK => ?_)
     refine goes_ Try.func19 (by kernel_rfl) rfl #[.agg #[.int .i64 t904, .int .i64 t905], .int .i64 t909] (by rfl) rfl rfl mp_ ?_
     with_reducible refine (spec_ShiftTable.calls k t904 t905 t909 t912 t913 false _ A5.out).mono ?_
     rintro e w71 ⟨rfl, hb⟩
     refine ⟨_, rfl, ?_⟩
     replace BK898 := kb_ BK898 hb
     replace BK899 := kb_ BK899 hb
     replace BK908 := kb_ BK908 hb
     replace BK915 := kb_ BK915 hb
     replace HB := Aside0.mk (below_step (by repeat (first | (with_reducible first | exact HB.out | apply below_alloc | apply pw_below_drewN | apply below_drew1 | refine below_set ?_ (IsS87.ge HI903.out) | refine below_set ?_ GE898.out | refine below_set ?_ GE899.out | refine below_set ?_ GE908.out | refine below_set ?_ GE915.out) | exact HB.out)) hb)
     replace HI903 := Aside0.mk (IsS87.below (by repeat (first | (with_reducible first | exact HI903.out | apply IsS87.alloc | apply IsS87.drewN | apply IsS87.drew | apply IsS87.set_1 | apply IsS87.set_2 | refine IsS87.far ?_ NB903_898.out _ | refine IsS87.far ?_ NB903_899.out _ | refine IsS87.far ?_ NB903_908.out _ | refine IsS87.far ?_ NB903_915.out _) | exact HI903.out)) hb)
     (try clear hb)
     (try clear hb2)
     (try clear hk)
     (try clear hi)
     refine hK.out _ _ ⟨(blk_cell BK908.out 0).trans rfl, (blk_cell BK908.out 1).trans rfl⟩ (fun hHeld => ?_)
     clear hK K
     refine no_ 16 ?_
     refine pu_ HT_ 4 12 (bs 10 159) ?_
     refine pu_ HT_ 5 17 (bs 10 191) ?_
     refine pu_ HT_ 6 18 (bs 10 255) ?_
     exact norm_ (by simp only [putAll, Act.put, List.setIfInBounds_toArray, List.set_cons_zero, List.set_cons_succ]) (hCont (gb915) _ ⟨hHeld, (kv_ BK898), (kv_ BK899), (kv_ BK908), (kv_ BK915), GW915.out, GE915.out, NB903_915.out, NB915_903.out, NB898_915.out, NB915_898.out, NB899_915.out, NB915_899.out, NB908_915.out, NB915_908.out, (by repeat (first | (with_reducible first | exact HI903.out | apply IsS87.alloc | apply IsS87.drewN | apply IsS87.drew | apply IsS87.set_1 | apply IsS87.set_2 | refine IsS87.far ?_ NB903_898.out _ | refine IsS87.far ?_ NB903_899.out _ | refine IsS87.far ?_ NB903_908.out _ | refine IsS87.far ?_ NB903_915.out _) | exact HI903.out)), (by repeat (first | (with_reducible first | exact HB.out | apply below_alloc | apply pw_below_drewN | apply below_drew1 | refine below_set ?_ (IsS87.ge HI903.out) | refine below_set ?_ GE898.out | refine below_set ?_ GE899.out | refine below_set ?_ GE908.out | refine below_set ?_ GE915.out) | exact HB.out))⟩)
   ·skip
    refine box_step ?hg (N := 6) ?hd (cs := #[.int .i64 0, .int .i64 0]) (t := 25) ?hr ?_; (case hd => rfl); (case hg => rfl); (case hr => first | (go_simp; done) | (go_simp; rfl))
    intro gb915 hg w69 hbox hb
    have BK915 := Aside0.mk (hbox)
    have GW915 := Aside0.mk ((by rw [hg]; exact (below_size (by repeat (first | (with_reducible first | exact HB.out | apply below_alloc | apply pw_below_drewN | apply below_drew1 | refine below_set ?_ (IsS87.ge HI903.out) | refine below_set ?_ GE898.out | refine below_set ?_ GE899.out | refine below_set ?_ GE908.out) | exact HB.out))) : w.heap.size ≤ gb915))
    have GE915 := GW915
    replace HB := Aside0.mk (below_step (by repeat (first | (with_reducible first | exact HB.out | apply below_alloc | apply pw_below_drewN | apply below_drew1 | refine below_set ?_ (IsS87.ge HI903.out) | refine below_set ?_ GE898.out | refine below_set ?_ GE899.out | refine below_set ?_ GE908.out) | exact HB.out)) hb)
    have NB898_915 := nb_ hg (blk_lt (g := gb898) (o := .cells #[.int .i64 0, .int .i64 0] 25 (0, 0)) (kv_ BK898))
    have NB915_898 := nc_ hg (blk_lt (g := gb898) (o := .cells #[.int .i64 0, .int .i64 0] 25 (0, 0)) (kv_ BK898))
    replace BK898 := kb_ BK898 hb
    have NB899_915 := nb_ hg (blk_lt (g := gb899) (o := .cells #[.int .i64 0, .int .i64 0] 25 (0, 0)) (kv_ BK899))
    have NB915_899 := nc_ hg (blk_lt (g := gb899) (o := .cells #[.int .i64 0, .int .i64 0] 25 (0, 0)) (kv_ BK899))
    replace BK899 := kb_ BK899 hb
    have NB908_915 := nb_ hg (blk_lt (g := gb908) (o := .cells #[.int .i64 t904, .int .i64 t905] 25 (0, 0)) (kv_ BK908))
    have NB915_908 := nc_ hg (blk_lt (g := gb908) (o := .cells #[.int .i64 t904, .int .i64 t905] 25 (0, 0)) (kv_ BK908))
    replace BK908 := kb_ BK908 hb
    have NB903_915 := Aside0.mk ((by rw [hg]; exact Nat.ne_of_lt (IsS87.lt (show IsS87 w _ g903 t900 t906 t907 from by repeat (first | (with_reducible first | exact HI903.out | apply IsS87.alloc | apply IsS87.drewN | apply IsS87.drew | apply IsS87.set_1 | apply IsS87.set_2 | refine IsS87.far ?_ NB903_898.out _ | refine IsS87.far ?_ NB903_899.out _ | refine IsS87.far ?_ NB903_908.out _) | exact HI903.out))) : g903 ≠ gb915))
    have NB915_903 := Aside0.mk ((by rw [hg]; exact Nat.ne_of_gt (IsS87.lt (show IsS87 w _ g903 t900 t906 t907 from by repeat (first | (with_reducible first | exact HI903.out | apply IsS87.alloc | apply IsS87.drewN | apply IsS87.drew | apply IsS87.set_1 | apply IsS87.set_2 | refine IsS87.far ?_ NB903_898.out _ | refine IsS87.far ?_ NB903_899.out _ | refine IsS87.far ?_ NB903_908.out _) | exact HI903.out))) : gb915 ≠ g903))
    replace HI903 := Aside0.mk (IsS87.below (by repeat (first | (with_reducible first | exact HI903.out | apply IsS87.alloc | apply IsS87.drewN | apply IsS87.drew | apply IsS87.set_1 | apply IsS87.set_2 | refine IsS87.far ?_ NB903_898.out _ | refine IsS87.far ?_ NB903_899.out _ | refine IsS87.far ?_ NB903_908.out _) | exact HI903.out)) hb)
    clear hb hbox hg
    refine hK.out _ _ ⟨(blk_cell BK908.out 0).trans rfl, (blk_cell BK908.out 1).trans rfl⟩ (fun hHeld => ?_)
    clear hK K
    refine no_ 6 ?_
    refine on_ HT_ 2 15 (bs 10 135) (fun K hK => ?_)
    refine goes_ Try.func56 (by kernel_rfl) rfl #[.pointer (some ⟨g903, 0, none⟩), .int .i64 5] (by rfl) rfl rfl mp_ ?_
    with_reducible refine (spec_l1Below.calls g903 t900 t906 t907 5 t909 t910 t911 w _ ?side1 ?side2 A4.out).mono ?_
    (case side1 => repeat (first | (with_reducible first | exact HI903.out | apply IsS87.alloc | apply IsS87.drewN | apply IsS87.drew | apply IsS87.set_1 | apply IsS87.set_2 | refine IsS87.far ?_ NB903_898.out _ | refine IsS87.far ?_ NB903_899.out _ | refine IsS87.far ?_ NB903_908.out _ | refine IsS87.far ?_ NB903_915.out _) | exact HI903.out))
    (case side2 => repeat (first | (with_reducible first | exact HB.out | apply below_alloc | apply pw_below_drewN | apply below_drew1 | refine below_set ?_ (IsS87.ge HI903.out) | refine below_set ?_ GE898.out | refine below_set ?_ GE899.out | refine below_set ?_ GE908.out | refine below_set ?_ GE915.out) | exact HB.out))
    rintro e w70 ⟨rfl, hi, hb, hk⟩
    refine ⟨_, rfl, ?_⟩
    replace BK898 := Aside0.mk (KeepBut.blk hk (g' := gb898) (o := .cells #[.int .i64 0, .int .i64 0] 25 (0, 0)) (kv_ BK898) NB898_903.out (by simp))
    replace BK899 := Aside0.mk (KeepBut.blk hk (g' := gb899) (o := .cells #[.int .i64 0, .int .i64 0] 25 (0, 0)) (kv_ BK899) NB899_903.out (by simp))
    replace BK908 := Aside0.mk (KeepBut.blk hk (g' := gb908) (o := .cells #[.int .i64 t904, .int .i64 t905] 25 (0, 0)) (kv_ BK908) NB908_903.out (by simp))
    replace BK915 := Aside0.mk (KeepBut.blk hk (g' := gb915) (o := .cells #[.int .i64 0, .int .i64 0] 25 (0, 0)) (kv_ BK915) NB915_903.out (by simp))
    replace HB := Aside0.mk (hb)
    replace HI903 := Aside0.mk (hi)
    (try clear hb)
    (try clear hb2)
    (try clear hk)
    (try clear hi)
    refine hK.out _ _ ⟨(blk_cell BK908.out 0).trans rfl, (blk_cell BK908.out 1).trans rfl⟩ (fun hHeld => ?_)
    clear hK K
    refine no_ 15 ?_
    refine on_ HT_ 3 16 (bs 10 143) (fun K hK => ?_)
    refine goes_ Try.func19 (by kernel_rfl) rfl #[.agg #[.int .i64 t904, .int .i64 t905], .int .i64 t909] (by rfl) rfl rfl mp_ ?_
    with_reducible refine (spec_ShiftTable.calls k t904 t905 t909 t912 t913 false _ A5.out).mono ?_
    rintro e w71 ⟨rfl, hb⟩
    refine ⟨_, rfl, ?_⟩
    replace BK898 := kb_ BK898 hb
    replace BK899 := kb_ BK899 hb
    replace BK908 := kb_ BK908 hb
    replace BK915 := kb_ BK915 hb
    replace HB := Aside0.mk (below_step (by repeat (first | (with_reducible first | exact HB.out | apply below_alloc | apply pw_below_drewN | apply below_drew1 | refine below_set ?_ (IsS87.ge HI903.out) | refine below_set ?_ GE898.out | refine below_set ?_ GE899.out | refine below_set ?_ GE908.out | refine below_set ?_ GE915.out) | exact HB.out)) hb)
    replace HI903 := Aside0.mk (IsS87.below (by repeat (first | (with_reducible first | exact HI903.out | apply IsS87.alloc | apply IsS87.drewN | apply IsS87.drew | apply IsS87.set_1 | apply IsS87.set_2 | refine IsS87.far ?_ NB903_898.out _ | refine IsS87.far ?_ NB903_899.out _ | refine IsS87.far ?_ NB903_908.out _ | refine IsS87.far ?_ NB903_915.out _) | exact HI903.out)) hb)
    (try clear hb)
    (try clear hb2)
    (try clear hk)
    (try clear hi)
    refine hK.out _ _ ⟨(blk_cell BK908.out 0).trans rfl, (blk_cell BK908.out 1).trans rfl⟩ (fun hHeld => ?_)
    clear hK K
    refine no_ 16 ?_
    refine pu_ HT_ 4 12 (bs 10 159) ?_
    refine pu_ HT_ 5 17 (bs 10 191) ?_
    refine pu_ HT_ 6 18 (bs 10 255) ?_
    exact norm_ (by simp only [putAll, Act.put, List.setIfInBounds_toArray, List.set_cons_zero, List.set_cons_succ]) (hCont (gb915) _ ⟨hHeld, (kv_ BK898), (kv_ BK899), (kv_ BK908), (kv_ BK915), GW915.out, GE915.out, NB903_915.out, NB915_903.out, NB898_915.out, NB915_898.out, NB899_915.out, NB915_899.out, NB908_915.out, NB915_908.out, (by repeat (first | (with_reducible first | exact HI903.out | apply IsS87.alloc | apply IsS87.drewN | apply IsS87.drew | apply IsS87.set_1 | apply IsS87.set_2 | refine IsS87.far ?_ NB903_898.out _ | refine IsS87.far ?_ NB903_899.out _ | refine IsS87.far ?_ NB903_908.out _ | refine IsS87.far ?_ NB903_915.out _) | exact HI903.out)), (by repeat (first | (with_reducible first | exact HB.out | apply below_alloc | apply pw_below_drewN | apply below_drew1 | refine below_set ?_ (IsS87.ge HI903.out) | refine below_set ?_ GE898.out | refine below_set ?_ GE899.out | refine below_set ?_ GE908.out | refine below_set ?_ GE915.out) | exact HB.out))⟩)
  rintro gb915 w72 ⟨hS_, h0_, h1_, h2_, h3_, h4_, h5_, h6_, h7_, h8_, h9_, h10_, h11_, h12_, h13_, h14_, h15_⟩
  have n0_ : Aside0 (w72.heap[gb898]? = some (.cells #[.int .i64 0, .int .i64 0] 25 (0, 0))) := ⟨h0_⟩
  have n1_ : Aside0 (w72.heap[gb899]? = some (.cells #[.int .i64 0, .int .i64 0] 25 (0, 0))) := ⟨h1_⟩
  have n2_ : Aside0 (w72.heap[gb908]? = some (.cells #[.int .i64 t904, .int .i64 t905] 25 (0, 0))) := ⟨h2_⟩
  have n3_ : Aside0 (w72.heap[gb915]? = some (.cells #[.int .i64 0, .int .i64 0] 25 (0, 0))) := ⟨h3_⟩
  have n4_ : Aside0 (w.heap.size ≤ gb915) := ⟨h4_⟩
  have n5_ : Aside0 (w.heap.size ≤ gb915) := ⟨h5_⟩
  have n6_ : Aside0 (g903 ≠ gb915) := ⟨h6_⟩
  have n7_ : Aside0 (gb915 ≠ g903) := ⟨h7_⟩
  have n8_ : Aside0 (gb898 ≠ gb915) := ⟨h8_⟩
  have n9_ : Aside0 (gb915 ≠ gb898) := ⟨h9_⟩
  have n10_ : Aside0 (gb899 ≠ gb915) := ⟨h10_⟩
  have n11_ : Aside0 (gb915 ≠ gb899) := ⟨h11_⟩
  have n12_ : Aside0 (gb908 ≠ gb915) := ⟨h12_⟩
  have n13_ : Aside0 (gb915 ≠ gb908) := ⟨h13_⟩
  have n14_ : Aside0 (IsS87 w w72 g903 t900 t910 t911) := ⟨h14_⟩
  have n15_ : Aside0 (Below w.heap.size w w72) := ⟨h15_⟩
  clear BK898
  clear BK899
  clear BK908
  clear HI903
  clear HB
  clear h0_ h1_ h2_ h3_ h4_ h5_ h6_ h7_ h8_ h9_ h10_ h11_ h12_ h13_ h14_ h15_
  have BK898 := n0_
  have BK899 := n1_
  have BK908 := n2_
  have BK915 := n3_
  have GW915 := n4_
  have GE915 := n5_
  have NB903_915 := n6_
  have NB915_903 := n7_
  have NB898_915 := n8_
  have NB915_898 := n9_
  have NB899_915 := n10_
  have NB915_899 := n11_
  have NB908_915 := n12_
  have NB915_908 := n13_
  have HI903 := n14_
  have HB := n15_
  clear n0_ n1_ n2_ n3_ n4_ n5_ n6_ n7_ n8_ n9_ n10_ n11_ n12_ n13_ n14_ n15_
  have hHeld : w72.cell? ⟨gb908, 0, none⟩ = some (.int .i64 t904) ∧ w72.cell? ⟨gb908, 1, none⟩ = some (.int .i64 t905) := hS_
  refine norm_ (a' := ?_) ?_ ?_
  rotate_left
  ·simp only [putAll, Act.put, List.setIfInBounds_toArray, List.set_cons_zero, List.set_cons_succ]
   rfl
  refine one_ (i := 8) (N := none) (bs 10 511) rfl rfl (one_of HT_.out (by kernel_rfl)) (by decide) (fun K hK => ?_)
  have hs73 : w72.cell? ⟨gb915, 0, none⟩ = some (.int .i64 0) := (blk_cell BK915.out 0).trans rfl
  have hfs73 := blk_frozen BK915.out 0
  have hns73_0 := NB898_915.out
  have hns73_1 := NB899_915.out
  have hns73_2 := NB908_915.out
  have hms73_0 := NB915_898.out
  have hms73_1 := NB915_899.out
  have hms73_2 := NB915_908.out
  have hs74 : w72.cell? ⟨gb915, 1, none⟩ = some (.int .i64 0) := (blk_cell BK915.out 1).trans rfl
  have hfs74 := blk_frozen BK915.out 1
  have hns74_0 := NB898_915.out
  have hns74_1 := NB899_915.out
  have hns74_2 := NB908_915.out
  have hms74_0 := NB915_898.out
  have hms74_1 := NB915_899.out
  have hms74_2 := NB915_908.out
  refine skip_ (w1 := ?_) (by rfl) rfl ?_ ?_
  rotate_left
  ·go_simp
   rfl
  refine hK.out _ _ ⟨((cell_far (p := ⟨gb915, _, none⟩) NB908_915.out _).trans (((cell_far (p := ⟨gb915, _, none⟩) NB908_915.out _).trans (hHeld.1)))), ((cell_far (p := ⟨gb915, _, none⟩) NB908_915.out _).trans (((cell_far (p := ⟨gb915, _, none⟩) NB908_915.out _).trans (hHeld.2))))⟩ (fun hHeld => ?_)
  clear hK K
  refine pu_ HT_ 9 7 (bs 10 1023) ?_
  refine done_ (done_of HT_.out (by kernel_rfl)) ?_
  try go_wp2
  have n0_ : Aside0 (((w72.setCell ⟨gb915, 0, none⟩ (.int .i64 t912)).setCell ⟨gb915, 1, none⟩ (.int .i64 t913)).heap[gb898]? = some (.cells #[.int .i64 0, .int .i64 0] 25 (0, 0))) := ⟨by (with_reducible repeat (first | refine blk_drewN ?_ _ | refine blk_drew ?_ | refine blk_alloc ?_ _)); refine blk_far ?_ NB898_915.out _; (with_reducible repeat (first | refine blk_drewN ?_ _ | refine blk_drew ?_ | refine blk_alloc ?_ _)); refine blk_far ?_ NB898_915.out _; (with_reducible repeat (first | refine blk_drewN ?_ _ | refine blk_drew ?_ | refine blk_alloc ?_ _)); exact BK898.out⟩
  have n1_ : Aside0 (((w72.setCell ⟨gb915, 0, none⟩ (.int .i64 t912)).setCell ⟨gb915, 1, none⟩ (.int .i64 t913)).heap[gb899]? = some (.cells #[.int .i64 0, .int .i64 0] 25 (0, 0))) := ⟨by (with_reducible repeat (first | refine blk_drewN ?_ _ | refine blk_drew ?_ | refine blk_alloc ?_ _)); refine blk_far ?_ NB899_915.out _; (with_reducible repeat (first | refine blk_drewN ?_ _ | refine blk_drew ?_ | refine blk_alloc ?_ _)); refine blk_far ?_ NB899_915.out _; (with_reducible repeat (first | refine blk_drewN ?_ _ | refine blk_drew ?_ | refine blk_alloc ?_ _)); exact BK899.out⟩
  have n2_ : Aside0 (((w72.setCell ⟨gb915, 0, none⟩ (.int .i64 t912)).setCell ⟨gb915, 1, none⟩ (.int .i64 t913)).heap[gb908]? = some (.cells #[.int .i64 t904, .int .i64 t905] 25 (0, 0))) := ⟨by (with_reducible repeat (first | refine blk_drewN ?_ _ | refine blk_drew ?_ | refine blk_alloc ?_ _)); refine blk_far ?_ NB908_915.out _; (with_reducible repeat (first | refine blk_drewN ?_ _ | refine blk_drew ?_ | refine blk_alloc ?_ _)); refine blk_far ?_ NB908_915.out _; (with_reducible repeat (first | refine blk_drewN ?_ _ | refine blk_drew ?_ | refine blk_alloc ?_ _)); exact BK908.out⟩
  have n3_ : Aside0 (((w72.setCell ⟨gb915, 0, none⟩ (.int .i64 t912)).setCell ⟨gb915, 1, none⟩ (.int .i64 t913)).heap[gb915]? = some (.cells #[.int .i64 t912, .int .i64 t913] 25 (0, 0))) := ⟨by (with_reducible repeat (first | refine blk_drewN ?_ _ | refine blk_drew ?_ | refine blk_alloc ?_ _)); refine blk_put (cs := #[.int .i64 t912, .int .i64 0]) ?_ 1 _ rfl; (with_reducible repeat (first | refine blk_drewN ?_ _ | refine blk_drew ?_ | refine blk_alloc ?_ _)); refine blk_put (cs := #[.int .i64 0, .int .i64 0]) ?_ 0 _ rfl; (with_reducible repeat (first | refine blk_drewN ?_ _ | refine blk_drew ?_ | refine blk_alloc ?_ _)); exact BK915.out⟩
  have n4_ : Aside0 (IsS87 w ((w72.setCell ⟨gb915, 0, none⟩ (.int .i64 t912)).setCell ⟨gb915, 1, none⟩ (.int .i64 t913)) g903 t900 t910 t911) := ⟨by repeat (first | (with_reducible first | exact HI903.out | apply IsS87.alloc | apply IsS87.drewN | apply IsS87.drew | apply IsS87.set_1 | apply IsS87.set_2 | refine IsS87.far ?_ NB903_898.out _ | refine IsS87.far ?_ NB903_899.out _ | refine IsS87.far ?_ NB903_908.out _ | refine IsS87.far ?_ NB903_915.out _) | exact HI903.out)⟩
  have n5_ : Aside0 (Below w.heap.size w ((w72.setCell ⟨gb915, 0, none⟩ (.int .i64 t912)).setCell ⟨gb915, 1, none⟩ (.int .i64 t913))) := ⟨by repeat (first | (with_reducible first | exact HB.out | apply below_alloc | apply pw_below_drewN | apply below_drew1 | refine below_set ?_ (IsS87.ge HI903.out) | refine below_set ?_ GE898.out | refine below_set ?_ GE899.out | refine below_set ?_ GE908.out | refine below_set ?_ GE915.out) | exact HB.out)⟩
  (try clear BK898)
  (try clear BK899)
  (try clear BK908)
  (try clear BK915)
  (try clear HI903)
  (try clear HB)
  generalize ((w72.setCell ⟨gb915, 0, none⟩ (.int .i64 t912)).setCell ⟨gb915, 1, none⟩ (.int .i64 t913)) = w75 at n0_ n1_ n2_ n3_ n4_ n5_ ⊢
  have BK898 := n0_
  have BK899 := n1_
  have BK908 := n2_
  have BK915 := n3_
  have HI903 := n4_
  have HB := n5_
  clear n0_ n1_ n2_ n3_ n4_ n5_
  replace BK898 := Aside0.mk (blk_drew BK898.out)
  replace BK899 := Aside0.mk (blk_drew BK899.out)
  replace BK908 := Aside0.mk (blk_drew BK908.out)
  replace BK915 := Aside0.mk (blk_drew BK915.out)
  replace HI903 := Aside0.mk (IsS87.drew HI903.out)
  replace HB := Aside0.mk (below_drew1 HB.out)
  refine start_ (n := 5) (S := fun w' => w'.cell? ⟨gb908, 0, none⟩ = some (.int .i64 t904) ∧ w'.cell? ⟨gb908, 1, none⟩ = some (.int .i64 t905)) (ds := []) (bs 5 0) (by kernel_rfl) rfl (by kernel_rfl) ⟨(blk_cell BK908.out 0).trans rfl, (blk_cell BK908.out 1).trans rfl⟩ (fun hHeld => ?_)
  generalize w75.drew = w76 at BK898 BK899 BK908 BK915 HI903 HB hHeld ⊢
  refine pure_ (i := 1) (N := some 27) (v := ?_) (a' := ?_) (bs 5 2) rfl rfl (by kernel_rfl) (fun _ _ _ h => h) (Or.inl ⟨by rfl, ?_⟩) ?_ ?_
  rotate_left
  ·intro w'
   go_simp
   with_reducible rfl
  rotate_left
  ·simp only [Act.put, List.setIfInBounds_toArray, List.set_cons_zero, List.set_cons_succ, i64_w, i32_w]
   rfl
  refine take_ (i := 0) (N := some 26) (v := ?_) (a' := ?_) (bs 5 3) rfl rfl (by kernel_rfl) (fun _ _ _ h => h) (Or.inl ⟨by rfl, ?_⟩) hHeld ?_ ?_
  rotate_left
  ·rintro w' ⟨s0, s1⟩
   go_simp
   with_reducible rfl
  rotate_left
  ·simp only [Act.put, List.setIfInBounds_toArray, List.set_cons_zero, List.set_cons_succ, i64_w, i32_w]
   rfl
  refine one_ (i := 2) (N := some 28) (bs 5 7) rfl rfl (by kernel_rfl) (by decide) (fun K hK => ?_)
  refine goes_ Try.func39 (by kernel_rfl) rfl #[.pointer (some ⟨g903, 0, none⟩)] (by rfl) rfl rfl mp_ ?_
  with_reducible refine (spec_l2Any.calls k g903 t900 t910 t911 t923 t924 t925 t926 w _ ?side1 ?side2 A57.out).mono ?_
  (case side1 => repeat (first | (with_reducible first | exact HI903.out | apply IsS87.alloc | apply IsS87.drewN | apply IsS87.drew | apply IsS87.set_1 | apply IsS87.set_2 | refine IsS87.far ?_ NB903_898.out _ | refine IsS87.far ?_ NB903_899.out _ | refine IsS87.far ?_ NB903_908.out _ | refine IsS87.far ?_ NB903_915.out _) | exact HI903.out))
  (case side2 => repeat (first | (with_reducible first | exact HB.out | apply below_alloc | apply pw_below_drewN | apply below_drew1 | refine below_set ?_ (IsS87.ge HI903.out) | refine below_set ?_ GE898.out | refine below_set ?_ GE899.out | refine below_set ?_ GE908.out | refine below_set ?_ GE915.out) | exact HB.out))
  rintro e w77 ⟨rfl, hi, hb, hk⟩
  refine ⟨_, rfl, ?_⟩
  replace BK898 := Aside0.mk (KeepBut.blk hk (g' := gb898) (o := .cells #[.int .i64 0, .int .i64 0] 25 (0, 0)) (kv_ BK898) NB898_903.out (by simp))
  replace BK899 := Aside0.mk (KeepBut.blk hk (g' := gb899) (o := .cells #[.int .i64 0, .int .i64 0] 25 (0, 0)) (kv_ BK899) NB899_903.out (by simp))
  replace BK908 := Aside0.mk (KeepBut.blk hk (g' := gb908) (o := .cells #[.int .i64 t904, .int .i64 t905] 25 (0, 0)) (kv_ BK908) NB908_903.out (by simp))
  replace BK915 := Aside0.mk (KeepBut.blk hk (g' := gb915) (o := .cells #[.int .i64 t912, .int .i64 t913] 25 (0, 0)) (kv_ BK915) NB915_903.out (by simp))
  replace HB := Aside0.mk (hb)
  replace HI903 := Aside0.mk (hi)
  (try clear hb)
  (try clear hb2)
  (try clear hk)
  (try clear hi)
  refine hK.out _ _ ⟨(blk_cell BK908.out 0).trans rfl, (blk_cell BK908.out 1).trans rfl⟩ (fun hHeld => ?_)
  clear hK K
  refine no_ 28 ?_
  refine one_ (i := 3) (N := none) (bs 5 15) rfl rfl (by kernel_rfl) (by decide) (fun K hK => ?_)
  have hs78 : w77.cell? ⟨gb898, 0, none⟩ = some (.int .i64 0) := (blk_cell BK898.out 0).trans rfl
  have hfs78 := blk_frozen BK898.out 0
  have hns78_1 := NB899_898.out
  have hns78_2 := NB908_898.out
  have hns78_3 := NB915_898.out
  have hms78_1 := NB898_899.out
  have hms78_2 := NB898_908.out
  have hms78_3 := NB898_915.out
  have hs79 : w77.cell? ⟨gb898, 1, none⟩ = some (.int .i64 0) := (blk_cell BK898.out 1).trans rfl
  have hfs79 := blk_frozen BK898.out 1
  have hns79_1 := NB899_898.out
  have hns79_2 := NB908_898.out
  have hns79_3 := NB915_898.out
  have hms79_1 := NB898_899.out
  have hms79_2 := NB898_908.out
  have hms79_3 := NB898_915.out
  refine skip_ (w1 := ?_) (by rfl) rfl ?_ ?_
  rotate_left
  ·go_simp
   rfl
  refine hK.out _ _ ⟨((cell_far (p := ⟨gb898, _, none⟩) NB908_898.out _).trans (((cell_far (p := ⟨gb898, _, none⟩) NB908_898.out _).trans (hHeld.1)))), ((cell_far (p := ⟨gb898, _, none⟩) NB908_898.out _).trans (((cell_far (p := ⟨gb898, _, none⟩) NB908_898.out _).trans (hHeld.2))))⟩ (fun hHeld => ?_)
  clear hK K
  refine one_ (i := 4) (N := none) (bs 5 31) rfl rfl (by kernel_rfl) (by decide) (fun K hK => ?_)
  have hs80 : w77.cell? ⟨gb899, 0, none⟩ = some (.int .i64 0) := (blk_cell BK899.out 0).trans rfl
  have hfs80 := blk_frozen BK899.out 0
  have hns80_0 := NB898_899.out
  have hns80_2 := NB908_899.out
  have hns80_3 := NB915_899.out
  have hms80_0 := NB899_898.out
  have hms80_2 := NB899_908.out
  have hms80_3 := NB899_915.out
  have hs81 : w77.cell? ⟨gb899, 1, none⟩ = some (.int .i64 0) := (blk_cell BK899.out 1).trans rfl
  have hfs81 := blk_frozen BK899.out 1
  have hns81_0 := NB898_899.out
  have hns81_2 := NB908_899.out
  have hns81_3 := NB915_899.out
  have hms81_0 := NB899_898.out
  have hms81_2 := NB899_908.out
  have hms81_3 := NB899_915.out
  refine skip_ (w1 := ?_) (by rfl) rfl ?_ ?_
  rotate_left
  ·go_simp
   rfl
  refine hK.out _ _ ⟨((cell_far (p := ⟨gb899, _, none⟩) NB908_899.out _).trans (((cell_far (p := ⟨gb899, _, none⟩) NB908_899.out _).trans (hHeld.1)))), ((cell_far (p := ⟨gb899, _, none⟩) NB908_899.out _).trans (((cell_far (p := ⟨gb899, _, none⟩) NB908_899.out _).trans (hHeld.2))))⟩ (fun hHeld => ?_)
  clear hK K
  refine done_ (by kernel_rfl) ?_
  try go_wp2
  refine bodyPost_ret (results_cc rfl _ _ gb898 gb899 25 25 #[.int .i64 t904, .int .i64 t905] #[.int .i64 t923, .int .i64 t924] (0, 0) (0, 0) _ _ rfl (by (with_reducible repeat (first | refine blk_drewN ?_ _ | refine blk_drew ?_ | refine blk_alloc ?_ _)); refine blk_far ?_ NB898_899.out _; (with_reducible repeat (first | refine blk_drewN ?_ _ | refine blk_drew ?_ | refine blk_alloc ?_ _)); refine blk_far ?_ NB898_899.out _; (with_reducible repeat (first | refine blk_drewN ?_ _ | refine blk_drew ?_ | refine blk_alloc ?_ _)); refine blk_put (cs := #[.int .i64 t904, .int .i64 0]) ?_ 1 _ rfl; (with_reducible repeat (first | refine blk_drewN ?_ _ | refine blk_drew ?_ | refine blk_alloc ?_ _)); refine blk_put (cs := #[.int .i64 0, .int .i64 0]) ?_ 0 _ rfl; (with_reducible repeat (first | refine blk_drewN ?_ _ | refine blk_drew ?_ | refine blk_alloc ?_ _)); exact BK898.out) Try.underlying25 rfl (by kernel_rfl) rfl (by (with_reducible repeat (first | refine blk_drewN ?_ _ | refine blk_drew ?_ | refine blk_alloc ?_ _)); refine blk_put (cs := #[.int .i64 t923, .int .i64 0]) ?_ 1 _ rfl; (with_reducible repeat (first | refine blk_drewN ?_ _ | refine blk_drew ?_ | refine blk_alloc ?_ _)); refine blk_put (cs := #[.int .i64 0, .int .i64 0]) ?_ 0 _ rfl; (with_reducible repeat (first | refine blk_drewN ?_ _ | refine blk_drew ?_ | refine blk_alloc ?_ _)); refine blk_far ?_ NB899_898.out _; (with_reducible repeat (first | refine blk_drewN ?_ _ | refine blk_drew ?_ | refine blk_alloc ?_ _)); refine blk_far ?_ NB899_898.out _; (with_reducible repeat (first | refine blk_drewN ?_ _ | refine blk_drew ?_ | refine blk_alloc ?_ _)); exact BK899.out) Try.underlying25 rfl (by kernel_rfl)) rfl ?_
  exact ⟨er_, by repeat (first | (with_reducible first | exact HB.out | apply below_alloc | apply pw_below_drewN | apply below_drew1 | refine below_set ?_ (IsS87.ge HI903.out) | refine below_set ?_ GE898.out | refine below_set ?_ GE899.out | refine below_set ?_ GE908.out | refine below_set ?_ GE915.out) | exact HB.out)⟩


end Go.Proofs.Yteljkpglgjjnlaa.P
