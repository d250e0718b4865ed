-- Out of the translation, by this session's program over the printer's; Lean checks it.
import Derived.Test.YteljkpglgjjnlaaDoorSh
import Derived.Test.YteljkpglgjjnlaaDoorQ0
import Derived.Test.YteljkpglgjjnlaaDoorQ4
namespace Go.Proofs.YteljkpglgjjnlaaDoor.P
open Go.RowKit Go.Proofs.YteljkpglgjjnlaaDoorW.PrintWords Go.Proofs.YteljkpglgjjnlaaDoorW.PrintLast Go.Proofs.YteljkpglgjjnlaaDoorW.PrintMore
attribute [local go_sem] max2_int min2_int max_two min_two max_three min_three max_four min_four
set_option linter.unusedVariables false
set_option linter.unusedSimpArgs false

/-! ### impl_ParseTerm: function 33 -/
def impl_ParseTerm.l0 : Nat → Int → ByteArray → Int → Int → Int → Int → Int → Option (Int × Int × Bool)
 | 0, _, _, _, _, _, _, _ => none
 | k + 1, x0, x1, x7, x12, x13, x427000, x427001 => if x13 < x12 then (if 0 ≤ x13 then (if x13 < (x1.size : Int) then (if (bt x1 x13) = 33 then (impl_ParseTerm.l0 k x0 x1 0 x12 (wrap64 (x13 + 1)) x427000 x427001) else ((impl_isLetter.f (bt x1 x13)).bind fun t429 => (if t429 = true then (impl_ParseTerm.l0 k x0 x1 1 x12 (wrap64 (x13 + 1)) (Go.bits .or .i64 x427000 (shl .i64 1 (((bt x1 x13) - 97) % 256))) (Go.bits .or .i64 x427001 (shl .i64 x7 (((bt x1 x13) - 97) % 256)))) else (impl_ParseTerm.l0 k x0 x1 x7 x12 (wrap64 (x13 + 1)) x427000 x427001)))) else (none)) else (none)) else (if x1.toList = ([] : List UInt8) then (some (0, 0, false)) else ((impl_FormatTerm.f k x0 x427000 x427001).bind fun t428 => (if t428.toList = x1.toList then (some (x427000, x427001, true)) else (some (0, 0, false)))))
def impl_ParseTerm.f (k : Nat) (a0 : Int) (a1 : ByteArray) : Option (Int × Int × Bool) := if a1.toList = ([49] : List UInt8) then (if a1.toList = ([] : List UInt8) then (some (0, 0, false)) else ((impl_FormatTerm.f k a0 0 0).bind fun t427 => (if t427.toList = a1.toList then (some (0, 0, true)) else (some (0, 0, false))))) else (impl_ParseTerm.l0 k a0 a1 1 (a1.size : Int) 0 0 0)
theorem impl_ParseTerm.mono_l : ∀ k, (∀ y0 y1 y2 y3 y4 y5 y6, LeO (impl_ParseTerm.l0 k y0 y1 y2 y3 y4 y5 y6) (impl_ParseTerm.l0 (k + 1) y0 y1 y2 y3 y4 y5 y6))
 | 0 => fun _ _ _ _ _ _ _ r h => by simp [impl_ParseTerm.l0] at h
 | k + 1 => by
  have ih0 := impl_ParseTerm.mono_l k
  ·intro y0 y1 y2 y3 y4 y5 y6
   unfold impl_ParseTerm.l0
   repeat' first
   | (with_reducible exact ih0 _ _ _ _ _ _ _)
   | (with_reducible exact impl_FormatTerm.mono _ _ _ _)
   | (with_reducible exact LeO.refl _)
   | (with_reducible exact LeO.none _)
   | (with_reducible refine LeO.ite ?_ ?_)
   | (with_reducible refine LeO.bind ?_ (fun _ => ?_))
   | exact ih0 _ _ _ _ _ _ _
   | exact impl_FormatTerm.mono _ _ _ _
   | exact LeO.none _
   | refine LeO.ite ?_ ?_
   | refine LeO.bind ?_ (fun _ => ?_)
theorem impl_ParseTerm.mono : ∀ a0 a1 k, LeO (impl_ParseTerm.f k a0 a1) (impl_ParseTerm.f (k + 1) a0 a1) := by
 intro a0 a1 k
 have ih0 := impl_ParseTerm.mono_l k
 unfold impl_ParseTerm.f
 repeat' first
   | (with_reducible exact ih0 _ _ _ _ _ _ _)
   | (with_reducible exact impl_FormatTerm.mono _ _ _ _)
   | (with_reducible exact LeO.refl _)
   | (with_reducible exact LeO.none _)
   | (with_reducible refine LeO.ite ?_ ?_)
   | (with_reducible refine LeO.bind ?_ (fun _ => ?_))
   | exact ih0 _ _ _ _ _ _ _
   | exact impl_FormatTerm.mono _ _ _ _
   | exact LeO.none _
   | refine LeO.ite ?_ ?_
   | refine LeO.bind ?_ (fun _ => ?_)
def impl_ParseTerm.T10 : Bool × List (List Nat × List Nat) := (true, [([], []), ([0], [0]), ([], []), ([], []), ([2, 3], [2, 3]), ([4], [4]), ([5], [5]), ([1, 6], [1, 6]), ([0, 1, 2, 3, 4, 5, 6, 7], []), ([8, 7, 0, 1, 2, 3, 4, 5, 6, 7], [7, 8])])
def impl_ParseTerm.B10 : List Nat := [0, 1, 0, 0, 12, 28, 60, 127, 255, 511]
theorem impl_ParseTerm.tab10 : rtab .any (opsOf Tryd.f33 10) = impl_ParseTerm.T10 := by kernel_rfl
theorem impl_ParseTerm.bits10 : waitsOk impl_ParseTerm.T10.2 impl_ParseTerm.B10 = true := by kernel_rfl
def impl_ParseTerm.T11 : Bool × List (List Nat × List Nat) := (true, [([], []), ([0], [0]), ([], []), ([], []), ([], []), ([3, 4], [3, 4]), ([5], [5]), ([2, 6], [2, 6]), ([1, 7], [1, 7]), ([0, 1, 2, 3, 4, 5, 6, 7, 8], []), ([9, 8, 0, 1, 2, 3, 4, 5, 6, 7, 8], [8, 9])])
def impl_ParseTerm.B11 : List Nat := [0, 1, 0, 0, 0, 24, 56, 124, 255, 511, 1023]
theorem impl_ParseTerm.tab11 : rtab .any (opsOf Tryd.f33 11) = impl_ParseTerm.T11 := by kernel_rfl
theorem impl_ParseTerm.bits11 : waitsOk impl_ParseTerm.T11.2 impl_ParseTerm.B11 = true := by kernel_rfl
set_option maxHeartbeats 8000000 in
set_option maxRecDepth 100000 in
theorem impl_ParseTerm.calls (k : Nat) (a0 : Int) (a1 : ByteArray) (r1 : Int) (r2 : Int) (r3 : Bool) (w : World) (h : impl_ParseTerm.f k a0 a1 = some (r1, r2, r3)) :
  Calls Tryd.prog 33 #[.int .i64 a0, .string a1] w fun e w' => e = .returned (.tuple #[.agg #[.int .i64 r1, .int .i64 r2], .bool r3]) ∧ Below w.heap.size w w' := by
 have hu44 := Tryd.underlying44
 have HB := Aside0.mk (Below.refl w.heap.size w)
 have H : (if a1.toList = ([49] : List UInt8) then (if a1.toList = ([] : List UInt8) then (some (0, 0, false)) else ((impl_FormatTerm.f k a0 0 0).bind fun t427 => (if t427.toList = a1.toList then (some (0, 0, true)) else (some (0, 0, false))))) else (impl_ParseTerm.l0 k a0 a1 1 (a1.size : Int) 0 0 0)) = some (r1, r2, r3) := h
 clear h
 by_cases c3 : a1.toList = ([49] : List UInt8)
 ·rw [if_pos c3] at H
  have c3b0 : (a1.toList == ([49] : List UInt8)) = true := beq_iff_eq.mpr c3
  have c3b1 : (a1.toList != ([49] : List UInt8)) = false := bne_eq_false_iff_eq.mpr c3
  clear c3
  by_cases c4 : a1.toList = ([] : List UInt8)
  ·rw [if_pos c4] at H
   have c4b0 : (a1.toList == ([] : List UInt8)) = true := beq_iff_eq.mpr c4
   have c4b1 : (a1.toList != ([] : List UInt8)) = false := bne_eq_false_iff_eq.mpr c4
   clear c4
   simp only [Option.some.injEq, Prod.mk.injEq] at H
   obtain ⟨rfl, rfl, rfl⟩ := H
   go_enter Tryd.func33, Tryd.ntmps33
   go_wp2_with (first | ((with_reducible refine gate_dst (N := 4) rfl ?_); refine bx_ 4 #[.int .i64 0, .int .i64 0] 44 ?_; intro gb425 hg w5 hbox hb; have BK425 := Aside0.mk (hbox); have GW425 := gw_ hg (below_size (bv_ HB)); have GE425 := GW425; replace HB := Aside0.mk (below_step (bv_ HB) hb); clear hb hbox hg) | ((with_reducible refine gate_dst (N := 6) rfl ?_); refine bx_ 6 #[.int .i64 0, .int .i64 0] 44 ?_; intro gb426 hg w6 hbox hb; have BK426 := Aside0.mk (hbox); have GW426 := gw_ hg (below_size (bv1_ HB GE425)); have GE426 := GW426; replace HB := Aside0.mk (below_step (bv1_ HB GE425) hb); have NB425_426 := nb_ hg (blk_lt (g := gb425) (o := .cells #[.int .i64 0, .int .i64 0] 44 (0, 0)) (kv_ BK425)); have NB426_425 := nc_ hg (blk_lt (g := gb425) (o := .cells #[.int .i64 0, .int .i64 0] 44 (0, 0)) (kv_ BK425)); replace BK425 := kb_ BK425 hb; clear hb hbox hg; have hnb7 := NB425_426.out; have hnc7 := NB426_425.out; obtain ⟨hcz8_0, hcz8_1, hfz8_0, hfz8_1⟩ := c2_ BK425))
   refine bodyPost_ret (results_ct rfl _ _ gb425 44 #[.int .i64 0, .int .i64 0] (0, 0) _ rfl (by (with_reducible repeat (first | refine blk_drewN ?_ _ | refine blk_drew ?_ | refine blk_alloc ?_ _)); refine blk_put (cs := #[.int .i64 0, .int .i64 0]) ?_ 1 _ rfl; (with_reducible repeat (first | refine blk_drewN ?_ _ | refine blk_drew ?_ | refine blk_alloc ?_ _)); refine blk_put (cs := #[.int .i64 0, .int .i64 0]) ?_ 0 _ rfl; (with_reducible repeat (first | refine blk_drewN ?_ _ | refine blk_drew ?_ | refine blk_alloc ?_ _)); exact BK425.out) Tryd.underlying44 rfl (by kernel_rfl)) rfl ?_
   exact ⟨er_, bv2_ HB GE425 GE426⟩
  ·rw [if_neg c4] at H
   have c4b0 : (a1.toList == ([] : List UInt8)) = false := beq_eq_false_iff_ne.mpr c4
   have c4b1 : (a1.toList != ([] : List UInt8)) = true := bne_iff_ne.mpr c4
   replace H := Option.bind_eq_some_iff.mp H
   obtain ⟨t427, A90, H⟩ := H
   have A9 := Aside0.mk A90
   clear A90
   by_cases c10 : t427.toList = a1.toList
   ·rw [if_pos c10] at H
    have c10b0 : (t427.toList == a1.toList) = true := beq_iff_eq.mpr c10
    have c10b1 : (t427.toList != a1.toList) = false := bne_eq_false_iff_eq.mpr c10
    clear c10
    simp only [Option.some.injEq, Prod.mk.injEq] at H
    obtain ⟨rfl, rfl, rfl⟩ := H
    go_enter Tryd.func33, Tryd.ntmps33
    go_wp2_with (first | ((with_reducible refine gate_dst (N := 4) rfl ?_); refine bx_ 4 #[.int .i64 0, .int .i64 0] 44 ?_; intro gb425 hg w11 hbox hb; have BK425 := Aside0.mk (hbox); have GW425 := gw_ hg (below_size (bv_ HB)); have GE425 := GW425; replace HB := Aside0.mk (below_step (bv_ HB) hb); clear hb hbox hg) | ((with_reducible refine gate_dst (N := 6) rfl ?_); refine bx_ 6 #[.int .i64 0, .int .i64 0] 44 ?_; intro gb426 hg w12 hbox hb; have BK426 := Aside0.mk (hbox); have GW426 := gw_ hg (below_size (bv1_ HB GE425)); have GE426 := GW426; replace HB := Aside0.mk (below_step (bv1_ HB GE425) hb); have NB425_426 := nb_ hg (blk_lt (g := gb425) (o := .cells #[.int .i64 0, .int .i64 0] 44 (0, 0)) (kv_ BK425)); have NB426_425 := nc_ hg (blk_lt (g := gb425) (o := .cells #[.int .i64 0, .int .i64 0] 44 (0, 0)) (kv_ BK425)); replace BK425 := kb_ BK425 hb; clear hb hbox hg; have hnb13 := NB426_425.out; have hnc13 := NB425_426.out; obtain ⟨hcz14_0, hcz14_1, hfz14_0, hfz14_1⟩ := c2_ BK426) | (go_at_call 59; (with_reducible refine (impl_FormatTerm.calls k a0 0 0 t427 _ A9.out).mono ?_); rintro e w15 ⟨rfl, hb⟩; replace BK425 := kb_ BK425 hb; replace BK426 := kb_ BK426 hb; replace HB := Aside0.mk (below_step (bv2_ HB GE425 GE426) hb); (try clear hb); (try clear hb2); (try clear hk); (try clear hi); obtain ⟨hcz16_0, hcz16_1, hfz16_0, hfz16_1⟩ := c2_ BK426; obtain ⟨hcz17_0, hcz17_1, hfz17_0, hfz17_1⟩ := c2_ BK425))
    refine bodyPost_ret (results_ct rfl _ _ gb425 44 #[.int .i64 0, .int .i64 0] (0, 0) _ rfl (by (with_reducible repeat (first | refine blk_drewN ?_ _ | refine blk_drew ?_ | refine blk_alloc ?_ _)); refine blk_put (cs := #[.int .i64 0, .int .i64 0]) ?_ 1 _ rfl; (with_reducible repeat (first | refine blk_drewN ?_ _ | refine blk_drew ?_ | refine blk_alloc ?_ _)); refine blk_put (cs := #[.int .i64 0, .int .i64 0]) ?_ 0 _ rfl; (with_reducible repeat (first | refine blk_drewN ?_ _ | refine blk_drew ?_ | refine blk_alloc ?_ _)); exact BK425.out) Tryd.underlying44 rfl (by kernel_rfl)) rfl ?_
    exact ⟨er_, bv2_ HB GE425 GE426⟩
   ·rw [if_neg c10] at H
    have c10b0 : (t427.toList == a1.toList) = false := beq_eq_false_iff_ne.mpr c10
    have c10b1 : (t427.toList != a1.toList) = true := bne_iff_ne.mpr c10
    simp only [Option.some.injEq, Prod.mk.injEq] at H
    obtain ⟨rfl, rfl, rfl⟩ := H
    go_enter Tryd.func33, Tryd.ntmps33
    go_wp2_with (first | ((with_reducible refine gate_dst (N := 4) rfl ?_); refine bx_ 4 #[.int .i64 0, .int .i64 0] 44 ?_; intro gb425 hg w18 hbox hb; have BK425 := Aside0.mk (hbox); have GW425 := gw_ hg (below_size (bv_ HB)); have GE425 := GW425; replace HB := Aside0.mk (below_step (bv_ HB) hb); clear hb hbox hg) | ((with_reducible refine gate_dst (N := 6) rfl ?_); refine bx_ 6 #[.int .i64 0, .int .i64 0] 44 ?_; intro gb426 hg w19 hbox hb; have BK426 := Aside0.mk (hbox); have GW426 := gw_ hg (below_size (bv1_ HB GE425)); have GE426 := GW426; replace HB := Aside0.mk (below_step (bv1_ HB GE425) hb); have NB425_426 := nb_ hg (blk_lt (g := gb425) (o := .cells #[.int .i64 0, .int .i64 0] 44 (0, 0)) (kv_ BK425)); have NB426_425 := nc_ hg (blk_lt (g := gb425) (o := .cells #[.int .i64 0, .int .i64 0] 44 (0, 0)) (kv_ BK425)); replace BK425 := kb_ BK425 hb; clear hb hbox hg; have hnb20 := NB426_425.out; have hnc20 := NB425_426.out; obtain ⟨hcz21_0, hcz21_1, hfz21_0, hfz21_1⟩ := c2_ BK426) | (go_at_call 59; (with_reducible refine (impl_FormatTerm.calls k a0 0 0 t427 _ A9.out).mono ?_); rintro e w22 ⟨rfl, hb⟩; replace BK425 := kb_ BK425 hb; replace BK426 := kb_ BK426 hb; replace HB := Aside0.mk (below_step (bv2_ HB GE425 GE426) hb); (try clear hb); (try clear hb2); (try clear hk); (try clear hi); obtain ⟨hcz23_0, hcz23_1, hfz23_0, hfz23_1⟩ := c2_ BK425))
    refine bodyPost_ret (results_ct rfl _ _ gb425 44 #[.int .i64 0, .int .i64 0] (0, 0) _ rfl (by (with_reducible repeat (first | refine blk_drewN ?_ _ | refine blk_drew ?_ | refine blk_alloc ?_ _)); refine blk_put (cs := #[.int .i64 0, .int .i64 0]) ?_ 1 _ rfl; (with_reducible repeat (first | refine blk_drewN ?_ _ | refine blk_drew ?_ | refine blk_alloc ?_ _)); refine blk_put (cs := #[.int .i64 0, .int .i64 0]) ?_ 0 _ rfl; (with_reducible repeat (first | refine blk_drewN ?_ _ | refine blk_drew ?_ | refine blk_alloc ?_ _)); exact BK425.out) Tryd.underlying44 rfl (by kernel_rfl)) rfl ?_
    exact ⟨er_, bv2_ HB GE425 GE426⟩
 ·rw [if_neg c3] at H
  have c3b0 : (a1.toList == ([49] : List UInt8)) = false := beq_eq_false_iff_ne.mpr c3
  have c3b1 : (a1.toList != ([49] : List UInt8)) = true := bne_iff_ne.mpr c3
  have H' := Aside0.mk H
  clear H
  go_enter Tryd.func33, Tryd.ntmps33
  go_wp2_with (first | ((with_reducible refine gate_dst (N := 4) rfl ?_); refine bx_ 4 #[.int .i64 0, .int .i64 0] 44 ?_; intro gb425 hg w24 hbox hb; have BK425 := Aside0.mk (hbox); have GW425 := gw_ hg (below_size (bv_ HB)); have GE425 := GW425; replace HB := Aside0.mk (below_step (bv_ HB) hb); clear hb hbox hg) | ((with_reducible refine gate_dst (N := 6) rfl ?_); refine bx_ 6 #[.int .i64 0, .int .i64 0] 44 ?_; intro gb426 hg w25 hbox hb; have BK426 := Aside0.mk (hbox); have GW426 := gw_ hg (below_size (bv1_ HB GE425)); have GE426 := GW426; replace HB := Aside0.mk (below_step (bv1_ HB GE425) hb); have NB425_426 := nb_ hg (blk_lt (g := gb425) (o := .cells #[.int .i64 0, .int .i64 0] 44 (0, 0)) (kv_ BK425)); have NB426_425 := nc_ hg (blk_lt (g := gb425) (o := .cells #[.int .i64 0, .int .i64 0] 44 (0, 0)) (kv_ BK425)); replace BK425 := kb_ BK425 hb; clear hb hbox hg))
  go_loopg [7, 13] k (fun kq v7 v13 w' => ∃ (x7_1 : Int) (x13_1 : Int) (x427000_1 : Int) (x427001_1 : Int), v7 = .int .i64 x7_1 ∧ v13 = .int .i64 x13_1 ∧ Aside0 (impl_ParseTerm.l0 kq a0 a1 x7_1 (a1.size : Int) x13_1 x427000_1 x427001_1 = some (r1, r2, r3)) ∧ Aside0 (kq ≤ k) ∧ Aside0 (w'.heap[gb425]? = some (.cells #[.int .i64 0, .int .i64 0] 44 (0, 0))) ∧ Aside0 (w'.heap[gb426]? = some (.cells #[.int .i64 x427000_1, .int .i64 x427001_1] 44 (0, 0))) ∧ Aside0 (Below w.heap.size w w'))
  case atStart => exact ⟨(1), (0), (0), (0), (by first | rfl | (simp; done) | (simp [*]; done)), (by first | rfl | (simp; done) | (simp [*]; done)), H', ⟨Nat.le_refl _⟩, ⟨by (with_reducible repeat (first | refine blk_drewN ?_ _ | refine blk_drew ?_ | refine blk_alloc ?_ _)); exact BK425.out⟩, ⟨by (with_reducible repeat (first | refine blk_drewN ?_ _ | refine blk_drew ?_ | refine blk_alloc ?_ _)); exact BK426.out⟩, ⟨bv2_ HB GE425 GE426⟩⟩
  case round =>
   clear H'
   try clear c1
   try clear c2
   try clear p2
   try clear c3
   try clear c3b0
   try clear c3b1
   try clear c4
   try clear c4b0
   try clear c4b1
   try clear c7
   try clear c10
   try clear c10b0
   try clear c10b1
   try clear c13
   try clear c20
   try clear hcz14_0
   try clear hcz14_1
   try clear hcz16_0
   try clear hcz16_1
   try clear hcz17_0
   try clear hcz17_1
   try clear hcz21_0
   try clear hcz21_1
   try clear hcz23_0
   try clear hcz23_1
   try clear hcz8_0
   try clear hcz8_1
   try clear hfz14_0
   try clear hfz14_1
   try clear hfz16_0
   try clear hfz16_1
   try clear hfz17_0
   try clear hfz17_1
   try clear hfz21_0
   try clear hfz21_1
   try clear hfz23_0
   try clear hfz23_1
   try clear hfz8_0
   try clear hfz8_1
   obtain ⟨x7_1, x13_1, x427000_1, x427001_1, rfl, rfl, HA, HK1, BK425, BK426, HB⟩ := hrel
   cases gk with
   | zero => exact absurd HA.out (by simp [impl_ParseTerm.l0])
   | succ k1 =>
    have H := HA.out
    clear HA
    simp only [impl_ParseTerm.l0] at H
    by_cases c26 : x13_1 < (a1.size : Int)
    ·rw [if_pos c26] at H
     have c26b0 : decide (x13_1 < (a1.size : Int)) = true := decide_eq_true c26
     clear c26
     by_cases c27 : 0 ≤ x13_1
     ·rw [if_pos c27] at H
      have c27b0 : decide (0 ≤ x13_1) = true := decide_eq_true c27
      clear c27
      by_cases c28 : x13_1 < (a1.size : Int)
      ·rw [if_pos c28] at H
       have c28b0 : decide (x13_1 < (a1.size : Int)) = true := decide_eq_true c28
       clear c28
       by_cases c30 : (bt a1 x13_1) = 33
       ·rw [if_pos c30] at H
        have c30b0 : ((bt a1 x13_1) == 33) = true := beq_iff_eq.mpr c30
        have c30b1 : ((bt a1 x13_1) != 33) = false := bne_eq_false_iff_eq.mpr c30
        clear c30
        have H' := Aside0.mk H
        clear H
        have p29 : 0 ≤ (x13_1 : Int) := of_decide_eq_true (by first | (with_reducible assumption) | assumption)
        have q29 : x13_1 < (a1.size : Int) := of_decide_eq_true (by first | (with_reducible assumption) | assumption)
        have hx29 := bt_at a1 x13_1
        replace p29 := eq_true p29
        replace q29 := eq_true q29
        go_wp2
        go_roundg k1
        case measure => have := HK1.out; omega
        case rel => exact ⟨(0), (wrap64 (x13_1 + 1)), (x427000_1), (x427001_1), (by first | rfl | (simp; done) | (simp [*]; done)), (by first | rfl | (simp; done) | (simp [*]; done)), H', ⟨by have := HK1.out; omega⟩, ⟨by (with_reducible repeat (first | refine blk_drewN ?_ _ | refine blk_drew ?_ | refine blk_alloc ?_ _)); exact BK425.out⟩, ⟨by (with_reducible repeat (first | refine blk_drewN ?_ _ | refine blk_drew ?_ | refine blk_alloc ?_ _)); exact BK426.out⟩, ⟨bv2_ HB GE425 GE426⟩⟩
       ·rw [if_neg c30] at H
        have c30b0 : ((bt a1 x13_1) == 33) = false := beq_eq_false_iff_ne.mpr c30
        have c30b1 : ((bt a1 x13_1) != 33) = true := bne_iff_ne.mpr c30
        replace H := Option.bind_eq_some_iff.mp H
        obtain ⟨t429, A320, H⟩ := H
        have A32 := Aside0.mk A320
        clear A320
        by_cases c33 : t429 = true
        ·subst c33
         rw [if_pos rfl] at H
         obtain ⟨ji35, hji35⟩ : ∃ j_ : Int, (shl .i64 1 (((bt a1 x13_1) - 97) % 256)) = j_ := ⟨_, rfl⟩
         replace H : (impl_ParseTerm.l0 k1 a0 a1 1 (a1.size : Int) (wrap64 (x13_1 + 1)) (Go.bits .or .i64 x427000_1 (ji35)) (Go.bits .or .i64 x427001_1 (shl .i64 x7_1 (((bt a1 x13_1) - 97) % 256)))) = some (r1, r2, r3) := by first | (rw [hji35] at H; exact H) | (simp only [hji35] at H ⊢; exact H)
         (try rw [hji35] at A32)
         have hji35_ : (IntKind.i64.wrap (1 * 2 ^ min (((bt a1 x13_1) - 97) % 256).toNat 64)) = ji35 := hji35
         have hji35z : (((bt a1 x13_1) - 97) % 256) ≤ 64 → (IntKind.i64.wrap (1 * 2 ^ (((bt a1 x13_1) - 97) % 256).toNat)) = ji35 := shl_small hji35
         have hji35u : (IntKind.i64.wrap (2 ^ min (((bt a1 x13_1) - 97) % 256).toNat 64)) = ji35 := by have h_ := hji35_; rw [Int.one_mul] at h_; exact h_
         have hji35v : (((bt a1 x13_1) - 97) % 256) ≤ 64 → (IntKind.i64.wrap (2 ^ (((bt a1 x13_1) - 97) % 256).toNat)) = ji35 := fun hle_ => by have h_ := hji35z hle_; rw [Int.one_mul] at h_; exact h_
         have hji35y : (wrap64 (1 * 2 ^ min (((bt a1 x13_1) - 97) % 256).toNat 64)) = ji35 := (i64_w _).symm.trans hji35_
         have hji35x : (((bt a1 x13_1) - 97) % 256) ≤ 64 → (wrap64 (1 * 2 ^ (((bt a1 x13_1) - 97) % 256).toNat)) = ji35 := fun h_ => (i64_w _).symm.trans (hji35z h_)
         have hji35w : (wrap64 (2 ^ min (IntKind.u8.wrap (bt a1 x13_1 - 97)).toNat 64)) = ji35 := by have h_ := hji35y; rw [Int.one_mul] at h_; exact h_
         obtain ⟨ji37, hji37⟩ : ∃ j_ : Int, (shl .i64 x7_1 (((bt a1 x13_1) - 97) % 256)) = j_ := ⟨_, rfl⟩
         replace H : (impl_ParseTerm.l0 k1 a0 a1 1 (a1.size : Int) (wrap64 (x13_1 + 1)) (Go.bits .or .i64 x427000_1 (ji35)) (Go.bits .or .i64 x427001_1 (ji37))) = some (r1, r2, r3) := by first | (rw [hji37] at H; exact H) | (simp only [hji37] at H ⊢; exact H)
         (try rw [hji37] at A32)
         have hji37_ : (IntKind.i64.wrap (x7_1 * 2 ^ min (((bt a1 x13_1) - 97) % 256).toNat 64)) = ji37 := hji37
         have hji37z : (((bt a1 x13_1) - 97) % 256) ≤ 64 → (IntKind.i64.wrap (x7_1 * 2 ^ (((bt a1 x13_1) - 97) % 256).toNat)) = ji37 := shl_small hji37
         have hji37y : (wrap64 (x7_1 * 2 ^ min (((bt a1 x13_1) - 97) % 256).toNat 64)) = ji37 := (i64_w _).symm.trans hji37_
         have hji37x : (((bt a1 x13_1) - 97) % 256) ≤ 64 → (wrap64 (x7_1 * 2 ^ (((bt a1 x13_1) - 97) % 256).toNat)) = ji37 := fun h_ => (i64_w _).symm.trans (hji37z h_)
         have hji37w : (wrap64 (x7_1 * 2 ^ min (IntKind.u8.wrap (bt a1 x13_1 - 97)).toNat 64)) = ji37 := hji37y
         have H' := Aside0.mk H
         clear H
         have p29 : 0 ≤ (x13_1 : Int) := of_decide_eq_true (by first | (with_reducible assumption) | assumption)
         have q29 : x13_1 < (a1.size : Int) := of_decide_eq_true (by first | (with_reducible assumption) | assumption)
         have hx29 := bt_at a1 x13_1
         replace p29 := eq_true p29
         replace q29 := eq_true q29
         have p31 : 0 ≤ (x13_1 : Int) := of_decide_eq_true (by first | (with_reducible assumption) | assumption)
         have q31 : x13_1 < (a1.size : Int) := of_decide_eq_true (by first | (with_reducible assumption) | assumption)
         have hx31 := bt_at a1 x13_1
         replace p31 := eq_true p31
         replace q31 := eq_true q31
         try go_wp2_with (first | ((with_reducible refine gate_callee (f := 58) rfl ?_); refine gl_ 25 Tryd.func58 #[.int .u8 (bt a1 x13_1)] rfl mp_ ?_; (with_reducible refine (impl_isLetter.calls (bt a1 x13_1) true _ A32.out).mono ?_); rintro e w' ⟨rfl, ⟨nd, rfl⟩⟩; refine ⟨_, rfl, ?_⟩; (try (rw [drewN_self wr]; generalize hq_ : World.drewN wr _ = wr; have n0_ : Aside0 (wr.heap[gb425]? = some (.cells #[.int .i64 0, .int .i64 0] 44 (0, 0))) := ⟨by rw [← hq_]; exact (kv_ BK425)⟩; have n1_ : Aside0 (wr.heap[gb426]? = some (.cells #[.int .i64 x427000_1, .int .i64 x427001_1] 44 (0, 0))) := ⟨by rw [← hq_]; exact (kv_ BK426)⟩; have n2_ : Aside0 (Below w.heap.size w wr) := ⟨by rw [← hq_]; exact (bv2_ HB GE425 GE426)⟩; clear BK425 BK426 HB hq_; have BK425 := n0_; have BK426 := n1_; have HB := n2_; clear n0_ n1_ n2_))))
         replace BK425 := Aside0.mk (blk_drew BK425.out)
         replace BK426 := Aside0.mk (blk_drew BK426.out)
         replace HB := Aside0.mk (below_drew1 HB.out)
         have p34 : 0 ≤ (x13_1 : Int) := of_decide_eq_true (by first | (with_reducible assumption) | assumption)
         have q34 : x13_1 < (a1.size : Int) := of_decide_eq_true (by first | (with_reducible assumption) | assumption)
         have hx34 := bt_at a1 x13_1
         replace p34 := eq_true p34
         replace q34 := eq_true q34
         refine start_ (n := 10) (S := fun w' => w'.cell? ⟨gb426, 0, none⟩ = some (.int .i64 x427000_1) ∧ w'.cell? ⟨gb426, 1, none⟩ = some (.int .i64 x427001_1)) (ds := [9]) (bs 10 0) (by kernel_rfl) rfl (by kernel_rfl) ⟨(blk_cell BK426.out 0).trans rfl, (blk_cell BK426.out 1).trans rfl⟩ (fun hHeld => ?_); refine with_tabW impl_ParseTerm.tab10 impl_ParseTerm.bits10 (fun HT_ HW_ => ?_)
         generalize wr.drew = w38 at BK425 BK426 HB hHeld ⊢
         refine pu_ HT_ 0 26 (bs 10 1) ?_
         refine pu_ HT_ 2 28 (bs 10 5) ?_
         refine pu_ HT_ 3 29 (bs 10 13) ?_
         refine ta2_ HT_ HW_ 1 27 (bs 10 15) hHeld ?_
         refine ta2_ HT_ HW_ 4 30 (bs 10 31) hHeld ?_
         refine pu_ HT_ 5 31 (bs 10 63) ?_
         refine pu_ HT_ 6 32 (bs 10 127) ?_
         refine pu_ HT_ 7 33 (bs 10 255) ?_
         refine pu_ HT_ 8 34 (bs 10 511) ?_
         refine last_ (i := 9) (N := none) (bs 10 1023) rfl rfl (one_of HT_.out (by kernel_rfl)) (by decide) (fun K hK => ?_)
         have hs39 : w38.cell? ⟨gb426, 0, none⟩ = some (.int .i64 x427000_1) := (blk_cell BK426.out 0).trans rfl
         have hfs39 := blk_frozen BK426.out 0
         have hns39_0 := NB425_426.out
         have hms39_0 := NB426_425.out
         refine skip_ (w1 := ?_) (by rfl) rfl ?_ ?_
         rotate_left
         ·go_simp
          rfl
         refine hK.out _ _ ?_
         clear hK K
         refine done_ (done_of HT_.out (by kernel_rfl)) ?_
         try go_wp2
         have n0_ : Aside0 ((w38.setCell ⟨gb426, 0, none⟩ (.int .i64 (Go.bits .or .i64 x427000_1 (ji35)))).heap[gb425]? = some (.cells #[.int .i64 0, .int .i64 0] 44 (0, 0))) := ⟨by (with_reducible repeat (first | refine blk_drewN ?_ _ | refine blk_drew ?_ | refine blk_alloc ?_ _)); refine blk_far ?_ NB425_426.out _; (with_reducible repeat (first | refine blk_drewN ?_ _ | refine blk_drew ?_ | refine blk_alloc ?_ _)); exact BK425.out⟩
         have n1_ : Aside0 ((w38.setCell ⟨gb426, 0, none⟩ (.int .i64 (Go.bits .or .i64 x427000_1 (ji35)))).heap[gb426]? = some (.cells #[.int .i64 (Go.bits .or .i64 x427000_1 (ji35)), .int .i64 x427001_1] 44 (0, 0))) := ⟨by (with_reducible repeat (first | refine blk_drewN ?_ _ | refine blk_drew ?_ | refine blk_alloc ?_ _)); refine blk_put (cs := #[.int .i64 x427000_1, .int .i64 x427001_1]) ?_ 0 _ rfl; (with_reducible repeat (first | refine blk_drewN ?_ _ | refine blk_drew ?_ | refine blk_alloc ?_ _)); exact BK426.out⟩
         have n2_ : Aside0 (Below w.heap.size w (w38.setCell ⟨gb426, 0, none⟩ (.int .i64 (Go.bits .or .i64 x427000_1 (ji35))))) := ⟨bv2_ HB GE425 GE426⟩
         (try clear BK425)
         (try clear BK426)
         (try clear HB)
         generalize (w38.setCell ⟨gb426, 0, none⟩ (.int .i64 (Go.bits .or .i64 x427000_1 (ji35)))) = w40 at n0_ n1_ n2_ ⊢
         have BK425 := n0_
         have BK426 := n1_
         have HB := n2_
         clear n0_ n1_ n2_
         replace BK425 := Aside0.mk (blk_drew BK425.out)
         replace BK426 := Aside0.mk (blk_drew BK426.out)
         replace HB := Aside0.mk (below_drew1 HB.out)
         have p36 : 0 ≤ (x13_1 : Int) := of_decide_eq_true (by first | (with_reducible assumption) | assumption)
         have q36 : x13_1 < (a1.size : Int) := of_decide_eq_true (by first | (with_reducible assumption) | assumption)
         have hx36 := bt_at a1 x13_1
         replace p36 := eq_true p36
         replace q36 := eq_true q36
         refine start_ (n := 11) (S := fun w' => w'.cell? ⟨gb426, 0, none⟩ = some (.int .i64 (Go.bits .or .i64 x427000_1 (ji35))) ∧ w'.cell? ⟨gb426, 1, none⟩ = some (.int .i64 x427001_1)) (ds := [10]) (bs 11 0) (by kernel_rfl) rfl (by kernel_rfl) ⟨(blk_cell BK426.out 0).trans rfl, (blk_cell BK426.out 1).trans rfl⟩ (fun hHeld => ?_); refine with_tabW impl_ParseTerm.tab11 impl_ParseTerm.bits11 (fun HT_ HW_ => ?_)
         generalize w40.drew = w41 at BK425 BK426 HB hHeld ⊢
         refine pu_ HT_ 0 35 (bs 11 1) ?_
         refine pu_ HT_ 2 37 (bs 11 5) ?_
         refine pu_ HT_ 3 38 (bs 11 13) ?_
         refine pu_ HT_ 4 39 (bs 11 29) ?_
         refine ta2_ HT_ HW_ 1 36 (bs 11 31) hHeld ?_
         refine ta2_ HT_ HW_ 5 40 (bs 11 63) hHeld ?_
         refine pu_ HT_ 6 41 (bs 11 127) ?_
         refine pu_ HT_ 7 42 (bs 11 255) ?_
         refine pu_ HT_ 8 43 (bs 11 511) ?_
         refine pu_ HT_ 9 44 (bs 11 1023) ?_
         refine last_ (i := 10) (N := none) (bs 11 2047) rfl rfl (one_of HT_.out (by kernel_rfl)) (by decide) (fun K hK => ?_)
         have hs42 : w41.cell? ⟨gb426, 1, none⟩ = some (.int .i64 x427001_1) := (blk_cell BK426.out 1).trans rfl
         have hfs42 := blk_frozen BK426.out 1
         have hns42_0 := NB425_426.out
         have hms42_0 := NB426_425.out
         refine skip_ (w1 := ?_) (by rfl) rfl ?_ ?_
         rotate_left
         ·go_simp
          rfl
         refine hK.out _ _ ?_
         clear hK K
         refine done_ (done_of HT_.out (by kernel_rfl)) ?_
         try go_wp2
         go_roundg k1
         case measure => have := HK1.out; omega
         case rel => exact ⟨(1), (wrap64 (x13_1 + 1)), (Go.bits .or .i64 x427000_1 (ji35)), (Go.bits .or .i64 x427001_1 (ji37)), (by first | rfl | (simp; done) | (simp [*]; done)), (by first | rfl | (simp; done) | (simp [*]; done)), H', ⟨by have := HK1.out; omega⟩, ⟨by (with_reducible repeat (first | refine blk_drewN ?_ _ | refine blk_drew ?_ | refine blk_alloc ?_ _)); refine blk_far ?_ NB425_426.out _; (with_reducible repeat (first | refine blk_drewN ?_ _ | refine blk_drew ?_ | refine blk_alloc ?_ _)); exact BK425.out⟩, ⟨by (with_reducible repeat (first | refine blk_drewN ?_ _ | refine blk_drew ?_ | refine blk_alloc ?_ _)); refine blk_put (cs := #[.int .i64 (Go.bits .or .i64 x427000_1 (ji35)), .int .i64 x427001_1]) ?_ 1 _ rfl; (with_reducible repeat (first | refine blk_drewN ?_ _ | refine blk_drew ?_ | refine blk_alloc ?_ _)); exact BK426.out⟩, ⟨bv2_ HB GE425 GE426⟩⟩
        ·replace c33 := Bool.eq_false_iff.mpr c33
         subst c33
         rw [if_neg (show ¬ (false = true) by decide)] at H
         have H' := Aside0.mk H
         clear H
         have p29 : 0 ≤ (x13_1 : Int) := of_decide_eq_true (by first | (with_reducible assumption) | assumption)
         have q29 : x13_1 < (a1.size : Int) := of_decide_eq_true (by first | (with_reducible assumption) | assumption)
         have hx29 := bt_at a1 x13_1
         replace p29 := eq_true p29
         replace q29 := eq_true q29
         have p31 : 0 ≤ (x13_1 : Int) := of_decide_eq_true (by first | (with_reducible assumption) | assumption)
         have q31 : x13_1 < (a1.size : Int) := of_decide_eq_true (by first | (with_reducible assumption) | assumption)
         have hx31 := bt_at a1 x13_1
         replace p31 := eq_true p31
         replace q31 := eq_true q31
         go_wp2_with (first | ((with_reducible refine gate_callee (f := 58) rfl ?_); refine gl_ 25 Tryd.func58 #[.int .u8 (bt a1 x13_1)] rfl mp_ ?_; (with_reducible refine (impl_isLetter.calls (bt a1 x13_1) false _ A32.out).mono ?_); rintro e w' ⟨rfl, ⟨nd, rfl⟩⟩; refine ⟨_, rfl, ?_⟩))
         go_roundg k1
         case measure => have := HK1.out; omega
         case rel => exact ⟨(x7_1), (wrap64 (x13_1 + 1)), (x427000_1), (x427001_1), (by first | rfl | (simp; done) | (simp [*]; done)), (by first | rfl | (simp; done) | (simp [*]; done)), H', ⟨by have := HK1.out; omega⟩, ⟨by (with_reducible repeat (first | refine blk_drewN ?_ _ | refine blk_drew ?_ | refine blk_alloc ?_ _)); exact BK425.out⟩, ⟨by (with_reducible repeat (first | refine blk_drewN ?_ _ | refine blk_drew ?_ | refine blk_alloc ?_ _)); exact BK426.out⟩, ⟨bv2_ HB GE425 GE426⟩⟩
      ·rw [if_neg c28] at H
       exact absurd H (by simp)
     ·rw [if_neg c27] at H
      exact absurd H (by simp)
    ·rw [if_neg c26] at H
     have c26b0 : decide (x13_1 < (a1.size : Int)) = false := decide_eq_false c26
     clear c26
     by_cases c43 : a1.toList = ([] : List UInt8)
     ·rw [if_pos c43] at H
      have c43b0 : (a1.toList == ([] : List UInt8)) = true := beq_iff_eq.mpr c43
      have c43b1 : (a1.toList != ([] : List UInt8)) = false := bne_eq_false_iff_eq.mpr c43
      clear c43
      simp only [Option.some.injEq, Prod.mk.injEq] at H
      obtain ⟨rfl, rfl, rfl⟩ := H
      have hnb44 := NB425_426.out
      have hnc44 := NB426_425.out
      obtain ⟨hcz45_0, hcz45_1, hfz45_0, hfz45_1⟩ := c2_ BK425
      go_wp2
      refine bodyPost_ret (results_ct rfl _ _ gb425 44 #[.int .i64 0, .int .i64 0] (0, 0) _ rfl (by (with_reducible repeat (first | refine blk_drewN ?_ _ | refine blk_drew ?_ | refine blk_alloc ?_ _)); refine blk_put (cs := #[.int .i64 0, .int .i64 0]) ?_ 1 _ rfl; (with_reducible repeat (first | refine blk_drewN ?_ _ | refine blk_drew ?_ | refine blk_alloc ?_ _)); refine blk_put (cs := #[.int .i64 0, .int .i64 0]) ?_ 0 _ rfl; (with_reducible repeat (first | refine blk_drewN ?_ _ | refine blk_drew ?_ | refine blk_alloc ?_ _)); exact BK425.out) Tryd.underlying44 rfl (by kernel_rfl)) rfl ?_
      exact ⟨er_, bv2_ HB GE425 GE426⟩
     ·rw [if_neg c43] at H
      have c43b0 : (a1.toList == ([] : List UInt8)) = false := beq_eq_false_iff_ne.mpr c43
      have c43b1 : (a1.toList != ([] : List UInt8)) = true := bne_iff_ne.mpr c43
      replace H := Option.bind_eq_some_iff.mp H
      obtain ⟨t428, A460, H⟩ := H
      have A46 := Aside0.mk A460
      clear A460
      by_cases c47 : t428.toList = a1.toList
      ·rw [if_pos c47] at H
       have c47b0 : (t428.toList == a1.toList) = true := beq_iff_eq.mpr c47
       have c47b1 : (t428.toList != a1.toList) = false := bne_eq_false_iff_eq.mpr c47
       clear c47
       simp only [Option.some.injEq, Prod.mk.injEq] at H
       obtain ⟨rfl, rfl, rfl⟩ := H
       have hnb48 := NB426_425.out
       have hnc48 := NB425_426.out
       obtain ⟨hcz49_0, hcz49_1, hfz49_0, hfz49_1⟩ := c2_ BK426
       go_wp2_with (first | (go_at_call 59; (with_reducible refine (impl_FormatTerm.calls k1 a0 x427000_1 x427001_1 t428 _ A46.out).mono ?_); rintro e w50 ⟨rfl, hb⟩; have n0_ := kb_ BK425 hb; have n1_ := kb_ BK426 hb; have n2_ := Aside0.mk (below_step (bv2_ HB GE425 GE426) hb); clear BK425; clear BK426; clear HB; have BK425 := n0_; have BK426 := n1_; have HB := n2_; clear n0_ n1_ n2_; (try clear hb); (try clear hb2); (try clear hk); (try clear hi); have hcz51_0 : w50.cell? ⟨gb426, 0, none⟩ = some (.int .i64 x427000_1) := (blk_cell BK426.out 0).trans rfl; have hcz51_1 : w50.cell? ⟨gb426, 1, none⟩ = some (.int .i64 x427001_1) := (blk_cell BK426.out 1).trans rfl; have hfz51_0 := blk_frozen BK426.out 0; have hfz51_1 := blk_frozen BK426.out 1; have hcz52_0 : w50.cell? ⟨gb425, 0, none⟩ = some (.int .i64 0) := (blk_cell BK425.out 0).trans rfl; have hcz52_1 : w50.cell? ⟨gb425, 1, none⟩ = some (.int .i64 0) := (blk_cell BK425.out 1).trans rfl; have hfz52_0 := blk_frozen BK425.out 0; have hfz52_1 := blk_frozen BK425.out 1))
       refine bodyPost_ret (results_ct rfl _ _ gb425 44 #[.int .i64 x427000_1, .int .i64 x427001_1] (0, 0) _ rfl (by (with_reducible repeat (first | refine blk_drewN ?_ _ | refine blk_drew ?_ | refine blk_alloc ?_ _)); refine blk_put (cs := #[.int .i64 x427000_1, .int .i64 0]) ?_ 1 _ rfl; (with_reducible repeat (first | refine blk_drewN ?_ _ | refine blk_drew ?_ | refine blk_alloc ?_ _)); refine blk_put (cs := #[.int .i64 0, .int .i64 0]) ?_ 0 _ rfl; (with_reducible repeat (first | refine blk_drewN ?_ _ | refine blk_drew ?_ | refine blk_alloc ?_ _)); exact BK425.out) Tryd.underlying44 rfl (by kernel_rfl)) rfl ?_
       exact ⟨er_, bv2_ HB GE425 GE426⟩
      ·rw [if_neg c47] at H
       have c47b0 : (t428.toList == a1.toList) = false := beq_eq_false_iff_ne.mpr c47
       have c47b1 : (t428.toList != a1.toList) = true := bne_iff_ne.mpr c47
       simp only [Option.some.injEq, Prod.mk.injEq] at H
       obtain ⟨rfl, rfl, rfl⟩ := H
       have hnb53 := NB426_425.out
       have hnc53 := NB425_426.out
       obtain ⟨hcz54_0, hcz54_1, hfz54_0, hfz54_1⟩ := c2_ BK426
       go_wp2_with (first | (go_at_call 59; (with_reducible refine (impl_FormatTerm.calls k1 a0 x427000_1 x427001_1 t428 _ A46.out).mono ?_); rintro e w55 ⟨rfl, hb⟩; have n0_ := kb_ BK425 hb; have n1_ := kb_ BK426 hb; have n2_ := Aside0.mk (below_step (bv2_ HB GE425 GE426) hb); clear BK425; clear BK426; clear HB; have BK425 := n0_; have BK426 := n1_; have HB := n2_; clear n0_ n1_ n2_; (try clear hb); (try clear hb2); (try clear hk); (try clear hi); have hcz56_0 : w55.cell? ⟨gb425, 0, none⟩ = some (.int .i64 0) := (blk_cell BK425.out 0).trans rfl; have hcz56_1 : w55.cell? ⟨gb425, 1, none⟩ = some (.int .i64 0) := (blk_cell BK425.out 1).trans rfl; have hfz56_0 := blk_frozen BK425.out 0; have hfz56_1 := blk_frozen BK425.out 1))
       refine bodyPost_ret (results_ct rfl _ _ gb425 44 #[.int .i64 0, .int .i64 0] (0, 0) _ rfl (by (with_reducible repeat (first | refine blk_drewN ?_ _ | refine blk_drew ?_ | refine blk_alloc ?_ _)); refine blk_put (cs := #[.int .i64 0, .int .i64 0]) ?_ 1 _ rfl; (with_reducible repeat (first | refine blk_drewN ?_ _ | refine blk_drew ?_ | refine blk_alloc ?_ _)); refine blk_put (cs := #[.int .i64 0, .int .i64 0]) ?_ 0 _ rfl; (with_reducible repeat (first | refine blk_drewN ?_ _ | refine blk_drew ?_ | refine blk_alloc ?_ _)); exact BK425.out) Tryd.underlying44 rfl (by kernel_rfl)) rfl ?_
       exact ⟨er_, bv2_ HB GE425 GE426⟩


end Go.Proofs.YteljkpglgjjnlaaDoor.P
