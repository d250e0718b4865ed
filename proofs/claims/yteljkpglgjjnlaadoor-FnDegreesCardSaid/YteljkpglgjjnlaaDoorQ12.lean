-- Out of the translation, by this session's program over the printer's; Lean checks it.
import Derived.Test.YteljkpglgjjnlaaDoorSh
import Derived.Test.YteljkpglgjjnlaaDoorQ0
import Derived.Test.YteljkpglgjjnlaaDoorQ3
import Derived.Test.YteljkpglgjjnlaaDoorQ4
import Derived.Test.YteljkpglgjjnlaaDoorQ7
import Derived.Test.YteljkpglgjjnlaaDoorQ11
namespace Go.Proofs.YteljkpglgjjnlaaDoor.P
open Go.RowKit Go.Proofs.YteljkpglgjjnlaaDoorW.PrintWords Go.Proofs.YteljkpglgjjnlaaDoorW.PrintLast Go.Proofs.YteljkpglgjjnlaaDoorW.PrintMore
attribute [local go_sem] max2_int min2_int max_two min_two max_three min_three max_four min_four
set_option linter.unusedVariables false
set_option linter.unusedSimpArgs false

/-! ### impl_isBit: function 47 -/
def impl_isBit.f (a0 : Int) : Option (Bool) := if a0 = 0 then (some true) else (some (a0 == 1))
set_option maxHeartbeats 8000000 in
set_option maxRecDepth 100000 in
theorem impl_isBit.calls (a0 : Int) (r : Bool) (w : World) (h : impl_isBit.f a0 = some r) :
  Calls Tryd.prog 47 #[.int .i64 a0] w fun e w' => e = .returned (.bool r) ∧ Drawn0 w w' := by
 have H : (if a0 = 0 then (some true) else (some (a0 == 1))) = some r := h
 clear h
 by_cases c2 : a0 = 0
 ·rw [if_pos c2] at H
  have c2b0 : (a0 == 0) = true := beq_iff_eq.mpr c2
  have c2b1 : (a0 != 0) = false := bne_eq_false_iff_eq.mpr c2
  clear c2
  obtain rfl := Option.some.inj H
  go_enter Tryd.func47, Tryd.ntmps47
  go_wp2
  go_ret
  exact ⟨by first | rfl | (simp; done) | (simp [*]; done), by repeat (first | exact Drawn0.refl _ | apply Drawn0.step)⟩
 ·rw [if_neg c2] at H
  have c2b0 : (a0 == 0) = false := beq_eq_false_iff_ne.mpr c2
  have c2b1 : (a0 != 0) = true := bne_iff_ne.mpr c2
  obtain rfl := Option.some.inj H
  go_enter Tryd.func47, Tryd.ntmps47
  go_wp2
  go_ret
  exact ⟨by first | rfl | (simp; done) | (simp [*]; done), by repeat (first | exact Drawn0.refl _ | apply Drawn0.step)⟩


/-! ### impl_TableOfCoefficients: function 19 -/
mutual
def impl_TableOfCoefficients.l0 : Nat → List Int → Int → List Int → Int → Int → Option (Int × Int × Bool)
 | 0, _, _, _, _, _ => none
 | k + 1, x0, x4, x22, x23, x24 => if x24 < x23 then (if 0 ≤ x24 then (if x24 < (x22.length : Int) then (if (rd x22 x24) < (-1000) then (some (0, 0, false)) else (if (rd x22 x24) > 1000 then (some (0, 0, false)) else (impl_TableOfCoefficients.l0 k x0 x4 x22 x23 (wrap64 (x24 + 1))))) else (none)) else (none)) else ((impl_Table_size.f x4 0).bind fun t763 => (impl_TableOfCoefficients.l1 k x0 t763 0 x4 0))
def impl_TableOfCoefficients.l1 : Nat → List Int → Int → Int → Int → Int → Option (Int × Int × Bool)
 | 0, _, _, _, _, _ => none
 | k + 1, x0, x39, x40, x763000, x763001 => if x40 < x39 then (impl_TableOfCoefficients.l2 k x0 x40 0 x39 x40 x0 (x0.length : Int) 0 x763000 x763001) else (some (x763000, x763001, true))
def impl_TableOfCoefficients.l2 : Nat → List Int → Int → Int → Int → Int → List Int → Int → Int → Int → Int → Option (Int × Int × Bool)
 | 0, _, _, _, _, _, _, _, _, _, _ => none
 | k + 1, x0, x9, x10, x39, x40, x43, x44, x45, x763000, x763001 => if x45 < x44 then (if 0 ≤ x45 then (if x45 < (x43.length : Int) then (if (Go.bits .andNot .i64 x45 x9) = 0 then (impl_TableOfCoefficients.l2 k x0 x9 (wrap64 (x10 + (rd x43 x45))) x39 x40 x43 x44 (wrap64 (x45 + 1)) x763000 x763001) else (impl_TableOfCoefficients.l2 k x0 x9 x10 x39 x40 x43 x44 (wrap64 (x45 + 1)) x763000 x763001)) else (none)) else (none)) else ((impl_isBit.f x10).bind fun t765 => (if t765 = true then (if 0 ≤ x9 then (impl_TableOfCoefficients.l1 k x0 x39 (wrap64 (x40 + 1)) x763000 (Go.bits .or .i64 x763001 (shl .i64 x10 x9))) else (none)) else (some (0, 0, false))))
end
def impl_TableOfCoefficients.f (k : Nat) (l0 : List Int) : Option (Int × Int × Bool) := (impl_bitsOf.f k (l0.length : Int)).bind fun bt759 => (if bt759.2 = true then (impl_TableOfCoefficients.l0 k l0 bt759.1 l0 (l0.length : Int) 0) else (some (0, 0, false)))
theorem impl_TableOfCoefficients.mono_l : ∀ k, (∀ y0 y1 y2 y3 y4, LeO (impl_TableOfCoefficients.l0 k y0 y1 y2 y3 y4) (impl_TableOfCoefficients.l0 (k + 1) y0 y1 y2 y3 y4)) ∧ (∀ y0 y1 y2 y3 y4, LeO (impl_TableOfCoefficients.l1 k y0 y1 y2 y3 y4) (impl_TableOfCoefficients.l1 (k + 1) y0 y1 y2 y3 y4)) ∧ (∀ y0 y1 y2 y3 y4 y5 y6 y7 y8 y9, LeO (impl_TableOfCoefficients.l2 k y0 y1 y2 y3 y4 y5 y6 y7 y8 y9) (impl_TableOfCoefficients.l2 (k + 1) y0 y1 y2 y3 y4 y5 y6 y7 y8 y9))
 | 0 => ⟨fun _ _ _ _ _ r h => by simp [impl_TableOfCoefficients.l0] at h, fun _ _ _ _ _ r h => by simp [impl_TableOfCoefficients.l1] at h, fun _ _ _ _ _ _ _ _ _ _ r h => by simp [impl_TableOfCoefficients.l2] at h⟩
 | k + 1 => by
  obtain ⟨ih0, ih1, ih2⟩ := impl_TableOfCoefficients.mono_l k
  refine ⟨?_, ?_, ?_⟩
  ·intro y0 y1 y2 y3 y4
   unfold impl_TableOfCoefficients.l0
   repeat' first
   | (with_reducible exact ih0 _ _ _ _ _)
   | (with_reducible exact ih1 _ _ _ _ _)
   | (with_reducible exact ih2 _ _ _ _ _ _ _ _ _ _)
   | (with_reducible exact impl_bitsOf.mono _ _)
   | (with_reducible exact LeO.refl _)
   | (with_reducible exact LeO.none _)
   | (with_reducible refine LeO.ite ?_ ?_)
   | (with_reducible refine LeO.bind ?_ (fun _ => ?_))
   | exact ih0 _ _ _ _ _
   | exact ih1 _ _ _ _ _
   | exact ih2 _ _ _ _ _ _ _ _ _ _
   | exact impl_bitsOf.mono _ _
   | exact LeO.none _
   | refine LeO.ite ?_ ?_
   | refine LeO.bind ?_ (fun _ => ?_)
  ·intro y0 y1 y2 y3 y4
   unfold impl_TableOfCoefficients.l1
   repeat' first
   | (with_reducible exact ih0 _ _ _ _ _)
   | (with_reducible exact ih1 _ _ _ _ _)
   | (with_reducible exact ih2 _ _ _ _ _ _ _ _ _ _)
   | (with_reducible exact impl_bitsOf.mono _ _)
   | (with_reducible exact LeO.refl _)
   | (with_reducible exact LeO.none _)
   | (with_reducible refine LeO.ite ?_ ?_)
   | (with_reducible refine LeO.bind ?_ (fun _ => ?_))
   | exact ih0 _ _ _ _ _
   | exact ih1 _ _ _ _ _
   | exact ih2 _ _ _ _ _ _ _ _ _ _
   | exact impl_bitsOf.mono _ _
   | exact LeO.none _
   | refine LeO.ite ?_ ?_
   | refine LeO.bind ?_ (fun _ => ?_)
  ·intro y0 y1 y2 y3 y4 y5 y6 y7 y8 y9
   unfold impl_TableOfCoefficients.l2
   repeat' first
   | (with_reducible exact ih0 _ _ _ _ _)
   | (with_reducible exact ih1 _ _ _ _ _)
   | (with_reducible exact ih2 _ _ _ _ _ _ _ _ _ _)
   | (with_reducible exact impl_bitsOf.mono _ _)
   | (with_reducible exact LeO.refl _)
   | (with_reducible exact LeO.none _)
   | (with_reducible refine LeO.ite ?_ ?_)
   | (with_reducible refine LeO.bind ?_ (fun _ => ?_))
   | exact ih0 _ _ _ _ _
   | exact ih1 _ _ _ _ _
   | exact ih2 _ _ _ _ _ _ _ _ _ _
   | exact impl_bitsOf.mono _ _
   | exact LeO.none _
   | refine LeO.ite ?_ ?_
   | refine LeO.bind ?_ (fun _ => ?_)
theorem impl_TableOfCoefficients.mono : ∀ a0 k, LeO (impl_TableOfCoefficients.f k a0) (impl_TableOfCoefficients.f (k + 1) a0) := by
 intro a0 k
 obtain ⟨ih0, ih1, ih2⟩ := impl_TableOfCoefficients.mono_l k
 unfold impl_TableOfCoefficients.f
 repeat' first
   | (with_reducible exact ih0 _ _ _ _ _)
   | (with_reducible exact ih1 _ _ _ _ _)
   | (with_reducible exact ih2 _ _ _ _ _ _ _ _ _ _)
   | (with_reducible exact impl_bitsOf.mono _ _)
   | (with_reducible exact LeO.refl _)
   | (with_reducible exact LeO.none _)
   | (with_reducible refine LeO.ite ?_ ?_)
   | (with_reducible refine LeO.bind ?_ (fun _ => ?_))
   | exact ih0 _ _ _ _ _
   | exact ih1 _ _ _ _ _
   | exact ih2 _ _ _ _ _ _ _ _ _ _
   | exact impl_bitsOf.mono _ _
   | exact LeO.none _
   | refine LeO.ite ?_ ?_
   | refine LeO.bind ?_ (fun _ => ?_)
def impl_TableOfCoefficients.T23 : Bool × List (List Nat × List Nat) := (true, [([], []), ([0], [0]), ([], []), ([], []), ([2, 3], [2, 3]), ([1, 4], [1, 4]), ([0, 1, 2, 3, 4, 5], []), ([6, 5, 0, 1, 2, 3, 4, 5], [5, 6])])
def impl_TableOfCoefficients.B23 : List Nat := [0, 1, 0, 0, 12, 31, 63, 127]
theorem impl_TableOfCoefficients.tab23 : rtab .any (opsOf Tryd.f19 23) = impl_TableOfCoefficients.T23 := by kernel_rfl
theorem impl_TableOfCoefficients.bits23 : waitsOk impl_TableOfCoefficients.T23.2 impl_TableOfCoefficients.B23 = true := by kernel_rfl
set_option maxHeartbeats 8000000 in
set_option maxRecDepth 100000 in
theorem impl_TableOfCoefficients.calls (k : Nat) (A0 : Option Addr) (c0 : Nat) (l0 : List Int) (r1 : Int) (r2 : Int) (r3 : Bool) (w : World) (hr0 : Kd.C (Kd.int .i64) w A0 l0.length l0) (hc0 : l0.length ≤ c0) (h : impl_TableOfCoefficients.f k l0 = some (r1, r2, r3)) :
  Calls Tryd.prog 19 #[.slice A0 l0.length c0] w fun e w' => e = .returned (.tuple #[.agg #[.int .i64 r1, .int .i64 r2], .bool r3]) ∧ Below w.heap.size w w' := by
 have hu23 := Tryd.underlying23
 have HR0 := Aside0.mk hr0
 have HC0 := Aside0.mk hc0
 clear hr0 hc0
 have HB := Aside0.mk (Below.refl w.heap.size w)
 have H : ((impl_bitsOf.f k (l0.length : Int)).bind fun bt759 => (if bt759.2 = true then (impl_TableOfCoefficients.l0 k l0 bt759.1 l0 (l0.length : Int) 0) else (some (0, 0, false)))) = some (r1, r2, r3) := h
 clear h
 replace H := Option.bind_eq_some_iff.mp H
 obtain ⟨⟨t759, t760⟩, A20, H⟩ := H
 replace H : (if t760 = true then (impl_TableOfCoefficients.l0 k l0 t759 l0 (l0.length : Int) 0) else (some (0, 0, false))) = some (r1, r2, r3) := H
 have A2 := Aside0.mk A20
 clear A20
 by_cases c3 : t760 = true
 ·subst c3
  rw [if_pos rfl] at H
  have H' := Aside0.mk H
  clear H
  go_enter Tryd.func19, Tryd.ntmps19
  go_wp2_with (first | ((with_reducible refine gate_dst (N := 2) rfl ?_); refine bx_ 2 #[.int .i64 0, .int .i64 0] 23 ?_; intro gb758 hg w4 hbox hb; have BK758 := Aside0.mk (hbox); have GW758 := gw_ hg (below_size (bv_ HB)); have GE758 := GW758; replace HB := Aside0.mk (below_step (bv_ HB) hb); clear hb hbox hg) | ((with_reducible refine gate_callee (f := 45) rfl ?_); refine gl_ 16 Tryd.func45 #[.int .i64 (l0.length : Int)] rfl mp_ ?_; (with_reducible refine (impl_bitsOf.calls k (l0.length : Int) t759 true _ A2.out).mono ?_); rintro e w' ⟨rfl, ⟨nd, rfl⟩⟩; refine ⟨_, rfl, ?_⟩))
  go_loopg [24] k (fun kq v24 w' => ∃ (x24_1 : Int) (x759000_1 : Int) (x759001_1 : Int), v24 = .int .i64 x24_1 ∧ Aside0 (impl_TableOfCoefficients.l0 kq l0 t759 l0 (l0.length : Int) x24_1 = some (r1, r2, r3)) ∧ Aside0 (kq ≤ k) ∧ Aside0 (w'.heap[gb758]? = some (.cells #[.int .i64 x759000_1, .int .i64 x759001_1] 23 (0, 0))) ∧ Aside0 (Below w.heap.size w w'))
  case atStart => exact ⟨(0), (0), (0), (by first | rfl | (simp; done) | (simp [*]; done)), H', ⟨Nat.le_refl _⟩, ⟨by (with_reducible repeat (first | refine blk_drewN ?_ _ | refine blk_drew ?_ | refine blk_alloc ?_ _)); exact BK758.out⟩, ⟨bv1_ HB GE758⟩⟩
  case round =>
   clear H'
   try clear c1
   try clear p2
   try clear c3
   try clear c4
   obtain ⟨x24_1, x759000_1, x759001_1, rfl, HA, HK1, BK758, HB⟩ := hrel
   cases gk with
   | zero => exact absurd HA.out (by simp [impl_TableOfCoefficients.l0])
   | succ k1 =>
    have H := HA.out
    clear HA
    simp only [impl_TableOfCoefficients.l0] at H
    by_cases c5 : x24_1 < (l0.length : Int)
    ·rw [if_pos c5] at H
     have c5b0 : decide (x24_1 < (l0.length : Int)) = true := decide_eq_true c5
     clear c5
     by_cases c6 : 0 ≤ x24_1
     ·rw [if_pos c6] at H
      have c6b0 : decide (0 ≤ x24_1) = true := decide_eq_true c6
      clear c6
      by_cases c7 : x24_1 < (l0.length : Int)
      ·rw [if_pos c7] at H
       have c7b0 : decide (x24_1 < (l0.length : Int)) = true := decide_eq_true c7
       clear c7
       by_cases c8 : (rd l0 x24_1) < (-1000)
       ·rw [if_pos c8] at H
        have c8b0 : decide ((rd l0 x24_1) < (-1000)) = true := decide_eq_true c8
        clear c8
        simp only [Option.some.injEq, Prod.mk.injEq] at H
        obtain ⟨rfl, rfl, rfl⟩ := H
        have p761 : 0 ≤ (x24_1 : Int) := of_decide_eq_true (by first | (with_reducible assumption) | assumption)
        have q761 : x24_1 < (l0.length : Int) := of_decide_eq_true (by first | (with_reducible assumption) | assumption)
        obtain ⟨ad761, e761, hx761_0⟩ := Kd.at_int HR0.out x24_1 p761 q761
        cases e761
        replace hx761_0 := (HB.out.cell (World.block_lt_of_cell? w _ hx761_0)).trans hx761_0
        replace p761 := eq_true p761
        replace q761 := eq_true q761
        obtain ⟨hcz9_0, hcz9_1, hfz9_0, hfz9_1⟩ := c2_ BK758
        go_wp2
        refine bodyPost_ret (results_ct rfl _ _ gb758 23 #[.int .i64 0, .int .i64 0] (0, 0) _ rfl (by (with_reducible repeat (first | refine blk_drewN ?_ _ | refine blk_drew ?_ | refine blk_alloc ?_ _)); refine blk_put (cs := #[.int .i64 0, .int .i64 x759001_1]) ?_ 1 _ rfl; (with_reducible repeat (first | refine blk_drewN ?_ _ | refine blk_drew ?_ | refine blk_alloc ?_ _)); refine blk_put (cs := #[.int .i64 x759000_1, .int .i64 x759001_1]) ?_ 0 _ rfl; (with_reducible repeat (first | refine blk_drewN ?_ _ | refine blk_drew ?_ | refine blk_alloc ?_ _)); exact BK758.out) Tryd.underlying23 rfl (by kernel_rfl)) rfl ?_
        exact ⟨er_, bv1_ HB GE758⟩
       ·rw [if_neg c8] at H
        have c8b0 : decide ((rd l0 x24_1) < (-1000)) = false := decide_eq_false c8
        clear c8
        by_cases c10 : (rd l0 x24_1) > 1000
        ·rw [if_pos c10] at H
         have c10b0 : decide (1000 < (rd l0 x24_1)) = true := decide_eq_true c10
         clear c10
         simp only [Option.some.injEq, Prod.mk.injEq] at H
         obtain ⟨rfl, rfl, rfl⟩ := H
         have p761 : 0 ≤ (x24_1 : Int) := of_decide_eq_true (by first | (with_reducible assumption) | assumption)
         have q761 : x24_1 < (l0.length : Int) := of_decide_eq_true (by first | (with_reducible assumption) | assumption)
         obtain ⟨ad761, e761, hx761_0⟩ := Kd.at_int HR0.out x24_1 p761 q761
         cases e761
         replace hx761_0 := (HB.out.cell (World.block_lt_of_cell? w _ hx761_0)).trans hx761_0
         replace p761 := eq_true p761
         replace q761 := eq_true q761
         obtain ⟨hcz11_0, hcz11_1, hfz11_0, hfz11_1⟩ := c2_ BK758
         go_wp2
         refine bodyPost_ret (results_ct rfl _ _ gb758 23 #[.int .i64 0, .int .i64 0] (0, 0) _ rfl (by (with_reducible repeat (first | refine blk_drewN ?_ _ | refine blk_drew ?_ | refine blk_alloc ?_ _)); refine blk_put (cs := #[.int .i64 0, .int .i64 x759001_1]) ?_ 1 _ rfl; (with_reducible repeat (first | refine blk_drewN ?_ _ | refine blk_drew ?_ | refine blk_alloc ?_ _)); refine blk_put (cs := #[.int .i64 x759000_1, .int .i64 x759001_1]) ?_ 0 _ rfl; (with_reducible repeat (first | refine blk_drewN ?_ _ | refine blk_drew ?_ | refine blk_alloc ?_ _)); exact BK758.out) Tryd.underlying23 rfl (by kernel_rfl)) rfl ?_
         exact ⟨er_, bv1_ HB GE758⟩
        ·rw [if_neg c10] at H
         have c10b0 : decide (1000 < (rd l0 x24_1)) = false := decide_eq_false c10
         clear c10
         have H' := Aside0.mk H
         clear H
         have p761 : 0 ≤ (x24_1 : Int) := of_decide_eq_true (by first | (with_reducible assumption) | assumption)
         have q761 : x24_1 < (l0.length : Int) := of_decide_eq_true (by first | (with_reducible assumption) | assumption)
         obtain ⟨ad761, e761, hx761_0⟩ := Kd.at_int HR0.out x24_1 p761 q761
         cases e761
         replace hx761_0 := (HB.out.cell (World.block_lt_of_cell? w _ hx761_0)).trans hx761_0
         replace p761 := eq_true p761
         replace q761 := eq_true q761
         go_wp2
         go_roundg k1
         case measure => have := HK1.out; omega
         case rel => exact ⟨(wrap64 (x24_1 + 1)), (x759000_1), (x759001_1), (by first | rfl | (simp; done) | (simp [*]; done)), H', ⟨by have := HK1.out; omega⟩, ⟨by (with_reducible repeat (first | refine blk_drewN ?_ _ | refine blk_drew ?_ | refine blk_alloc ?_ _)); exact BK758.out⟩, ⟨bv1_ HB GE758⟩⟩
      ·rw [if_neg c7] at H
       exact absurd H (by simp)
     ·rw [if_neg c6] at H
      exact absurd H (by simp)
    ·rw [if_neg c5] at H
     have c5b0 : decide (x24_1 < (l0.length : Int)) = false := decide_eq_false c5
     clear c5
     replace H := Option.bind_eq_some_iff.mp H
     obtain ⟨t763, A120, H⟩ := H
     have A12 := Aside0.mk A120
     clear A120
     have H' := Aside0.mk H
     clear H
     go_wp2_with (first | ((with_reducible refine gate_dst (N := 8) rfl ?_); refine bx_ 8 #[.int .i64 0, .int .i64 0] 23 ?_; intro gb762 hg w13 hbox hb; have BK762 := Aside0.mk (hbox); have GW762 := gw_ hg (below_size (bv1_ HB GE758)); have GE762 := GW762; replace HB := Aside0.mk (below_step (bv1_ HB GE758) hb); have NB758_762 := nb_ hg (blk_lt (g := gb758) (o := .cells #[.int .i64 x759000_1, .int .i64 x759001_1] 23 (0, 0)) (kv_ BK758)); have NB762_758 := nc_ hg (blk_lt (g := gb758) (o := .cells #[.int .i64 x759000_1, .int .i64 x759001_1] 23 (0, 0)) (kv_ BK758)); replace BK758 := kb_ BK758 hb; clear hb hbox hg; have hnb14 := NB762_758.out; have hnc14 := NB758_762.out; obtain ⟨hcz15_0, hcz15_1, hfz15_0, hfz15_1⟩ := c2_ BK762) | ((with_reducible refine gate_callee (f := 46) rfl ?_); refine gl_ 39 Tryd.func46 #[.agg #[.int .i64 t759, .int .i64 0]] rfl mp_ ?_; (with_reducible refine (impl_Table_size.calls t759 0 t763 _ A12.out).mono ?_); rintro e w16 ⟨rfl, hb⟩; refine ⟨_, rfl, ?_⟩; replace BK758 := Aside0.mk (blk_below (g := gb758) (o := .cells #[.int .i64 x759000_1, .int .i64 x759001_1] 23 (0, 0)) (by (with_reducible repeat (first | refine blk_drewN ?_ _ | refine blk_drew ?_ | refine blk_alloc ?_ _)); refine blk_far ?_ NB758_762.out _; (with_reducible repeat (first | refine blk_drewN ?_ _ | refine blk_drew ?_ | refine blk_alloc ?_ _)); refine blk_far ?_ NB758_762.out _; (with_reducible repeat (first | refine blk_drewN ?_ _ | refine blk_drew ?_ | refine blk_alloc ?_ _)); exact BK758.out) hb); replace BK762 := Aside0.mk (blk_below (g := gb762) (o := .cells #[.int .i64 t759, .int .i64 0] 23 (0, 0)) (by (with_reducible repeat (first | refine blk_drewN ?_ _ | refine blk_drew ?_ | refine blk_alloc ?_ _)); refine blk_put (cs := #[.int .i64 t759, .int .i64 0]) ?_ 1 _ rfl; (with_reducible repeat (first | refine blk_drewN ?_ _ | refine blk_drew ?_ | refine blk_alloc ?_ _)); refine blk_put (cs := #[.int .i64 0, .int .i64 0]) ?_ 0 _ rfl; (with_reducible repeat (first | refine blk_drewN ?_ _ | refine blk_drew ?_ | refine blk_alloc ?_ _)); exact BK762.out) hb); replace HB := Aside0.mk (below_step (bv2_ HB GE758 GE762) hb); (try clear hb); (try clear hb2); (try clear hk); (try clear hi)))
     go_loopg [40] k1 (fun kq v40 w' => ∃ (x40_2 : Int) (x759000_2 : Int) (x759001_2 : Int) (x763001_2 : Int), v40 = .int .i64 x40_2 ∧ Aside0 (impl_TableOfCoefficients.l1 kq l0 t763 x40_2 t759 x763001_2 = some (r1, r2, r3)) ∧ Aside0 (kq ≤ k1) ∧ Aside0 (w'.heap[gb758]? = some (.cells #[.int .i64 x759000_2, .int .i64 x759001_2] 23 (0, 0))) ∧ Aside0 (w'.heap[gb762]? = some (.cells #[.int .i64 t759, .int .i64 x763001_2] 23 (0, 0))) ∧ Aside0 (Below w.heap.size w w'))
     case atStart => exact ⟨(0), (x759000_1), (x759001_1), (0), (by first | rfl | (simp; done) | (simp [*]; done)), H', ⟨Nat.le_refl _⟩, ⟨by (with_reducible repeat (first | refine blk_drewN ?_ _ | refine blk_drew ?_ | refine blk_alloc ?_ _)); exact BK758.out⟩, ⟨by (with_reducible repeat (first | refine blk_drewN ?_ _ | refine blk_drew ?_ | refine blk_alloc ?_ _)); exact BK762.out⟩, ⟨bv2_ HB GE758 GE762⟩⟩
     case round =>
      clear H'
      try clear c1
      try clear p2
      try clear c3
      try clear c4
      try clear c5
      try clear c5b0
      try clear c6
      try clear c6b0
      try clear p6
      try clear c7
      try clear c7b0
      try clear p7
      try clear q7
      try clear hx7
      try clear c8
      try clear c8b0
      try clear c10
      try clear c10b0
      try clear c14
      try clear hcz11_0
      try clear hcz11_1
      try clear hcz15_0
      try clear hcz15_1
      try clear hcz9_0
      try clear hcz9_1
      try clear hfz11_0
      try clear hfz11_1
      try clear hfz15_0
      try clear hfz15_1
      try clear hfz9_0
      try clear hfz9_1
      try clear hx761_0
      try clear p2
      try clear p761
      try clear q761
      obtain ⟨x40_2, x759000_2, x759001_2, x763001_2, rfl, HA, HK2, BK758, BK762, HB⟩ := hrel
      cases gk with
      | zero => exact absurd HA.out (by simp [impl_TableOfCoefficients.l1])
      | succ k2 =>
       have H := HA.out
       clear HA
       simp only [impl_TableOfCoefficients.l1] at H
       by_cases c17 : x40_2 < t763
       ·rw [if_pos c17] at H
        have c17b0 : decide (x40_2 < t763) = true := decide_eq_true c17
        clear c17
        have H' := Aside0.mk H
        clear H
        go_wp2
        go_loopg [10, 45] k2 (fun kq v10 v45 w' => ∃ (x10_3 : Int) (x45_3 : Int), v10 = .int .i64 x10_3 ∧ v45 = .int .i64 x45_3 ∧ Aside0 (impl_TableOfCoefficients.l2 kq l0 x40_2 x10_3 t763 x40_2 l0 (l0.length : Int) x45_3 t759 x763001_2 = some (r1, r2, r3)) ∧ Aside0 (kq ≤ k2) ∧ Aside0 (w'.heap[gb758]? = some (.cells #[.int .i64 x759000_2, .int .i64 x759001_2] 23 (0, 0))) ∧ Aside0 (w'.heap[gb762]? = some (.cells #[.int .i64 t759, .int .i64 x763001_2] 23 (0, 0))) ∧ Aside0 (Below w.heap.size w w'))
        case atStart => exact ⟨(0), (0), (by first | rfl | (simp; done) | (simp [*]; done)), (by first | rfl | (simp; done) | (simp [*]; done)), H', ⟨Nat.le_refl _⟩, ⟨by (with_reducible repeat (first | refine blk_drewN ?_ _ | refine blk_drew ?_ | refine blk_alloc ?_ _)); exact BK758.out⟩, ⟨by (with_reducible repeat (first | refine blk_drewN ?_ _ | refine blk_drew ?_ | refine blk_alloc ?_ _)); exact BK762.out⟩, ⟨bv2_ HB GE758 GE762⟩⟩
        case round =>
         clear H'
         try clear c1
         try clear p2
         try clear c3
         try clear c4
         try clear c5
         try clear c5b0
         try clear c6
         try clear c6b0
         try clear p6
         try clear c7
         try clear c7b0
         try clear p7
         try clear q7
         try clear hx7
         try clear c8
         try clear c8b0
         try clear c10
         try clear c10b0
         try clear c14
         try clear c17
         try clear c17b0
         try clear hcz11_0
         try clear hcz11_1
         try clear hcz15_0
         try clear hcz15_1
         try clear hcz9_0
         try clear hcz9_1
         try clear hfz11_0
         try clear hfz11_1
         try clear hfz15_0
         try clear hfz15_1
         try clear hfz9_0
         try clear hfz9_1
         try clear hx761_0
         try clear p2
         try clear p6
         try clear p7
         try clear p761
         try clear q7
         try clear q761
         obtain ⟨x10_3, x45_3, rfl, rfl, HA, HK3, BK758, BK762, HB⟩ := hrel
         cases gk with
         | zero => exact absurd HA.out (by simp [impl_TableOfCoefficients.l2])
         | succ k3 =>
          have H := HA.out
          clear HA
          simp only [impl_TableOfCoefficients.l2] at H
          by_cases c18 : x45_3 < (l0.length : Int)
          ·rw [if_pos c18] at H
           have c18b0 : decide (x45_3 < (l0.length : Int)) = true := decide_eq_true c18
           clear c18
           by_cases c19 : 0 ≤ x45_3
           ·rw [if_pos c19] at H
            have c19b0 : decide (0 ≤ x45_3) = true := decide_eq_true c19
            clear c19
            by_cases c20 : x45_3 < (l0.length : Int)
            ·rw [if_pos c20] at H
             have c20b0 : decide (x45_3 < (l0.length : Int)) = true := decide_eq_true c20
             clear c20
             by_cases c21 : (Go.bits .andNot .i64 x45_3 x40_2) = 0
             ·rw [if_pos c21] at H
              have c21b0 : ((Go.bits .andNot .i64 x45_3 x40_2) == 0) = true := beq_iff_eq.mpr c21
              have c21b1 : ((Go.bits .andNot .i64 x45_3 x40_2) != 0) = false := bne_eq_false_iff_eq.mpr c21
              clear c21
              have H' := Aside0.mk H
              clear H
              have p764 : 0 ≤ (x45_3 : Int) := of_decide_eq_true (by first | (with_reducible assumption) | assumption)
              have q764 : x45_3 < (l0.length : Int) := of_decide_eq_true (by first | (with_reducible assumption) | assumption)
              obtain ⟨ad764, e764, hx764_0⟩ := Kd.at_int HR0.out x45_3 p764 q764
              cases e764
              replace hx764_0 := (HB.out.cell (World.block_lt_of_cell? w _ hx764_0)).trans hx764_0
              replace p764 := eq_true p764
              replace q764 := eq_true q764
              go_wp2
              go_roundg k3
              case measure => have := HK1.out; have := HK2.out; have := HK3.out; omega
              case rel => exact ⟨(wrap64 (x10_3 + (rd l0 x45_3))), (wrap64 (x45_3 + 1)), (by first | rfl | (simp; done) | (simp [*]; done)), (by first | rfl | (simp; done) | (simp [*]; done)), H', ⟨by have := HK1.out; have := HK2.out; have := HK3.out; omega⟩, ⟨by (with_reducible repeat (first | refine blk_drewN ?_ _ | refine blk_drew ?_ | refine blk_alloc ?_ _)); exact BK758.out⟩, ⟨by (with_reducible repeat (first | refine blk_drewN ?_ _ | refine blk_drew ?_ | refine blk_alloc ?_ _)); exact BK762.out⟩, ⟨bv2_ HB GE758 GE762⟩⟩
             ·rw [if_neg c21] at H
              have c21b0 : ((Go.bits .andNot .i64 x45_3 x40_2) == 0) = false := beq_eq_false_iff_ne.mpr c21
              have c21b1 : ((Go.bits .andNot .i64 x45_3 x40_2) != 0) = true := bne_iff_ne.mpr c21
              have H' := Aside0.mk H
              clear H
              have p764 : 0 ≤ (x45_3 : Int) := of_decide_eq_true (by first | (with_reducible assumption) | assumption)
              have q764 : x45_3 < (l0.length : Int) := of_decide_eq_true (by first | (with_reducible assumption) | assumption)
              obtain ⟨ad764, e764, hx764_0⟩ := Kd.at_int HR0.out x45_3 p764 q764
              cases e764
              replace hx764_0 := (HB.out.cell (World.block_lt_of_cell? w _ hx764_0)).trans hx764_0
              replace p764 := eq_true p764
              replace q764 := eq_true q764
              go_wp2
              go_roundg k3
              case measure => have := HK1.out; have := HK2.out; have := HK3.out; omega
              case rel => exact ⟨(x10_3), (wrap64 (x45_3 + 1)), (by first | rfl | (simp; done) | (simp [*]; done)), (by first | rfl | (simp; done) | (simp [*]; done)), H', ⟨by have := HK1.out; have := HK2.out; have := HK3.out; omega⟩, ⟨by (with_reducible repeat (first | refine blk_drewN ?_ _ | refine blk_drew ?_ | refine blk_alloc ?_ _)); exact BK758.out⟩, ⟨by (with_reducible repeat (first | refine blk_drewN ?_ _ | refine blk_drew ?_ | refine blk_alloc ?_ _)); exact BK762.out⟩, ⟨bv2_ HB GE758 GE762⟩⟩
            ·rw [if_neg c20] at H
             exact absurd H (by simp)
           ·rw [if_neg c19] at H
            exact absurd H (by simp)
          ·rw [if_neg c18] at H
           have c18b0 : decide (x45_3 < (l0.length : Int)) = false := decide_eq_false c18
           clear c18
           replace H := Option.bind_eq_some_iff.mp H
           obtain ⟨t765, A220, H⟩ := H
           have A22 := Aside0.mk A220
           clear A220
           by_cases c23 : t765 = true
           ·subst c23
            rw [if_pos rfl] at H
            by_cases c24 : 0 ≤ x40_2
            ·rw [if_pos c24] at H
             have c24b0 := eq_true c24
             have c24b1 : decide (0 ≤ x40_2) = true := decide_eq_true c24
             clear c24
             obtain ⟨ji25, hji25⟩ : ∃ j_ : Int, (shl .i64 x10_3 x40_2) = j_ := ⟨_, rfl⟩
             replace H : (impl_TableOfCoefficients.l1 k3 l0 t763 (wrap64 (x40_2 + 1)) t759 (Go.bits .or .i64 x763001_2 (ji25))) = some (r1, r2, r3) := by first | (rw [hji25] at H; exact H) | (simp only [hji25] at H ⊢; exact H)
             (try rw [hji25] at A22)
             have hji25_ : (IntKind.i64.wrap (x10_3 * 2 ^ min x40_2.toNat 64)) = ji25 := hji25
             have hji25z : x40_2 ≤ 64 → (IntKind.i64.wrap (x10_3 * 2 ^ x40_2.toNat)) = ji25 := shl_small hji25
             have hji25y : (wrap64 (x10_3 * 2 ^ min x40_2.toNat 64)) = ji25 := (i64_w _).symm.trans hji25_
             have hji25x : x40_2 ≤ 64 → (wrap64 (x10_3 * 2 ^ x40_2.toNat)) = ji25 := fun h_ => (i64_w _).symm.trans (hji25z h_)
             have H' := Aside0.mk H
             clear H
             try go_wp2_with (first | ((with_reducible refine gate_callee (f := 47) rfl ?_); refine gl_ 59 Tryd.func47 #[.int .i64 x10_3] rfl mp_ ?_; (with_reducible refine (impl_isBit.calls x10_3 true _ A22.out).mono ?_); rintro e w' ⟨rfl, ⟨nd, rfl⟩⟩; refine ⟨_, rfl, ?_⟩; (try (rw [drewN_self wr]; generalize hq_ : World.drewN wr _ = wr; have n0_ : Aside0 (wr.heap[gb758]? = some (.cells #[.int .i64 x759000_2, .int .i64 x759001_2] 23 (0, 0))) := ⟨by rw [← hq_]; exact (kv_ BK758)⟩; have n1_ : Aside0 (wr.heap[gb762]? = some (.cells #[.int .i64 t759, .int .i64 x763001_2] 23 (0, 0))) := ⟨by rw [← hq_]; exact (kv_ BK762)⟩; have n2_ : Aside0 (Below w.heap.size w wr) := ⟨by rw [← hq_]; exact (bv2_ HB GE758 GE762)⟩; clear BK758 BK762 HB hq_; have BK758 := n0_; have BK762 := n1_; have HB := n2_; clear n0_ n1_ n2_))))
             replace BK758 := Aside0.mk (blk_drew BK758.out)
             replace BK762 := Aside0.mk (blk_drew BK762.out)
             replace HB := Aside0.mk (below_drew1 HB.out)
             refine start_ (n := 8) (S := fun w' => w'.cell? ⟨gb762, 0, none⟩ = some (.int .i64 t759) ∧ w'.cell? ⟨gb762, 1, none⟩ = some (.int .i64 x763001_2)) (ds := [7]) (bs 8 0) (by kernel_rfl) rfl (by kernel_rfl) ⟨(blk_cell BK762.out 0).trans rfl, (blk_cell BK762.out 1).trans rfl⟩ (fun hHeld => ?_); refine with_tabW impl_TableOfCoefficients.tab23 impl_TableOfCoefficients.bits23 (fun HT_ HW_ => ?_)
             generalize wr.drew = w26 at BK758 BK762 HB hHeld ⊢
             refine pu_ HT_ 0 62 (bs 8 1) ?_
             refine pu_ HT_ 2 64 (bs 8 5) ?_
             refine pu_ HT_ 3 65 (bs 8 13) ?_
             refine pu_ HT_ 4 66 (bs 8 29) ?_
             refine ta2_ HT_ HW_ 1 63 (bs 8 31) hHeld ?_
             refine pu_ HT_ 5 67 (bs 8 63) ?_
             refine pu_ HT_ 6 68 (bs 8 127) ?_
             refine last_ (i := 7) (N := none) (bs 8 255) rfl rfl (one_of HT_.out (by kernel_rfl)) (by decide) (fun K hK => ?_)
             have hs27 : w26.cell? ⟨gb762, 1, none⟩ = some (.int .i64 x763001_2) := (blk_cell BK762.out 1).trans rfl
             have hfs27 := blk_frozen BK762.out 1
             have hns27_0 := NB758_762.out
             have hms27_0 := NB762_758.out
             refine skip_ (w1 := ?_) (by rfl) rfl ?_ ?_
             rotate_left
             ·go_simp
              rfl
             refine hK.out _ _ ?_
             clear hK K
             refine done_ (done_of HT_.out (by kernel_rfl)) ?_
             try go_wp2
             go_roundg k3
             case measure => have := HK1.out; have := HK2.out; have := HK3.out; omega
             case rel => exact ⟨(wrap64 (x40_2 + 1)), (x759000_2), (x759001_2), (Go.bits .or .i64 x763001_2 (ji25)), (by first | rfl | (simp; done) | (simp [*]; done)), H', ⟨by have := HK1.out; have := HK2.out; have := HK3.out; omega⟩, ⟨by (with_reducible repeat (first | refine blk_drewN ?_ _ | refine blk_drew ?_ | refine blk_alloc ?_ _)); refine blk_far ?_ NB758_762.out _; (with_reducible repeat (first | refine blk_drewN ?_ _ | refine blk_drew ?_ | refine blk_alloc ?_ _)); exact BK758.out⟩, ⟨by (with_reducible repeat (first | refine blk_drewN ?_ _ | refine blk_drew ?_ | refine blk_alloc ?_ _)); refine blk_put (cs := #[.int .i64 t759, .int .i64 x763001_2]) ?_ 1 _ rfl; (with_reducible repeat (first | refine blk_drewN ?_ _ | refine blk_drew ?_ | refine blk_alloc ?_ _)); exact BK762.out⟩, ⟨bv2_ HB GE758 GE762⟩⟩
            ·rw [if_neg c24] at H
             exact absurd H (by simp)
           ·replace c23 := Bool.eq_false_iff.mpr c23
            subst c23
            rw [if_neg (show ¬ (false = true) by decide)] at H
            simp only [Option.some.injEq, Prod.mk.injEq] at H
            obtain ⟨rfl, rfl, rfl⟩ := H
            go_wp2_with (first | ((with_reducible refine gate_callee (f := 47) rfl ?_); refine gl_ 59 Tryd.func47 #[.int .i64 x10_3] rfl mp_ ?_; (with_reducible refine (impl_isBit.calls x10_3 false _ A22.out).mono ?_); rintro e w' ⟨rfl, ⟨nd, rfl⟩⟩; refine ⟨_, rfl, ?_⟩; (try (rw [drewN_self wr]; generalize hq_ : World.drewN wr _ = wr; have n0_ : Aside0 (wr.heap[gb758]? = some (.cells #[.int .i64 x759000_2, .int .i64 x759001_2] 23 (0, 0))) := ⟨by rw [← hq_]; exact (kv_ BK758)⟩; have n1_ : Aside0 (wr.heap[gb762]? = some (.cells #[.int .i64 t759, .int .i64 x763001_2] 23 (0, 0))) := ⟨by rw [← hq_]; exact (kv_ BK762)⟩; have n2_ : Aside0 (Below w.heap.size w wr) := ⟨by rw [← hq_]; exact (bv2_ HB GE758 GE762)⟩; clear BK758 BK762 HB hq_; have BK758 := n0_; have BK762 := n1_; have HB := n2_; clear n0_ n1_ n2_)); have hnb28 := NB758_762.out; have hnc28 := NB762_758.out; obtain ⟨hcz29_0, hcz29_1, hfz29_0, hfz29_1⟩ := c2_ BK758))
            refine bodyPost_ret (results_ct rfl _ _ gb758 23 #[.int .i64 0, .int .i64 0] (0, 0) _ rfl (by (with_reducible repeat (first | refine blk_drewN ?_ _ | refine blk_drew ?_ | refine blk_alloc ?_ _)); refine blk_put (cs := #[.int .i64 0, .int .i64 x759001_2]) ?_ 1 _ rfl; (with_reducible repeat (first | refine blk_drewN ?_ _ | refine blk_drew ?_ | refine blk_alloc ?_ _)); refine blk_put (cs := #[.int .i64 x759000_2, .int .i64 x759001_2]) ?_ 0 _ rfl; (with_reducible repeat (first | refine blk_drewN ?_ _ | refine blk_drew ?_ | refine blk_alloc ?_ _)); exact BK758.out) Tryd.underlying23 rfl (by kernel_rfl)) rfl ?_
            exact ⟨er_, bv2_ HB GE758 GE762⟩
       ·rw [if_neg c17] at H
        have c17b0 : decide (x40_2 < t763) = false := decide_eq_false c17
        clear c17
        simp only [Option.some.injEq, Prod.mk.injEq] at H
        obtain ⟨rfl, rfl, rfl⟩ := H
        have hnb30 := NB762_758.out
        have hnc30 := NB758_762.out
        obtain ⟨hcz31_0, hcz31_1, hfz31_0, hfz31_1⟩ := c2_ BK762
        obtain ⟨hcz32_0, hcz32_1, hfz32_0, hfz32_1⟩ := c2_ BK758
        go_wp2
        refine bodyPost_ret (results_ct rfl _ _ gb758 23 #[.int .i64 t759, .int .i64 x763001_2] (0, 0) _ rfl (by (with_reducible repeat (first | refine blk_drewN ?_ _ | refine blk_drew ?_ | refine blk_alloc ?_ _)); refine blk_put (cs := #[.int .i64 t759, .int .i64 x759001_2]) ?_ 1 _ rfl; (with_reducible repeat (first | refine blk_drewN ?_ _ | refine blk_drew ?_ | refine blk_alloc ?_ _)); refine blk_put (cs := #[.int .i64 x759000_2, .int .i64 x759001_2]) ?_ 0 _ rfl; (with_reducible repeat (first | refine blk_drewN ?_ _ | refine blk_drew ?_ | refine blk_alloc ?_ _)); exact BK758.out) Tryd.underlying23 rfl (by kernel_rfl)) rfl ?_
        exact ⟨er_, bv2_ HB GE758 GE762⟩
 ·replace c3 := Bool.eq_false_iff.mpr c3
  subst c3
  rw [if_neg (show ¬ (false = true) by decide)] at H
  simp only [Option.some.injEq, Prod.mk.injEq] at H
  obtain ⟨rfl, rfl, rfl⟩ := H
  go_enter Tryd.func19, Tryd.ntmps19
  go_wp2_with (first | ((with_reducible refine gate_dst (N := 2) rfl ?_); refine bx_ 2 #[.int .i64 0, .int .i64 0] 23 ?_; intro gb758 hg w33 hbox hb; have BK758 := Aside0.mk (hbox); have GW758 := gw_ hg (below_size (bv_ HB)); have GE758 := GW758; replace HB := Aside0.mk (below_step (bv_ HB) hb); clear hb hbox hg) | ((with_reducible refine gate_callee (f := 45) rfl ?_); refine gl_ 16 Tryd.func45 #[.int .i64 (l0.length : Int)] rfl mp_ ?_; (with_reducible refine (impl_bitsOf.calls k (l0.length : Int) t759 false _ A2.out).mono ?_); rintro e w' ⟨rfl, ⟨nd, rfl⟩⟩; refine ⟨_, rfl, ?_⟩; (try (rw [drewN_self w33]; generalize hq_ : World.drewN w33 _ = w33; have n0_ : Aside0 (w33.heap[gb758]? = some (.cells #[.int .i64 0, .int .i64 0] 23 (0, 0))) := ⟨by rw [← hq_]; exact (kv_ BK758)⟩; have n1_ : Aside0 (Below w.heap.size w w33) := ⟨by rw [← hq_]; exact (bv1_ HB GE758)⟩; clear BK758 HB hq_; have BK758 := n0_; have HB := n1_; clear n0_ n1_)); obtain ⟨hcz34_0, hcz34_1, hfz34_0, hfz34_1⟩ := c2_ BK758))
  refine bodyPost_ret (results_ct rfl _ _ gb758 23 #[.int .i64 0, .int .i64 0] (0, 0) _ rfl (by (with_reducible repeat (first | refine blk_drewN ?_ _ | refine blk_drew ?_ | refine blk_alloc ?_ _)); refine blk_put (cs := #[.int .i64 0, .int .i64 0]) ?_ 1 _ rfl; (with_reducible repeat (first | refine blk_drewN ?_ _ | refine blk_drew ?_ | refine blk_alloc ?_ _)); refine blk_put (cs := #[.int .i64 0, .int .i64 0]) ?_ 0 _ rfl; (with_reducible repeat (first | refine blk_drewN ?_ _ | refine blk_drew ?_ | refine blk_alloc ?_ _)); exact BK758.out) Tryd.underlying23 rfl (by kernel_rfl)) rfl ?_
  exact ⟨er_, bv1_ HB GE758⟩


/-! ### impl_CountOnes: function 22 -/
def impl_CountOnes.f (a0_0 : Int) (a0_1 : Int) : Option (Int) := (impl_IsTable.f a0_0 a0_1).bind fun t767 => (if t767 = true then ((impl_ones.f a0_1).bind fun t768 => (some t768)) else (some (-1)))
set_option maxHeartbeats 8000000 in
set_option maxRecDepth 100000 in
theorem impl_CountOnes.calls (a0_0 : Int) (a0_1 : Int) (r : Int) (w : World) (h : impl_CountOnes.f a0_0 a0_1 = some r) :
  Calls Tryd.prog 22 #[.agg #[.int .i64 a0_0, .int .i64 a0_1]] w fun e w' => e = .returned (.int .i64 r) ∧ Below w.heap.size w w' := by
 have hu23 := Tryd.underlying23
 have HB := Aside0.mk (Below.refl w.heap.size w)
 have H : ((impl_IsTable.f a0_0 a0_1).bind fun t767 => (if t767 = true then ((impl_ones.f a0_1).bind fun t768 => (some t768)) else (some (-1)))) = some r := h
 clear h
 replace H := Option.bind_eq_some_iff.mp H
 obtain ⟨t767, A20, H⟩ := H
 have A2 := Aside0.mk A20
 clear A20
 by_cases c3 : t767 = true
 ·subst c3
  rw [if_pos rfl] at H
  replace H := Option.bind_eq_some_iff.mp H
  obtain ⟨t768, A40, H⟩ := H
  have A4 := Aside0.mk A40
  clear A40
  obtain rfl := Option.some.inj H
  go_enter Tryd.func22, Tryd.ntmps22
  go_wp2_with (first | ((with_reducible refine gate_dst (N := 1) rfl ?_); refine bx_ 1 #[.int .i64 a0_0, .int .i64 a0_1] 23 ?_; intro gb766 hg w5 hbox hb; have BK766 := Aside0.mk (hbox); have GW766 := gw_ hg (below_size (bv_ HB)); have GE766 := GW766; replace HB := Aside0.mk (below_step (bv_ HB) hb); clear hb hbox hg; obtain ⟨hcz6_0, hcz6_1, hfz6_0, hfz6_1⟩ := c2_ BK766) | ((with_reducible refine gate_callee (f := 37) rfl ?_); refine gl_ 4 Tryd.func37 #[.agg #[.int .i64 a0_0, .int .i64 a0_1]] rfl mp_ ?_; (with_reducible refine (impl_IsTable.calls a0_0 a0_1 true _ A2.out).mono ?_); rintro e w7 ⟨rfl, hb⟩; refine ⟨_, rfl, ?_⟩; replace BK766 := kb_ BK766 hb; replace HB := Aside0.mk (below_step (bv1_ HB GE766) hb); (try clear hb); (try clear hb2); (try clear hk); (try clear hi); obtain ⟨hcz8_0, hcz8_1, hfz8_0, hfz8_1⟩ := c2_ BK766) | ((with_reducible refine gate_callee (f := 50) rfl ?_); refine gl_ 8 Tryd.func50 #[.int .i64 a0_1] rfl mp_ ?_; (with_reducible refine (impl_ones.calls a0_1 t768 _ A4.out).mono ?_); rintro e w' ⟨rfl, ⟨nd, rfl⟩⟩; refine ⟨_, rfl, ?_⟩))
  go_ret
  exact ⟨er_, bv1_ HB GE766⟩
 ·replace c3 := Bool.eq_false_iff.mpr c3
  subst c3
  rw [if_neg (show ¬ (false = true) by decide)] at H
  obtain rfl := Option.some.inj H
  go_enter Tryd.func22, Tryd.ntmps22
  go_wp2_with (first | ((with_reducible refine gate_dst (N := 1) rfl ?_); refine bx_ 1 #[.int .i64 a0_0, .int .i64 a0_1] 23 ?_; intro gb766 hg w9 hbox hb; have BK766 := Aside0.mk (hbox); have GW766 := gw_ hg (below_size (bv_ HB)); have GE766 := GW766; replace HB := Aside0.mk (below_step (bv_ HB) hb); clear hb hbox hg; obtain ⟨hcz10_0, hcz10_1, hfz10_0, hfz10_1⟩ := c2_ BK766) | ((with_reducible refine gate_callee (f := 37) rfl ?_); refine gl_ 4 Tryd.func37 #[.agg #[.int .i64 a0_0, .int .i64 a0_1]] rfl mp_ ?_; (with_reducible refine (impl_IsTable.calls a0_0 a0_1 false _ A2.out).mono ?_); rintro e w11 ⟨rfl, hb⟩; refine ⟨_, rfl, ?_⟩; replace BK766 := kb_ BK766 hb; replace HB := Aside0.mk (below_step (bv1_ HB GE766) hb); (try clear hb); (try clear hb2); (try clear hk); (try clear hi)))
  go_ret
  exact ⟨er_, bv1_ HB GE766⟩


/-! ### impl_hasInput: function 51 -/
def impl_hasInput.f (a0_0 : Int) (a0_1 : Int) (a1 : Int) : Option (Bool) := (impl_IsTable.f a0_0 a0_1).bind fun t770 => (if t770 = true then ((impl_isInput.f a0_0 a1).bind fun t771 => (some t771)) else (some false))
set_option maxHeartbeats 8000000 in
set_option maxRecDepth 100000 in
theorem impl_hasInput.calls (a0_0 : Int) (a0_1 : Int) (a1 : Int) (r : Bool) (w : World) (h : impl_hasInput.f a0_0 a0_1 a1 = some r) :
  Calls Tryd.prog 51 #[.agg #[.int .i64 a0_0, .int .i64 a0_1], .int .i64 a1] w fun e w' => e = .returned (.bool r) ∧ Below w.heap.size w w' := by
 have hu23 := Tryd.underlying23
 have HB := Aside0.mk (Below.refl w.heap.size w)
 have H : ((impl_IsTable.f a0_0 a0_1).bind fun t770 => (if t770 = true then ((impl_isInput.f a0_0 a1).bind fun t771 => (some t771)) else (some false))) = some r := h
 clear h
 replace H := Option.bind_eq_some_iff.mp H
 obtain ⟨t770, A30, H⟩ := H
 have A3 := Aside0.mk A30
 clear A30
 by_cases c4 : t770 = true
 ·subst c4
  rw [if_pos rfl] at H
  replace H := Option.bind_eq_some_iff.mp H
  obtain ⟨t771, A50, H⟩ := H
  have A5 := Aside0.mk A50
  clear A50
  obtain rfl := Option.some.inj H
  go_enter Tryd.func51, Tryd.ntmps51
  go_wp2_with (first | ((with_reducible refine gate_dst (N := 2) rfl ?_); refine bx_ 2 #[.int .i64 a0_0, .int .i64 a0_1] 23 ?_; intro gb769 hg w6 hbox hb; have BK769 := Aside0.mk (hbox); have GW769 := gw_ hg (below_size (bv_ HB)); have GE769 := GW769; replace HB := Aside0.mk (below_step (bv_ HB) hb); clear hb hbox hg; obtain ⟨hcz7_0, hcz7_1, hfz7_0, hfz7_1⟩ := c2_ BK769) | ((with_reducible refine gate_callee (f := 37) rfl ?_); refine gl_ 6 Tryd.func37 #[.agg #[.int .i64 a0_0, .int .i64 a0_1]] rfl mp_ ?_; (with_reducible refine (impl_IsTable.calls a0_0 a0_1 true _ A3.out).mono ?_); rintro e w8 ⟨rfl, hb⟩; refine ⟨_, rfl, ?_⟩; replace BK769 := kb_ BK769 hb; replace HB := Aside0.mk (below_step (bv1_ HB GE769) hb); (try clear hb); (try clear hb2); (try clear hk); (try clear hi); obtain ⟨hcz9_0, hcz9_1, hfz9_0, hfz9_1⟩ := c2_ BK769) | (go_at_call 66; (with_reducible refine (impl_isInput.calls a0_0 a1 t771 _ A5.out).mono ?_); rintro e w' ⟨rfl, ⟨nd, rfl⟩⟩))
  go_ret
  exact ⟨er_, bv1_ HB GE769⟩
 ·replace c4 := Bool.eq_false_iff.mpr c4
  subst c4
  rw [if_neg (show ¬ (false = true) by decide)] at H
  obtain rfl := Option.some.inj H
  go_enter Tryd.func51, Tryd.ntmps51
  go_wp2_with (first | ((with_reducible refine gate_dst (N := 2) rfl ?_); refine bx_ 2 #[.int .i64 a0_0, .int .i64 a0_1] 23 ?_; intro gb769 hg w10 hbox hb; have BK769 := Aside0.mk (hbox); have GW769 := gw_ hg (below_size (bv_ HB)); have GE769 := GW769; replace HB := Aside0.mk (below_step (bv_ HB) hb); clear hb hbox hg; obtain ⟨hcz11_0, hcz11_1, hfz11_0, hfz11_1⟩ := c2_ BK769) | ((with_reducible refine gate_callee (f := 37) rfl ?_); refine gl_ 6 Tryd.func37 #[.agg #[.int .i64 a0_0, .int .i64 a0_1]] rfl mp_ ?_; (with_reducible refine (impl_IsTable.calls a0_0 a0_1 false _ A3.out).mono ?_); rintro e w12 ⟨rfl, hb⟩; refine ⟨_, rfl, ?_⟩; replace BK769 := kb_ BK769 hb; replace HB := Aside0.mk (below_step (bv1_ HB GE769) hb); (try clear hb); (try clear hb2); (try clear hk); (try clear hi)))
  go_ret
  exact ⟨er_, bv1_ HB GE769⟩


/-! ### impl_ValueAt: function 23 -/
def impl_ValueAt.f (a0_0 : Int) (a0_1 : Int) (a1 : Int) : Option (Int) := (impl_hasInput.f a0_0 a0_1 a1).bind fun t773 => (if t773 = true then ((impl_Table_at.f a0_0 a0_1 a1).bind fun t774 => (some t774)) else (some (-1)))
set_option maxHeartbeats 8000000 in
set_option maxRecDepth 100000 in
theorem impl_ValueAt.calls (a0_0 : Int) (a0_1 : Int) (a1 : Int) (r : Int) (w : World) (h : impl_ValueAt.f a0_0 a0_1 a1 = some r) :
  Calls Tryd.prog 23 #[.agg #[.int .i64 a0_0, .int .i64 a0_1], .int .i64 a1] w fun e w' => e = .returned (.int .i64 r) ∧ Below w.heap.size w w' := by
 have hu23 := Tryd.underlying23
 have HB := Aside0.mk (Below.refl w.heap.size w)
 have H : ((impl_hasInput.f a0_0 a0_1 a1).bind fun t773 => (if t773 = true then ((impl_Table_at.f a0_0 a0_1 a1).bind fun t774 => (some t774)) else (some (-1)))) = some r := h
 clear h
 replace H := Option.bind_eq_some_iff.mp H
 obtain ⟨t773, A30, H⟩ := H
 have A3 := Aside0.mk A30
 clear A30
 by_cases c4 : t773 = true
 ·subst c4
  rw [if_pos rfl] at H
  replace H := Option.bind_eq_some_iff.mp H
  obtain ⟨t774, A50, H⟩ := H
  have A5 := Aside0.mk A50
  clear A50
  obtain rfl := Option.some.inj H
  go_enter Tryd.func23, Tryd.ntmps23
  go_wp2_with (first | ((with_reducible refine gate_dst (N := 2) rfl ?_); refine bx_ 2 #[.int .i64 a0_0, .int .i64 a0_1] 23 ?_; intro gb772 hg w6 hbox hb; have BK772 := Aside0.mk (hbox); have GW772 := gw_ hg (below_size (bv_ HB)); have GE772 := GW772; replace HB := Aside0.mk (below_step (bv_ HB) hb); clear hb hbox hg; obtain ⟨hcz7_0, hcz7_1, hfz7_0, hfz7_1⟩ := c2_ BK772) | ((with_reducible refine gate_callee (f := 51) rfl ?_); refine gl_ 7 Tryd.func51 #[.agg #[.int .i64 a0_0, .int .i64 a0_1], .int .i64 a1] rfl mp_ ?_; (with_reducible refine (impl_hasInput.calls a0_0 a0_1 a1 true _ A3.out).mono ?_); rintro e w8 ⟨rfl, hb⟩; refine ⟨_, rfl, ?_⟩; replace BK772 := kb_ BK772 hb; replace HB := Aside0.mk (below_step (bv1_ HB GE772) hb); (try clear hb); (try clear hb2); (try clear hk); (try clear hi); obtain ⟨hcz9_0, hcz9_1, hfz9_0, hfz9_1⟩ := c2_ BK772) | ((with_reducible refine gate_callee (f := 43) rfl ?_); refine gl_ 11 Tryd.func43 #[.agg #[.int .i64 a0_0, .int .i64 a0_1], .int .i64 a1] rfl mp_ ?_; (with_reducible refine (impl_Table_at.calls a0_0 a0_1 a1 t774 _ A5.out).mono ?_); rintro e w10 ⟨rfl, hb⟩; refine ⟨_, rfl, ?_⟩; replace BK772 := kb_ BK772 hb; replace HB := Aside0.mk (below_step (bv1_ HB GE772) hb); (try clear hb); (try clear hb2); (try clear hk); (try clear hi)))
  go_ret
  exact ⟨er_, bv1_ HB GE772⟩
 ·replace c4 := Bool.eq_false_iff.mpr c4
  subst c4
  rw [if_neg (show ¬ (false = true) by decide)] at H
  obtain rfl := Option.some.inj H
  go_enter Tryd.func23, Tryd.ntmps23
  go_wp2_with (first | ((with_reducible refine gate_dst (N := 2) rfl ?_); refine bx_ 2 #[.int .i64 a0_0, .int .i64 a0_1] 23 ?_; intro gb772 hg w11 hbox hb; have BK772 := Aside0.mk (hbox); have GW772 := gw_ hg (below_size (bv_ HB)); have GE772 := GW772; replace HB := Aside0.mk (below_step (bv_ HB) hb); clear hb hbox hg; obtain ⟨hcz12_0, hcz12_1, hfz12_0, hfz12_1⟩ := c2_ BK772) | ((with_reducible refine gate_callee (f := 51) rfl ?_); refine gl_ 7 Tryd.func51 #[.agg #[.int .i64 a0_0, .int .i64 a0_1], .int .i64 a1] rfl mp_ ?_; (with_reducible refine (impl_hasInput.calls a0_0 a0_1 a1 false _ A3.out).mono ?_); rintro e w13 ⟨rfl, hb⟩; refine ⟨_, rfl, ?_⟩; replace BK772 := kb_ BK772 hb; replace HB := Aside0.mk (below_step (bv1_ HB GE772) hb); (try clear hb); (try clear hb2); (try clear hk); (try clear hi)))
  go_ret
  exact ⟨er_, bv1_ HB GE772⟩


/-! ### spec_l1Once: function 52 -/
def spec_l1Once.f (s0_0 : List Int) (s0_1 : Int) (s0_2 : Int) (a1 : Int) : Option (Bool × Int × Int) := (spec_l1Below.f s0_0 s0_1 s0_2 a1).bind fun bt775 => (some ((bt775.1 == 0), bt775.2.1, bt775.2.2))
set_option maxHeartbeats 8000000 in
set_option maxRecDepth 100000 in
theorem spec_l1Once.calls (g : Nat) (s0_0 : List Int) (s0_1 : Int) (s0_2 : Int) (a1 : Int) (r1 : Bool) (r2 : Int) (r3 : Int) (w0 w : World) (hI : IsS75 w0 w g s0_0 s0_1 s0_2) (hB : Below w0.heap.size w0 w) (h : spec_l1Once.f s0_0 s0_1 s0_2 a1 = some (r1, r2, r3)) :
  Calls Tryd.prog 52 #[.pointer (some ⟨g, 0, none⟩), .int .i64 a1] w fun e w' => e = .returned (.bool r1) ∧ IsS75 w0 w' g s0_0 r2 r3 ∧ Below w0.heap.size w0 w' ∧ KeepBut w w' g none := by
 have HI0 := Aside0.mk hI
 have HK := Aside0.mk (KeepBut.refl w g none)
 have HL := Aside0.mk hB.size
 clear hI
 have HW0 := Aside0.mk hB.size
 have HB := Aside0.mk hB
 clear hB
 have H : ((spec_l1Below.f s0_0 s0_1 s0_2 a1).bind fun bt775 => (some ((bt775.1 == 0), bt775.2.1, bt775.2.2))) = some (r1, r2, r3) := h
 clear h
 replace H := Option.bind_eq_some_iff.mp H
 obtain ⟨⟨t775, t776, t777⟩, A30, H⟩ := H
 replace H : (some ((t775 == 0), t776, t777)) = some (r1, r2, r3) := H
 have A3 := Aside0.mk A30
 clear A30
 simp only [Option.some.injEq, Prod.mk.injEq] at H
 obtain ⟨rfl, rfl, rfl⟩ := H
 go_enter Tryd.func52, Tryd.ntmps52
 go_wp2_with (first | ((with_reducible refine gate_callee (f := 54) rfl ?_); refine gl_ 7 Tryd.func54 #[.pointer (some ⟨g, 0, none⟩), .int .i64 a1] rfl mp_ ?_; (with_reducible refine (spec_l1Below.calls g s0_0 s0_1 s0_2 a1 t775 t776 t777 w0 _ ?side1 ?side2 A3.out).mono ?_); (case side1 => exact ia_ HI0); (case side2 => exact bi_ HB HI0); rintro e w4 ⟨rfl, hi, hb, hk⟩; refine ⟨_, rfl, ?_⟩; replace HK := Aside0.mk (KeepBut.trans (ka_ HK) hk (.inl rfl)); replace HB := Aside0.mk (hb); replace HI0 := Aside0.mk (hi); (try clear hb); (try clear hb2); (try clear hk); (try clear hi)))
 go_ret
 exact ⟨er_, ia_ HI0, bi_ HB HI0, ka_ HK⟩


end Go.Proofs.YteljkpglgjjnlaaDoor.P
