-- Out of the translation, by this session's program over the printer's; Lean checks it.
import Derived.Test.YteljkpglgjjnlaaDoorSh
import Derived.Test.YteljkpglgjjnlaaDoorQ0
import Derived.Test.YteljkpglgjjnlaaDoorQ3
import Derived.Test.YteljkpglgjjnlaaDoorQ4
import Derived.Test.YteljkpglgjjnlaaDoorQ5
namespace Go.Proofs.YteljkpglgjjnlaaDoor.P
open Go.RowKit Go.Proofs.YteljkpglgjjnlaaDoorW.PrintWords Go.Proofs.YteljkpglgjjnlaaDoorW.PrintLast Go.Proofs.YteljkpglgjjnlaaDoorW.PrintMore
attribute [local go_sem] max2_int min2_int max_two min_two max_three min_three max_four min_four
set_option linter.unusedVariables false
set_option linter.unusedSimpArgs false

/-! ### impl_ParseAnf: function 6 -/
mutual
def impl_ParseAnf.j0 : Nat → Int → ByteArray → Bool → Option (Int × Int × Bool)
 | 0, _, _, _ => none
 | k + 1, x0, x1, x19 => if x19 = true then (some (0, 0, false)) else (if x1.toList = ([48] : List UInt8) then (impl_ParseAnf.j2 k x1 x0 0) else ((strings_Split.f x1 (⟨#[43]⟩ : ByteArray)).bind fun t433 => (impl_ParseAnf.l0 k x0 x1 t433 (t433.length : Int) 0 x0 0)))
def impl_ParseAnf.j2 : Nat → ByteArray → Int → Int → Option (Int × Int × Bool)
 | 0, _, _, _ => none
 | k + 1, x1, x433000, x433001 => (impl_Table_anf.f x433000 x433001).bind fun bt441 => ((impl_FormatAnf.f k bt441.1 bt441.2).bind fun t444 => (if t444.toList = x1.toList then (some (bt441.1, bt441.2, true)) else (some (0, 0, false))))
def impl_ParseAnf.l0 : Nat → Int → ByteArray → List ByteArray → Int → Int → Int → Int → Option (Int × Int × Bool)
 | 0, _, _, _, _, _, _, _ => none
 | k + 1, x0, x1, x26, x27, x28, x433000, x433001 => if x28 < x27 then (if 0 ≤ x28 then (if x28 < (x26.length : Int) then ((impl_ParseTerm.f k x0 (rdOf ByteArray.empty x26 x28)).bind fun bt437 => (if bt437.2.2 = true then (if 0 ≤ bt437.1 then (impl_ParseAnf.l0 k x0 x1 x26 x27 (wrap64 (x28 + 1)) x433000 (Go.bits .or .i64 x433001 (shl .i64 1 bt437.1))) else (none)) else (some (0, 0, false)))) else (none)) else (none)) else (impl_ParseAnf.j2 k x1 x433000 x433001)
end
def impl_ParseAnf.f (k : Nat) (a0 : Int) (a1 : ByteArray) : Option (Int × Int × Bool) := (impl_isBits.f a0).bind fun t431 => (if t431 = true then (impl_ParseAnf.j0 k a0 a1 (decide ((a1.size : Int) > 200))) else (impl_ParseAnf.j0 k a0 a1 true))
theorem impl_ParseAnf.mono_l : ∀ k, (∀ y0 y1 y2, LeO (impl_ParseAnf.j0 k y0 y1 y2) (impl_ParseAnf.j0 (k + 1) y0 y1 y2)) ∧ (∀ y0 y1 y2, LeO (impl_ParseAnf.j2 k y0 y1 y2) (impl_ParseAnf.j2 (k + 1) y0 y1 y2)) ∧ (∀ y0 y1 y2 y3 y4 y5 y6, LeO (impl_ParseAnf.l0 k y0 y1 y2 y3 y4 y5 y6) (impl_ParseAnf.l0 (k + 1) y0 y1 y2 y3 y4 y5 y6))
 | 0 => ⟨fun _ _ _ r h => by simp [impl_ParseAnf.j0] at h, fun _ _ _ r h => by simp [impl_ParseAnf.j2] at h, fun _ _ _ _ _ _ _ r h => by simp [impl_ParseAnf.l0] at h⟩
 | k + 1 => by
  obtain ⟨ih0, ih1, ih2⟩ := impl_ParseAnf.mono_l k
  refine ⟨?_, ?_, ?_⟩
  ·intro y0 y1 y2
   unfold impl_ParseAnf.j0
   repeat' first
   | (with_reducible exact ih0 _ _ _)
   | (with_reducible exact ih1 _ _ _)
   | (with_reducible exact ih2 _ _ _ _ _ _ _)
   | (with_reducible exact impl_FormatAnf.mono _ _ _)
   | (with_reducible exact impl_ParseTerm.mono _ _ _)
   | (with_reducible exact LeO.refl _)
   | (with_reducible exact LeO.none _)
   | (with_reducible refine LeO.ite ?_ ?_)
   | (with_reducible refine LeO.bind ?_ (fun _ => ?_))
   | exact ih0 _ _ _
   | exact ih1 _ _ _
   | exact ih2 _ _ _ _ _ _ _
   | exact impl_FormatAnf.mono _ _ _
   | exact impl_ParseTerm.mono _ _ _
   | exact LeO.none _
   | refine LeO.ite ?_ ?_
   | refine LeO.bind ?_ (fun _ => ?_)
  ·intro y0 y1 y2
   unfold impl_ParseAnf.j2
   repeat' first
   | (with_reducible exact ih0 _ _ _)
   | (with_reducible exact ih1 _ _ _)
   | (with_reducible exact ih2 _ _ _ _ _ _ _)
   | (with_reducible exact impl_FormatAnf.mono _ _ _)
   | (with_reducible exact impl_ParseTerm.mono _ _ _)
   | (with_reducible exact LeO.refl _)
   | (with_reducible exact LeO.none _)
   | (with_reducible refine LeO.ite ?_ ?_)
   | (with_reducible refine LeO.bind ?_ (fun _ => ?_))
   | exact ih0 _ _ _
   | exact ih1 _ _ _
   | exact ih2 _ _ _ _ _ _ _
   | exact impl_FormatAnf.mono _ _ _
   | exact impl_ParseTerm.mono _ _ _
   | exact LeO.none _
   | refine LeO.ite ?_ ?_
   | refine LeO.bind ?_ (fun _ => ?_)
  ·intro y0 y1 y2 y3 y4 y5 y6
   unfold impl_ParseAnf.l0
   repeat' first
   | (with_reducible exact ih0 _ _ _)
   | (with_reducible exact ih1 _ _ _)
   | (with_reducible exact ih2 _ _ _ _ _ _ _)
   | (with_reducible exact impl_FormatAnf.mono _ _ _)
   | (with_reducible exact impl_ParseTerm.mono _ _ _)
   | (with_reducible exact LeO.refl _)
   | (with_reducible exact LeO.none _)
   | (with_reducible refine LeO.ite ?_ ?_)
   | (with_reducible refine LeO.bind ?_ (fun _ => ?_))
   | exact ih0 _ _ _
   | exact ih1 _ _ _
   | exact ih2 _ _ _ _ _ _ _
   | exact impl_FormatAnf.mono _ _ _
   | exact impl_ParseTerm.mono _ _ _
   | exact LeO.none _
   | refine LeO.ite ?_ ?_
   | refine LeO.bind ?_ (fun _ => ?_)
theorem impl_ParseAnf.mono : ∀ a0 a1 k, LeO (impl_ParseAnf.f k a0 a1) (impl_ParseAnf.f (k + 1) a0 a1) := by
 intro a0 a1 k
 obtain ⟨ih0, ih1, ih2⟩ := impl_ParseAnf.mono_l k
 unfold impl_ParseAnf.f
 repeat' first
   | (with_reducible exact ih0 _ _ _)
   | (with_reducible exact ih1 _ _ _)
   | (with_reducible exact ih2 _ _ _ _ _ _ _)
   | (with_reducible exact impl_FormatAnf.mono _ _ _)
   | (with_reducible exact impl_ParseTerm.mono _ _ _)
   | (with_reducible exact LeO.refl _)
   | (with_reducible exact LeO.none _)
   | (with_reducible refine LeO.ite ?_ ?_)
   | (with_reducible refine LeO.bind ?_ (fun _ => ?_))
   | exact ih0 _ _ _
   | exact ih1 _ _ _
   | exact ih2 _ _ _ _ _ _ _
   | exact impl_FormatAnf.mono _ _ _
   | exact impl_ParseTerm.mono _ _ _
   | exact LeO.none _
   | refine LeO.ite ?_ ?_
   | refine LeO.bind ?_ (fun _ => ?_)
def impl_ParseAnf.T11 : Bool × List (List Nat × List Nat) := (true, [([], []), ([0], [0]), ([], []), ([2], [2]), ([3], [3]), ([1, 4], [1, 4]), ([0, 1, 2, 3, 4, 5], []), ([6, 5, 0, 1, 2, 3, 4, 5], [5, 6])])
def impl_ParseAnf.B11 : List Nat := [0, 1, 0, 4, 12, 31, 63, 127]
theorem impl_ParseAnf.tab11 : rtab .any (opsOf Tryd.f6 11) = impl_ParseAnf.T11 := by kernel_rfl
theorem impl_ParseAnf.bits11 : waitsOk impl_ParseAnf.T11.2 impl_ParseAnf.B11 = true := by kernel_rfl
set_option maxHeartbeats 8000000 in
set_option maxRecDepth 100000 in
theorem impl_ParseAnf.calls (k : Nat) (a0 : Int) (a1 : ByteArray) (r1 : Int) (r2 : Int) (r3 : Bool) (w : World) (h : impl_ParseAnf.f k a0 a1 = some (r1, r2, r3)) :
  Calls Tryd.prog 6 #[.int .i64 a0, .string a1] w fun e w' => e = .returned (.tuple #[.agg #[.int .i64 r1, .int .i64 r2], .bool r3]) ∧ Below w.heap.size w w' := by
 have hu23 := Tryd.underlying23
 have hu44 := Tryd.underlying44
 have HB := Aside0.mk (Below.refl w.heap.size w)
 have H : ((impl_isBits.f a0).bind fun t431 => (if t431 = true then (impl_ParseAnf.j0 k a0 a1 (decide ((a1.size : Int) > 200))) else (impl_ParseAnf.j0 k a0 a1 true))) = some (r1, r2, r3) := h
 clear h
 have HC3 := Aside0.mk H
 clear H
 go_enter Tryd.func6, Tryd.ntmps6
 go_upto_region 1 with (first | ((with_reducible refine gate_dst (N := 4) rfl ?_); (try (refine gate_guard (by rfl) ?_; dsimp only)); refine bx_ 4 #[.int .i64 0, .int .i64 0] 23 ?_; intro gb430 hg w4 hbox hb; have n0_ := Aside0.mk (below_step (bv_ HB) hb); have n1_ := Aside0.mk (hbox); have n2_ := gw_ hg (below_size (bv_ HB)); have n3_ := gw_ hg (below_size (bv_ HB)); clear HB; have HB := n0_; have BK430 := n1_; have GW430 := n2_; have GE430 := n3_; clear n0_ n1_ n2_ n3_; clear hb hbox hg))
 (try simp only [Act.put, List.setIfInBounds_toArray, List.set_cons_zero, List.set_cons_succ])
 go_cut [19] (fun v19 wc => ∃ (kq : Nat) (x19_2 : Bool), v19 = .bool x19_2 ∧ Aside0 (impl_ParseAnf.j0 kq a0 a1 x19_2 = some (r1, r2, r3)) ∧ Aside0 (kq ≤ k) ∧ Aside0 (wc.heap[gb430]? = some (.cells #[.int .i64 0, .int .i64 0] 23 (0, 0))) ∧ Aside0 (Below w.heap.size w wc))
 case first =>
  have H := HC3.out
  clear HC3
  replace H := Option.bind_eq_some_iff.mp H
  obtain ⟨t431, A50, H⟩ := H
  have A5 := Aside0.mk A50
  clear A50
  by_cases c6 : t431 = true
  ·subst c6
   rw [if_pos rfl] at H
   have H' := Aside0.mk H
   clear H
   go_wp2_with (first | ((with_reducible refine gate_callee (f := 31) rfl ?_); refine gl_ 13 Tryd.func31 #[.int .i64 a0] rfl mp_ ?_; (with_reducible refine (impl_isBits.calls a0 true _ A5.out).mono ?_); rintro e w' ⟨rfl, ⟨nd, rfl⟩⟩; refine ⟨_, rfl, ?_⟩))
   go_meet
   case rel => exact ⟨_, (decide ((a1.size : Int) > 200)), (by first | rfl | (simp; done) | (simp [*]; done)), H', ⟨by first | omega | exact Nat.le_refl _⟩, ⟨by (with_reducible repeat (first | refine blk_drewN ?_ _ | refine blk_drew ?_ | refine blk_alloc ?_ _)); exact BK430.out⟩, ⟨bv1_ HB GE430⟩⟩
  ·replace c6 := Bool.eq_false_iff.mpr c6
   subst c6
   rw [if_neg (show ¬ (false = true) by decide)] at H
   have H' := Aside0.mk H
   clear H
   go_wp2_with (first | ((with_reducible refine gate_callee (f := 31) rfl ?_); refine gl_ 13 Tryd.func31 #[.int .i64 a0] rfl mp_ ?_; (with_reducible refine (impl_isBits.calls a0 false _ A5.out).mono ?_); rintro e w' ⟨rfl, ⟨nd, rfl⟩⟩; refine ⟨_, rfl, ?_⟩))
   go_meet
   case rel => exact ⟨_, (true), (by first | rfl | (simp; done) | (simp [*]; done)), H', ⟨by first | omega | exact Nat.le_refl _⟩, ⟨by (with_reducible repeat (first | refine blk_drewN ?_ _ | refine blk_drew ?_ | refine blk_alloc ?_ _)); exact BK430.out⟩, ⟨bv1_ HB GE430⟩⟩
 case rest =>
  clear HC3
  try clear p2
  try clear c3
  try clear c6
  obtain ⟨kq, x19_2, rfl, HA, HJ2, BK430, HB⟩ := hcut
  cases kq with
  | zero => exact absurd HA.out (by simp [impl_ParseAnf.j0])
  | succ kj2 =>
   have H := HA.out
   clear HA
   simp only [impl_ParseAnf.j0] at H
   by_cases c7 : x19_2 = true
   ·subst c7
    rw [if_pos rfl] at H
    simp only [Option.some.injEq, Prod.mk.injEq] at H
    obtain ⟨rfl, rfl, rfl⟩ := H
    obtain ⟨hcz8_0, hcz8_1, hfz8_0, hfz8_1⟩ := c2_ BK430
    go_wp2
    refine bodyPost_ret (results_ct rfl _ _ gb430 23 #[.int .i64 0, .int .i64 0] (0, 0) _ rfl (by (with_reducible repeat (first | refine blk_drewN ?_ _ | refine blk_drew ?_ | refine blk_alloc ?_ _)); refine blk_put (cs := #[.int .i64 0, .int .i64 0]) ?_ 1 _ rfl; (with_reducible repeat (first | refine blk_drewN ?_ _ | refine blk_drew ?_ | refine blk_alloc ?_ _)); refine blk_put (cs := #[.int .i64 0, .int .i64 0]) ?_ 0 _ rfl; (with_reducible repeat (first | refine blk_drewN ?_ _ | refine blk_drew ?_ | refine blk_alloc ?_ _)); exact BK430.out) Tryd.underlying23 rfl (by kernel_rfl)) rfl ?_
    exact ⟨er_, bv1_ HB GE430⟩
   ·replace c7 := Bool.eq_false_iff.mpr c7
    subst c7
    rw [if_neg (show ¬ (false = true) by decide)] at H
    have HC9 := Aside0.mk H
    clear H
    go_upto_if 24 with (first | ((with_reducible refine gate_dst (N := 6) rfl ?_); (try (refine gate_guard (by rfl) ?_; dsimp only)); refine bx_ 6 #[.int .i64 0, .int .i64 0] 23 ?_; intro gb432 hg w10 hbox hb; have n0_ := kb_ BK430 hb; have n1_ := Aside0.mk (below_step (bv1_ HB GE430) hb); have n2_ := Aside0.mk (hbox); have n3_ := gw_ hg (below_size (bv1_ HB GE430)); have n4_ := gw_ hg (below_size (bv1_ HB GE430)); have n5_ := nb_ hg (blk_lt (g := gb430) (o := .cells #[.int .i64 0, .int .i64 0] 23 (0, 0)) (kv_ BK430)); have n6_ := nc_ hg (blk_lt (g := gb430) (o := .cells #[.int .i64 0, .int .i64 0] 23 (0, 0)) (kv_ BK430)); clear BK430; clear HB; have BK430 := n0_; have HB := n1_; have BK432 := n2_; have GW432 := n3_; have GE432 := n4_; have NB430_432 := n5_; have NB432_430 := n6_; clear n0_ n1_ n2_ n3_ n4_ n5_ n6_; clear hb hbox hg; have hnb11 := NB432_430.out; have hnc11 := NB430_432.out; have hcz12_0 : w10.cell? ⟨gb432, 0, none⟩ = some (.int .i64 0) := (blk_cell BK432.out 0).trans rfl; have hcz12_1 : w10.cell? ⟨gb432, 1, none⟩ = some (.int .i64 0) := (blk_cell BK432.out 1).trans rfl; have hfz12_0 := blk_frozen BK432.out 0; have hfz12_1 := blk_frozen BK432.out 1))
    (try simp only [Act.put, List.setIfInBounds_toArray, List.set_cons_zero, List.set_cons_succ])
    go_cut [] (fun wc => ∃ (kq : Nat) (x431000_8 : Int) (x431001_8 : Int) (x433001_8 : Int), Aside0 (impl_ParseAnf.j2 kq a1 a0 x433001_8 = some (r1, r2, r3)) ∧ Aside0 (kq ≤ kj2) ∧ Aside0 (wc.heap[gb430]? = some (.cells #[.int .i64 x431000_8, .int .i64 x431001_8] 23 (0, 0))) ∧ Aside0 (wc.heap[gb432]? = some (.cells #[.int .i64 a0, .int .i64 x433001_8] 23 (0, 0))) ∧ Aside0 (Below w.heap.size w wc))
    case first =>
     have H := HC9.out
     clear HC9
     by_cases c13 : a1.toList = ([48] : List UInt8)
     ·rw [if_pos c13] at H
      have c13b0 : (a1.toList == ([48] : List UInt8)) = true := beq_iff_eq.mpr c13
      have c13b1 : (a1.toList != ([48] : List UInt8)) = false := bne_eq_false_iff_eq.mpr c13
      clear c13
      (first | rw [c13b0] | (simp only [i64_w, i32_w]; rw [c13b0]) | skip)
      have H' := Aside0.mk H
      clear H
      go_wp2
      go_meet
      case rel => exact ⟨_, (0), (0), (0), H', ⟨by have := HJ2.out; first | omega | exact Nat.le_refl _⟩, ⟨by (with_reducible repeat (first | refine blk_drewN ?_ _ | refine blk_drew ?_ | refine blk_alloc ?_ _)); refine blk_far ?_ NB430_432.out _; (with_reducible repeat (first | refine blk_drewN ?_ _ | refine blk_drew ?_ | refine blk_alloc ?_ _)); refine blk_far ?_ NB430_432.out _; (with_reducible repeat (first | refine blk_drewN ?_ _ | refine blk_drew ?_ | refine blk_alloc ?_ _)); exact BK430.out⟩, ⟨by (with_reducible repeat (first | refine blk_drewN ?_ _ | refine blk_drew ?_ | refine blk_alloc ?_ _)); refine blk_put (cs := #[.int .i64 a0, .int .i64 0]) ?_ 1 _ rfl; (with_reducible repeat (first | refine blk_drewN ?_ _ | refine blk_drew ?_ | refine blk_alloc ?_ _)); refine blk_put (cs := #[.int .i64 0, .int .i64 0]) ?_ 0 _ rfl; (with_reducible repeat (first | refine blk_drewN ?_ _ | refine blk_drew ?_ | refine blk_alloc ?_ _)); exact BK432.out⟩, ⟨bv2_ HB GE430 GE432⟩⟩
     ·rw [if_neg c13] at H
      have c13b0 : (a1.toList == ([48] : List UInt8)) = false := beq_eq_false_iff_ne.mpr c13
      have c13b1 : (a1.toList != ([48] : List UInt8)) = true := bne_iff_ne.mpr c13
      (first | rw [c13b0] | (simp only [i64_w, i32_w]; rw [c13b0]) | skip)
      replace H := Option.bind_eq_some_iff.mp H
      obtain ⟨t433, A140, H⟩ := H
      have A14 := Aside0.mk A140
      clear A140
      have H' := Aside0.mk H
      clear H
      go_wp2_with (first | ((with_reducible refine gate_callee (f := 32) rfl ?_); refine gl_ 26 Tryd.func32 #[.string a1, .string (⟨#[43]⟩ : ByteArray)] rfl mp_ ?_; (with_reducible refine (strings_Split.calls a1 (⟨#[43]⟩ : ByteArray) t433 _ A14.out).mono ?_); rintro e w15 ⟨v434, rfl, ho0, hb⟩; refine ⟨_, rfl, ?_⟩; have HO435 := Aside0.mk (Kd.R_lower ho0 (below_size (bv2_ HB GE430 GE432))); replace BK430 := Aside0.mk (blk_below (g := gb430) (o := .cells #[.int .i64 0, .int .i64 0] 23 (0, 0)) (by (with_reducible repeat (first | refine blk_drewN ?_ _ | refine blk_drew ?_ | refine blk_alloc ?_ _)); refine blk_far ?_ NB430_432.out _; (with_reducible repeat (first | refine blk_drewN ?_ _ | refine blk_drew ?_ | refine blk_alloc ?_ _)); refine blk_far ?_ NB430_432.out _; (with_reducible repeat (first | refine blk_drewN ?_ _ | refine blk_drew ?_ | refine blk_alloc ?_ _)); exact BK430.out) hb); replace BK432 := Aside0.mk (blk_below (g := gb432) (o := .cells #[.int .i64 a0, .int .i64 0] 23 (0, 0)) (by (with_reducible repeat (first | refine blk_drewN ?_ _ | refine blk_drew ?_ | refine blk_alloc ?_ _)); refine blk_put (cs := #[.int .i64 a0, .int .i64 0]) ?_ 1 _ rfl; (with_reducible repeat (first | refine blk_drewN ?_ _ | refine blk_drew ?_ | refine blk_alloc ?_ _)); refine blk_put (cs := #[.int .i64 0, .int .i64 0]) ?_ 0 _ rfl; (with_reducible repeat (first | refine blk_drewN ?_ _ | refine blk_drew ?_ | refine blk_alloc ?_ _)); exact BK432.out) hb); replace HB := Aside0.mk (below_step (bv2_ HB GE430 GE432) hb); (try clear hb); (try clear hb2); (try clear hk); (try clear hi); (try clear ho0); obtain ⟨Ao16, co16, eo16⟩ := Kd.R_slice HO435.out; subst eo16))
      go_loopg [28] kj2 (fun kq v28 w' => ∃ (x28_2 : Int) (x431000_2 : Int) (x431001_2 : Int) (x433001_2 : Int), v28 = .int .i64 x28_2 ∧ Aside0 (impl_ParseAnf.l0 kq a0 a1 t433 (t433.length : Int) x28_2 a0 x433001_2 = some (r1, r2, r3)) ∧ Aside0 (kq ≤ kj2) ∧ Aside0 (Kd.R Kd.string 9 w' w.heap.size (fun _ => True) (.slice Ao16 t433.length co16) t433) ∧ Aside0 (w'.heap[gb430]? = some (.cells #[.int .i64 x431000_2, .int .i64 x431001_2] 23 (0, 0))) ∧ Aside0 (w'.heap[gb432]? = some (.cells #[.int .i64 a0, .int .i64 x433001_2] 23 (0, 0))) ∧ Aside0 (Below w.heap.size w w'))
      case atStart => exact ⟨(0), (0), (0), (0), (by first | rfl | (simp; done) | (simp [*]; done)), H', ⟨Nat.le_refl _⟩, ⟨by (with_reducible repeat (first | apply Kd.R_alloc | apply Kd.R_drewN | apply Kd.R_drew)); exact HO435.out⟩, ⟨by (with_reducible repeat (first | refine blk_drewN ?_ _ | refine blk_drew ?_ | refine blk_alloc ?_ _)); exact BK430.out⟩, ⟨by (with_reducible repeat (first | refine blk_drewN ?_ _ | refine blk_drew ?_ | refine blk_alloc ?_ _)); exact BK432.out⟩, ⟨bv2_ HB GE430 GE432⟩⟩
      case round =>
       clear H'
       try clear c1
       try clear p2
       try clear c3
       try clear c6
       try clear c7
       try clear c11
       try clear c13
       try clear c13b0
       try clear c13b1
       try clear hcz12_0
       try clear hcz12_1
       try clear hcz8_0
       try clear hcz8_1
       try clear hfz12_0
       try clear hfz12_1
       try clear hfz8_0
       try clear hfz8_1
       try clear p2
       obtain ⟨x28_2, x431000_2, x431001_2, x433001_2, rfl, HA, HK2, HO_26, BK430, BK432, HB⟩ := hrel
       cases gk with
       | zero => exact absurd HA.out (by simp [impl_ParseAnf.l0])
       | succ k2 =>
        have H := HA.out
        clear HA
        simp only [impl_ParseAnf.l0] at H
        by_cases c17 : x28_2 < (t433.length : Int)
        ·rw [if_pos c17] at H
         have c17b0 : decide (x28_2 < (t433.length : Int)) = true := decide_eq_true c17
         clear c17
         by_cases c18 : 0 ≤ x28_2
         ·rw [if_pos c18] at H
          have c18b0 : decide (0 ≤ x28_2) = true := decide_eq_true c18
          clear c18
          by_cases c19 : x28_2 < (t433.length : Int)
          ·rw [if_pos c19] at H
           have c19b0 : decide (x28_2 < (t433.length : Int)) = true := decide_eq_true c19
           clear c19
           replace H := Option.bind_eq_some_iff.mp H
           obtain ⟨⟨t437, t438, t439⟩, A200, H⟩ := H
           dsimp only at H
           have A20 := Aside0.mk A200
           clear A200
           by_cases c21 : t439 = true
           ·subst c21
            rw [if_pos rfl] at H
            by_cases c22 : 0 ≤ t437
            ·rw [if_pos c22] at H
             have c22b0 := eq_true c22
             have c22b1 : decide (0 ≤ t437) = true := decide_eq_true c22
             clear c22
             obtain ⟨ji23, hji23⟩ : ∃ j_ : Int, (shl .i64 1 t437) = j_ := ⟨_, rfl⟩
             replace H : (impl_ParseAnf.l0 k2 a0 a1 t433 (t433.length : Int) (wrap64 (x28_2 + 1)) a0 (Go.bits .or .i64 x433001_2 (ji23))) = some (r1, r2, r3) := by first | (rw [hji23] at H; exact H) | (simp only [hji23] at H ⊢; exact H)
             (try rw [hji23] at A20)
             have hji23_ : (IntKind.i64.wrap (1 * 2 ^ min t437.toNat 64)) = ji23 := hji23
             have hji23z : t437 ≤ 64 → (IntKind.i64.wrap (1 * 2 ^ t437.toNat)) = ji23 := shl_small hji23
             have hji23u : (IntKind.i64.wrap (2 ^ min t437.toNat 64)) = ji23 := by have h_ := hji23_; rw [Int.one_mul] at h_; exact h_
             have hji23v : t437 ≤ 64 → (IntKind.i64.wrap (2 ^ t437.toNat)) = ji23 := fun hle_ => by have h_ := hji23z hle_; rw [Int.one_mul] at h_; exact h_
             have hji23y : (wrap64 (1 * 2 ^ min t437.toNat 64)) = ji23 := (i64_w _).symm.trans hji23_
             have hji23x : t437 ≤ 64 → (wrap64 (1 * 2 ^ t437.toNat)) = ji23 := fun h_ => (i64_w _).symm.trans (hji23z h_)
             have H' := Aside0.mk H
             clear H
             have p436 : 0 ≤ (x28_2 : Int) := of_decide_eq_true (by first | (with_reducible assumption) | assumption)
             have q436 : x28_2 < (t433.length : Int) := of_decide_eq_true (by first | (with_reducible assumption) | assumption)
             obtain ⟨ad436, e436, hx436_0⟩ := Kd.at_string (Kd.R_reads' HO_26.out).2.2 x28_2 p436 q436
             cases e436
             replace p436 := eq_true p436
             replace q436 := eq_true q436
             try go_wp2_with (first | ((with_reducible refine gate_callee (f := 33) rfl ?_); refine gl_ 35 Tryd.func33 #[.int .i64 a0, .string (rdOf ByteArray.empty t433 x28_2)] rfl mp_ ?_; (with_reducible refine (impl_ParseTerm.calls k2 a0 (rdOf ByteArray.empty t433 x28_2) t437 t438 true _ A20.out).mono ?_); rintro e w24 ⟨rfl, hb⟩; refine ⟨_, rfl, ?_⟩; replace HO_26 := Aside0.mk (Kd.R_below (rv_ HO_26) hb); replace BK430 := kb_ BK430 hb; replace BK432 := kb_ BK432 hb; replace HB := Aside0.mk (below_step (bv2_ HB GE430 GE432) hb); (try clear hb); (try clear hb2); (try clear hk); (try clear hi)) | ((with_reducible refine gate_dst (N := 9) rfl ?_); (try (refine gate_guard (by rfl) ?_; dsimp only)); refine bx_ 9 #[.int .i64 0, .int .i64 0] 44 ?_; intro gb440 hg w25 hbox hb; replace HO_26 := Aside0.mk (Kd.R_below (rv_ HO_26) hb); have BK440 := Aside0.mk (hbox); have GW440 := gw_ hg (below_size (bv2_ HB GE430 GE432)); have GE440 := GW440; replace HB := Aside0.mk (below_step (bv2_ HB GE430 GE432) hb); have NB430_440 := nb_ hg (blk_lt (g := gb430) (o := .cells #[.int .i64 x431000_2, .int .i64 x431001_2] 23 (0, 0)) (kv_ BK430)); have NB440_430 := nc_ hg (blk_lt (g := gb430) (o := .cells #[.int .i64 x431000_2, .int .i64 x431001_2] 23 (0, 0)) (kv_ BK430)); replace BK430 := kb_ BK430 hb; have NB432_440 := nb_ hg (blk_lt (g := gb432) (o := .cells #[.int .i64 a0, .int .i64 x433001_2] 23 (0, 0)) (kv_ BK432)); have NB440_432 := nc_ hg (blk_lt (g := gb432) (o := .cells #[.int .i64 a0, .int .i64 x433001_2] 23 (0, 0)) (kv_ BK432)); replace BK432 := kb_ BK432 hb; clear hb hbox hg; have hnb26 := NB440_430.out; have hnc26 := NB430_440.out; have hnb27 := NB440_432.out; have hnc27 := NB432_440.out; obtain ⟨hcz28_0, hcz28_1, hfz28_0, hfz28_1⟩ := c2_ BK440))
             have n0_ : Aside0 (Kd.R Kd.string 9 ((w25.setCell ⟨gb440, 0, none⟩ (.int .i64 t437)).setCell ⟨gb440, 1, none⟩ (.int .i64 t438)) w.heap.size (fun _ => True) (.slice (some ad436) t433.length co16) t433) := ⟨by (with_reducible repeat (first | apply Kd.R_alloc | apply Kd.R_drewN | apply Kd.R_drew)); exact Kd.R_mono (Kd.R_far (p := ⟨gb440, 1, none⟩) (Kd.R_far (p := ⟨gb440, 0, none⟩) (Kd.R_types HO_26.out BK440.out (by decide)) (fun _ hk => hk.2) (.int .i64 t437)) (fun _ hk => hk.2) (.int .i64 t438)) (fun _ hk => trivial)⟩
             have n1_ : Aside0 (((w25.setCell ⟨gb440, 0, none⟩ (.int .i64 t437)).setCell ⟨gb440, 1, none⟩ (.int .i64 t438)).heap[gb430]? = some (.cells #[.int .i64 x431000_2, .int .i64 x431001_2] 23 (0, 0))) := ⟨by (with_reducible repeat (first | refine blk_drewN ?_ _ | refine blk_drew ?_ | refine blk_alloc ?_ _)); refine blk_far ?_ NB430_440.out _; (with_reducible repeat (first | refine blk_drewN ?_ _ | refine blk_drew ?_ | refine blk_alloc ?_ _)); refine blk_far ?_ NB430_440.out _; (with_reducible repeat (first | refine blk_drewN ?_ _ | refine blk_drew ?_ | refine blk_alloc ?_ _)); exact BK430.out⟩
             have n2_ : Aside0 (((w25.setCell ⟨gb440, 0, none⟩ (.int .i64 t437)).setCell ⟨gb440, 1, none⟩ (.int .i64 t438)).heap[gb432]? = some (.cells #[.int .i64 a0, .int .i64 x433001_2] 23 (0, 0))) := ⟨by (with_reducible repeat (first | refine blk_drewN ?_ _ | refine blk_drew ?_ | refine blk_alloc ?_ _)); refine blk_far ?_ NB432_440.out _; (with_reducible repeat (first | refine blk_drewN ?_ _ | refine blk_drew ?_ | refine blk_alloc ?_ _)); refine blk_far ?_ NB432_440.out _; (with_reducible repeat (first | refine blk_drewN ?_ _ | refine blk_drew ?_ | refine blk_alloc ?_ _)); exact BK432.out⟩
             have n3_ : Aside0 (((w25.setCell ⟨gb440, 0, none⟩ (.int .i64 t437)).setCell ⟨gb440, 1, none⟩ (.int .i64 t438)).heap[gb440]? = some (.cells #[.int .i64 t437, .int .i64 t438] 44 (0, 0))) := ⟨by (with_reducible repeat (first | refine blk_drewN ?_ _ | refine blk_drew ?_ | refine blk_alloc ?_ _)); refine blk_put (cs := #[.int .i64 t437, .int .i64 0]) ?_ 1 _ rfl; (with_reducible repeat (first | refine blk_drewN ?_ _ | refine blk_drew ?_ | refine blk_alloc ?_ _)); refine blk_put (cs := #[.int .i64 0, .int .i64 0]) ?_ 0 _ rfl; (with_reducible repeat (first | refine blk_drewN ?_ _ | refine blk_drew ?_ | refine blk_alloc ?_ _)); exact BK440.out⟩
             have n4_ : Aside0 (Below w.heap.size w ((w25.setCell ⟨gb440, 0, none⟩ (.int .i64 t437)).setCell ⟨gb440, 1, none⟩ (.int .i64 t438))) := ⟨bv3_ HB GE430 GE432 GE440⟩
             (try clear HO_26)
             (try clear BK430)
             (try clear BK432)
             (try clear BK440)
             (try clear HB)
             generalize ((w25.setCell ⟨gb440, 0, none⟩ (.int .i64 t437)).setCell ⟨gb440, 1, none⟩ (.int .i64 t438)) = w29 at n0_ n1_ n2_ n3_ n4_ ⊢
             have HO_26 := n0_
             have BK430 := n1_
             have BK432 := n2_
             have BK440 := n3_
             have HB := n4_
             clear n0_ n1_ n2_ n3_ n4_
             replace HO_26 := Aside0.mk (Kd.R_drew HO_26.out)
             replace BK430 := Aside0.mk (blk_drew BK430.out)
             replace BK432 := Aside0.mk (blk_drew BK432.out)
             replace BK440 := Aside0.mk (blk_drew BK440.out)
             replace HB := Aside0.mk (below_drew1 HB.out)
             refine start_ (n := 8) (S := fun w' => w'.cell? ⟨gb432, 0, none⟩ = some (.int .i64 a0) ∧ w'.cell? ⟨gb432, 1, none⟩ = some (.int .i64 x433001_2) ∧ w'.cell? ⟨gb440, 0, none⟩ = some (.int .i64 t437) ∧ w'.cell? ⟨gb440, 1, none⟩ = some (.int .i64 t438)) (ds := [7]) (bs 8 0) (by kernel_rfl) rfl (by kernel_rfl) ⟨(blk_cell BK432.out 0).trans rfl, (blk_cell BK432.out 1).trans rfl, (blk_cell BK440.out 0).trans rfl, (blk_cell BK440.out 1).trans rfl⟩ (fun hHeld => ?_); refine with_tabW impl_ParseAnf.tab11 impl_ParseAnf.bits11 (fun HT_ HW_ => ?_)
             generalize w29.drew = w30 at HO_26 BK430 BK432 BK440 HB hHeld ⊢
             refine pu_ HT_ 0 41 (bs 8 1) ?_
             refine pu_ HT_ 2 43 (bs 8 5) ?_
             refine ta4_ HT_ HW_ 1 42 (bs 8 7) hHeld ?_
             refine ta4_ HT_ HW_ 3 44 (bs 8 15) hHeld ?_
             refine pu_ HT_ 4 45 (bs 8 31) ?_
             refine pu_ HT_ 5 46 (bs 8 63) ?_
             refine pu_ HT_ 6 47 (bs 8 127) ?_
             refine last_ (i := 7) (N := none) (bs 8 255) rfl rfl (one_of HT_.out (by kernel_rfl)) (by decide) (fun K hK => ?_)
             have hs31 : w30.cell? ⟨gb432, 1, none⟩ = some (.int .i64 x433001_2) := (blk_cell BK432.out 1).trans rfl
             have hfs31 := blk_frozen BK432.out 1
             have hns31_0 := NB430_432.out
             have hns31_2 := NB440_432.out
             have hms31_0 := NB432_430.out
             have hms31_2 := NB432_440.out
             refine skip_ (w1 := ?_) (by rfl) rfl ?_ ?_
             rotate_left
             ·go_simp
              rfl
             refine hK.out _ _ ?_
             clear hK K
             refine done_ (done_of HT_.out (by kernel_rfl)) ?_
             try go_wp2
             go_roundg k2
             case measure => have := HJ2.out; have := HK2.out; omega
             case rel => exact ⟨(wrap64 (x28_2 + 1)), (x431000_2), (x431001_2), (Go.bits .or .i64 x433001_2 (ji23)), (by first | rfl | (simp; done) | (simp [*]; done)), H', ⟨by have := HJ2.out; have := HK2.out; omega⟩, ⟨by (with_reducible repeat (first | apply Kd.R_alloc | apply Kd.R_drewN | apply Kd.R_drew)); exact Kd.R_mono (Kd.R_far (p := ⟨gb432, 1, none⟩) (Kd.R_types HO_26.out BK432.out (by decide)) (fun _ hk => hk.2) (.int .i64 (Go.bits .or .i64 x433001_2 (ji23)))) (fun _ hk => trivial)⟩, ⟨by (with_reducible repeat (first | refine blk_drewN ?_ _ | refine blk_drew ?_ | refine blk_alloc ?_ _)); refine blk_far ?_ NB430_432.out _; (with_reducible repeat (first | refine blk_drewN ?_ _ | refine blk_drew ?_ | refine blk_alloc ?_ _)); exact BK430.out⟩, ⟨by (with_reducible repeat (first | refine blk_drewN ?_ _ | refine blk_drew ?_ | refine blk_alloc ?_ _)); refine blk_put (cs := #[.int .i64 a0, .int .i64 x433001_2]) ?_ 1 _ rfl; (with_reducible repeat (first | refine blk_drewN ?_ _ | refine blk_drew ?_ | refine blk_alloc ?_ _)); exact BK432.out⟩, ⟨bv3_ HB GE430 GE432 GE440⟩⟩
            ·rw [if_neg c22] at H
             exact absurd H (by simp)
           ·replace c21 := Bool.eq_false_iff.mpr c21
            subst c21
            rw [if_neg (show ¬ (false = true) by decide)] at H
            simp only [Option.some.injEq, Prod.mk.injEq] at H
            obtain ⟨rfl, rfl, rfl⟩ := H
            have p436 : 0 ≤ (x28_2 : Int) := of_decide_eq_true (by first | (with_reducible assumption) | assumption)
            have q436 : x28_2 < (t433.length : Int) := of_decide_eq_true (by first | (with_reducible assumption) | assumption)
            obtain ⟨ad436, e436, hx436_0⟩ := Kd.at_string (Kd.R_reads' HO_26.out).2.2 x28_2 p436 q436
            cases e436
            replace p436 := eq_true p436
            replace q436 := eq_true q436
            go_wp2_with (first | ((with_reducible refine gate_callee (f := 33) rfl ?_); refine gl_ 35 Tryd.func33 #[.int .i64 a0, .string (rdOf ByteArray.empty t433 x28_2)] rfl mp_ ?_; (with_reducible refine (impl_ParseTerm.calls k2 a0 (rdOf ByteArray.empty t433 x28_2) t437 t438 false _ A20.out).mono ?_); rintro e w32 ⟨rfl, hb⟩; refine ⟨_, rfl, ?_⟩; replace HO_26 := Aside0.mk (Kd.R_below (rv_ HO_26) hb); replace BK430 := kb_ BK430 hb; replace BK432 := kb_ BK432 hb; replace HB := Aside0.mk (below_step (bv2_ HB GE430 GE432) hb); (try clear hb); (try clear hb2); (try clear hk); (try clear hi)) | ((with_reducible refine gate_dst (N := 9) rfl ?_); (try (refine gate_guard (by rfl) ?_; dsimp only)); refine bx_ 9 #[.int .i64 0, .int .i64 0] 44 ?_; intro gb440 hg w33 hbox hb; replace HO_26 := Aside0.mk (Kd.R_below (rv_ HO_26) hb); have BK440 := Aside0.mk (hbox); have GW440 := gw_ hg (below_size (bv2_ HB GE430 GE432)); have GE440 := GW440; replace HB := Aside0.mk (below_step (bv2_ HB GE430 GE432) hb); have NB430_440 := nb_ hg (blk_lt (g := gb430) (o := .cells #[.int .i64 x431000_2, .int .i64 x431001_2] 23 (0, 0)) (kv_ BK430)); have NB440_430 := nc_ hg (blk_lt (g := gb430) (o := .cells #[.int .i64 x431000_2, .int .i64 x431001_2] 23 (0, 0)) (kv_ BK430)); replace BK430 := kb_ BK430 hb; have NB432_440 := nb_ hg (blk_lt (g := gb432) (o := .cells #[.int .i64 a0, .int .i64 x433001_2] 23 (0, 0)) (kv_ BK432)); have NB440_432 := nc_ hg (blk_lt (g := gb432) (o := .cells #[.int .i64 a0, .int .i64 x433001_2] 23 (0, 0)) (kv_ BK432)); replace BK432 := kb_ BK432 hb; clear hb hbox hg; have hnb34 := NB440_430.out; have hnc34 := NB430_440.out; have hnb35 := NB440_432.out; have hnc35 := NB432_440.out; obtain ⟨hcz36_0, hcz36_1, hfz36_0, hfz36_1⟩ := c2_ BK440; have hnb37 := NB430_432.out; have hnc37 := NB432_430.out; obtain ⟨hcz38_0, hcz38_1, hfz38_0, hfz38_1⟩ := c2_ BK430))
            refine bodyPost_ret (results_ct rfl _ _ gb430 23 #[.int .i64 0, .int .i64 0] (0, 0) _ rfl (by (with_reducible repeat (first | refine blk_drewN ?_ _ | refine blk_drew ?_ | refine blk_alloc ?_ _)); refine blk_put (cs := #[.int .i64 0, .int .i64 x431001_2]) ?_ 1 _ rfl; (with_reducible repeat (first | refine blk_drewN ?_ _ | refine blk_drew ?_ | refine blk_alloc ?_ _)); refine blk_put (cs := #[.int .i64 x431000_2, .int .i64 x431001_2]) ?_ 0 _ rfl; (with_reducible repeat (first | refine blk_drewN ?_ _ | refine blk_drew ?_ | refine blk_alloc ?_ _)); refine blk_far ?_ NB430_440.out _; (with_reducible repeat (first | refine blk_drewN ?_ _ | refine blk_drew ?_ | refine blk_alloc ?_ _)); refine blk_far ?_ NB430_440.out _; (with_reducible repeat (first | refine blk_drewN ?_ _ | refine blk_drew ?_ | refine blk_alloc ?_ _)); exact BK430.out) Tryd.underlying23 rfl (by kernel_rfl)) rfl ?_
            exact ⟨er_, bv3_ HB GE430 GE432 GE440⟩
          ·rw [if_neg c19] at H
           exact absurd H (by simp)
         ·rw [if_neg c18] at H
          exact absurd H (by simp)
        ·rw [if_neg c17] at H
         have c17b0 : decide (x28_2 < (t433.length : Int)) = false := decide_eq_false c17
         clear c17
         have H' := Aside0.mk H
         clear H
         go_wp2
         go_meet
         case rel => exact ⟨_, (x431000_2), (x431001_2), (x433001_2), H', ⟨by have := HJ2.out; have := HK2.out; first | omega | exact Nat.le_refl _⟩, ⟨by (with_reducible repeat (first | refine blk_drewN ?_ _ | refine blk_drew ?_ | refine blk_alloc ?_ _)); exact BK430.out⟩, ⟨by (with_reducible repeat (first | refine blk_drewN ?_ _ | refine blk_drew ?_ | refine blk_alloc ?_ _)); exact BK432.out⟩, ⟨bv2_ HB GE430 GE432⟩⟩
    case rest =>
     clear HC9
     try clear c1
     try clear c2
     try clear p2
     try clear c3
     try clear p4
     try clear q4
     try clear hx4
     try clear c6
     try clear p6
     try clear c7
     try clear c11
     try clear c13
     try clear c13b0
     try clear c13b1
     try clear c17
     try clear c17b0
     try clear c18
     try clear c18b0
     try clear c19
     try clear c19b0
     try clear c21
     try clear c22
     try clear c22b0
     try clear c22b1
     try clear c26
     try clear c27
     try clear c31
     try clear c32
     try clear c33
     try clear c34
     try clear c35
     try clear c37
     try clear hcz12_0
     try clear hcz12_1
     try clear hcz28_0
     try clear hcz28_1
     try clear hcz36_0
     try clear hcz36_1
     try clear hcz38_0
     try clear hcz38_1
     try clear hcz8_0
     try clear hcz8_1
     try clear hfz12_0
     try clear hfz12_1
     try clear hfz28_0
     try clear hfz28_1
     try clear hfz36_0
     try clear hfz36_1
     try clear hfz38_0
     try clear hfz38_1
     try clear hfz8_0
     try clear hfz8_1
     try clear hx436_0
     try clear p2
     try clear p436
     try clear q436
     obtain ⟨kq, x431000_8, x431001_8, x433001_8, HA, HJ8, BK430, BK432, HB⟩ := hcut
     cases kq with
     | zero => exact absurd HA.out (by simp [impl_ParseAnf.j2])
     | succ kj8 =>
      have H := HA.out
      clear HA
      simp only [impl_ParseAnf.j2] at H
      replace H := Option.bind_eq_some_iff.mp H
      obtain ⟨⟨t441, t442⟩, A390, H⟩ := H
      dsimp only at H
      have A39 := Aside0.mk A390
      clear A390
      replace H := Option.bind_eq_some_iff.mp H
      obtain ⟨t444, A400, H⟩ := H
      have A40 := Aside0.mk A400
      clear A400
      by_cases c41 : t444.toList = a1.toList
      ·rw [if_pos c41] at H
       have c41b0 : (t444.toList == a1.toList) = true := beq_iff_eq.mpr c41
       have c41b1 : (t444.toList != a1.toList) = false := bne_eq_false_iff_eq.mpr c41
       clear c41
       simp only [Option.some.injEq, Prod.mk.injEq] at H
       obtain ⟨rfl, rfl, rfl⟩ := H
       have hnb42 := NB432_430.out
       have hnc42 := NB430_432.out
       obtain ⟨hcz43_0, hcz43_1, hfz43_0, hfz43_1⟩ := c2_ BK432
       go_wp2_with (first | ((with_reducible refine gate_callee (f := 34) rfl ?_); refine gl_ 50 Tryd.func34 #[.agg #[.int .i64 a0, .int .i64 x433001_8]] rfl mp_ ?_; (with_reducible refine (impl_Table_anf.calls a0 x433001_8 t441 t442 _ A39.out).mono ?_); rintro e w44 ⟨rfl, hb⟩; refine ⟨_, rfl, ?_⟩; have n0_ := kb_ BK430 hb; have n1_ := kb_ BK432 hb; have n2_ := Aside0.mk (below_step (bv2_ HB GE430 GE432) hb); clear BK430; clear BK432; clear HB; have BK430 := n0_; have BK432 := n1_; have HB := n2_; clear n0_ n1_ n2_; (try clear hb); (try clear hb2); (try clear hk); (try clear hi)) | ((with_reducible refine gate_dst (N := 11) rfl ?_); (try (refine gate_guard (by rfl) ?_; dsimp only)); refine bx_ 11 #[.int .i64 0, .int .i64 0] 23 ?_; intro gb443 hg w45 hbox hb; have n0_ := kb_ BK430 hb; have n1_ := kb_ BK432 hb; have n2_ := Aside0.mk (below_step (bv2_ HB GE430 GE432) hb); have n3_ := Aside0.mk (hbox); have n4_ := gw_ hg (below_size (bv2_ HB GE430 GE432)); have n5_ := gw_ hg (below_size (bv2_ HB GE430 GE432)); have n6_ := nb_ hg (blk_lt (g := gb430) (o := .cells #[.int .i64 x431000_8, .int .i64 x431001_8] 23 (0, 0)) (kv_ BK430)); have n7_ := nc_ hg (blk_lt (g := gb430) (o := .cells #[.int .i64 x431000_8, .int .i64 x431001_8] 23 (0, 0)) (kv_ BK430)); have n8_ := nb_ hg (blk_lt (g := gb432) (o := .cells #[.int .i64 a0, .int .i64 x433001_8] 23 (0, 0)) (kv_ BK432)); have n9_ := nc_ hg (blk_lt (g := gb432) (o := .cells #[.int .i64 a0, .int .i64 x433001_8] 23 (0, 0)) (kv_ BK432)); clear BK430; clear BK432; clear HB; have BK430 := n0_; have BK432 := n1_; have HB := n2_; have BK443 := n3_; have GW443 := n4_; have GE443 := n5_; have NB430_443 := n6_; have NB443_430 := n7_; have NB432_443 := n8_; have NB443_432 := n9_; clear n0_ n1_ n2_ n3_ n4_ n5_ n6_ n7_ n8_ n9_; clear hb hbox hg; have hnb46 := NB443_430.out; have hnc46 := NB430_443.out; have hnb47 := NB443_432.out; have hnc47 := NB432_443.out; have hcz48_0 : w45.cell? ⟨gb443, 0, none⟩ = some (.int .i64 0) := (blk_cell BK443.out 0).trans rfl; have hcz48_1 : w45.cell? ⟨gb443, 1, none⟩ = some (.int .i64 0) := (blk_cell BK443.out 1).trans rfl; have hfz48_0 := blk_frozen BK443.out 0; have hfz48_1 := blk_frozen BK443.out 1) | ((with_reducible refine gate_callee (f := 20) rfl ?_); refine gl_ 52 Tryd.func20 #[.agg #[.int .i64 t441, .int .i64 t442]] rfl mp_ ?_; (with_reducible refine (impl_FormatAnf.calls kj8 t441 t442 t444 _ A40.out).mono ?_); rintro e w49 ⟨rfl, hb⟩; refine ⟨_, rfl, ?_⟩; have n0_ := Aside0.mk (blk_below (g := gb430) (o := .cells #[.int .i64 x431000_8, .int .i64 x431001_8] 23 (0, 0)) (by (with_reducible repeat (first | refine blk_drewN ?_ _ | refine blk_drew ?_ | refine blk_alloc ?_ _)); refine blk_far ?_ NB430_443.out _; (with_reducible repeat (first | refine blk_drewN ?_ _ | refine blk_drew ?_ | refine blk_alloc ?_ _)); refine blk_far ?_ NB430_443.out _; (with_reducible repeat (first | refine blk_drewN ?_ _ | refine blk_drew ?_ | refine blk_alloc ?_ _)); exact BK430.out) hb); have n1_ := Aside0.mk (blk_below (g := gb432) (o := .cells #[.int .i64 a0, .int .i64 x433001_8] 23 (0, 0)) (by (with_reducible repeat (first | refine blk_drewN ?_ _ | refine blk_drew ?_ | refine blk_alloc ?_ _)); refine blk_far ?_ NB432_443.out _; (with_reducible repeat (first | refine blk_drewN ?_ _ | refine blk_drew ?_ | refine blk_alloc ?_ _)); refine blk_far ?_ NB432_443.out _; (with_reducible repeat (first | refine blk_drewN ?_ _ | refine blk_drew ?_ | refine blk_alloc ?_ _)); exact BK432.out) hb); have n2_ := Aside0.mk (blk_below (g := gb443) (o := .cells #[.int .i64 t441, .int .i64 t442] 23 (0, 0)) (by (with_reducible repeat (first | refine blk_drewN ?_ _ | refine blk_drew ?_ | refine blk_alloc ?_ _)); refine blk_put (cs := #[.int .i64 t441, .int .i64 0]) ?_ 1 _ rfl; (with_reducible repeat (first | refine blk_drewN ?_ _ | refine blk_drew ?_ | refine blk_alloc ?_ _)); refine blk_put (cs := #[.int .i64 0, .int .i64 0]) ?_ 0 _ rfl; (with_reducible repeat (first | refine blk_drewN ?_ _ | refine blk_drew ?_ | refine blk_alloc ?_ _)); exact BK443.out) hb); have n3_ := Aside0.mk (below_step (bv3_ HB GE430 GE432 GE443) hb); clear BK430; clear BK432; clear BK443; clear HB; have BK430 := n0_; have BK432 := n1_; have BK443 := n2_; have HB := n3_; clear n0_ n1_ n2_ n3_; (try clear hb); (try clear hb2); (try clear hk); (try clear hi); have hcz50_0 : w49.cell? ⟨gb443, 0, none⟩ = some (.int .i64 t441) := (blk_cell BK443.out 0).trans rfl; have hcz50_1 : w49.cell? ⟨gb443, 1, none⟩ = some (.int .i64 t442) := (blk_cell BK443.out 1).trans rfl; have hfz50_0 := blk_frozen BK443.out 0; have hfz50_1 := blk_frozen BK443.out 1; have hcz51_0 : w49.cell? ⟨gb430, 0, none⟩ = some (.int .i64 x431000_8) := (blk_cell BK430.out 0).trans rfl; have hcz51_1 : w49.cell? ⟨gb430, 1, none⟩ = some (.int .i64 x431001_8) := (blk_cell BK430.out 1).trans rfl; have hfz51_0 := blk_frozen BK430.out 0; have hfz51_1 := blk_frozen BK430.out 1))
       refine bodyPost_ret (results_ct rfl _ _ gb430 23 #[.int .i64 t441, .int .i64 t442] (0, 0) _ rfl (by (with_reducible repeat (first | refine blk_drewN ?_ _ | refine blk_drew ?_ | refine blk_alloc ?_ _)); refine blk_put (cs := #[.int .i64 t441, .int .i64 x431001_8]) ?_ 1 _ rfl; (with_reducible repeat (first | refine blk_drewN ?_ _ | refine blk_drew ?_ | refine blk_alloc ?_ _)); refine blk_put (cs := #[.int .i64 x431000_8, .int .i64 x431001_8]) ?_ 0 _ rfl; (with_reducible repeat (first | refine blk_drewN ?_ _ | refine blk_drew ?_ | refine blk_alloc ?_ _)); exact BK430.out) Tryd.underlying23 rfl (by kernel_rfl)) rfl ?_
       exact ⟨er_, bv3_ HB GE430 GE432 GE443⟩
      ·rw [if_neg c41] at H
       have c41b0 : (t444.toList == a1.toList) = false := beq_eq_false_iff_ne.mpr c41
       have c41b1 : (t444.toList != a1.toList) = true := bne_iff_ne.mpr c41
       simp only [Option.some.injEq, Prod.mk.injEq] at H
       obtain ⟨rfl, rfl, rfl⟩ := H
       have hnb52 := NB432_430.out
       have hnc52 := NB430_432.out
       obtain ⟨hcz53_0, hcz53_1, hfz53_0, hfz53_1⟩ := c2_ BK432
       go_wp2_with (first | ((with_reducible refine gate_callee (f := 34) rfl ?_); refine gl_ 50 Tryd.func34 #[.agg #[.int .i64 a0, .int .i64 x433001_8]] rfl mp_ ?_; (with_reducible refine (impl_Table_anf.calls a0 x433001_8 t441 t442 _ A39.out).mono ?_); rintro e w54 ⟨rfl, hb⟩; refine ⟨_, rfl, ?_⟩; have n0_ := kb_ BK430 hb; have n1_ := kb_ BK432 hb; have n2_ := Aside0.mk (below_step (bv2_ HB GE430 GE432) hb); clear BK430; clear BK432; clear HB; have BK430 := n0_; have BK432 := n1_; have HB := n2_; clear n0_ n1_ n2_; (try clear hb); (try clear hb2); (try clear hk); (try clear hi)) | ((with_reducible refine gate_dst (N := 11) rfl ?_); (try (refine gate_guard (by rfl) ?_; dsimp only)); refine bx_ 11 #[.int .i64 0, .int .i64 0] 23 ?_; intro gb443 hg w55 hbox hb; have n0_ := kb_ BK430 hb; have n1_ := kb_ BK432 hb; have n2_ := Aside0.mk (below_step (bv2_ HB GE430 GE432) hb); have n3_ := Aside0.mk (hbox); have n4_ := gw_ hg (below_size (bv2_ HB GE430 GE432)); have n5_ := gw_ hg (below_size (bv2_ HB GE430 GE432)); have n6_ := nb_ hg (blk_lt (g := gb430) (o := .cells #[.int .i64 x431000_8, .int .i64 x431001_8] 23 (0, 0)) (kv_ BK430)); have n7_ := nc_ hg (blk_lt (g := gb430) (o := .cells #[.int .i64 x431000_8, .int .i64 x431001_8] 23 (0, 0)) (kv_ BK430)); have n8_ := nb_ hg (blk_lt (g := gb432) (o := .cells #[.int .i64 a0, .int .i64 x433001_8] 23 (0, 0)) (kv_ BK432)); have n9_ := nc_ hg (blk_lt (g := gb432) (o := .cells #[.int .i64 a0, .int .i64 x433001_8] 23 (0, 0)) (kv_ BK432)); clear BK430; clear BK432; clear HB; have BK430 := n0_; have BK432 := n1_; have HB := n2_; have BK443 := n3_; have GW443 := n4_; have GE443 := n5_; have NB430_443 := n6_; have NB443_430 := n7_; have NB432_443 := n8_; have NB443_432 := n9_; clear n0_ n1_ n2_ n3_ n4_ n5_ n6_ n7_ n8_ n9_; clear hb hbox hg; have hnb56 := NB443_430.out; have hnc56 := NB430_443.out; have hnb57 := NB443_432.out; have hnc57 := NB432_443.out; have hcz58_0 : w55.cell? ⟨gb443, 0, none⟩ = some (.int .i64 0) := (blk_cell BK443.out 0).trans rfl; have hcz58_1 : w55.cell? ⟨gb443, 1, none⟩ = some (.int .i64 0) := (blk_cell BK443.out 1).trans rfl; have hfz58_0 := blk_frozen BK443.out 0; have hfz58_1 := blk_frozen BK443.out 1) | ((with_reducible refine gate_callee (f := 20) rfl ?_); refine gl_ 52 Tryd.func20 #[.agg #[.int .i64 t441, .int .i64 t442]] rfl mp_ ?_; (with_reducible refine (impl_FormatAnf.calls kj8 t441 t442 t444 _ A40.out).mono ?_); rintro e w59 ⟨rfl, hb⟩; refine ⟨_, rfl, ?_⟩; have n0_ := Aside0.mk (blk_below (g := gb430) (o := .cells #[.int .i64 x431000_8, .int .i64 x431001_8] 23 (0, 0)) (by (with_reducible repeat (first | refine blk_drewN ?_ _ | refine blk_drew ?_ | refine blk_alloc ?_ _)); refine blk_far ?_ NB430_443.out _; (with_reducible repeat (first | refine blk_drewN ?_ _ | refine blk_drew ?_ | refine blk_alloc ?_ _)); refine blk_far ?_ NB430_443.out _; (with_reducible repeat (first | refine blk_drewN ?_ _ | refine blk_drew ?_ | refine blk_alloc ?_ _)); exact BK430.out) hb); have n1_ := Aside0.mk (blk_below (g := gb432) (o := .cells #[.int .i64 a0, .int .i64 x433001_8] 23 (0, 0)) (by (with_reducible repeat (first | refine blk_drewN ?_ _ | refine blk_drew ?_ | refine blk_alloc ?_ _)); refine blk_far ?_ NB432_443.out _; (with_reducible repeat (first | refine blk_drewN ?_ _ | refine blk_drew ?_ | refine blk_alloc ?_ _)); refine blk_far ?_ NB432_443.out _; (with_reducible repeat (first | refine blk_drewN ?_ _ | refine blk_drew ?_ | refine blk_alloc ?_ _)); exact BK432.out) hb); have n2_ := Aside0.mk (blk_below (g := gb443) (o := .cells #[.int .i64 t441, .int .i64 t442] 23 (0, 0)) (by (with_reducible repeat (first | refine blk_drewN ?_ _ | refine blk_drew ?_ | refine blk_alloc ?_ _)); refine blk_put (cs := #[.int .i64 t441, .int .i64 0]) ?_ 1 _ rfl; (with_reducible repeat (first | refine blk_drewN ?_ _ | refine blk_drew ?_ | refine blk_alloc ?_ _)); refine blk_put (cs := #[.int .i64 0, .int .i64 0]) ?_ 0 _ rfl; (with_reducible repeat (first | refine blk_drewN ?_ _ | refine blk_drew ?_ | refine blk_alloc ?_ _)); exact BK443.out) hb); have n3_ := Aside0.mk (below_step (bv3_ HB GE430 GE432 GE443) hb); clear BK430; clear BK432; clear BK443; clear HB; have BK430 := n0_; have BK432 := n1_; have BK443 := n2_; have HB := n3_; clear n0_ n1_ n2_ n3_; (try clear hb); (try clear hb2); (try clear hk); (try clear hi); have hcz60_0 : w59.cell? ⟨gb430, 0, none⟩ = some (.int .i64 x431000_8) := (blk_cell BK430.out 0).trans rfl; have hcz60_1 : w59.cell? ⟨gb430, 1, none⟩ = some (.int .i64 x431001_8) := (blk_cell BK430.out 1).trans rfl; have hfz60_0 := blk_frozen BK430.out 0; have hfz60_1 := blk_frozen BK430.out 1))
       refine bodyPost_ret (results_ct rfl _ _ gb430 23 #[.int .i64 0, .int .i64 0] (0, 0) _ rfl (by (with_reducible repeat (first | refine blk_drewN ?_ _ | refine blk_drew ?_ | refine blk_alloc ?_ _)); refine blk_put (cs := #[.int .i64 0, .int .i64 x431001_8]) ?_ 1 _ rfl; (with_reducible repeat (first | refine blk_drewN ?_ _ | refine blk_drew ?_ | refine blk_alloc ?_ _)); refine blk_put (cs := #[.int .i64 x431000_8, .int .i64 x431001_8]) ?_ 0 _ rfl; (with_reducible repeat (first | refine blk_drewN ?_ _ | refine blk_drew ?_ | refine blk_alloc ?_ _)); exact BK430.out) Tryd.underlying23 rfl (by kernel_rfl)) rfl ?_
       exact ⟨er_, bv3_ HB GE430 GE432 GE443⟩


/-! ### laws_big: function 8 -/
def laws_big.f (l0 : List Int) : Option (Bool) := some (decide ((l0.length : Int) > 1048576))
set_option maxHeartbeats 8000000 in
set_option maxRecDepth 100000 in
theorem laws_big.calls (A0 : Option Addr) (c0 : Nat) (l0 : List Int) (r : Bool) (w : World) (hr0 : Kd.C (Kd.int .u8) w A0 l0.length l0) (hc0 : l0.length ≤ c0) (h : laws_big.f l0 = some r) :
  Calls Tryd.prog 8 #[.slice A0 l0.length c0] w fun e w' => e = .returned (.bool r) ∧ Drawn0 w w' := by
 have HR0 := Aside0.mk hr0
 have HC0 := Aside0.mk hc0
 clear hr0 hc0
 have H : (some (decide ((l0.length : Int) > 1048576))) = some r := h
 clear h
 obtain rfl := Option.some.inj H
 go_enter Tryd.func8, Tryd.ntmps8
 go_wp2
 go_ret
 exact ⟨by first | rfl | (simp; done) | (simp [*]; done), by repeat (first | exact Drawn0.refl _ | apply Drawn0.step)⟩

/-- A state of type 75 at block g of W; what its slices lead to came in by w0. -/
def IsS75 (w0 W : World) (g : Nat) (f0 : List Int) (f1 : Int) (f2 : Int) : Prop := ∃ A0 c0, W.heap[g]? = some (.cells #[.slice A0 f0.length c0, .int .i64 f1, .int .i64 f2] 75 (0, 0)) ∧ w0.heap.size ≤ g ∧ Kd.C (Kd.int .u8) w0 A0 f0.length f0
theorem IsS75.grown {w0 W : World} {g : Nat} {f0 : List Int} {f1 : Int} {f2 : Int} {W1 : World} {row : Option Nat} (h : IsS75 w0 W g f0 f1 f2) (hw : W.grownBy W1 row) (hne : some g ≠ row) : IsS75 w0 W1 g f0 f1 f2 := by
 obtain ⟨A0, c0, hb, hg, hr0⟩ := h
 exact ⟨A0, c0, blk_grown hb hw hne, hg, hr0⟩
theorem IsS75.own_neN {w0 W : World} {g : Nat} {f0 : List Int} {f1 : Int} {f2 : Int} {α : Type} {d : Kd α} {e : Nat} {base : Nat} {ok : Nat → Prop} {v : Value} {xs : List α} (h : IsS75 w0 W g f0 f1 f2) (ho : Kd.N d e W base ok v xs) (ht : e ≠ 75) : some g ≠ v.ownBlock := by
 obtain ⟨A0, c0, hb, hg, hr0⟩ := h
 exact Kd.N_ne ho hb ht
theorem IsS75.fresh {w0 W : World} {g : Nat} {f0 : List Int} {f1 : Int} {f2 : Int} (h : IsS75 w0 W g f0 f1 f2) : ∀ k, W.heap.size ≤ k → k ≠ g := by
 obtain ⟨A0, c0, hb, hg, hr0⟩ := h
 exact Kd.freshB hb
theorem IsS75.kept {w0 W : World} {g : Nat} {f0 : List Int} {f1 : Int} {f2 : Int} {W1 : World} {S : Nat → Prop} (h : IsS75 w0 W g f0 f1 f2) (hk : Kept W W1 S) (hne : ¬ S g) : IsS75 w0 W1 g f0 f1 f2 := by
 obtain ⟨A0, c0, hb, hg, hr0⟩ := h
 exact ⟨A0, c0, blk_kept hb hk hne, hg, hr0⟩
theorem IsS75.below {w0 W : World} {g : Nat} {f0 : List Int} {f1 : Int} {f2 : Int} {W1 : World} (h : IsS75 w0 W g f0 f1 f2) (hw : Below W.heap.size W W1) : IsS75 w0 W1 g f0 f1 f2 := h.grown (grown_of_below hw none) (by simp)
theorem IsS75.alloc {w0 W : World} {g : Nat} {f0 : List Int} {f1 : Int} {f2 : Int} (h : IsS75 w0 W g f0 f1 f2) (o : Obj) : IsS75 w0 (W.alloc o) g f0 f1 f2 := h.below (below_alloc (Below.refl _ _) o)
theorem IsS75.drewN {w0 W : World} {g : Nat} {f0 : List Int} {f1 : Int} {f2 : Int} (h : IsS75 w0 W g f0 f1 f2) (m : Nat) : IsS75 w0 (W.drewN m) g f0 f1 f2 := h
theorem IsS75.drew {w0 W : World} {g : Nat} {f0 : List Int} {f1 : Int} {f2 : Int} (h : IsS75 w0 W g f0 f1 f2) : IsS75 w0 W.drew g f0 f1 f2 := h
theorem IsS75.at_ {w0 W : World} {g : Nat} {f0 : List Int} {f1 : Int} {f2 : Int} {w' : World} {m : Nat} (hq : W.drewN m = w') (h : IsS75 w0 W g f0 f1 f2) : IsS75 w0 w' g f0 f1 f2 := by subst hq; exact IsS75.drewN h m
theorem IsS75.apart {w0 W : World} {g : Nat} {f0 : List Int} {f1 : Int} {f2 : Int} {α : Type} {d : Kd α} {e : Nat} {base : Nat} {ok : Nat → Prop} {v : Value} {xs : List α} (h : IsS75 w0 W g f0 f1 f2) (ho : d.R e W base ok v xs) (ht : ∀ q, q ∈ e :: d.E → q ≠ 75) : d.R e W base (fun k => ok k ∧ k ≠ g) v xs := by
 obtain ⟨A0, c0, hb, hg, hr0⟩ := h
 exact Kd.R_types ho hb ht
theorem IsS75.own_ne {w0 W : World} {g : Nat} {f0 : List Int} {f1 : Int} {f2 : Int} {α : Type} {d : Kd α} {e : Nat} {base : Nat} {ok : Nat → Prop} {v : Value} {xs : List α} (h : IsS75 w0 W g f0 f1 f2) (ho : d.R e W base ok v xs) (ht : e ≠ 75) : some g ≠ v.ownBlock := by
 obtain ⟨A0, c0, hb, hg, hr0⟩ := h
 exact Kd.R_ne ho hb ht
theorem IsS75.apartQ {w0 W : World} {g : Nat} {f0 : List Int} {f1 : Int} {f2 : Int} {α : Type} {d : Kd α} {e : Nat} {base : Nat} {ok : Nat → Prop} {v : Value} {xs : List α} (h : IsS75 w0 W g f0 f1 f2) (ho : d.Q e W base ok v xs) (ht : ∀ q, q ∈ e :: d.E → q ≠ 75) : d.Q e W base (fun k => ok k ∧ k ≠ g) v xs := by
 obtain ⟨A0, c0, hb, hg, hr0⟩ := h
 exact Kd.Q_types ho hb ht
theorem IsS75.own_neQ {w0 W : World} {g : Nat} {f0 : List Int} {f1 : Int} {f2 : Int} {α : Type} {d : Kd α} {e : Nat} {base : Nat} {ok : Nat → Prop} {v : Value} {xs : List α} (h : IsS75 w0 W g f0 f1 f2) (ho : d.Q e W base ok v xs) (ht : e ≠ 75) : some g ≠ v.ownBlock := by
 obtain ⟨A0, c0, hb, hg, hr0⟩ := h
 exact Kd.Q_ne ho hb ht
theorem IsS75.apartS {w0 W : World} {g : Nat} {f0 : List Int} {f1 : Int} {f2 : Int} {α : Type} {d : Kd α} {e : Nat} {base : Nat} {ok : Nat → Prop} {v : Value} {xs : List α} (h : IsS75 w0 W g f0 f1 f2) (ho : d.S e W base ok v xs) (ht : ∀ q, q ∈ e :: d.E → q ≠ 75) : d.S e W base (fun k => ok k ∧ k ≠ g) v xs := by
 obtain ⟨A0, c0, hb, hg, hr0⟩ := h
 exact Kd.S_types ho hb ht
theorem IsS75.own_neS {w0 W : World} {g : Nat} {f0 : List Int} {f1 : Int} {f2 : Int} {α : Type} {d : Kd α} {e : Nat} {base : Nat} {ok : Nat → Prop} {v : Value} {xs : List α} (h : IsS75 w0 W g f0 f1 f2) (ho : d.S e W base ok v xs) (ht : e ≠ 75) : some g ≠ v.ownBlock := by
 obtain ⟨A0, c0, hb, hg, hr0⟩ := h
 exact Kd.S_ne ho hb ht
theorem IsS75.lt {w0 W : World} {g : Nat} {f0 : List Int} {f1 : Int} {f2 : Int} (h : IsS75 w0 W g f0 f1 f2) : g < W.heap.size := by
 obtain ⟨A0, c0, hb, hg, hr0⟩ := h
 exact blk_lt hb
theorem IsS75.ge {w0 W : World} {g : Nat} {f0 : List Int} {f1 : Int} {f2 : Int} (h : IsS75 w0 W g f0 f1 f2) : w0.heap.size ≤ g := by
 obtain ⟨A0, c0, hb, hg, hr0⟩ := h
 exact hg
theorem IsS75.ne_blk {w0 W : World} {g : Nat} {f0 : List Int} {f1 : Int} {f2 : Int} {a : Nat} {cs : Array Value} {t : TypeId} {fr : Nat × Nat} (h : IsS75 w0 W g f0 f1 f2) (hb2 : W.heap[a]? = some (.cells cs t fr)) (ht : t ≠ 75) : g ≠ a := by
 obtain ⟨A0, c0, hb, hg, hr0⟩ := h
 rintro rfl
 rw [hb] at hb2
 injection hb2 with hb2
 injection hb2 with _ ht2
 exact ht ht2.symm
theorem IsS75.far {w0 W : World} {g : Nat} {f0 : List Int} {f1 : Int} {f2 : Int} {p : Addr} (h : IsS75 w0 W g f0 f1 f2) (hne : g ≠ p.block) (u : Value) : IsS75 w0 (W.setCell p u) g f0 f1 f2 := by
 obtain ⟨A0, c0, hb, hg, hr0⟩ := h
 exact ⟨A0, c0, blk_far hb hne u, hg, hr0⟩
theorem cellS75_0 {W : World} {g : Nat} {A0 : Option Addr} {c0 : Nat} {f0 : List Int} {f1 : Int} {f2 : Int} (h : W.heap[g]? = some (.cells #[.slice A0 f0.length c0, .int .i64 f1, .int .i64 f2] 75 (0, 0))) : W.cell? ⟨g, 0, none⟩ = some (.slice A0 f0.length c0) := (blk_cell h 0).trans rfl
theorem cellS75_1 {W : World} {g : Nat} {A0 : Option Addr} {c0 : Nat} {f0 : List Int} {f1 : Int} {f2 : Int} (h : W.heap[g]? = some (.cells #[.slice A0 f0.length c0, .int .i64 f1, .int .i64 f2] 75 (0, 0))) : W.cell? ⟨g, 1, none⟩ = some (.int .i64 f1) := (blk_cell h 1).trans rfl
theorem IsS75.set_1 {w0 W : World} {g : Nat} {f0 : List Int} {f1 : Int} {f2 : Int} (h : IsS75 w0 W g f0 f1 f2) (x : Int) : IsS75 w0 (W.setCell ⟨g, 1, none⟩ (.int .i64 x)) g f0 x f2 := by
 obtain ⟨A0, c0, hb, hg, hr0⟩ := h
 exact ⟨A0, c0, by simpa using blk_set hb 1 (.int .i64 x), hg, hr0⟩
theorem cellS75_2 {W : World} {g : Nat} {A0 : Option Addr} {c0 : Nat} {f0 : List Int} {f1 : Int} {f2 : Int} (h : W.heap[g]? = some (.cells #[.slice A0 f0.length c0, .int .i64 f1, .int .i64 f2] 75 (0, 0))) : W.cell? ⟨g, 2, none⟩ = some (.int .i64 f2) := (blk_cell h 2).trans rfl
theorem IsS75.set_2 {w0 W : World} {g : Nat} {f0 : List Int} {f1 : Int} {f2 : Int} (h : IsS75 w0 W g f0 f1 f2) (x : Int) : IsS75 w0 (W.setCell ⟨g, 2, none⟩ (.int .i64 x)) g f0 f1 x := by
 obtain ⟨A0, c0, hb, hg, hr0⟩ := h
 exact ⟨A0, c0, by simpa using blk_set hb 2 (.int .i64 x), hg, hr0⟩
theorem IsS75.new (w0 W : World) (A0 : Option Addr) (c0 : Nat) (f0 : List Int) (f1 : Int) (f2 : Int) (hB : Below w0.heap.size w0 W) (hr0 : Kd.C (Kd.int .u8) w0 A0 f0.length f0) : IsS75 w0 (W.alloc (.cells #[.slice A0 f0.length c0, .int .i64 f1, .int .i64 f2] 75)) W.heap.size f0 f1 f2 := ⟨A0, c0, by simpa using heap_alloc_new W _, hB.size, hr0⟩
theorem ia_ {p q : Prop} (h : Aside0 p) (e : p → q := by intro h_; repeat (first | (with_reducible first | exact h_ | apply IsS75.alloc | apply IsS75.drewN | apply IsS75.drew | apply IsS75.set_1 | apply IsS75.set_2) | exact h_)) : q := e h.out
theorem ia1_ {p q : Prop} {b0 : Prop} (h : Aside0 p) (g0 : Aside0 b0) (e : p → b0 → q := by intro h_ k0_; repeat (first | (with_reducible first | exact h_ | apply IsS75.alloc | apply IsS75.drewN | apply IsS75.drew | apply IsS75.set_1 | apply IsS75.set_2 | refine IsS75.far ?_ k0_ _) | exact h_)) : q := e h.out g0.out
theorem ia2_ {p q : Prop} {b0 : Prop} {b1 : Prop} (h : Aside0 p) (g0 : Aside0 b0) (g1 : Aside0 b1) (e : p → b0 → b1 → q := by intro h_ k0_ k1_; repeat (first | (with_reducible first | exact h_ | apply IsS75.alloc | apply IsS75.drewN | apply IsS75.drew | apply IsS75.set_1 | apply IsS75.set_2 | refine IsS75.far ?_ k0_ _ | refine IsS75.far ?_ k1_ _) | exact h_)) : q := e h.out g0.out g1.out
theorem ka_ {p q : Prop} (h : Aside0 p) (e : p → q := by intro h_; repeat (first | (with_reducible first | exact h_ | apply KeepBut.set_ | apply keep_drewN | apply keep_drew | apply keep_alloc) | exact h_)) : q := e h.out
theorem ka1_ {p q : Prop} {b0 : Prop} (h : Aside0 p) (g0 : Aside0 b0) (e : p → b0 → q := by intro h_ k0_; repeat (first | (with_reducible first | exact h_ | apply KeepBut.set_ | apply keep_drewN | apply keep_drew | apply keep_alloc | refine keep_far ?_ k0_ _) | exact h_)) : q := e h.out g0.out
theorem ka2_ {p q : Prop} {b0 : Prop} {b1 : Prop} (h : Aside0 p) (g0 : Aside0 b0) (g1 : Aside0 b1) (e : p → b0 → b1 → q := by intro h_ k0_ k1_; repeat (first | (with_reducible first | exact h_ | apply KeepBut.set_ | apply keep_drewN | apply keep_drew | apply keep_alloc | refine keep_far ?_ k0_ _ | refine keep_far ?_ k1_ _) | exact h_)) : q := e h.out g0.out g1.out
theorem bi_ {p q : Prop} {z : Prop} (h : Aside0 p) (i : Aside0 z) (e : p → z → q := by intro h_ i_; repeat (first | (with_reducible first | exact h_ | apply below_alloc | apply pw_below_drewN | apply below_drew1 | refine below_set ?_ (IsS75.ge i_)) | exact h_)) : q := e h.out i.out
theorem bi1_ {p q : Prop} {z : Prop} {b0 : Prop} (h : Aside0 p) (i : Aside0 z) (g0 : Aside0 b0) (e : p → z → b0 → q := by intro h_ i_ k0_; repeat (first | (with_reducible first | exact h_ | apply below_alloc | apply pw_below_drewN | apply below_drew1 | refine below_set ?_ (IsS75.ge i_) | refine below_set ?_ k0_) | exact h_)) : q := e h.out i.out g0.out
theorem bi2_ {p q : Prop} {z : Prop} {b0 : Prop} {b1 : Prop} (h : Aside0 p) (i : Aside0 z) (g0 : Aside0 b0) (g1 : Aside0 b1) (e : p → z → b0 → b1 → q := by intro h_ i_ k0_ k1_; repeat (first | (with_reducible first | exact h_ | apply below_alloc | apply pw_below_drewN | apply below_drew1 | refine below_set ?_ (IsS75.ge i_) | refine below_set ?_ k0_ | refine below_set ?_ k1_) | exact h_)) : q := e h.out i.out g0.out g1.out
/-! ### spec_l1Byte: function 67 -/
def spec_l1Byte.f (s0_0 : List Int) (s0_1 : Int) (s0_2 : Int) : Option (Int × Int × Int) := if s0_1 < (s0_0.length : Int) then (if 0 ≤ s0_1 then (some (Go.bits .and .i64 (wrap64 ((Go.bits .and .i64 (Go.bits .xor .i64 ((wrap64 ((wrap64 (s0_2 * 6364136223846793005)) + 1442695040888963407)) / 8589934592) ((wrap64 ((wrap64 (s0_2 * 6364136223846793005)) + 1442695040888963407)) / 35184372088832)) 255) + (wrap64 (rd s0_0 s0_1)))) 255, wrap64 (s0_1 + 1), wrap64 ((wrap64 (s0_2 * 6364136223846793005)) + 1442695040888963407))) else (none)) else (some (Go.bits .and .i64 (Go.bits .xor .i64 ((wrap64 ((wrap64 (s0_2 * 6364136223846793005)) + 1442695040888963407)) / 8589934592) ((wrap64 ((wrap64 (s0_2 * 6364136223846793005)) + 1442695040888963407)) / 35184372088832)) 255, s0_1, wrap64 ((wrap64 (s0_2 * 6364136223846793005)) + 1442695040888963407)))
set_option maxHeartbeats 8000000 in
set_option maxRecDepth 100000 in
theorem spec_l1Byte.calls (g : Nat) (s0_0 : List Int) (s0_1 : Int) (s0_2 : Int) (r1 : Int) (r2 : Int) (r3 : Int) (w0 w : World) (hI : IsS75 w0 w g s0_0 s0_1 s0_2) (hB : Below w0.heap.size w0 w) (h : spec_l1Byte.f s0_0 s0_1 s0_2 = some (r1, r2, r3)) :
  Calls Tryd.prog 67 #[.pointer (some ⟨g, 0, none⟩)] w fun e w' => e = .returned (.int .i64 r1) ∧ IsS75 w0 w' g s0_0 r2 r3 ∧ Below w0.heap.size w0 w' ∧ KeepBut w w' g none := by
 have HI0 := Aside0.mk hI
 have HK := Aside0.mk (KeepBut.refl w g none)
 have HL := Aside0.mk hB.size
 clear hI
 have HW0 := Aside0.mk hB.size
 have HB := Aside0.mk hB
 clear hB
 have H : (if s0_1 < (s0_0.length : Int) then (if 0 ≤ s0_1 then (some (Go.bits .and .i64 (wrap64 ((Go.bits .and .i64 (Go.bits .xor .i64 ((wrap64 ((wrap64 (s0_2 * 6364136223846793005)) + 1442695040888963407)) / 8589934592) ((wrap64 ((wrap64 (s0_2 * 6364136223846793005)) + 1442695040888963407)) / 35184372088832)) 255) + (wrap64 (rd s0_0 s0_1)))) 255, wrap64 (s0_1 + 1), wrap64 ((wrap64 (s0_2 * 6364136223846793005)) + 1442695040888963407))) else (none)) else (some (Go.bits .and .i64 (Go.bits .xor .i64 ((wrap64 ((wrap64 (s0_2 * 6364136223846793005)) + 1442695040888963407)) / 8589934592) ((wrap64 ((wrap64 (s0_2 * 6364136223846793005)) + 1442695040888963407)) / 35184372088832)) 255, s0_1, wrap64 ((wrap64 (s0_2 * 6364136223846793005)) + 1442695040888963407)))) = some (r1, r2, r3) := h
 clear h
 by_cases c2 : s0_1 < (s0_0.length : Int)
 ·rw [if_pos c2] at H
  have c2b0 : decide (s0_1 < (s0_0.length : Int)) = true := decide_eq_true c2
  clear c2
  by_cases c3 : 0 ≤ s0_1
  ·rw [if_pos c3] at H
   have c3b0 : decide (0 ≤ s0_1) = true := decide_eq_true c3
   clear c3
   simp only [Option.some.injEq, Prod.mk.injEq] at H
   obtain ⟨rfl, rfl, rfl⟩ := H
   obtain ⟨ASz4_0, cSz4_0, HGz4, hgz4, HSz4_0⟩ := HI0.out
   have hcz4_0 := cellS75_0 HGz4
   have hcz4_1 := cellS75_1 HGz4
   have hcz4_2 := cellS75_2 HGz4
   have hfz4_1 := blk_frozen HGz4 1
   have hfz4_2 := blk_frozen HGz4 2
   clear HGz4 hgz4
   have p447 : 0 ≤ (s0_1 : Int) := of_decide_eq_true (by first | (with_reducible assumption) | assumption)
   have q447 : s0_1 < (s0_0.length : Int) := of_decide_eq_true (by first | (with_reducible assumption) | assumption)
   obtain ⟨ad447, e447, hx447_0⟩ := Kd.at_int HSz4_0 s0_1 p447 q447
   cases e447
   have hn447_0 : ad447.block ≠ g := Nat.ne_of_lt (Nat.lt_of_lt_of_le (by have := World.block_lt_of_cell? _ _ hx447_0; first | rwa [add_block] at this | exact this) (IsS75.ge HI0.out))
   replace hx447_0 := pw_cell_below HB.out hx447_0
   replace hx447_0 := (cell_far (p := ⟨g, 2, none⟩) (by first | (rw [add_block]; exact hn447_0) | (show (Addr.add _ _).block ≠ _; rw [add_block]; exact hn447_0) | exact hn447_0) (.int .i64 (wrap64 ((wrap64 (s0_2 * 6364136223846793005)) + 1442695040888963407)))).trans hx447_0
   (try have hy447_0 := fun (n_ : Nat) => (show (((w.drewN n_).setCell ⟨g, 2, none⟩ (.int .i64 (wrap64 ((wrap64 (s0_2 * 6364136223846793005)) + 1442695040888963407))))).cell? _ = some _ from hx447_0))
   clear hn447_0
   replace p447 := eq_true p447
   replace q447 := eq_true q447
   go_enter Tryd.func67, Tryd.ntmps67
   go_wp2
   repeat (go_quiet (fail); try go_wp2)
   go_ret
   exact ⟨er_, ia_ HI0, bi_ HB HI0, ka_ HK⟩
  ·rw [if_neg c3] at H
   exact absurd H (by simp)
 ·rw [if_neg c2] at H
  have c2b0 : decide (s0_1 < (s0_0.length : Int)) = false := decide_eq_false c2
  clear c2
  simp only [Option.some.injEq, Prod.mk.injEq] at H
  obtain ⟨rfl, rfl, rfl⟩ := H
  obtain ⟨ASz5_0, cSz5_0, HGz5, hgz5, HSz5_0⟩ := HI0.out
  have hcz5_0 := cellS75_0 HGz5
  have hcz5_1 := cellS75_1 HGz5
  have hcz5_2 := cellS75_2 HGz5
  have hfz5_1 := blk_frozen HGz5 1
  have hfz5_2 := blk_frozen HGz5 2
  clear HGz5 hgz5
  go_enter Tryd.func67, Tryd.ntmps67
  go_wp2
  repeat (go_quiet (fail); try go_wp2)
  go_ret
  exact ⟨er_, ia_ HI0, bi_ HB HI0, ka_ HK⟩


end Go.Proofs.YteljkpglgjjnlaaDoor.P
