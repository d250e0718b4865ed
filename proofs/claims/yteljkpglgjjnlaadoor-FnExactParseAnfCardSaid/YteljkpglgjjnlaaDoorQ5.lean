-- Out of the translation, by this session's program over the printer's; Lean checks it.
import Derived.Test.YteljkpglgjjnlaaDoorSh
import Derived.Test.YteljkpglgjjnlaaDoorQ0
import Derived.Test.YteljkpglgjjnlaaDoorQ2
import Derived.Test.YteljkpglgjjnlaaDoorQ3
import Derived.Test.YteljkpglgjjnlaaDoorQ4
namespace Go.Proofs.YteljkpglgjjnlaaDoor.P
open Go.RowKit Go.Proofs.YteljkpglgjjnlaaDoorW.PrintWords Go.Proofs.YteljkpglgjjnlaaDoorW.PrintLast Go.Proofs.YteljkpglgjjnlaaDoorW.PrintMore
attribute [local go_sem] max2_int min2_int max_two min_two max_three min_three max_four min_four
set_option linter.unusedVariables false
set_option linter.unusedSimpArgs false

/-! ### impl_ParseAnf: function 6 -/
mutual
def impl_ParseAnf.j0 : Nat → Int → ByteArray → Bool → Option (Int × Int × Bool)
 | 0, _, _, _ => none
 | k + 1, x0, x1, x19 => if x19 = true then (some (0, 0, false)) else (if x1.toList = ([48] : List UInt8) then (impl_ParseAnf.j2 k x1 x0 0) else ((strings_Split.f x1 (⟨#[43]⟩ : ByteArray)).bind fun t432 => (impl_ParseAnf.l0 k x0 x1 t432 (t432.length : Int) 0 x0 0)))
def impl_ParseAnf.j2 : Nat → ByteArray → Int → Int → Option (Int × Int × Bool)
 | 0, _, _, _ => none
 | k + 1, x1, x432000, x432001 => (impl_Table_anf.f x432000 x432001).bind fun bt440 => ((impl_FormatAnf.f k bt440.1 bt440.2).bind fun t443 => (if t443.toList = x1.toList then (some (bt440.1, bt440.2, true)) else (some (0, 0, false))))
def impl_ParseAnf.l0 : Nat → Int → ByteArray → List ByteArray → Int → Int → Int → Int → Option (Int × Int × Bool)
 | 0, _, _, _, _, _, _, _ => none
 | k + 1, x0, x1, x26, x27, x28, x432000, x432001 => if x28 < x27 then (if 0 ≤ x28 then (if x28 < (x26.length : Int) then ((impl_ParseTerm.f k x0 (rdOf ByteArray.empty x26 x28)).bind fun bt436 => (if bt436.2.2 = true then (if 0 ≤ bt436.1 then (impl_ParseAnf.l0 k x0 x1 x26 x27 (wrap64 (x28 + 1)) x432000 (Go.bits .or .i64 x432001 (shl .i64 1 bt436.1))) else (none)) else (some (0, 0, false)))) else (none)) else (none)) else (impl_ParseAnf.j2 k x1 x432000 x432001)
end
def impl_ParseAnf.f (k : Nat) (a0 : Int) (a1 : ByteArray) : Option (Int × Int × Bool) := (impl_isBits.f a0).bind fun t430 => (if t430 = true then (impl_ParseAnf.j0 k a0 a1 (decide ((a1.size : Int) > 200))) else (impl_ParseAnf.j0 k a0 a1 true))
theorem impl_ParseAnf.mono_l : ∀ k, (∀ y0 y1 y2, LeO (impl_ParseAnf.j0 k y0 y1 y2) (impl_ParseAnf.j0 (k + 1) y0 y1 y2)) ∧ (∀ y0 y1 y2, LeO (impl_ParseAnf.j2 k y0 y1 y2) (impl_ParseAnf.j2 (k + 1) y0 y1 y2)) ∧ (∀ y0 y1 y2 y3 y4 y5 y6, LeO (impl_ParseAnf.l0 k y0 y1 y2 y3 y4 y5 y6) (impl_ParseAnf.l0 (k + 1) y0 y1 y2 y3 y4 y5 y6))
 | 0 => ⟨fun _ _ _ r h => by simp [impl_ParseAnf.j0] at h, fun _ _ _ r h => by simp [impl_ParseAnf.j2] at h, fun _ _ _ _ _ _ _ r h => by simp [impl_ParseAnf.l0] at h⟩
 | k + 1 => by
  obtain ⟨ih0, ih1, ih2⟩ := impl_ParseAnf.mono_l k
  refine ⟨?_, ?_, ?_⟩
  ·intro y0 y1 y2
   unfold impl_ParseAnf.j0
   repeat' first
   | (with_reducible exact ih0 _ _ _)
   | (with_reducible exact ih1 _ _ _)
   | (with_reducible exact ih2 _ _ _ _ _ _ _)
   | (with_reducible exact impl_FormatAnf.mono _ _ _)
   | (with_reducible exact impl_ParseTerm.mono _ _ _)
   | (with_reducible exact LeO.refl _)
   | (with_reducible exact LeO.none _)
   | (with_reducible refine LeO.ite ?_ ?_)
   | (with_reducible refine LeO.bind ?_ (fun _ => ?_))
   | exact ih0 _ _ _
   | exact ih1 _ _ _
   | exact ih2 _ _ _ _ _ _ _
   | exact impl_FormatAnf.mono _ _ _
   | exact impl_ParseTerm.mono _ _ _
   | exact LeO.none _
   | refine LeO.ite ?_ ?_
   | refine LeO.bind ?_ (fun _ => ?_)
  ·intro y0 y1 y2
   unfold impl_ParseAnf.j2
   repeat' first
   | (with_reducible exact ih0 _ _ _)
   | (with_reducible exact ih1 _ _ _)
   | (with_reducible exact ih2 _ _ _ _ _ _ _)
   | (with_reducible exact impl_FormatAnf.mono _ _ _)
   | (with_reducible exact impl_ParseTerm.mono _ _ _)
   | (with_reducible exact LeO.refl _)
   | (with_reducible exact LeO.none _)
   | (with_reducible refine LeO.ite ?_ ?_)
   | (with_reducible refine LeO.bind ?_ (fun _ => ?_))
   | exact ih0 _ _ _
   | exact ih1 _ _ _
   | exact ih2 _ _ _ _ _ _ _
   | exact impl_FormatAnf.mono _ _ _
   | exact impl_ParseTerm.mono _ _ _
   | exact LeO.none _
   | refine LeO.ite ?_ ?_
   | refine LeO.bind ?_ (fun _ => ?_)
  ·intro y0 y1 y2 y3 y4 y5 y6
   unfold impl_ParseAnf.l0
   repeat' first
   | (with_reducible exact ih0 _ _ _)
   | (with_reducible exact ih1 _ _ _)
   | (with_reducible exact ih2 _ _ _ _ _ _ _)
   | (with_reducible exact impl_FormatAnf.mono _ _ _)
   | (with_reducible exact impl_ParseTerm.mono _ _ _)
   | (with_reducible exact LeO.refl _)
   | (with_reducible exact LeO.none _)
   | (with_reducible refine LeO.ite ?_ ?_)
   | (with_reducible refine LeO.bind ?_ (fun _ => ?_))
   | exact ih0 _ _ _
   | exact ih1 _ _ _
   | exact ih2 _ _ _ _ _ _ _
   | exact impl_FormatAnf.mono _ _ _
   | exact impl_ParseTerm.mono _ _ _
   | exact LeO.none _
   | refine LeO.ite ?_ ?_
   | refine LeO.bind ?_ (fun _ => ?_)
theorem impl_ParseAnf.mono : ∀ a0 a1 k, LeO (impl_ParseAnf.f k a0 a1) (impl_ParseAnf.f (k + 1) a0 a1) := by
 intro a0 a1 k
 obtain ⟨ih0, ih1, ih2⟩ := impl_ParseAnf.mono_l k
 unfold impl_ParseAnf.f
 repeat' first
   | (with_reducible exact ih0 _ _ _)
   | (with_reducible exact ih1 _ _ _)
   | (with_reducible exact ih2 _ _ _ _ _ _ _)
   | (with_reducible exact impl_FormatAnf.mono _ _ _)
   | (with_reducible exact impl_ParseTerm.mono _ _ _)
   | (with_reducible exact LeO.refl _)
   | (with_reducible exact LeO.none _)
   | (with_reducible refine LeO.ite ?_ ?_)
   | (with_reducible refine LeO.bind ?_ (fun _ => ?_))
   | exact ih0 _ _ _
   | exact ih1 _ _ _
   | exact ih2 _ _ _ _ _ _ _
   | exact impl_FormatAnf.mono _ _ _
   | exact impl_ParseTerm.mono _ _ _
   | exact LeO.none _
   | refine LeO.ite ?_ ?_
   | refine LeO.bind ?_ (fun _ => ?_)
def impl_ParseAnf.T11 : Bool × List (List Nat × List Nat) := (true, [([], []), ([0], [0]), ([], []), ([2], [2]), ([3], [3]), ([1, 4], [1, 4]), ([0, 1, 2, 3, 4, 5], []), ([6, 5, 0, 1, 2, 3, 4, 5], [5, 6])])
def impl_ParseAnf.B11 : List Nat := [0, 1, 0, 4, 12, 31, 63, 127]
theorem impl_ParseAnf.tab11 : rtab .any (opsOf Tryd.f6 11) = impl_ParseAnf.T11 := by kernel_rfl
theorem impl_ParseAnf.bits11 : waitsOk impl_ParseAnf.T11.2 impl_ParseAnf.B11 = true := by kernel_rfl
set_option maxHeartbeats 8000000 in
set_option maxRecDepth 100000 in
theorem impl_ParseAnf.calls (k : Nat) (a0 : Int) (a1 : ByteArray) (r1 : Int) (r2 : Int) (r3 : Bool) (w : World) (h : impl_ParseAnf.f k a0 a1 = some (r1, r2, r3)) :
  Calls Tryd.prog 6 #[.int .i64 a0, .string a1] w fun e w' => e = .returned (.tuple #[.agg #[.int .i64 r1, .int .i64 r2], .bool r3]) ∧ Below w.heap.size w w' := by
 have hu23 := Tryd.underlying23
 have hu44 := Tryd.underlying44
 have HB := Aside0.mk (Below.refl w.heap.size w)
 have H : ((impl_isBits.f a0).bind fun t430 => (if t430 = true then (impl_ParseAnf.j0 k a0 a1 (decide ((a1.size : Int) > 200))) else (impl_ParseAnf.j0 k a0 a1 true))) = some (r1, r2, r3) := h
 clear h
 have HC3 := Aside0.mk H
 clear H
 go_enter Tryd.func6, Tryd.ntmps6
 go_upto_region 1 with (first | ((with_reducible refine gate_dst (N := 4) rfl ?_); (try (refine gate_guard (by rfl) ?_; dsimp only)); refine bx_ 4 #[.int .i64 0, .int .i64 0] 23 ?_; intro gb429 hg w4 hbox hb; have n0_ := Aside0.mk (below_step (bv_ HB) hb); have n1_ := Aside0.mk (hbox); have n2_ := gw_ hg (below_size (bv_ HB)); have n3_ := gw_ hg (below_size (bv_ HB)); clear HB; have HB := n0_; have BK429 := n1_; have GW429 := n2_; have GE429 := n3_; clear n0_ n1_ n2_ n3_; clear hb hbox hg))
 (try simp only [Act.put, List.setIfInBounds_toArray, List.set_cons_zero, List.set_cons_succ])
 go_cut [19] (fun v19 wc => ∃ (kq : Nat) (x19_2 : Bool), v19 = .bool x19_2 ∧ Aside0 (impl_ParseAnf.j0 kq a0 a1 x19_2 = some (r1, r2, r3)) ∧ Aside0 (kq ≤ k) ∧ Aside0 (wc.heap[gb429]? = some (.cells #[.int .i64 0, .int .i64 0] 23 (0, 0))) ∧ Aside0 (Below w.heap.size w wc))
 case first =>
  have H := HC3.out
  clear HC3
  replace H := Option.bind_eq_some_iff.mp H
  obtain ⟨t430, A50, H⟩ := H
  have A5 := Aside0.mk A50
  clear A50
  by_cases c6 : t430 = true
  ·subst c6
   rw [if_pos rfl] at H
   have H' := Aside0.mk H
   clear H
   go_wp2_with (first | ((with_reducible refine gate_callee (f := 31) rfl ?_); refine gl_ 13 Tryd.func31 #[.int .i64 a0] rfl mp_ ?_; (with_reducible refine (impl_isBits.calls a0 true _ A5.out).mono ?_); rintro e w' ⟨rfl, ⟨nd, rfl⟩⟩; refine ⟨_, rfl, ?_⟩))
   go_meet
   case rel => exact ⟨_, (decide ((a1.size : Int) > 200)), (by first | rfl | (simp; done) | (simp [*]; done)), H', ⟨by first | omega | exact Nat.le_refl _⟩, ⟨by (with_reducible repeat (first | refine blk_drewN ?_ _ | refine blk_drew ?_ | refine blk_alloc ?_ _)); exact BK429.out⟩, ⟨bv1_ HB GE429⟩⟩
  ·replace c6 := Bool.eq_false_iff.mpr c6
   subst c6
   rw [if_neg (show ¬ (false = true) by decide)] at H
   have H' := Aside0.mk H
   clear H
   go_wp2_with (first | ((with_reducible refine gate_callee (f := 31) rfl ?_); refine gl_ 13 Tryd.func31 #[.int .i64 a0] rfl mp_ ?_; (with_reducible refine (impl_isBits.calls a0 false _ A5.out).mono ?_); rintro e w' ⟨rfl, ⟨nd, rfl⟩⟩; refine ⟨_, rfl, ?_⟩))
   go_meet
   case rel => exact ⟨_, (true), (by first | rfl | (simp; done) | (simp [*]; done)), H', ⟨by first | omega | exact Nat.le_refl _⟩, ⟨by (with_reducible repeat (first | refine blk_drewN ?_ _ | refine blk_drew ?_ | refine blk_alloc ?_ _)); exact BK429.out⟩, ⟨bv1_ HB GE429⟩⟩
 case rest =>
  clear HC3
  try clear p2
  try clear c3
  try clear c6
  obtain ⟨kq, x19_2, rfl, HA, HJ2, BK429, HB⟩ := hcut
  cases kq with
  | zero => exact absurd HA.out (by simp [impl_ParseAnf.j0])
  | succ kj2 =>
   have H := HA.out
   clear HA
   simp only [impl_ParseAnf.j0] at H
   by_cases c7 : x19_2 = true
   ·subst c7
    rw [if_pos rfl] at H
    simp only [Option.some.injEq, Prod.mk.injEq] at H
    obtain ⟨rfl, rfl, rfl⟩ := H
    obtain ⟨hcz8_0, hcz8_1, hfz8_0, hfz8_1⟩ := c2_ BK429
    go_wp2
    refine bodyPost_ret (results_ct rfl _ _ gb429 23 #[.int .i64 0, .int .i64 0] (0, 0) _ rfl (by (with_reducible repeat (first | refine blk_drewN ?_ _ | refine blk_drew ?_ | refine blk_alloc ?_ _)); refine blk_put (cs := #[.int .i64 0, .int .i64 0]) ?_ 1 _ rfl; (with_reducible repeat (first | refine blk_drewN ?_ _ | refine blk_drew ?_ | refine blk_alloc ?_ _)); refine blk_put (cs := #[.int .i64 0, .int .i64 0]) ?_ 0 _ rfl; (with_reducible repeat (first | refine blk_drewN ?_ _ | refine blk_drew ?_ | refine blk_alloc ?_ _)); exact BK429.out) Tryd.underlying23 rfl (by kernel_rfl)) rfl ?_
    exact ⟨by first | rfl | (simp [errW_none, errW_some] <;> rfl) | (simp [*, errW_none, errW_some] <;> rfl), bv1_ HB GE429⟩
   ·replace c7 := Bool.eq_false_iff.mpr c7
    subst c7
    rw [if_neg (show ¬ (false = true) by decide)] at H
    have HC9 := Aside0.mk H
    clear H
    go_upto_if 24 with (first | ((with_reducible refine gate_dst (N := 6) rfl ?_); (try (refine gate_guard (by rfl) ?_; dsimp only)); refine bx_ 6 #[.int .i64 0, .int .i64 0] 23 ?_; intro gb431 hg w10 hbox hb; have n0_ := kb_ BK429 hb; have n1_ := Aside0.mk (below_step (bv1_ HB GE429) hb); have n2_ := Aside0.mk (hbox); have n3_ := gw_ hg (below_size (bv1_ HB GE429)); have n4_ := gw_ hg (below_size (bv1_ HB GE429)); have n5_ := nb_ hg (blk_lt (g := gb429) (o := .cells #[.int .i64 0, .int .i64 0] 23 (0, 0)) (kv_ BK429)); have n6_ := nc_ hg (blk_lt (g := gb429) (o := .cells #[.int .i64 0, .int .i64 0] 23 (0, 0)) (kv_ BK429)); clear BK429; clear HB; have BK429 := n0_; have HB := n1_; have BK431 := n2_; have GW431 := n3_; have GE431 := n4_; have NB429_431 := n5_; have NB431_429 := n6_; clear n0_ n1_ n2_ n3_ n4_ n5_ n6_; clear hb hbox hg; have hnb11 := NB431_429.out; have hnc11 := NB429_431.out; have hcz12_0 : w10.cell? ⟨gb431, 0, none⟩ = some (.int .i64 0) := (blk_cell BK431.out 0).trans rfl; have hcz12_1 : w10.cell? ⟨gb431, 1, none⟩ = some (.int .i64 0) := (blk_cell BK431.out 1).trans rfl; have hfz12_0 := blk_frozen BK431.out 0; have hfz12_1 := blk_frozen BK431.out 1))
    (try simp only [Act.put, List.setIfInBounds_toArray, List.set_cons_zero, List.set_cons_succ])
    go_cut [] (fun wc => ∃ (kq : Nat) (x430000_8 : Int) (x430001_8 : Int) (x432001_8 : Int), Aside0 (impl_ParseAnf.j2 kq a1 a0 x432001_8 = some (r1, r2, r3)) ∧ Aside0 (kq ≤ kj2) ∧ Aside0 (wc.heap[gb429]? = some (.cells #[.int .i64 x430000_8, .int .i64 x430001_8] 23 (0, 0))) ∧ Aside0 (wc.heap[gb431]? = some (.cells #[.int .i64 a0, .int .i64 x432001_8] 23 (0, 0))) ∧ Aside0 (Below w.heap.size w wc))
    case first =>
     have H := HC9.out
     clear HC9
     by_cases c13 : a1.toList = ([48] : List UInt8)
     ·rw [if_pos c13] at H
      have c13b0 : (a1.toList == ([48] : List UInt8)) = true := beq_iff_eq.mpr c13
      have c13b1 : (a1.toList != ([48] : List UInt8)) = false := bne_eq_false_iff_eq.mpr c13
      clear c13
      (first | rw [c13b0] | (simp only [i64_w, i32_w]; rw [c13b0]) | skip)
      have H' := Aside0.mk H
      clear H
      go_wp2
      go_meet
      case rel => exact ⟨_, (0), (0), (0), H', ⟨by have := HJ2.out; first | omega | exact Nat.le_refl _⟩, ⟨by (with_reducible repeat (first | refine blk_drewN ?_ _ | refine blk_drew ?_ | refine blk_alloc ?_ _)); refine blk_far ?_ NB429_431.out _; (with_reducible repeat (first | refine blk_drewN ?_ _ | refine blk_drew ?_ | refine blk_alloc ?_ _)); refine blk_far ?_ NB429_431.out _; (with_reducible repeat (first | refine blk_drewN ?_ _ | refine blk_drew ?_ | refine blk_alloc ?_ _)); exact BK429.out⟩, ⟨by (with_reducible repeat (first | refine blk_drewN ?_ _ | refine blk_drew ?_ | refine blk_alloc ?_ _)); refine blk_put (cs := #[.int .i64 a0, .int .i64 0]) ?_ 1 _ rfl; (with_reducible repeat (first | refine blk_drewN ?_ _ | refine blk_drew ?_ | refine blk_alloc ?_ _)); refine blk_put (cs := #[.int .i64 0, .int .i64 0]) ?_ 0 _ rfl; (with_reducible repeat (first | refine blk_drewN ?_ _ | refine blk_drew ?_ | refine blk_alloc ?_ _)); exact BK431.out⟩, ⟨bv2_ HB GE429 GE431⟩⟩
     ·rw [if_neg c13] at H
      have c13b0 : (a1.toList == ([48] : List UInt8)) = false := beq_eq_false_iff_ne.mpr c13
      have c13b1 : (a1.toList != ([48] : List UInt8)) = true := bne_iff_ne.mpr c13
      (first | rw [c13b0] | (simp only [i64_w, i32_w]; rw [c13b0]) | skip)
      replace H := Option.bind_eq_some_iff.mp H
      obtain ⟨t432, A140, H⟩ := H
      have A14 := Aside0.mk A140
      clear A140
      have H' := Aside0.mk H
      clear H
      go_wp2_with (first | ((with_reducible refine gate_callee (f := 32) rfl ?_); refine gl_ 26 Tryd.func32 #[.string a1, .string (⟨#[43]⟩ : ByteArray)] rfl mp_ ?_; (with_reducible refine (strings_Split.calls a1 (⟨#[43]⟩ : ByteArray) t432 _ A14.out).mono ?_); rintro e w15 ⟨v433, rfl, ho0, hb⟩; refine ⟨_, rfl, ?_⟩; have HO434 := Aside0.mk (Kd.R_lower ho0 (below_size (bv2_ HB GE429 GE431))); replace BK429 := Aside0.mk (blk_below (g := gb429) (o := .cells #[.int .i64 0, .int .i64 0] 23 (0, 0)) (by (with_reducible repeat (first | refine blk_drewN ?_ _ | refine blk_drew ?_ | refine blk_alloc ?_ _)); refine blk_far ?_ NB429_431.out _; (with_reducible repeat (first | refine blk_drewN ?_ _ | refine blk_drew ?_ | refine blk_alloc ?_ _)); refine blk_far ?_ NB429_431.out _; (with_reducible repeat (first | refine blk_drewN ?_ _ | refine blk_drew ?_ | refine blk_alloc ?_ _)); exact BK429.out) hb); replace BK431 := Aside0.mk (blk_below (g := gb431) (o := .cells #[.int .i64 a0, .int .i64 0] 23 (0, 0)) (by (with_reducible repeat (first | refine blk_drewN ?_ _ | refine blk_drew ?_ | refine blk_alloc ?_ _)); refine blk_put (cs := #[.int .i64 a0, .int .i64 0]) ?_ 1 _ rfl; (with_reducible repeat (first | refine blk_drewN ?_ _ | refine blk_drew ?_ | refine blk_alloc ?_ _)); refine blk_put (cs := #[.int .i64 0, .int .i64 0]) ?_ 0 _ rfl; (with_reducible repeat (first | refine blk_drewN ?_ _ | refine blk_drew ?_ | refine blk_alloc ?_ _)); exact BK431.out) hb); replace HB := Aside0.mk (below_step (bv2_ HB GE429 GE431) hb); (try clear hb); (try clear hb2); (try clear hk); (try clear hi); (try clear ho0); obtain ⟨Ao16, co16, eo16⟩ := Kd.R_slice HO434.out; subst eo16))
      go_loopg [28] kj2 (fun kq v28 w' => ∃ (x28_2 : Int) (x430000_2 : Int) (x430001_2 : Int) (x432001_2 : Int), v28 = .int .i64 x28_2 ∧ Aside0 (impl_ParseAnf.l0 kq a0 a1 t432 (t432.length : Int) x28_2 a0 x432001_2 = some (r1, r2, r3)) ∧ Aside0 (kq ≤ kj2) ∧ Aside0 (Kd.R Kd.string 9 w' w.heap.size (fun _ => True) (.slice Ao16 t432.length co16) t432) ∧ Aside0 (w'.heap[gb429]? = some (.cells #[.int .i64 x430000_2, .int .i64 x430001_2] 23 (0, 0))) ∧ Aside0 (w'.heap[gb431]? = some (.cells #[.int .i64 a0, .int .i64 x432001_2] 23 (0, 0))) ∧ Aside0 (Below w.heap.size w w'))
      case atStart => exact ⟨(0), (0), (0), (0), (by first | rfl | (simp; done) | (simp [*]; done)), H', ⟨Nat.le_refl _⟩, ⟨by (with_reducible repeat (first | apply Kd.R_alloc | apply Kd.R_drewN | apply Kd.R_drew)); exact HO434.out⟩, ⟨by (with_reducible repeat (first | refine blk_drewN ?_ _ | refine blk_drew ?_ | refine blk_alloc ?_ _)); exact BK429.out⟩, ⟨by (with_reducible repeat (first | refine blk_drewN ?_ _ | refine blk_drew ?_ | refine blk_alloc ?_ _)); exact BK431.out⟩, ⟨bv2_ HB GE429 GE431⟩⟩
      case round =>
       clear H'
       try clear c1
       try clear p2
       try clear c3
       try clear c6
       try clear c7
       try clear c11
       try clear c13
       try clear c13b0
       try clear c13b1
       try clear hcz12_0
       try clear hcz12_1
       try clear hcz8_0
       try clear hcz8_1
       try clear hfz12_0
       try clear hfz12_1
       try clear hfz8_0
       try clear hfz8_1
       try clear p2
       obtain ⟨x28_2, x430000_2, x430001_2, x432001_2, rfl, HA, HK2, HO_26, BK429, BK431, HB⟩ := hrel
       cases gk with
       | zero => exact absurd HA.out (by simp [impl_ParseAnf.l0])
       | succ k2 =>
        have H := HA.out
        clear HA
        simp only [impl_ParseAnf.l0] at H
        by_cases c17 : x28_2 < (t432.length : Int)
        ·rw [if_pos c17] at H
         have c17b0 : decide (x28_2 < (t432.length : Int)) = true := decide_eq_true c17
         clear c17
         by_cases c18 : 0 ≤ x28_2
         ·rw [if_pos c18] at H
          have c18b0 : decide (0 ≤ x28_2) = true := decide_eq_true c18
          clear c18
          by_cases c19 : x28_2 < (t432.length : Int)
          ·rw [if_pos c19] at H
           have c19b0 : decide (x28_2 < (t432.length : Int)) = true := decide_eq_true c19
           clear c19
           replace H := Option.bind_eq_some_iff.mp H
           obtain ⟨⟨t436, t437, t438⟩, A200, H⟩ := H
           dsimp only at H
           have A20 := Aside0.mk A200
           clear A200
           by_cases c21 : t438 = true
           ·subst c21
            rw [if_pos rfl] at H
            by_cases c22 : 0 ≤ t436
            ·rw [if_pos c22] at H
             have c22b0 := eq_true c22
             have c22b1 : decide (0 ≤ t436) = true := decide_eq_true c22
             clear c22
             obtain ⟨ji23, hji23⟩ : ∃ j_ : Int, (shl .i64 1 t436) = j_ := ⟨_, rfl⟩
             replace H : (impl_ParseAnf.l0 k2 a0 a1 t432 (t432.length : Int) (wrap64 (x28_2 + 1)) a0 (Go.bits .or .i64 x432001_2 (ji23))) = some (r1, r2, r3) := by first | (rw [hji23] at H; exact H) | (simp only [hji23] at H ⊢; exact H)
             (try rw [hji23] at A20)
             have hji23_ : (IntKind.i64.wrap (1 * 2 ^ min t436.toNat 64)) = ji23 := hji23
             have hji23z : t436 ≤ 64 → (IntKind.i64.wrap (1 * 2 ^ t436.toNat)) = ji23 := shl_small hji23
             have hji23u : (IntKind.i64.wrap (2 ^ min t436.toNat 64)) = ji23 := by have h_ := hji23_; rw [Int.one_mul] at h_; exact h_
             have hji23v : t436 ≤ 64 → (IntKind.i64.wrap (2 ^ t436.toNat)) = ji23 := fun hle_ => by have h_ := hji23z hle_; rw [Int.one_mul] at h_; exact h_
             have hji23y : (wrap64 (1 * 2 ^ min t436.toNat 64)) = ji23 := (i64_w _).symm.trans hji23_
             have hji23x : t436 ≤ 64 → (wrap64 (1 * 2 ^ t436.toNat)) = ji23 := fun h_ => (i64_w _).symm.trans (hji23z h_)
             have H' := Aside0.mk H
             clear H
             have p435 : 0 ≤ (x28_2 : Int) := of_decide_eq_true (by first | (with_reducible assumption) | assumption)
             have q435 : x28_2 < (t432.length : Int) := of_decide_eq_true (by first | (with_reducible assumption) | assumption)
             obtain ⟨ad435, e435, hx435_0⟩ := Kd.at_string (Kd.R_reads' HO_26.out).2.2 x28_2 p435 q435
             cases e435
             replace p435 := eq_true p435
             replace q435 := eq_true q435
             try go_wp2_with (first | ((with_reducible refine gate_callee (f := 33) rfl ?_); refine gl_ 35 Tryd.func33 #[.int .i64 a0, .string (rdOf ByteArray.empty t432 x28_2)] rfl mp_ ?_; (with_reducible refine (impl_ParseTerm.calls k2 a0 (rdOf ByteArray.empty t432 x28_2) t436 t437 true _ A20.out).mono ?_); rintro e w24 ⟨rfl, hb⟩; refine ⟨_, rfl, ?_⟩; replace HO_26 := Aside0.mk (Kd.R_below (rv_ HO_26) hb); replace BK429 := kb_ BK429 hb; replace BK431 := kb_ BK431 hb; replace HB := Aside0.mk (below_step (bv2_ HB GE429 GE431) hb); (try clear hb); (try clear hb2); (try clear hk); (try clear hi)) | ((with_reducible refine gate_dst (N := 9) rfl ?_); (try (refine gate_guard (by rfl) ?_; dsimp only)); refine bx_ 9 #[.int .i64 0, .int .i64 0] 44 ?_; intro gb439 hg w25 hbox hb; replace HO_26 := Aside0.mk (Kd.R_below (rv_ HO_26) hb); have BK439 := Aside0.mk (hbox); have GW439 := gw_ hg (below_size (bv2_ HB GE429 GE431)); have GE439 := GW439; replace HB := Aside0.mk (below_step (bv2_ HB GE429 GE431) hb); have NB429_439 := nb_ hg (blk_lt (g := gb429) (o := .cells #[.int .i64 x430000_2, .int .i64 x430001_2] 23 (0, 0)) (kv_ BK429)); have NB439_429 := nc_ hg (blk_lt (g := gb429) (o := .cells #[.int .i64 x430000_2, .int .i64 x430001_2] 23 (0, 0)) (kv_ BK429)); replace BK429 := kb_ BK429 hb; have NB431_439 := nb_ hg (blk_lt (g := gb431) (o := .cells #[.int .i64 a0, .int .i64 x432001_2] 23 (0, 0)) (kv_ BK431)); have NB439_431 := nc_ hg (blk_lt (g := gb431) (o := .cells #[.int .i64 a0, .int .i64 x432001_2] 23 (0, 0)) (kv_ BK431)); replace BK431 := kb_ BK431 hb; clear hb hbox hg; have hnb26 := NB439_429.out; have hnc26 := NB429_439.out; have hnb27 := NB439_431.out; have hnc27 := NB431_439.out; obtain ⟨hcz28_0, hcz28_1, hfz28_0, hfz28_1⟩ := c2_ BK439))
             have n0_ : Aside0 (Kd.R Kd.string 9 ((w25.setCell ⟨gb439, 0, none⟩ (.int .i64 t436)).setCell ⟨gb439, 1, none⟩ (.int .i64 t437)) w.heap.size (fun _ => True) (.slice (some ad435) t432.length co16) t432) := ⟨by (with_reducible repeat (first | apply Kd.R_alloc | apply Kd.R_drewN | apply Kd.R_drew)); exact Kd.R_mono (Kd.R_far (p := ⟨gb439, 1, none⟩) (Kd.R_far (p := ⟨gb439, 0, none⟩) (Kd.R_types HO_26.out BK439.out (by decide)) (fun _ hk => hk.2) (.int .i64 t436)) (fun _ hk => hk.2) (.int .i64 t437)) (fun _ hk => trivial)⟩
             have n1_ : Aside0 (((w25.setCell ⟨gb439, 0, none⟩ (.int .i64 t436)).setCell ⟨gb439, 1, none⟩ (.int .i64 t437)).heap[gb429]? = some (.cells #[.int .i64 x430000_2, .int .i64 x430001_2] 23 (0, 0))) := ⟨by (with_reducible repeat (first | refine blk_drewN ?_ _ | refine blk_drew ?_ | refine blk_alloc ?_ _)); refine blk_far ?_ NB429_439.out _; (with_reducible repeat (first | refine blk_drewN ?_ _ | refine blk_drew ?_ | refine blk_alloc ?_ _)); refine blk_far ?_ NB429_439.out _; (with_reducible repeat (first | refine blk_drewN ?_ _ | refine blk_drew ?_ | refine blk_alloc ?_ _)); exact BK429.out⟩
             have n2_ : Aside0 (((w25.setCell ⟨gb439, 0, none⟩ (.int .i64 t436)).setCell ⟨gb439, 1, none⟩ (.int .i64 t437)).heap[gb431]? = some (.cells #[.int .i64 a0, .int .i64 x432001_2] 23 (0, 0))) := ⟨by (with_reducible repeat (first | refine blk_drewN ?_ _ | refine blk_drew ?_ | refine blk_alloc ?_ _)); refine blk_far ?_ NB431_439.out _; (with_reducible repeat (first | refine blk_drewN ?_ _ | refine blk_drew ?_ | refine blk_alloc ?_ _)); refine blk_far ?_ NB431_439.out _; (with_reducible repeat (first | refine blk_drewN ?_ _ | refine blk_drew ?_ | refine blk_alloc ?_ _)); exact BK431.out⟩
             have n3_ : Aside0 (((w25.setCell ⟨gb439, 0, none⟩ (.int .i64 t436)).setCell ⟨gb439, 1, none⟩ (.int .i64 t437)).heap[gb439]? = some (.cells #[.int .i64 t436, .int .i64 t437] 44 (0, 0))) := ⟨by (with_reducible repeat (first | refine blk_drewN ?_ _ | refine blk_drew ?_ | refine blk_alloc ?_ _)); refine blk_put (cs := #[.int .i64 t436, .int .i64 0]) ?_ 1 _ rfl; (with_reducible repeat (first | refine blk_drewN ?_ _ | refine blk_drew ?_ | refine blk_alloc ?_ _)); refine blk_put (cs := #[.int .i64 0, .int .i64 0]) ?_ 0 _ rfl; (with_reducible repeat (first | refine blk_drewN ?_ _ | refine blk_drew ?_ | refine blk_alloc ?_ _)); exact BK439.out⟩
             have n4_ : Aside0 (Below w.heap.size w ((w25.setCell ⟨gb439, 0, none⟩ (.int .i64 t436)).setCell ⟨gb439, 1, none⟩ (.int .i64 t437))) := ⟨bv3_ HB GE429 GE431 GE439⟩
             (try clear HO_26)
             (try clear BK429)
             (try clear BK431)
             (try clear BK439)
             (try clear HB)
             generalize ((w25.setCell ⟨gb439, 0, none⟩ (.int .i64 t436)).setCell ⟨gb439, 1, none⟩ (.int .i64 t437)) = w29 at n0_ n1_ n2_ n3_ n4_ ⊢
             have HO_26 := n0_
             have BK429 := n1_
             have BK431 := n2_
             have BK439 := n3_
             have HB := n4_
             clear n0_ n1_ n2_ n3_ n4_
             replace HO_26 := Aside0.mk (Kd.R_drew HO_26.out)
             replace BK429 := Aside0.mk (blk_drew BK429.out)
             replace BK431 := Aside0.mk (blk_drew BK431.out)
             replace BK439 := Aside0.mk (blk_drew BK439.out)
             replace HB := Aside0.mk (below_drew1 HB.out)
             refine start_ (n := 8) (S := fun w' => w'.cell? ⟨gb431, 0, none⟩ = some (.int .i64 a0) ∧ w'.cell? ⟨gb431, 1, none⟩ = some (.int .i64 x432001_2) ∧ w'.cell? ⟨gb439, 0, none⟩ = some (.int .i64 t436) ∧ w'.cell? ⟨gb439, 1, none⟩ = some (.int .i64 t437)) (ds := [7]) (bs 8 0) (by kernel_rfl) rfl (by kernel_rfl) ⟨(blk_cell BK431.out 0).trans rfl, (blk_cell BK431.out 1).trans rfl, (blk_cell BK439.out 0).trans rfl, (blk_cell BK439.out 1).trans rfl⟩ (fun hHeld => ?_); refine with_tabW impl_ParseAnf.tab11 impl_ParseAnf.bits11 (fun HT_ HW_ => ?_)
             generalize w29.drew = w30 at HO_26 BK429 BK431 BK439 HB hHeld ⊢
             refine pu_ HT_ 0 41 (bs 8 1) ?_
             refine pu_ HT_ 2 43 (bs 8 5) ?_
             refine ta4_ HT_ HW_ 1 42 (bs 8 7) hHeld ?_
             refine ta4_ HT_ HW_ 3 44 (bs 8 15) hHeld ?_
             refine pu_ HT_ 4 45 (bs 8 31) ?_
             refine pu_ HT_ 5 46 (bs 8 63) ?_
             refine pu_ HT_ 6 47 (bs 8 127) ?_
             refine last_ (i := 7) (N := none) (bs 8 255) rfl rfl (one_of HT_.out (by kernel_rfl)) (by decide) (fun K hK => ?_)
             have hs31 : w30.cell? ⟨gb431, 1, none⟩ = some (.int .i64 x432001_2) := (blk_cell BK431.out 1).trans rfl
             have hfs31 := blk_frozen BK431.out 1
             have hns31_0 := NB429_431.out
             have hns31_2 := NB439_431.out
             have hms31_0 := NB431_429.out
             have hms31_2 := NB431_439.out
             refine skip_ (w1 := ?_) (by rfl) rfl ?_ ?_
             rotate_left
             ·go_simp
              rfl
             refine hK.out _ _ ?_
             clear hK K
             refine done_ (done_of HT_.out (by kernel_rfl)) ?_
             try go_wp2
             go_roundg k2
             case measure => have := HJ2.out; have := HK2.out; omega
             case rel => exact ⟨(wrap64 (x28_2 + 1)), (x430000_2), (x430001_2), (Go.bits .or .i64 x432001_2 (ji23)), (by first | rfl | (simp; done) | (simp [*]; done)), H', ⟨by have := HJ2.out; have := HK2.out; omega⟩, ⟨by (with_reducible repeat (first | apply Kd.R_alloc | apply Kd.R_drewN | apply Kd.R_drew)); exact Kd.R_mono (Kd.R_far (p := ⟨gb431, 1, none⟩) (Kd.R_types HO_26.out BK431.out (by decide)) (fun _ hk => hk.2) (.int .i64 (Go.bits .or .i64 x432001_2 (ji23)))) (fun _ hk => trivial)⟩, ⟨by (with_reducible repeat (first | refine blk_drewN ?_ _ | refine blk_drew ?_ | refine blk_alloc ?_ _)); refine blk_far ?_ NB429_431.out _; (with_reducible repeat (first | refine blk_drewN ?_ _ | refine blk_drew ?_ | refine blk_alloc ?_ _)); exact BK429.out⟩, ⟨by (with_reducible repeat (first | refine blk_drewN ?_ _ | refine blk_drew ?_ | refine blk_alloc ?_ _)); refine blk_put (cs := #[.int .i64 a0, .int .i64 x432001_2]) ?_ 1 _ rfl; (with_reducible repeat (first | refine blk_drewN ?_ _ | refine blk_drew ?_ | refine blk_alloc ?_ _)); exact BK431.out⟩, ⟨bv3_ HB GE429 GE431 GE439⟩⟩
            ·rw [if_neg c22] at H
             exact absurd H (by simp)
           ·replace c21 := Bool.eq_false_iff.mpr c21
            subst c21
            rw [if_neg (show ¬ (false = true) by decide)] at H
            simp only [Option.some.injEq, Prod.mk.injEq] at H
            obtain ⟨rfl, rfl, rfl⟩ := H
            have p435 : 0 ≤ (x28_2 : Int) := of_decide_eq_true (by first | (with_reducible assumption) | assumption)
            have q435 : x28_2 < (t432.length : Int) := of_decide_eq_true (by first | (with_reducible assumption) | assumption)
            obtain ⟨ad435, e435, hx435_0⟩ := Kd.at_string (Kd.R_reads' HO_26.out).2.2 x28_2 p435 q435
            cases e435
            replace p435 := eq_true p435
            replace q435 := eq_true q435
            go_wp2_with (first | ((with_reducible refine gate_callee (f := 33) rfl ?_); refine gl_ 35 Tryd.func33 #[.int .i64 a0, .string (rdOf ByteArray.empty t432 x28_2)] rfl mp_ ?_; (with_reducible refine (impl_ParseTerm.calls k2 a0 (rdOf ByteArray.empty t432 x28_2) t436 t437 false _ A20.out).mono ?_); rintro e w32 ⟨rfl, hb⟩; refine ⟨_, rfl, ?_⟩; replace HO_26 := Aside0.mk (Kd.R_below (rv_ HO_26) hb); replace BK429 := kb_ BK429 hb; replace BK431 := kb_ BK431 hb; replace HB := Aside0.mk (below_step (bv2_ HB GE429 GE431) hb); (try clear hb); (try clear hb2); (try clear hk); (try clear hi)) | ((with_reducible refine gate_dst (N := 9) rfl ?_); (try (refine gate_guard (by rfl) ?_; dsimp only)); refine bx_ 9 #[.int .i64 0, .int .i64 0] 44 ?_; intro gb439 hg w33 hbox hb; replace HO_26 := Aside0.mk (Kd.R_below (rv_ HO_26) hb); have BK439 := Aside0.mk (hbox); have GW439 := gw_ hg (below_size (bv2_ HB GE429 GE431)); have GE439 := GW439; replace HB := Aside0.mk (below_step (bv2_ HB GE429 GE431) hb); have NB429_439 := nb_ hg (blk_lt (g := gb429) (o := .cells #[.int .i64 x430000_2, .int .i64 x430001_2] 23 (0, 0)) (kv_ BK429)); have NB439_429 := nc_ hg (blk_lt (g := gb429) (o := .cells #[.int .i64 x430000_2, .int .i64 x430001_2] 23 (0, 0)) (kv_ BK429)); replace BK429 := kb_ BK429 hb; have NB431_439 := nb_ hg (blk_lt (g := gb431) (o := .cells #[.int .i64 a0, .int .i64 x432001_2] 23 (0, 0)) (kv_ BK431)); have NB439_431 := nc_ hg (blk_lt (g := gb431) (o := .cells #[.int .i64 a0, .int .i64 x432001_2] 23 (0, 0)) (kv_ BK431)); replace BK431 := kb_ BK431 hb; clear hb hbox hg; have hnb34 := NB439_429.out; have hnc34 := NB429_439.out; have hnb35 := NB439_431.out; have hnc35 := NB431_439.out; obtain ⟨hcz36_0, hcz36_1, hfz36_0, hfz36_1⟩ := c2_ BK439; have hnb37 := NB429_431.out; have hnc37 := NB431_429.out; obtain ⟨hcz38_0, hcz38_1, hfz38_0, hfz38_1⟩ := c2_ BK429))
            refine bodyPost_ret (results_ct rfl _ _ gb429 23 #[.int .i64 0, .int .i64 0] (0, 0) _ rfl (by (with_reducible repeat (first | refine blk_drewN ?_ _ | refine blk_drew ?_ | refine blk_alloc ?_ _)); refine blk_put (cs := #[.int .i64 0, .int .i64 x430001_2]) ?_ 1 _ rfl; (with_reducible repeat (first | refine blk_drewN ?_ _ | refine blk_drew ?_ | refine blk_alloc ?_ _)); refine blk_put (cs := #[.int .i64 x430000_2, .int .i64 x430001_2]) ?_ 0 _ rfl; (with_reducible repeat (first | refine blk_drewN ?_ _ | refine blk_drew ?_ | refine blk_alloc ?_ _)); refine blk_far ?_ NB429_439.out _; (with_reducible repeat (first | refine blk_drewN ?_ _ | refine blk_drew ?_ | refine blk_alloc ?_ _)); refine blk_far ?_ NB429_439.out _; (with_reducible repeat (first | refine blk_drewN ?_ _ | refine blk_drew ?_ | refine blk_alloc ?_ _)); exact BK429.out) Tryd.underlying23 rfl (by kernel_rfl)) rfl ?_
            exact ⟨by first | rfl | (simp [errW_none, errW_some] <;> rfl) | (simp [*, errW_none, errW_some] <;> rfl), bv3_ HB GE429 GE431 GE439⟩
          ·rw [if_neg c19] at H
           exact absurd H (by simp)
         ·rw [if_neg c18] at H
          exact absurd H (by simp)
        ·rw [if_neg c17] at H
         have c17b0 : decide (x28_2 < (t432.length : Int)) = false := decide_eq_false c17
         clear c17
         have H' := Aside0.mk H
         clear H
         go_wp2
         go_meet
         case rel => exact ⟨_, (x430000_2), (x430001_2), (x432001_2), H', ⟨by have := HJ2.out; have := HK2.out; first | omega | exact Nat.le_refl _⟩, ⟨by (with_reducible repeat (first | refine blk_drewN ?_ _ | refine blk_drew ?_ | refine blk_alloc ?_ _)); exact BK429.out⟩, ⟨by (with_reducible repeat (first | refine blk_drewN ?_ _ | refine blk_drew ?_ | refine blk_alloc ?_ _)); exact BK431.out⟩, ⟨bv2_ HB GE429 GE431⟩⟩
    case rest =>
     clear HC9
     try clear c1
     try clear c2
     try clear p2
     try clear c3
     try clear p4
     try clear q4
     try clear hx4
     try clear c6
     try clear p6
     try clear c7
     try clear c11
     try clear c13
     try clear c13b0
     try clear c13b1
     try clear c17
     try clear c17b0
     try clear c18
     try clear c18b0
     try clear c19
     try clear c19b0
     try clear c21
     try clear c22
     try clear c22b0
     try clear c22b1
     try clear c26
     try clear c27
     try clear c31
     try clear c32
     try clear c33
     try clear c34
     try clear c35
     try clear c37
     try clear hcz12_0
     try clear hcz12_1
     try clear hcz28_0
     try clear hcz28_1
     try clear hcz36_0
     try clear hcz36_1
     try clear hcz38_0
     try clear hcz38_1
     try clear hcz8_0
     try clear hcz8_1
     try clear hfz12_0
     try clear hfz12_1
     try clear hfz28_0
     try clear hfz28_1
     try clear hfz36_0
     try clear hfz36_1
     try clear hfz38_0
     try clear hfz38_1
     try clear hfz8_0
     try clear hfz8_1
     try clear hx435_0
     try clear p2
     try clear p435
     try clear q435
     obtain ⟨kq, x430000_8, x430001_8, x432001_8, HA, HJ8, BK429, BK431, HB⟩ := hcut
     cases kq with
     | zero => exact absurd HA.out (by simp [impl_ParseAnf.j2])
     | succ kj8 =>
      have H := HA.out
      clear HA
      simp only [impl_ParseAnf.j2] at H
      replace H := Option.bind_eq_some_iff.mp H
      obtain ⟨⟨t440, t441⟩, A390, H⟩ := H
      dsimp only at H
      have A39 := Aside0.mk A390
      clear A390
      replace H := Option.bind_eq_some_iff.mp H
      obtain ⟨t443, A400, H⟩ := H
      have A40 := Aside0.mk A400
      clear A400
      by_cases c41 : t443.toList = a1.toList
      ·rw [if_pos c41] at H
       have c41b0 : (t443.toList == a1.toList) = true := beq_iff_eq.mpr c41
       have c41b1 : (t443.toList != a1.toList) = false := bne_eq_false_iff_eq.mpr c41
       clear c41
       simp only [Option.some.injEq, Prod.mk.injEq] at H
       obtain ⟨rfl, rfl, rfl⟩ := H
       have hnb42 := NB431_429.out
       have hnc42 := NB429_431.out
       obtain ⟨hcz43_0, hcz43_1, hfz43_0, hfz43_1⟩ := c2_ BK431
       go_wp2_with (first | ((with_reducible refine gate_callee (f := 34) rfl ?_); refine gl_ 50 Tryd.func34 #[.agg #[.int .i64 a0, .int .i64 x432001_8]] rfl mp_ ?_; (with_reducible refine (impl_Table_anf.calls a0 x432001_8 t440 t441 _ A39.out).mono ?_); rintro e w44 ⟨rfl, hb⟩; refine ⟨_, rfl, ?_⟩; have n0_ := kb_ BK429 hb; have n1_ := kb_ BK431 hb; have n2_ := Aside0.mk (below_step (bv2_ HB GE429 GE431) hb); clear BK429; clear BK431; clear HB; have BK429 := n0_; have BK431 := n1_; have HB := n2_; clear n0_ n1_ n2_; (try clear hb); (try clear hb2); (try clear hk); (try clear hi)) | ((with_reducible refine gate_dst (N := 11) rfl ?_); (try (refine gate_guard (by rfl) ?_; dsimp only)); refine bx_ 11 #[.int .i64 0, .int .i64 0] 23 ?_; intro gb442 hg w45 hbox hb; have n0_ := kb_ BK429 hb; have n1_ := kb_ BK431 hb; have n2_ := Aside0.mk (below_step (bv2_ HB GE429 GE431) hb); have n3_ := Aside0.mk (hbox); have n4_ := gw_ hg (below_size (bv2_ HB GE429 GE431)); have n5_ := gw_ hg (below_size (bv2_ HB GE429 GE431)); have n6_ := nb_ hg (blk_lt (g := gb429) (o := .cells #[.int .i64 x430000_8, .int .i64 x430001_8] 23 (0, 0)) (kv_ BK429)); have n7_ := nc_ hg (blk_lt (g := gb429) (o := .cells #[.int .i64 x430000_8, .int .i64 x430001_8] 23 (0, 0)) (kv_ BK429)); have n8_ := nb_ hg (blk_lt (g := gb431) (o := .cells #[.int .i64 a0, .int .i64 x432001_8] 23 (0, 0)) (kv_ BK431)); have n9_ := nc_ hg (blk_lt (g := gb431) (o := .cells #[.int .i64 a0, .int .i64 x432001_8] 23 (0, 0)) (kv_ BK431)); clear BK429; clear BK431; clear HB; have BK429 := n0_; have BK431 := n1_; have HB := n2_; have BK442 := n3_; have GW442 := n4_; have GE442 := n5_; have NB429_442 := n6_; have NB442_429 := n7_; have NB431_442 := n8_; have NB442_431 := n9_; clear n0_ n1_ n2_ n3_ n4_ n5_ n6_ n7_ n8_ n9_; clear hb hbox hg; have hnb46 := NB442_429.out; have hnc46 := NB429_442.out; have hnb47 := NB442_431.out; have hnc47 := NB431_442.out; have hcz48_0 : w45.cell? ⟨gb442, 0, none⟩ = some (.int .i64 0) := (blk_cell BK442.out 0).trans rfl; have hcz48_1 : w45.cell? ⟨gb442, 1, none⟩ = some (.int .i64 0) := (blk_cell BK442.out 1).trans rfl; have hfz48_0 := blk_frozen BK442.out 0; have hfz48_1 := blk_frozen BK442.out 1) | ((with_reducible refine gate_callee (f := 20) rfl ?_); refine gl_ 52 Tryd.func20 #[.agg #[.int .i64 t440, .int .i64 t441]] rfl mp_ ?_; (with_reducible refine (impl_FormatAnf.calls kj8 t440 t441 t443 _ A40.out).mono ?_); rintro e w49 ⟨rfl, hb⟩; refine ⟨_, rfl, ?_⟩; have n0_ := Aside0.mk (blk_below (g := gb429) (o := .cells #[.int .i64 x430000_8, .int .i64 x430001_8] 23 (0, 0)) (by (with_reducible repeat (first | refine blk_drewN ?_ _ | refine blk_drew ?_ | refine blk_alloc ?_ _)); refine blk_far ?_ NB429_442.out _; (with_reducible repeat (first | refine blk_drewN ?_ _ | refine blk_drew ?_ | refine blk_alloc ?_ _)); refine blk_far ?_ NB429_442.out _; (with_reducible repeat (first | refine blk_drewN ?_ _ | refine blk_drew ?_ | refine blk_alloc ?_ _)); exact BK429.out) hb); have n1_ := Aside0.mk (blk_below (g := gb431) (o := .cells #[.int .i64 a0, .int .i64 x432001_8] 23 (0, 0)) (by (with_reducible repeat (first | refine blk_drewN ?_ _ | refine blk_drew ?_ | refine blk_alloc ?_ _)); refine blk_far ?_ NB431_442.out _; (with_reducible repeat (first | refine blk_drewN ?_ _ | refine blk_drew ?_ | refine blk_alloc ?_ _)); refine blk_far ?_ NB431_442.out _; (with_reducible repeat (first | refine blk_drewN ?_ _ | refine blk_drew ?_ | refine blk_alloc ?_ _)); exact BK431.out) hb); have n2_ := Aside0.mk (blk_below (g := gb442) (o := .cells #[.int .i64 t440, .int .i64 t441] 23 (0, 0)) (by (with_reducible repeat (first | refine blk_drewN ?_ _ | refine blk_drew ?_ | refine blk_alloc ?_ _)); refine blk_put (cs := #[.int .i64 t440, .int .i64 0]) ?_ 1 _ rfl; (with_reducible repeat (first | refine blk_drewN ?_ _ | refine blk_drew ?_ | refine blk_alloc ?_ _)); refine blk_put (cs := #[.int .i64 0, .int .i64 0]) ?_ 0 _ rfl; (with_reducible repeat (first | refine blk_drewN ?_ _ | refine blk_drew ?_ | refine blk_alloc ?_ _)); exact BK442.out) hb); have n3_ := Aside0.mk (below_step (bv3_ HB GE429 GE431 GE442) hb); clear BK429; clear BK431; clear BK442; clear HB; have BK429 := n0_; have BK431 := n1_; have BK442 := n2_; have HB := n3_; clear n0_ n1_ n2_ n3_; (try clear hb); (try clear hb2); (try clear hk); (try clear hi); have hcz50_0 : w49.cell? ⟨gb442, 0, none⟩ = some (.int .i64 t440) := (blk_cell BK442.out 0).trans rfl; have hcz50_1 : w49.cell? ⟨gb442, 1, none⟩ = some (.int .i64 t441) := (blk_cell BK442.out 1).trans rfl; have hfz50_0 := blk_frozen BK442.out 0; have hfz50_1 := blk_frozen BK442.out 1; have hcz51_0 : w49.cell? ⟨gb429, 0, none⟩ = some (.int .i64 x430000_8) := (blk_cell BK429.out 0).trans rfl; have hcz51_1 : w49.cell? ⟨gb429, 1, none⟩ = some (.int .i64 x430001_8) := (blk_cell BK429.out 1).trans rfl; have hfz51_0 := blk_frozen BK429.out 0; have hfz51_1 := blk_frozen BK429.out 1))
       refine bodyPost_ret (results_ct rfl _ _ gb429 23 #[.int .i64 t440, .int .i64 t441] (0, 0) _ rfl (by (with_reducible repeat (first | refine blk_drewN ?_ _ | refine blk_drew ?_ | refine blk_alloc ?_ _)); refine blk_put (cs := #[.int .i64 t440, .int .i64 x430001_8]) ?_ 1 _ rfl; (with_reducible repeat (first | refine blk_drewN ?_ _ | refine blk_drew ?_ | refine blk_alloc ?_ _)); refine blk_put (cs := #[.int .i64 x430000_8, .int .i64 x430001_8]) ?_ 0 _ rfl; (with_reducible repeat (first | refine blk_drewN ?_ _ | refine blk_drew ?_ | refine blk_alloc ?_ _)); exact BK429.out) Tryd.underlying23 rfl (by kernel_rfl)) rfl ?_
       exact ⟨by first | rfl | (simp [errW_none, errW_some] <;> rfl) | (simp [*, errW_none, errW_some] <;> rfl), bv3_ HB GE429 GE431 GE442⟩
      ·rw [if_neg c41] at H
       have c41b0 : (t443.toList == a1.toList) = false := beq_eq_false_iff_ne.mpr c41
       have c41b1 : (t443.toList != a1.toList) = true := bne_iff_ne.mpr c41
       simp only [Option.some.injEq, Prod.mk.injEq] at H
       obtain ⟨rfl, rfl, rfl⟩ := H
       have hnb52 := NB431_429.out
       have hnc52 := NB429_431.out
       obtain ⟨hcz53_0, hcz53_1, hfz53_0, hfz53_1⟩ := c2_ BK431
       go_wp2_with (first | ((with_reducible refine gate_callee (f := 34) rfl ?_); refine gl_ 50 Tryd.func34 #[.agg #[.int .i64 a0, .int .i64 x432001_8]] rfl mp_ ?_; (with_reducible refine (impl_Table_anf.calls a0 x432001_8 t440 t441 _ A39.out).mono ?_); rintro e w54 ⟨rfl, hb⟩; refine ⟨_, rfl, ?_⟩; have n0_ := kb_ BK429 hb; have n1_ := kb_ BK431 hb; have n2_ := Aside0.mk (below_step (bv2_ HB GE429 GE431) hb); clear BK429; clear BK431; clear HB; have BK429 := n0_; have BK431 := n1_; have HB := n2_; clear n0_ n1_ n2_; (try clear hb); (try clear hb2); (try clear hk); (try clear hi)) | ((with_reducible refine gate_dst (N := 11) rfl ?_); (try (refine gate_guard (by rfl) ?_; dsimp only)); refine bx_ 11 #[.int .i64 0, .int .i64 0] 23 ?_; intro gb442 hg w55 hbox hb; have n0_ := kb_ BK429 hb; have n1_ := kb_ BK431 hb; have n2_ := Aside0.mk (below_step (bv2_ HB GE429 GE431) hb); have n3_ := Aside0.mk (hbox); have n4_ := gw_ hg (below_size (bv2_ HB GE429 GE431)); have n5_ := gw_ hg (below_size (bv2_ HB GE429 GE431)); have n6_ := nb_ hg (blk_lt (g := gb429) (o := .cells #[.int .i64 x430000_8, .int .i64 x430001_8] 23 (0, 0)) (kv_ BK429)); have n7_ := nc_ hg (blk_lt (g := gb429) (o := .cells #[.int .i64 x430000_8, .int .i64 x430001_8] 23 (0, 0)) (kv_ BK429)); have n8_ := nb_ hg (blk_lt (g := gb431) (o := .cells #[.int .i64 a0, .int .i64 x432001_8] 23 (0, 0)) (kv_ BK431)); have n9_ := nc_ hg (blk_lt (g := gb431) (o := .cells #[.int .i64 a0, .int .i64 x432001_8] 23 (0, 0)) (kv_ BK431)); clear BK429; clear BK431; clear HB; have BK429 := n0_; have BK431 := n1_; have HB := n2_; have BK442 := n3_; have GW442 := n4_; have GE442 := n5_; have NB429_442 := n6_; have NB442_429 := n7_; have NB431_442 := n8_; have NB442_431 := n9_; clear n0_ n1_ n2_ n3_ n4_ n5_ n6_ n7_ n8_ n9_; clear hb hbox hg; have hnb56 := NB442_429.out; have hnc56 := NB429_442.out; have hnb57 := NB442_431.out; have hnc57 := NB431_442.out; have hcz58_0 : w55.cell? ⟨gb442, 0, none⟩ = some (.int .i64 0) := (blk_cell BK442.out 0).trans rfl; have hcz58_1 : w55.cell? ⟨gb442, 1, none⟩ = some (.int .i64 0) := (blk_cell BK442.out 1).trans rfl; have hfz58_0 := blk_frozen BK442.out 0; have hfz58_1 := blk_frozen BK442.out 1) | ((with_reducible refine gate_callee (f := 20) rfl ?_); refine gl_ 52 Tryd.func20 #[.agg #[.int .i64 t440, .int .i64 t441]] rfl mp_ ?_; (with_reducible refine (impl_FormatAnf.calls kj8 t440 t441 t443 _ A40.out).mono ?_); rintro e w59 ⟨rfl, hb⟩; refine ⟨_, rfl, ?_⟩; have n0_ := Aside0.mk (blk_below (g := gb429) (o := .cells #[.int .i64 x430000_8, .int .i64 x430001_8] 23 (0, 0)) (by (with_reducible repeat (first | refine blk_drewN ?_ _ | refine blk_drew ?_ | refine blk_alloc ?_ _)); refine blk_far ?_ NB429_442.out _; (with_reducible repeat (first | refine blk_drewN ?_ _ | refine blk_drew ?_ | refine blk_alloc ?_ _)); refine blk_far ?_ NB429_442.out _; (with_reducible repeat (first | refine blk_drewN ?_ _ | refine blk_drew ?_ | refine blk_alloc ?_ _)); exact BK429.out) hb); have n1_ := Aside0.mk (blk_below (g := gb431) (o := .cells #[.int .i64 a0, .int .i64 x432001_8] 23 (0, 0)) (by (with_reducible repeat (first | refine blk_drewN ?_ _ | refine blk_drew ?_ | refine blk_alloc ?_ _)); refine blk_far ?_ NB431_442.out _; (with_reducible repeat (first | refine blk_drewN ?_ _ | refine blk_drew ?_ | refine blk_alloc ?_ _)); refine blk_far ?_ NB431_442.out _; (with_reducible repeat (first | refine blk_drewN ?_ _ | refine blk_drew ?_ | refine blk_alloc ?_ _)); exact BK431.out) hb); have n2_ := Aside0.mk (blk_below (g := gb442) (o := .cells #[.int .i64 t440, .int .i64 t441] 23 (0, 0)) (by (with_reducible repeat (first | refine blk_drewN ?_ _ | refine blk_drew ?_ | refine blk_alloc ?_ _)); refine blk_put (cs := #[.int .i64 t440, .int .i64 0]) ?_ 1 _ rfl; (with_reducible repeat (first | refine blk_drewN ?_ _ | refine blk_drew ?_ | refine blk_alloc ?_ _)); refine blk_put (cs := #[.int .i64 0, .int .i64 0]) ?_ 0 _ rfl; (with_reducible repeat (first | refine blk_drewN ?_ _ | refine blk_drew ?_ | refine blk_alloc ?_ _)); exact BK442.out) hb); have n3_ := Aside0.mk (below_step (bv3_ HB GE429 GE431 GE442) hb); clear BK429; clear BK431; clear BK442; clear HB; have BK429 := n0_; have BK431 := n1_; have BK442 := n2_; have HB := n3_; clear n0_ n1_ n2_ n3_; (try clear hb); (try clear hb2); (try clear hk); (try clear hi); have hcz60_0 : w59.cell? ⟨gb429, 0, none⟩ = some (.int .i64 x430000_8) := (blk_cell BK429.out 0).trans rfl; have hcz60_1 : w59.cell? ⟨gb429, 1, none⟩ = some (.int .i64 x430001_8) := (blk_cell BK429.out 1).trans rfl; have hfz60_0 := blk_frozen BK429.out 0; have hfz60_1 := blk_frozen BK429.out 1))
       refine bodyPost_ret (results_ct rfl _ _ gb429 23 #[.int .i64 0, .int .i64 0] (0, 0) _ rfl (by (with_reducible repeat (first | refine blk_drewN ?_ _ | refine blk_drew ?_ | refine blk_alloc ?_ _)); refine blk_put (cs := #[.int .i64 0, .int .i64 x430001_8]) ?_ 1 _ rfl; (with_reducible repeat (first | refine blk_drewN ?_ _ | refine blk_drew ?_ | refine blk_alloc ?_ _)); refine blk_put (cs := #[.int .i64 x430000_8, .int .i64 x430001_8]) ?_ 0 _ rfl; (with_reducible repeat (first | refine blk_drewN ?_ _ | refine blk_drew ?_ | refine blk_alloc ?_ _)); exact BK429.out) Tryd.underlying23 rfl (by kernel_rfl)) rfl ?_
       exact ⟨by first | rfl | (simp [errW_none, errW_some] <;> rfl) | (simp [*, errW_none, errW_some] <;> rfl), bv3_ HB GE429 GE431 GE442⟩


/-! ### laws_eqTable: function 7 -/
def laws_eqTable.f (a0_0 : Int) (a0_1 : Int) (a1_0 : Int) (a1_1 : Int) : Option (Bool) := if a0_0 = a1_0 then (if a0_1 = a1_1 then (some true) else (some false)) else (some false)
set_option maxHeartbeats 8000000 in
set_option maxRecDepth 100000 in
theorem laws_eqTable.calls (a0_0 : Int) (a0_1 : Int) (a1_0 : Int) (a1_1 : Int) (r : Bool) (w : World) (h : laws_eqTable.f a0_0 a0_1 a1_0 a1_1 = some r) :
  Calls Tryd.prog 7 #[.agg #[.int .i64 a0_0, .int .i64 a0_1], .agg #[.int .i64 a1_0, .int .i64 a1_1]] w fun e w' => e = .returned (.bool r) ∧ Below w.heap.size w w' := by
 have hu23 := Tryd.underlying23
 have HB := Aside0.mk (Below.refl w.heap.size w)
 have H : (if a0_0 = a1_0 then (if a0_1 = a1_1 then (some true) else (some false)) else (some false)) = some r := h
 clear h
 by_cases c3 : a0_0 = a1_0
 ·rw [if_pos c3] at H
  have c3b0 : (a0_0 == a1_0) = true := beq_iff_eq.mpr c3
  have c3b1 : (a0_0 != a1_0) = false := bne_eq_false_iff_eq.mpr c3
  clear c3
  by_cases c4 : a0_1 = a1_1
  ·rw [if_pos c4] at H
   have c4b0 : (a0_1 == a1_1) = true := beq_iff_eq.mpr c4
   have c4b1 : (a0_1 != a1_1) = false := bne_eq_false_iff_eq.mpr c4
   clear c4
   obtain rfl := Option.some.inj H
   go_enter Tryd.func7, Tryd.ntmps7
   go_wp2_with (first | ((with_reducible refine gate_dst (N := 2) rfl ?_); refine bx_ 2 #[.int .i64 a0_0, .int .i64 a0_1] 23 ?_; intro gb444 hg w5 hbox hb; have BK444 := Aside0.mk (hbox); have GW444 := gw_ hg (below_size (bv_ HB)); have GE444 := GW444; replace HB := Aside0.mk (below_step (bv_ HB) hb); clear hb hbox hg) | ((with_reducible refine gate_dst (N := 3) rfl ?_); refine bx_ 3 #[.int .i64 a1_0, .int .i64 a1_1] 23 ?_; intro gb445 hg w6 hbox hb; have BK445 := Aside0.mk (hbox); have GW445 := gw_ hg (below_size (bv1_ HB GE444)); have GE445 := GW445; replace HB := Aside0.mk (below_step (bv1_ HB GE444) hb); have NB444_445 := nb_ hg (blk_lt (g := gb444) (o := .cells #[.int .i64 a0_0, .int .i64 a0_1] 23 (0, 0)) (kv_ BK444)); have NB445_444 := nc_ hg (blk_lt (g := gb444) (o := .cells #[.int .i64 a0_0, .int .i64 a0_1] 23 (0, 0)) (kv_ BK444)); replace BK444 := kb_ BK444 hb; clear hb hbox hg; have hnb7 := NB444_445.out; have hnc7 := NB445_444.out; obtain ⟨hcz8_0, hcz8_1, hfz8_0, hfz8_1⟩ := c2_ BK444; obtain ⟨hcz9_0, hcz9_1, hfz9_0, hfz9_1⟩ := c2_ BK445))
   go_ret
   exact ⟨by first | rfl | (simp [errW_none, errW_some] <;> rfl) | (simp [*, errW_none, errW_some] <;> rfl), bv2_ HB GE444 GE445⟩
  ·rw [if_neg c4] at H
   have c4b0 : (a0_1 == a1_1) = false := beq_eq_false_iff_ne.mpr c4
   have c4b1 : (a0_1 != a1_1) = true := bne_iff_ne.mpr c4
   obtain rfl := Option.some.inj H
   go_enter Tryd.func7, Tryd.ntmps7
   go_wp2_with (first | ((with_reducible refine gate_dst (N := 2) rfl ?_); refine bx_ 2 #[.int .i64 a0_0, .int .i64 a0_1] 23 ?_; intro gb444 hg w10 hbox hb; have BK444 := Aside0.mk (hbox); have GW444 := gw_ hg (below_size (bv_ HB)); have GE444 := GW444; replace HB := Aside0.mk (below_step (bv_ HB) hb); clear hb hbox hg) | ((with_reducible refine gate_dst (N := 3) rfl ?_); refine bx_ 3 #[.int .i64 a1_0, .int .i64 a1_1] 23 ?_; intro gb445 hg w11 hbox hb; have BK445 := Aside0.mk (hbox); have GW445 := gw_ hg (below_size (bv1_ HB GE444)); have GE445 := GW445; replace HB := Aside0.mk (below_step (bv1_ HB GE444) hb); have NB444_445 := nb_ hg (blk_lt (g := gb444) (o := .cells #[.int .i64 a0_0, .int .i64 a0_1] 23 (0, 0)) (kv_ BK444)); have NB445_444 := nc_ hg (blk_lt (g := gb444) (o := .cells #[.int .i64 a0_0, .int .i64 a0_1] 23 (0, 0)) (kv_ BK444)); replace BK444 := kb_ BK444 hb; clear hb hbox hg; have hnb12 := NB444_445.out; have hnc12 := NB445_444.out; obtain ⟨hcz13_0, hcz13_1, hfz13_0, hfz13_1⟩ := c2_ BK444; obtain ⟨hcz14_0, hcz14_1, hfz14_0, hfz14_1⟩ := c2_ BK445))
   go_ret
   exact ⟨by first | rfl | (simp [errW_none, errW_some] <;> rfl) | (simp [*, errW_none, errW_some] <;> rfl), bv2_ HB GE444 GE445⟩
 ·rw [if_neg c3] at H
  have c3b0 : (a0_0 == a1_0) = false := beq_eq_false_iff_ne.mpr c3
  have c3b1 : (a0_0 != a1_0) = true := bne_iff_ne.mpr c3
  obtain rfl := Option.some.inj H
  go_enter Tryd.func7, Tryd.ntmps7
  go_wp2_with (first | ((with_reducible refine gate_dst (N := 2) rfl ?_); refine bx_ 2 #[.int .i64 a0_0, .int .i64 a0_1] 23 ?_; intro gb444 hg w15 hbox hb; have BK444 := Aside0.mk (hbox); have GW444 := gw_ hg (below_size (bv_ HB)); have GE444 := GW444; replace HB := Aside0.mk (below_step (bv_ HB) hb); clear hb hbox hg) | ((with_reducible refine gate_dst (N := 3) rfl ?_); refine bx_ 3 #[.int .i64 a1_0, .int .i64 a1_1] 23 ?_; intro gb445 hg w16 hbox hb; have BK445 := Aside0.mk (hbox); have GW445 := gw_ hg (below_size (bv1_ HB GE444)); have GE445 := GW445; replace HB := Aside0.mk (below_step (bv1_ HB GE444) hb); have NB444_445 := nb_ hg (blk_lt (g := gb444) (o := .cells #[.int .i64 a0_0, .int .i64 a0_1] 23 (0, 0)) (kv_ BK444)); have NB445_444 := nc_ hg (blk_lt (g := gb444) (o := .cells #[.int .i64 a0_0, .int .i64 a0_1] 23 (0, 0)) (kv_ BK444)); replace BK444 := kb_ BK444 hb; clear hb hbox hg; have hnb17 := NB444_445.out; have hnc17 := NB445_444.out; obtain ⟨hcz18_0, hcz18_1, hfz18_0, hfz18_1⟩ := c2_ BK444; obtain ⟨hcz19_0, hcz19_1, hfz19_0, hfz19_1⟩ := c2_ BK445))
  go_ret
  exact ⟨by first | rfl | (simp [errW_none, errW_some] <;> rfl) | (simp [*, errW_none, errW_some] <;> rfl), bv2_ HB GE444 GE445⟩


/-! ### laws_FnExactParseAnf: function 3 -/
def laws_FnExactParseAnf.f (k : Nat) (a0 : Int) (a1 : ByteArray) : Option (Bool) := if (a1.size : Int) > 1048576 then (some true) else ((spec_ParseAnf.f k a0 a1).bind fun bt446 => ((impl_ParseAnf.f k a0 a1).bind fun bt450 => ((laws_eqTable.f bt450.1 bt450.2.1 bt446.1 bt446.2.1).bind fun t454 => (if t454 = true then (if (bt450.2.2 != bt446.2.2) = true then (some false) else (some true)) else (some false)))))
theorem laws_FnExactParseAnf.mono : ∀ a0 a1 k, LeO (laws_FnExactParseAnf.f k a0 a1) (laws_FnExactParseAnf.f (k + 1) a0 a1) := by
 intro a0 a1 k
 unfold laws_FnExactParseAnf.f
 repeat' first
   | (with_reducible exact impl_ParseAnf.mono _ _ _)
   | (with_reducible exact spec_ParseAnf.mono _ _ _)
   | (with_reducible exact LeO.refl _)
   | (with_reducible exact LeO.none _)
   | (with_reducible refine LeO.ite ?_ ?_)
   | (with_reducible refine LeO.bind ?_ (fun _ => ?_))
   | exact impl_ParseAnf.mono _ _ _
   | exact spec_ParseAnf.mono _ _ _
   | exact LeO.none _
   | refine LeO.ite ?_ ?_
   | refine LeO.bind ?_ (fun _ => ?_)
set_option maxHeartbeats 8000000 in
set_option maxRecDepth 100000 in
theorem laws_FnExactParseAnf.calls (k : Nat) (a0 : Int) (a1 : ByteArray) (r : Bool) (w : World) (h : laws_FnExactParseAnf.f k a0 a1 = some r) :
  Calls Tryd.prog 3 #[.int .i64 a0, .string a1] w fun e w' => e = .returned (.bool r) ∧ Below w.heap.size w w' := by
 have hu23 := Tryd.underlying23
 have HB := Aside0.mk (Below.refl w.heap.size w)
 have H : (if (a1.size : Int) > 1048576 then (some true) else ((spec_ParseAnf.f k a0 a1).bind fun bt446 => ((impl_ParseAnf.f k a0 a1).bind fun bt450 => ((laws_eqTable.f bt450.1 bt450.2.1 bt446.1 bt446.2.1).bind fun t454 => (if t454 = true then (if (bt450.2.2 != bt446.2.2) = true then (some false) else (some true)) else (some false)))))) = some r := h
 clear h
 by_cases c3 : (a1.size : Int) > 1048576
 ·rw [if_pos c3] at H
  have c3b0 : decide (1048576 < (a1.size : Int)) = true := decide_eq_true c3
  have c3b1 : decide (1048576 < a1.size) = true := decide_eq_true (by omega)
  clear c3
  obtain rfl := Option.some.inj H
  go_enter Tryd.func3, Tryd.ntmps3
  go_wp2
  go_ret
  exact ⟨by first | rfl | (simp [errW_none, errW_some] <;> rfl) | (simp [*, errW_none, errW_some] <;> rfl), bv_ HB⟩
 ·rw [if_neg c3] at H
  have c3b0 : decide (1048576 < (a1.size : Int)) = false := decide_eq_false c3
  have c3b1 : decide (1048576 < a1.size) = false := decide_eq_false (by omega)
  clear c3
  replace H := Option.bind_eq_some_iff.mp H
  obtain ⟨⟨t446, t447, t448⟩, A40, H⟩ := H
  dsimp only at H
  have A4 := Aside0.mk A40
  clear A40
  replace H := Option.bind_eq_some_iff.mp H
  obtain ⟨⟨t450, t451, t452⟩, A50, H⟩ := H
  dsimp only at H
  have A5 := Aside0.mk A50
  clear A50
  replace H := Option.bind_eq_some_iff.mp H
  obtain ⟨t454, A60, H⟩ := H
  have A6 := Aside0.mk A60
  clear A60
  by_cases c7 : t454 = true
  ·subst c7
   rw [if_pos rfl] at H
   by_cases c8 : (t452 != t448) = true
   ·rw [if_pos c8] at H
    have c8b0 : (t452 != t448) = true := c8
    (try (have c8b1 : decide (t452 = t448) = false := by simpa using c8))
    (try (have c8b2 : (t452 == t448) = false := by simpa using c8))
    (try (have c8b3 : ¬ (t452 = t448) := by simpa using c8))
    clear c8
    obtain rfl := Option.some.inj H
    go_enter Tryd.func3, Tryd.ntmps3
    go_wp2_with (first | ((with_reducible refine gate_callee (f := 5) rfl ?_); refine gl_ 15 Tryd.func5 #[.int .i64 a0, .string a1] rfl mp_ ?_; (with_reducible refine (spec_ParseAnf.calls k a0 a1 t446 t447 t448 _ A4.out).mono ?_); rintro e w9 ⟨rfl, hb⟩; refine ⟨_, rfl, ?_⟩; replace HB := Aside0.mk (below_step (bv_ HB) hb); (try clear hb); (try clear hb2); (try clear hk); (try clear hi)) | ((with_reducible refine gate_dst (N := 5) rfl ?_); refine bx_ 5 #[.int .i64 0, .int .i64 0] 23 ?_; intro gb449 hg w10 hbox hb; have BK449 := Aside0.mk (hbox); have GW449 := gw_ hg (below_size (bv_ HB)); have GE449 := GW449; replace HB := Aside0.mk (below_step (bv_ HB) hb); clear hb hbox hg; obtain ⟨hcz11_0, hcz11_1, hfz11_0, hfz11_1⟩ := c2_ BK449) | ((with_reducible refine gate_callee (f := 6) rfl ?_); refine gl_ 21 Tryd.func6 #[.int .i64 a0, .string a1] rfl mp_ ?_; (with_reducible refine (impl_ParseAnf.calls k a0 a1 t450 t451 t452 _ A5.out).mono ?_); rintro e w12 ⟨rfl, hb⟩; refine ⟨_, rfl, ?_⟩; replace BK449 := Aside0.mk (blk_below (g := gb449) (o := .cells #[.int .i64 t446, .int .i64 t447] 23 (0, 0)) (by (with_reducible repeat (first | refine blk_drewN ?_ _ | refine blk_drew ?_ | refine blk_alloc ?_ _)); refine blk_put (cs := #[.int .i64 t446, .int .i64 0]) ?_ 1 _ rfl; (with_reducible repeat (first | refine blk_drewN ?_ _ | refine blk_drew ?_ | refine blk_alloc ?_ _)); refine blk_put (cs := #[.int .i64 0, .int .i64 0]) ?_ 0 _ rfl; (with_reducible repeat (first | refine blk_drewN ?_ _ | refine blk_drew ?_ | refine blk_alloc ?_ _)); exact BK449.out) hb); replace HB := Aside0.mk (below_step (bv1_ HB GE449) hb); (try clear hb); (try clear hb2); (try clear hk); (try clear hi)) | ((with_reducible refine gate_dst (N := 7) rfl ?_); refine bx_ 7 #[.int .i64 0, .int .i64 0] 23 ?_; intro gb453 hg w13 hbox hb; have BK453 := Aside0.mk (hbox); have GW453 := gw_ hg (below_size (bv1_ HB GE449)); have GE453 := GW453; replace HB := Aside0.mk (below_step (bv1_ HB GE449) hb); have NB449_453 := nb_ hg (blk_lt (g := gb449) (o := .cells #[.int .i64 t446, .int .i64 t447] 23 (0, 0)) (kv_ BK449)); have NB453_449 := nc_ hg (blk_lt (g := gb449) (o := .cells #[.int .i64 t446, .int .i64 t447] 23 (0, 0)) (kv_ BK449)); replace BK449 := kb_ BK449 hb; clear hb hbox hg; have hnb14 := NB453_449.out; have hnc14 := NB449_453.out; obtain ⟨hcz15_0, hcz15_1, hfz15_0, hfz15_1⟩ := c2_ BK453; obtain ⟨hcz16_0, hcz16_1, hfz16_0, hfz16_1⟩ := c2_ BK449) | ((with_reducible refine gate_callee (f := 7) rfl ?_); refine gl_ 26 Tryd.func7 #[.agg #[.int .i64 t450, .int .i64 t451], .agg #[.int .i64 t446, .int .i64 t447]] rfl mp_ ?_; (with_reducible refine (laws_eqTable.calls t450 t451 t446 t447 true _ A6.out).mono ?_); rintro e w17 ⟨rfl, hb⟩; refine ⟨_, rfl, ?_⟩; replace BK449 := Aside0.mk (blk_below (g := gb449) (o := .cells #[.int .i64 t446, .int .i64 t447] 23 (0, 0)) (by (with_reducible repeat (first | refine blk_drewN ?_ _ | refine blk_drew ?_ | refine blk_alloc ?_ _)); refine blk_far ?_ NB449_453.out _; (with_reducible repeat (first | refine blk_drewN ?_ _ | refine blk_drew ?_ | refine blk_alloc ?_ _)); refine blk_far ?_ NB449_453.out _; (with_reducible repeat (first | refine blk_drewN ?_ _ | refine blk_drew ?_ | refine blk_alloc ?_ _)); exact BK449.out) hb); replace BK453 := Aside0.mk (blk_below (g := gb453) (o := .cells #[.int .i64 t450, .int .i64 t451] 23 (0, 0)) (by (with_reducible repeat (first | refine blk_drewN ?_ _ | refine blk_drew ?_ | refine blk_alloc ?_ _)); refine blk_put (cs := #[.int .i64 t450, .int .i64 0]) ?_ 1 _ rfl; (with_reducible repeat (first | refine blk_drewN ?_ _ | refine blk_drew ?_ | refine blk_alloc ?_ _)); refine blk_put (cs := #[.int .i64 0, .int .i64 0]) ?_ 0 _ rfl; (with_reducible repeat (first | refine blk_drewN ?_ _ | refine blk_drew ?_ | refine blk_alloc ?_ _)); exact BK453.out) hb); replace HB := Aside0.mk (below_step (bv2_ HB GE449 GE453) hb); (try clear hb); (try clear hb2); (try clear hk); (try clear hi)))
    go_ret
    exact ⟨by first | rfl | (simp [errW_none, errW_some] <;> rfl) | (simp [*, errW_none, errW_some] <;> rfl), bv2_ HB GE449 GE453⟩
   ·rw [if_neg c8] at H
    have c8b0 : (t452 != t448) = false := by simpa using c8
    (try (have c8b1 : decide (t452 = t448) = true := by simpa using c8))
    (try (have c8b2 : (t452 == t448) = true := by simpa using c8))
    clear c8
    obtain rfl := Option.some.inj H
    go_enter Tryd.func3, Tryd.ntmps3
    go_wp2_with (first | ((with_reducible refine gate_callee (f := 5) rfl ?_); refine gl_ 15 Tryd.func5 #[.int .i64 a0, .string a1] rfl mp_ ?_; (with_reducible refine (spec_ParseAnf.calls k a0 a1 t446 t447 t448 _ A4.out).mono ?_); rintro e w18 ⟨rfl, hb⟩; refine ⟨_, rfl, ?_⟩; replace HB := Aside0.mk (below_step (bv_ HB) hb); (try clear hb); (try clear hb2); (try clear hk); (try clear hi)) | ((with_reducible refine gate_dst (N := 5) rfl ?_); refine bx_ 5 #[.int .i64 0, .int .i64 0] 23 ?_; intro gb449 hg w19 hbox hb; have BK449 := Aside0.mk (hbox); have GW449 := gw_ hg (below_size (bv_ HB)); have GE449 := GW449; replace HB := Aside0.mk (below_step (bv_ HB) hb); clear hb hbox hg; obtain ⟨hcz20_0, hcz20_1, hfz20_0, hfz20_1⟩ := c2_ BK449) | ((with_reducible refine gate_callee (f := 6) rfl ?_); refine gl_ 21 Tryd.func6 #[.int .i64 a0, .string a1] rfl mp_ ?_; (with_reducible refine (impl_ParseAnf.calls k a0 a1 t450 t451 t452 _ A5.out).mono ?_); rintro e w21 ⟨rfl, hb⟩; refine ⟨_, rfl, ?_⟩; replace BK449 := Aside0.mk (blk_below (g := gb449) (o := .cells #[.int .i64 t446, .int .i64 t447] 23 (0, 0)) (by (with_reducible repeat (first | refine blk_drewN ?_ _ | refine blk_drew ?_ | refine blk_alloc ?_ _)); refine blk_put (cs := #[.int .i64 t446, .int .i64 0]) ?_ 1 _ rfl; (with_reducible repeat (first | refine blk_drewN ?_ _ | refine blk_drew ?_ | refine blk_alloc ?_ _)); refine blk_put (cs := #[.int .i64 0, .int .i64 0]) ?_ 0 _ rfl; (with_reducible repeat (first | refine blk_drewN ?_ _ | refine blk_drew ?_ | refine blk_alloc ?_ _)); exact BK449.out) hb); replace HB := Aside0.mk (below_step (bv1_ HB GE449) hb); (try clear hb); (try clear hb2); (try clear hk); (try clear hi)) | ((with_reducible refine gate_dst (N := 7) rfl ?_); refine bx_ 7 #[.int .i64 0, .int .i64 0] 23 ?_; intro gb453 hg w22 hbox hb; have BK453 := Aside0.mk (hbox); have GW453 := gw_ hg (below_size (bv1_ HB GE449)); have GE453 := GW453; replace HB := Aside0.mk (below_step (bv1_ HB GE449) hb); have NB449_453 := nb_ hg (blk_lt (g := gb449) (o := .cells #[.int .i64 t446, .int .i64 t447] 23 (0, 0)) (kv_ BK449)); have NB453_449 := nc_ hg (blk_lt (g := gb449) (o := .cells #[.int .i64 t446, .int .i64 t447] 23 (0, 0)) (kv_ BK449)); replace BK449 := kb_ BK449 hb; clear hb hbox hg; have hnb23 := NB453_449.out; have hnc23 := NB449_453.out; obtain ⟨hcz24_0, hcz24_1, hfz24_0, hfz24_1⟩ := c2_ BK453; obtain ⟨hcz25_0, hcz25_1, hfz25_0, hfz25_1⟩ := c2_ BK449) | ((with_reducible refine gate_callee (f := 7) rfl ?_); refine gl_ 26 Tryd.func7 #[.agg #[.int .i64 t450, .int .i64 t451], .agg #[.int .i64 t446, .int .i64 t447]] rfl mp_ ?_; (with_reducible refine (laws_eqTable.calls t450 t451 t446 t447 true _ A6.out).mono ?_); rintro e w26 ⟨rfl, hb⟩; refine ⟨_, rfl, ?_⟩; replace BK449 := Aside0.mk (blk_below (g := gb449) (o := .cells #[.int .i64 t446, .int .i64 t447] 23 (0, 0)) (by (with_reducible repeat (first | refine blk_drewN ?_ _ | refine blk_drew ?_ | refine blk_alloc ?_ _)); refine blk_far ?_ NB449_453.out _; (with_reducible repeat (first | refine blk_drewN ?_ _ | refine blk_drew ?_ | refine blk_alloc ?_ _)); refine blk_far ?_ NB449_453.out _; (with_reducible repeat (first | refine blk_drewN ?_ _ | refine blk_drew ?_ | refine blk_alloc ?_ _)); exact BK449.out) hb); replace BK453 := Aside0.mk (blk_below (g := gb453) (o := .cells #[.int .i64 t450, .int .i64 t451] 23 (0, 0)) (by (with_reducible repeat (first | refine blk_drewN ?_ _ | refine blk_drew ?_ | refine blk_alloc ?_ _)); refine blk_put (cs := #[.int .i64 t450, .int .i64 0]) ?_ 1 _ rfl; (with_reducible repeat (first | refine blk_drewN ?_ _ | refine blk_drew ?_ | refine blk_alloc ?_ _)); refine blk_put (cs := #[.int .i64 0, .int .i64 0]) ?_ 0 _ rfl; (with_reducible repeat (first | refine blk_drewN ?_ _ | refine blk_drew ?_ | refine blk_alloc ?_ _)); exact BK453.out) hb); replace HB := Aside0.mk (below_step (bv2_ HB GE449 GE453) hb); (try clear hb); (try clear hb2); (try clear hk); (try clear hi)))
    go_ret
    exact ⟨by first | rfl | (simp [errW_none, errW_some] <;> rfl) | (simp [*, errW_none, errW_some] <;> rfl), bv2_ HB GE449 GE453⟩
  ·replace c7 := Bool.eq_false_iff.mpr c7
   subst c7
   rw [if_neg (show ¬ (false = true) by decide)] at H
   obtain rfl := Option.some.inj H
   go_enter Tryd.func3, Tryd.ntmps3
   go_wp2_with (first | ((with_reducible refine gate_callee (f := 5) rfl ?_); refine gl_ 15 Tryd.func5 #[.int .i64 a0, .string a1] rfl mp_ ?_; (with_reducible refine (spec_ParseAnf.calls k a0 a1 t446 t447 t448 _ A4.out).mono ?_); rintro e w27 ⟨rfl, hb⟩; refine ⟨_, rfl, ?_⟩; replace HB := Aside0.mk (below_step (bv_ HB) hb); (try clear hb); (try clear hb2); (try clear hk); (try clear hi)) | ((with_reducible refine gate_dst (N := 5) rfl ?_); refine bx_ 5 #[.int .i64 0, .int .i64 0] 23 ?_; intro gb449 hg w28 hbox hb; have BK449 := Aside0.mk (hbox); have GW449 := gw_ hg (below_size (bv_ HB)); have GE449 := GW449; replace HB := Aside0.mk (below_step (bv_ HB) hb); clear hb hbox hg; obtain ⟨hcz29_0, hcz29_1, hfz29_0, hfz29_1⟩ := c2_ BK449) | ((with_reducible refine gate_callee (f := 6) rfl ?_); refine gl_ 21 Tryd.func6 #[.int .i64 a0, .string a1] rfl mp_ ?_; (with_reducible refine (impl_ParseAnf.calls k a0 a1 t450 t451 t452 _ A5.out).mono ?_); rintro e w30 ⟨rfl, hb⟩; refine ⟨_, rfl, ?_⟩; replace BK449 := Aside0.mk (blk_below (g := gb449) (o := .cells #[.int .i64 t446, .int .i64 t447] 23 (0, 0)) (by (with_reducible repeat (first | refine blk_drewN ?_ _ | refine blk_drew ?_ | refine blk_alloc ?_ _)); refine blk_put (cs := #[.int .i64 t446, .int .i64 0]) ?_ 1 _ rfl; (with_reducible repeat (first | refine blk_drewN ?_ _ | refine blk_drew ?_ | refine blk_alloc ?_ _)); refine blk_put (cs := #[.int .i64 0, .int .i64 0]) ?_ 0 _ rfl; (with_reducible repeat (first | refine blk_drewN ?_ _ | refine blk_drew ?_ | refine blk_alloc ?_ _)); exact BK449.out) hb); replace HB := Aside0.mk (below_step (bv1_ HB GE449) hb); (try clear hb); (try clear hb2); (try clear hk); (try clear hi)) | ((with_reducible refine gate_dst (N := 7) rfl ?_); refine bx_ 7 #[.int .i64 0, .int .i64 0] 23 ?_; intro gb453 hg w31 hbox hb; have BK453 := Aside0.mk (hbox); have GW453 := gw_ hg (below_size (bv1_ HB GE449)); have GE453 := GW453; replace HB := Aside0.mk (below_step (bv1_ HB GE449) hb); have NB449_453 := nb_ hg (blk_lt (g := gb449) (o := .cells #[.int .i64 t446, .int .i64 t447] 23 (0, 0)) (kv_ BK449)); have NB453_449 := nc_ hg (blk_lt (g := gb449) (o := .cells #[.int .i64 t446, .int .i64 t447] 23 (0, 0)) (kv_ BK449)); replace BK449 := kb_ BK449 hb; clear hb hbox hg; have hnb32 := NB453_449.out; have hnc32 := NB449_453.out; obtain ⟨hcz33_0, hcz33_1, hfz33_0, hfz33_1⟩ := c2_ BK453; obtain ⟨hcz34_0, hcz34_1, hfz34_0, hfz34_1⟩ := c2_ BK449) | ((with_reducible refine gate_callee (f := 7) rfl ?_); refine gl_ 26 Tryd.func7 #[.agg #[.int .i64 t450, .int .i64 t451], .agg #[.int .i64 t446, .int .i64 t447]] rfl mp_ ?_; (with_reducible refine (laws_eqTable.calls t450 t451 t446 t447 false _ A6.out).mono ?_); rintro e w35 ⟨rfl, hb⟩; refine ⟨_, rfl, ?_⟩; replace BK449 := Aside0.mk (blk_below (g := gb449) (o := .cells #[.int .i64 t446, .int .i64 t447] 23 (0, 0)) (by (with_reducible repeat (first | refine blk_drewN ?_ _ | refine blk_drew ?_ | refine blk_alloc ?_ _)); refine blk_far ?_ NB449_453.out _; (with_reducible repeat (first | refine blk_drewN ?_ _ | refine blk_drew ?_ | refine blk_alloc ?_ _)); refine blk_far ?_ NB449_453.out _; (with_reducible repeat (first | refine blk_drewN ?_ _ | refine blk_drew ?_ | refine blk_alloc ?_ _)); exact BK449.out) hb); replace BK453 := Aside0.mk (blk_below (g := gb453) (o := .cells #[.int .i64 t450, .int .i64 t451] 23 (0, 0)) (by (with_reducible repeat (first | refine blk_drewN ?_ _ | refine blk_drew ?_ | refine blk_alloc ?_ _)); refine blk_put (cs := #[.int .i64 t450, .int .i64 0]) ?_ 1 _ rfl; (with_reducible repeat (first | refine blk_drewN ?_ _ | refine blk_drew ?_ | refine blk_alloc ?_ _)); refine blk_put (cs := #[.int .i64 0, .int .i64 0]) ?_ 0 _ rfl; (with_reducible repeat (first | refine blk_drewN ?_ _ | refine blk_drew ?_ | refine blk_alloc ?_ _)); exact BK453.out) hb); replace HB := Aside0.mk (below_step (bv2_ HB GE449 GE453) hb); (try clear hb); (try clear hb2); (try clear hk); (try clear hi)))
   go_ret
   exact ⟨by first | rfl | (simp [errW_none, errW_some] <;> rfl) | (simp [*, errW_none, errW_some] <;> rfl), bv2_ HB GE449 GE453⟩

/-- THE ONE PURE STATEMENT of laws_FnExactParseAnf: yours. -/
def laws_FnExactParseAnf.Pure : Prop := ∀ (a0 : Int) (a1 : ByteArray), (Lit.int .i64 a0).wf = true → a1.size ≤ 140737488351232 → ∃ k, laws_FnExactParseAnf.f k a0 a1 = some true
theorem laws_FnExactParseAnf.walk (P : laws_FnExactParseAnf.Pure) (a0 : Int) (a1 : ByteArray) (w : World) (w0 : (Lit.int .i64 a0).wf = true) (w1 : a1.size ≤ 140737488351232) :
  Calls Tryd.prog 3 #[.int .i64 a0, .string a1] w fun e w' => e = .returned (.bool true) ∧ Below w.heap.size w w' := by
 obtain ⟨k, h⟩ := P a0 a1 w0 w1
 refine (laws_FnExactParseAnf.calls k a0 a1 true w h).mono ?_
 rintro e w' ⟨rfl, hd⟩
 exact ⟨rfl, hd⟩


end Go.Proofs.YteljkpglgjjnlaaDoor.P
