-- Out of the translation, by this session's program over the printer's; Lean checks it.
import Derived.Test.YteljkpglgjjnlaaDoorSh
import Derived.Test.YteljkpglgjjnlaaDoorQ0
import Derived.Test.YteljkpglgjjnlaaDoorQ1
import Derived.Test.YteljkpglgjjnlaaDoorQ2
namespace Go.Proofs.YteljkpglgjjnlaaDoor.P
open Go.RowKit Go.Proofs.YteljkpglgjjnlaaDoorW.PrintWords Go.Proofs.YteljkpglgjjnlaaDoorW.PrintLast Go.Proofs.YteljkpglgjjnlaaDoorW.PrintMore
attribute [local go_sem] max2_int min2_int max_two min_two max_three min_three max_four min_four
set_option linter.unusedVariables false
set_option linter.unusedSimpArgs false

/-! ### spec_ParseAnf: function 5 -/
mutual
def spec_ParseAnf.j0 : Nat → Int → ByteArray → Bool → Option (Int × Int × Bool)
 | 0, _, _, _ => none
 | k + 1, x0, x1, x19 => if x19 = true then (some (0, 0, false)) else (spec_ParseAnf.l0 k x0 x1 0 (⟨#[]⟩ : ByteArray) 0)
def spec_ParseAnf.l0 : Nat → Int → ByteArray → Int → ByteArray → Int → Option (Int × Int × Bool)
 | 0, _, _, _, _, _ => none
 | k + 1, x0, x1, x6, x7, x8 => if x8 ≤ (x1.size : Int) then (spec_ParseAnf.j2 k x0 x1 x6 x7 x8 (x1.toList != ([48] : List UInt8))) else (spec_ParseAnf.j2 k x0 x1 x6 x7 x8 false)
def spec_ParseAnf.j2 : Nat → Int → ByteArray → Int → ByteArray → Int → Bool → Option (Int × Int × Bool)
 | 0, _, _, _, _, _, _ => none
 | k + 1, x0, x1, x6, x7, x8, x28 => if x28 = true then (if x8 < (x1.size : Int) then (if 0 ≤ x8 then (spec_ParseAnf.j3 k x0 x1 x6 x7 x8 ((bt x1 x8) != 43)) else (none)) else (spec_ParseAnf.j3 k x0 x1 x6 x7 x8 false)) else ((spec_l11Anf.f k x0 x6).bind fun t204 => ((spec_FormatAnf.f k x0 t204).bind fun t206 => (if t206.toList = x1.toList then (some (x0, t204, true)) else (some (0, 0, false)))))
def spec_ParseAnf.j3 : Nat → Int → ByteArray → Int → ByteArray → Int → Bool → Option (Int × Int × Bool)
 | 0, _, _, _, _, _, _ => none
 | k + 1, x0, x1, x6, x7, x8, x40 => if x40 = true then (if 0 ≤ x8 then (if x8 ≤ (wrap64 (x8 + 1)) then (if (wrap64 (x8 + 1)) ≤ (x1.size : Int) then (if x7.size + (x1.extract (x8 : Int).toNat ((wrap64 (x8 + 1)) : Int).toNat).size ≤ 9223372036854775807 then (spec_ParseAnf.l0 k x0 x1 x6 (x7 ++ (x1.extract (x8 : Int).toNat ((wrap64 (x8 + 1)) : Int).toNat)) (wrap64 (x8 + 1))) else (none)) else (none)) else (none)) else (none)) else ((spec_ParseTerm.f k x0 x7).bind fun bt200 => (if bt200.2.2 = true then (if bt200.1 = bt200.2.1 then (if 0 ≤ bt200.1 then (spec_ParseAnf.l0 k x0 x1 (Go.bits .or .i64 x6 (shl .i64 1 bt200.1)) (⟨#[]⟩ : ByteArray) (wrap64 (x8 + 1))) else (none)) else (some (0, 0, false))) else (some (0, 0, false))))
end
def spec_ParseAnf.f (k : Nat) (a0 : Int) (a1 : ByteArray) : Option (Int × Int × Bool) := (spec_l1In.f a0 0 5).bind fun t199 => (if t199 = true then (spec_ParseAnf.j0 k a0 a1 (decide ((a1.size : Int) > 200))) else (spec_ParseAnf.j0 k a0 a1 true))
theorem spec_ParseAnf.mono_l : ∀ k, (∀ y0 y1 y2, LeO (spec_ParseAnf.j0 k y0 y1 y2) (spec_ParseAnf.j0 (k + 1) y0 y1 y2)) ∧ (∀ y0 y1 y2 y3 y4, LeO (spec_ParseAnf.l0 k y0 y1 y2 y3 y4) (spec_ParseAnf.l0 (k + 1) y0 y1 y2 y3 y4)) ∧ (∀ y0 y1 y2 y3 y4 y5, LeO (spec_ParseAnf.j2 k y0 y1 y2 y3 y4 y5) (spec_ParseAnf.j2 (k + 1) y0 y1 y2 y3 y4 y5)) ∧ (∀ y0 y1 y2 y3 y4 y5, LeO (spec_ParseAnf.j3 k y0 y1 y2 y3 y4 y5) (spec_ParseAnf.j3 (k + 1) y0 y1 y2 y3 y4 y5))
 | 0 => ⟨fun _ _ _ r h => by simp [spec_ParseAnf.j0] at h, fun _ _ _ _ _ r h => by simp [spec_ParseAnf.l0] at h, fun _ _ _ _ _ _ r h => by simp [spec_ParseAnf.j2] at h, fun _ _ _ _ _ _ r h => by simp [spec_ParseAnf.j3] at h⟩
 | k + 1 => by
  obtain ⟨ih0, ih1, ih2, ih3⟩ := spec_ParseAnf.mono_l k
  refine ⟨?_, ?_, ?_, ?_⟩
  ·intro y0 y1 y2
   unfold spec_ParseAnf.j0
   repeat' first
   | (with_reducible exact ih0 _ _ _)
   | (with_reducible exact ih1 _ _ _ _ _)
   | (with_reducible exact ih2 _ _ _ _ _ _)
   | (with_reducible exact ih3 _ _ _ _ _ _)
   | (with_reducible exact spec_FormatAnf.mono _ _ _)
   | (with_reducible exact spec_ParseTerm.mono _ _ _)
   | (with_reducible exact spec_l11Anf.mono _ _ _)
   | (with_reducible exact LeO.refl _)
   | (with_reducible exact LeO.none _)
   | (with_reducible refine LeO.ite ?_ ?_)
   | (with_reducible refine LeO.bind ?_ (fun _ => ?_))
   | exact ih0 _ _ _
   | exact ih1 _ _ _ _ _
   | exact ih2 _ _ _ _ _ _
   | exact ih3 _ _ _ _ _ _
   | exact spec_FormatAnf.mono _ _ _
   | exact spec_ParseTerm.mono _ _ _
   | exact spec_l11Anf.mono _ _ _
   | exact LeO.none _
   | refine LeO.ite ?_ ?_
   | refine LeO.bind ?_ (fun _ => ?_)
  ·intro y0 y1 y2 y3 y4
   unfold spec_ParseAnf.l0
   repeat' first
   | (with_reducible exact ih0 _ _ _)
   | (with_reducible exact ih1 _ _ _ _ _)
   | (with_reducible exact ih2 _ _ _ _ _ _)
   | (with_reducible exact ih3 _ _ _ _ _ _)
   | (with_reducible exact spec_FormatAnf.mono _ _ _)
   | (with_reducible exact spec_ParseTerm.mono _ _ _)
   | (with_reducible exact spec_l11Anf.mono _ _ _)
   | (with_reducible exact LeO.refl _)
   | (with_reducible exact LeO.none _)
   | (with_reducible refine LeO.ite ?_ ?_)
   | (with_reducible refine LeO.bind ?_ (fun _ => ?_))
   | exact ih0 _ _ _
   | exact ih1 _ _ _ _ _
   | exact ih2 _ _ _ _ _ _
   | exact ih3 _ _ _ _ _ _
   | exact spec_FormatAnf.mono _ _ _
   | exact spec_ParseTerm.mono _ _ _
   | exact spec_l11Anf.mono _ _ _
   | exact LeO.none _
   | refine LeO.ite ?_ ?_
   | refine LeO.bind ?_ (fun _ => ?_)
  ·intro y0 y1 y2 y3 y4 y5
   unfold spec_ParseAnf.j2
   repeat' first
   | (with_reducible exact ih0 _ _ _)
   | (with_reducible exact ih1 _ _ _ _ _)
   | (with_reducible exact ih2 _ _ _ _ _ _)
   | (with_reducible exact ih3 _ _ _ _ _ _)
   | (with_reducible exact spec_FormatAnf.mono _ _ _)
   | (with_reducible exact spec_ParseTerm.mono _ _ _)
   | (with_reducible exact spec_l11Anf.mono _ _ _)
   | (with_reducible exact LeO.refl _)
   | (with_reducible exact LeO.none _)
   | (with_reducible refine LeO.ite ?_ ?_)
   | (with_reducible refine LeO.bind ?_ (fun _ => ?_))
   | exact ih0 _ _ _
   | exact ih1 _ _ _ _ _
   | exact ih2 _ _ _ _ _ _
   | exact ih3 _ _ _ _ _ _
   | exact spec_FormatAnf.mono _ _ _
   | exact spec_ParseTerm.mono _ _ _
   | exact spec_l11Anf.mono _ _ _
   | exact LeO.none _
   | refine LeO.ite ?_ ?_
   | refine LeO.bind ?_ (fun _ => ?_)
  ·intro y0 y1 y2 y3 y4 y5
   unfold spec_ParseAnf.j3
   repeat' first
   | (with_reducible exact ih0 _ _ _)
   | (with_reducible exact ih1 _ _ _ _ _)
   | (with_reducible exact ih2 _ _ _ _ _ _)
   | (with_reducible exact ih3 _ _ _ _ _ _)
   | (with_reducible exact spec_FormatAnf.mono _ _ _)
   | (with_reducible exact spec_ParseTerm.mono _ _ _)
   | (with_reducible exact spec_l11Anf.mono _ _ _)
   | (with_reducible exact LeO.refl _)
   | (with_reducible exact LeO.none _)
   | (with_reducible refine LeO.ite ?_ ?_)
   | (with_reducible refine LeO.bind ?_ (fun _ => ?_))
   | exact ih0 _ _ _
   | exact ih1 _ _ _ _ _
   | exact ih2 _ _ _ _ _ _
   | exact ih3 _ _ _ _ _ _
   | exact spec_FormatAnf.mono _ _ _
   | exact spec_ParseTerm.mono _ _ _
   | exact spec_l11Anf.mono _ _ _
   | exact LeO.none _
   | refine LeO.ite ?_ ?_
   | refine LeO.bind ?_ (fun _ => ?_)
theorem spec_ParseAnf.mono : ∀ a0 a1 k, LeO (spec_ParseAnf.f k a0 a1) (spec_ParseAnf.f (k + 1) a0 a1) := by
 intro a0 a1 k
 obtain ⟨ih0, ih1, ih2, ih3⟩ := spec_ParseAnf.mono_l k
 unfold spec_ParseAnf.f
 repeat' first
   | (with_reducible exact ih0 _ _ _)
   | (with_reducible exact ih1 _ _ _ _ _)
   | (with_reducible exact ih2 _ _ _ _ _ _)
   | (with_reducible exact ih3 _ _ _ _ _ _)
   | (with_reducible exact spec_FormatAnf.mono _ _ _)
   | (with_reducible exact spec_ParseTerm.mono _ _ _)
   | (with_reducible exact spec_l11Anf.mono _ _ _)
   | (with_reducible exact LeO.refl _)
   | (with_reducible exact LeO.none _)
   | (with_reducible refine LeO.ite ?_ ?_)
   | (with_reducible refine LeO.bind ?_ (fun _ => ?_))
   | exact ih0 _ _ _
   | exact ih1 _ _ _ _ _
   | exact ih2 _ _ _ _ _ _
   | exact ih3 _ _ _ _ _ _
   | exact spec_FormatAnf.mono _ _ _
   | exact spec_ParseTerm.mono _ _ _
   | exact spec_l11Anf.mono _ _ _
   | exact LeO.none _
   | refine LeO.ite ?_ ?_
   | refine LeO.bind ?_ (fun _ => ?_)
set_option maxHeartbeats 8000000 in
set_option maxRecDepth 100000 in
theorem spec_ParseAnf.calls (k : Nat) (a0 : Int) (a1 : ByteArray) (r1 : Int) (r2 : Int) (r3 : Bool) (w : World) (h : spec_ParseAnf.f k a0 a1 = some (r1, r2, r3)) :
  Calls Tryd.prog 5 #[.int .i64 a0, .string a1] w fun e w' => e = .returned (.tuple #[.agg #[.int .i64 r1, .int .i64 r2], .bool r3]) ∧ Below w.heap.size w w' := by
 have hu23 := Tryd.underlying23
 have hu44 := Tryd.underlying44
 have HB := Aside0.mk (Below.refl w.heap.size w)
 have H : ((spec_l1In.f a0 0 5).bind fun t199 => (if t199 = true then (spec_ParseAnf.j0 k a0 a1 (decide ((a1.size : Int) > 200))) else (spec_ParseAnf.j0 k a0 a1 true))) = some (r1, r2, r3) := h
 clear h
 have HC3 := Aside0.mk H
 clear H
 go_enter Tryd.func5, Tryd.ntmps5
 go_upto_region 1 with (first | ((with_reducible refine gate_dst (N := 4) rfl ?_); (try (refine gate_guard (by rfl) ?_; dsimp only)); refine bx_ 4 #[.int .i64 0, .int .i64 0] 23 ?_; intro gb198 hg w4 hbox hb; have n0_ := Aside0.mk (below_step (bv_ HB) hb); have n1_ := Aside0.mk (hbox); have n2_ := gw_ hg (below_size (bv_ HB)); have n3_ := gw_ hg (below_size (bv_ HB)); clear HB; have HB := n0_; have BK198 := n1_; have GW198 := n2_; have GE198 := n3_; clear n0_ n1_ n2_ n3_; clear hb hbox hg))
 (try simp only [Act.put, List.setIfInBounds_toArray, List.set_cons_zero, List.set_cons_succ])
 go_cut [19] (fun v19 wc => ∃ (kq : Nat) (x19_2 : Bool), v19 = .bool x19_2 ∧ Aside0 (spec_ParseAnf.j0 kq a0 a1 x19_2 = some (r1, r2, r3)) ∧ Aside0 (kq ≤ k) ∧ Aside0 (wc.heap[gb198]? = some (.cells #[.int .i64 0, .int .i64 0] 23 (0, 0))) ∧ Aside0 (Below w.heap.size w wc))
 case first =>
  have H := HC3.out
  clear HC3
  replace H := Option.bind_eq_some_iff.mp H
  obtain ⟨t199, A50, H⟩ := H
  have A5 := Aside0.mk A50
  clear A50
  by_cases c6 : t199 = true
  ·subst c6
   rw [if_pos rfl] at H
   have H' := Aside0.mk H
   clear H
   go_wp2_with (first | ((with_reducible refine gate_callee (f := 28) rfl ?_); refine gl_ 13 Tryd.func28 #[.int .i64 a0, .int .i64 0, .int .i64 5] rfl mp_ ?_; (with_reducible refine (spec_l1In.calls a0 0 5 true _ A5.out).mono ?_); rintro e w' ⟨rfl, ⟨nd, rfl⟩⟩; refine ⟨_, rfl, ?_⟩))
   go_meet
   case rel => exact ⟨_, (decide ((a1.size : Int) > 200)), (by first | rfl | (simp; done) | (simp [*]; done)), H', ⟨by first | omega | exact Nat.le_refl _⟩, ⟨by (with_reducible repeat (first | refine blk_drewN ?_ _ | refine blk_drew ?_ | refine blk_alloc ?_ _)); exact BK198.out⟩, ⟨bv1_ HB GE198⟩⟩
  ·replace c6 := Bool.eq_false_iff.mpr c6
   subst c6
   rw [if_neg (show ¬ (false = true) by decide)] at H
   have H' := Aside0.mk H
   clear H
   go_wp2_with (first | ((with_reducible refine gate_callee (f := 28) rfl ?_); refine gl_ 13 Tryd.func28 #[.int .i64 a0, .int .i64 0, .int .i64 5] rfl mp_ ?_; (with_reducible refine (spec_l1In.calls a0 0 5 false _ A5.out).mono ?_); rintro e w' ⟨rfl, ⟨nd, rfl⟩⟩; refine ⟨_, rfl, ?_⟩))
   go_meet
   case rel => exact ⟨_, (true), (by first | rfl | (simp; done) | (simp [*]; done)), H', ⟨by first | omega | exact Nat.le_refl _⟩, ⟨by (with_reducible repeat (first | refine blk_drewN ?_ _ | refine blk_drew ?_ | refine blk_alloc ?_ _)); exact BK198.out⟩, ⟨bv1_ HB GE198⟩⟩
 case rest =>
  clear HC3
  try clear c2
  try clear p2
  try clear c5
  try clear c6
  obtain ⟨kq, x19_2, rfl, HA, HJ2, BK198, HB⟩ := hcut
  cases kq with
  | zero => exact absurd HA.out (by simp [spec_ParseAnf.j0])
  | succ kj2 =>
   have H := HA.out
   clear HA
   simp only [spec_ParseAnf.j0] at H
   by_cases c7 : x19_2 = true
   ·subst c7
    rw [if_pos rfl] at H
    simp only [Option.some.injEq, Prod.mk.injEq] at H
    obtain ⟨rfl, rfl, rfl⟩ := H
    obtain ⟨hcz8_0, hcz8_1, hfz8_0, hfz8_1⟩ := c2_ BK198
    go_wp2
    refine bodyPost_ret (results_ct rfl _ _ gb198 23 #[.int .i64 0, .int .i64 0] (0, 0) _ rfl (by (with_reducible repeat (first | refine blk_drewN ?_ _ | refine blk_drew ?_ | refine blk_alloc ?_ _)); refine blk_put (cs := #[.int .i64 0, .int .i64 0]) ?_ 1 _ rfl; (with_reducible repeat (first | refine blk_drewN ?_ _ | refine blk_drew ?_ | refine blk_alloc ?_ _)); refine blk_put (cs := #[.int .i64 0, .int .i64 0]) ?_ 0 _ rfl; (with_reducible repeat (first | refine blk_drewN ?_ _ | refine blk_drew ?_ | refine blk_alloc ?_ _)); exact BK198.out) Tryd.underlying23 rfl (by kernel_rfl)) rfl ?_
    exact ⟨er_, bv1_ HB GE198⟩
   ·replace c7 := Bool.eq_false_iff.mpr c7
    subst c7
    rw [if_neg (show ¬ (false = true) by decide)] at H
    have H' := Aside0.mk H
    clear H
    go_wp2
    go_loopg [6, 7, 8] kj2 (fun kq v6 v7 v8 w' => ∃ (x6_2 : Int) (x7_2 : ByteArray) (x8_2 : Int) (x199000_2 : Int) (x199001_2 : Int), v6 = .int .i64 x6_2 ∧ v7 = .string x7_2 ∧ v8 = .int .i64 x8_2 ∧ Aside0 (spec_ParseAnf.l0 kq a0 a1 x6_2 x7_2 x8_2 = some (r1, r2, r3)) ∧ Aside0 (kq ≤ kj2) ∧ Aside0 (w'.heap[gb198]? = some (.cells #[.int .i64 x199000_2, .int .i64 x199001_2] 23 (0, 0))) ∧ Aside0 (Below w.heap.size w w'))
    case atStart => exact ⟨(0), ((⟨#[]⟩ : ByteArray)), (0), (0), (0), (by first | rfl | (simp; done) | (simp [*]; done)), (by first | rfl | (simp; done) | (simp [*]; done)), (by first | rfl | (simp; done) | (simp [*]; done)), H', ⟨Nat.le_refl _⟩, ⟨by (with_reducible repeat (first | refine blk_drewN ?_ _ | refine blk_drew ?_ | refine blk_alloc ?_ _)); exact BK198.out⟩, ⟨bv1_ HB GE198⟩⟩
    case round =>
     clear H'
     try clear c2
     try clear p2
     try clear c5
     try clear c6
     try clear c7
     try clear hcz8_0
     try clear hcz8_1
     try clear hfz8_0
     try clear hfz8_1
     try clear p2
     obtain ⟨x6_2, x7_2, x8_2, x199000_2, x199001_2, rfl, rfl, rfl, HA, HK2, BK198, HB⟩ := hrel
     cases gk with
     | zero => exact absurd HA.out (by simp [spec_ParseAnf.l0])
     | succ k2 =>
      have H := HA.out
      clear HA
      simp only [spec_ParseAnf.l0] at H
      have HC9 := Aside0.mk H
      clear H
      go_upto_region 6 with (fail)
      go_cut [28] (fun v28 wc => ∃ (kq : Nat) (x28_8 : Bool), v28 = .bool x28_8 ∧ Aside0 (spec_ParseAnf.j2 kq a0 a1 x6_2 x7_2 x8_2 x28_8 = some (r1, r2, r3)) ∧ Aside0 (kq ≤ k2) ∧ Aside0 (wc.heap[gb198]? = some (.cells #[.int .i64 x199000_2, .int .i64 x199001_2] 23 (0, 0))) ∧ Aside0 (Below w.heap.size w wc))
      case first =>
       have H := HC9.out
       clear HC9
       by_cases c10 : x8_2 ≤ (a1.size : Int)
       ·rw [if_pos c10] at H
        have c10b0 : decide (x8_2 ≤ (a1.size : Int)) = true := decide_eq_true c10
        clear c10
        (first | rw [c10b0] | (simp only [i64_w, i32_w]; rw [c10b0]) | skip)
        have H' := Aside0.mk H
        clear H
        go_wp2
        go_meet
        case rel => exact ⟨_, ((a1.toList != ([48] : List UInt8))), (by first | rfl | (simp; done) | (simp [*]; done)), H', ⟨by have := HJ2.out; have := HK2.out; first | omega | exact Nat.le_refl _⟩, ⟨by (with_reducible repeat (first | refine blk_drewN ?_ _ | refine blk_drew ?_ | refine blk_alloc ?_ _)); exact BK198.out⟩, ⟨bv1_ HB GE198⟩⟩
       ·rw [if_neg c10] at H
        have c10b0 : decide (x8_2 ≤ (a1.size : Int)) = false := decide_eq_false c10
        clear c10
        (first | rw [c10b0] | (simp only [i64_w, i32_w]; rw [c10b0]) | skip)
        have H' := Aside0.mk H
        clear H
        go_wp2
        go_meet
        case rel => exact ⟨_, (false), (by first | rfl | (simp; done) | (simp [*]; done)), H', ⟨by have := HJ2.out; have := HK2.out; first | omega | exact Nat.le_refl _⟩, ⟨by (with_reducible repeat (first | refine blk_drewN ?_ _ | refine blk_drew ?_ | refine blk_alloc ?_ _)); exact BK198.out⟩, ⟨bv1_ HB GE198⟩⟩
      case rest =>
       clear HC9
       try clear c1
       try clear c2
       try clear p2
       try clear c5
       try clear c6
       try clear c7
       try clear c10
       try clear c10b0
       try clear hcz8_0
       try clear hcz8_1
       try clear hfz8_0
       try clear hfz8_1
       try clear p2
       obtain ⟨kq, x28_8, rfl, HA, HJ8, BK198, HB⟩ := hcut
       cases kq with
       | zero => exact absurd HA.out (by simp [spec_ParseAnf.j2])
       | succ kj8 =>
        have H := HA.out
        clear HA
        simp only [spec_ParseAnf.j2] at H
        by_cases c11 : x28_8 = true
        ·subst c11
         rw [if_pos rfl] at H
         have HC12 := Aside0.mk H
         clear H
         go_upto_region 8 with (fail)
         go_cut [40] (fun v40 wc => ∃ (kq : Nat) (x40_11 : Bool), v40 = .bool x40_11 ∧ Aside0 (spec_ParseAnf.j3 kq a0 a1 x6_2 x7_2 x8_2 x40_11 = some (r1, r2, r3)) ∧ Aside0 (kq ≤ kj8) ∧ Aside0 (wc.heap[gb198]? = some (.cells #[.int .i64 x199000_2, .int .i64 x199001_2] 23 (0, 0))) ∧ Aside0 (Below w.heap.size w wc))
         case first =>
          have H := HC12.out
          clear HC12
          by_cases c13 : x8_2 < (a1.size : Int)
          ·rw [if_pos c13] at H
           have c13b0 : decide (x8_2 < (a1.size : Int)) = true := decide_eq_true c13
           clear c13
           (first | rw [c13b0] | (simp only [i64_w, i32_w]; rw [c13b0]) | skip)
           by_cases c14 : 0 ≤ x8_2
           ·rw [if_pos c14] at H
            have c14b0 : decide (0 ≤ x8_2) = true := decide_eq_true c14
            clear c14
            have H' := Aside0.mk H
            clear H
            have p15 : 0 ≤ (x8_2 : Int) := of_decide_eq_true (by first | (with_reducible assumption) | assumption)
            have q15 : x8_2 < (a1.size : Int) := of_decide_eq_true (by first | (with_reducible assumption) | assumption)
            have hx15 := bt_at a1 x8_2
            replace p15 := eq_true p15
            replace q15 := eq_true q15
            go_wp2
            go_meet
            case rel => exact ⟨_, (((bt a1 x8_2) != 43)), (by first | rfl | (simp; done) | (simp [*]; done)), H', ⟨by have := HJ2.out; have := HK2.out; have := HJ8.out; first | omega | exact Nat.le_refl _⟩, ⟨by (with_reducible repeat (first | refine blk_drewN ?_ _ | refine blk_drew ?_ | refine blk_alloc ?_ _)); exact BK198.out⟩, ⟨bv1_ HB GE198⟩⟩
           ·rw [if_neg c14] at H
            exact absurd H (by simp)
          ·rw [if_neg c13] at H
           have c13b0 : decide (x8_2 < (a1.size : Int)) = false := decide_eq_false c13
           clear c13
           (first | rw [c13b0] | (simp only [i64_w, i32_w]; rw [c13b0]) | skip)
           have H' := Aside0.mk H
           clear H
           go_wp2
           go_meet
           case rel => exact ⟨_, (false), (by first | rfl | (simp; done) | (simp [*]; done)), H', ⟨by have := HJ2.out; have := HK2.out; have := HJ8.out; first | omega | exact Nat.le_refl _⟩, ⟨by (with_reducible repeat (first | refine blk_drewN ?_ _ | refine blk_drew ?_ | refine blk_alloc ?_ _)); exact BK198.out⟩, ⟨bv1_ HB GE198⟩⟩
         case rest =>
          clear HC12
          try clear c1
          try clear p1
          try clear q1
          try clear hx1
          try clear c2
          try clear p2
          try clear c5
          try clear c6
          try clear c7
          try clear c10
          try clear c10b0
          try clear c11
          try clear c13
          try clear c13b0
          try clear c14
          try clear c14b0
          try clear p15
          try clear q15
          try clear hx15
          try clear hcz8_0
          try clear hcz8_1
          try clear hfz8_0
          try clear hfz8_1
          try clear p15
          try clear p2
          try clear q15
          obtain ⟨kq, x40_11, rfl, HA, HJ11, BK198, HB⟩ := hcut
          cases kq with
          | zero => exact absurd HA.out (by simp [spec_ParseAnf.j3])
          | succ kj11 =>
           have H := HA.out
           clear HA
           simp only [spec_ParseAnf.j3] at H
           by_cases c16 : x40_11 = true
           ·subst c16
            rw [if_pos rfl] at H
            by_cases c17 : 0 ≤ x8_2
            ·rw [if_pos c17] at H
             have c17b0 := eq_true c17
             have c17b1 : decide (0 ≤ x8_2) = true := decide_eq_true c17
             clear c17
             by_cases c18 : x8_2 ≤ (wrap64 (x8_2 + 1))
             ·rw [if_pos c18] at H
              have c18b0 := eq_true c18
              have c18b1 : decide (x8_2 ≤ (wrap64 (x8_2 + 1))) = true := decide_eq_true c18
              by_cases c19 : (wrap64 (x8_2 + 1)) ≤ (a1.size : Int)
              ·rw [if_pos c19] at H
               have c19b0 := eq_true c19
               have c19b1 : decide ((wrap64 (x8_2 + 1)) ≤ (a1.size : Int)) = true := decide_eq_true c19
               by_cases c20 : x7_2.size + (a1.extract (x8_2 : Int).toNat ((wrap64 (x8_2 + 1)) : Int).toNat).size ≤ 9223372036854775807
               ·rw [if_pos c20] at H
                have c20b0 := eq_true c20
                have c20b1 : decide (x7_2.size + (a1.extract (x8_2 : Int).toNat ((wrap64 (x8_2 + 1)) : Int).toNat).size ≤ 9223372036854775807) = true := decide_eq_true c20
                try have c20b2 : (9223372036854775807 < x7_2.size + (a1.extract (x8_2 : Int).toNat ((wrap64 (x8_2 + 1)) : Int).toNat).size) = False := eq_false (Nat.not_lt.2 c20)
                have H' := Aside0.mk H
                clear H
                go_wp2
                go_roundg kj11
                case measure => have := HJ2.out; have := HK2.out; have := HJ8.out; have := HJ11.out; omega
                case rel => exact ⟨(x6_2), (x7_2 ++ (a1.extract (x8_2 : Int).toNat ((wrap64 (x8_2 + 1)) : Int).toNat)), (wrap64 (x8_2 + 1)), (x199000_2), (x199001_2), (by first | rfl | (simp; done) | (simp [*]; done)), (by first | rfl | (simp; done) | (simp [*]; done)), (by first | rfl | (simp; done) | (simp [*]; done)), H', ⟨by have := HJ2.out; have := HK2.out; have := HJ8.out; have := HJ11.out; omega⟩, ⟨by (with_reducible repeat (first | refine blk_drewN ?_ _ | refine blk_drew ?_ | refine blk_alloc ?_ _)); exact BK198.out⟩, ⟨bv1_ HB GE198⟩⟩
               ·rw [if_neg c20] at H
                exact absurd H (by simp)
              ·rw [if_neg c19] at H
               exact absurd H (by simp)
             ·rw [if_neg c18] at H
              exact absurd H (by simp)
            ·rw [if_neg c17] at H
             exact absurd H (by simp)
           ·replace c16 := Bool.eq_false_iff.mpr c16
            subst c16
            rw [if_neg (show ¬ (false = true) by decide)] at H
            replace H := Option.bind_eq_some_iff.mp H
            obtain ⟨⟨t200, t201, t202⟩, A210, H⟩ := H
            dsimp only at H
            have A21 := Aside0.mk A210
            clear A210
            by_cases c22 : t202 = true
            ·subst c22
             rw [if_pos rfl] at H
             by_cases c23 : t200 = t201
             ·rw [if_pos c23] at H
              have c23b0 : (t200 == t201) = true := beq_iff_eq.mpr c23
              have c23b1 : (t200 != t201) = false := bne_eq_false_iff_eq.mpr c23
              clear c23
              by_cases c24 : 0 ≤ t200
              ·rw [if_pos c24] at H
               have c24b0 := eq_true c24
               have c24b1 : decide (0 ≤ t200) = true := decide_eq_true c24
               clear c24
               obtain ⟨ji25, hji25⟩ : ∃ j_ : Int, (shl .i64 1 t200) = j_ := ⟨_, rfl⟩
               replace H : (spec_ParseAnf.l0 kj11 a0 a1 (Go.bits .or .i64 x6_2 (ji25)) (⟨#[]⟩ : ByteArray) (wrap64 (x8_2 + 1))) = some (r1, r2, r3) := by first | (rw [hji25] at H; exact H) | (simp only [hji25] at H ⊢; exact H)
               (try rw [hji25] at A21)
               have hji25_ : (IntKind.i64.wrap (1 * 2 ^ min t200.toNat 64)) = ji25 := hji25
               have hji25z : t200 ≤ 64 → (IntKind.i64.wrap (1 * 2 ^ t200.toNat)) = ji25 := shl_small hji25
               have hji25u : (IntKind.i64.wrap (2 ^ min t200.toNat 64)) = ji25 := by have h_ := hji25_; rw [Int.one_mul] at h_; exact h_
               have hji25v : t200 ≤ 64 → (IntKind.i64.wrap (2 ^ t200.toNat)) = ji25 := fun hle_ => by have h_ := hji25z hle_; rw [Int.one_mul] at h_; exact h_
               have hji25y : (wrap64 (1 * 2 ^ min t200.toNat 64)) = ji25 := (i64_w _).symm.trans hji25_
               have hji25x : t200 ≤ 64 → (wrap64 (1 * 2 ^ t200.toNat)) = ji25 := fun h_ => (i64_w _).symm.trans (hji25z h_)
               have H' := Aside0.mk H
               clear H
               go_wp2_with (first | ((with_reducible refine gate_callee (f := 29) rfl ?_); refine gl_ 51 Tryd.func29 #[.int .i64 a0, .string x7_2] rfl mp_ ?_; (with_reducible refine (spec_ParseTerm.calls kj11 a0 x7_2 t200 t201 true _ A21.out).mono ?_); rintro e w26 ⟨rfl, hb⟩; refine ⟨_, rfl, ?_⟩; replace BK198 := kb_ BK198 hb; replace HB := Aside0.mk (below_step (bv1_ HB GE198) hb); (try clear hb); (try clear hb2); (try clear hk); (try clear hi)) | ((with_reducible refine gate_dst (N := 9) rfl ?_); (try (refine gate_guard (by rfl) ?_; dsimp only)); refine bx_ 9 #[.int .i64 0, .int .i64 0] 44 ?_; intro gb203 hg w27 hbox hb; have BK203 := Aside0.mk (hbox); have GW203 := gw_ hg (below_size (bv1_ HB GE198)); have GE203 := GW203; replace HB := Aside0.mk (below_step (bv1_ HB GE198) hb); have NB198_203 := nb_ hg (blk_lt (g := gb198) (o := .cells #[.int .i64 x199000_2, .int .i64 x199001_2] 23 (0, 0)) (kv_ BK198)); have NB203_198 := nc_ hg (blk_lt (g := gb198) (o := .cells #[.int .i64 x199000_2, .int .i64 x199001_2] 23 (0, 0)) (kv_ BK198)); replace BK198 := kb_ BK198 hb; clear hb hbox hg; have hnb28 := NB203_198.out; have hnc28 := NB198_203.out; obtain ⟨hcz29_0, hcz29_1, hfz29_0, hfz29_1⟩ := c2_ BK203))
               go_roundg kj11
               case measure => have := HJ2.out; have := HK2.out; have := HJ8.out; have := HJ11.out; omega
               case rel => exact ⟨(Go.bits .or .i64 x6_2 (ji25)), ((⟨#[]⟩ : ByteArray)), (wrap64 (x8_2 + 1)), (x199000_2), (x199001_2), (by first | rfl | (simp; done) | (simp only [← hji25] <;> (first | rfl | simp)) | (simp [*]; done)), (by first | rfl | (simp; done) | (simp [*]; done)), (by first | rfl | (simp; done) | (simp [*]; done)), H', ⟨by have := HJ2.out; have := HK2.out; have := HJ8.out; have := HJ11.out; omega⟩, ⟨by (with_reducible repeat (first | refine blk_drewN ?_ _ | refine blk_drew ?_ | refine blk_alloc ?_ _)); refine blk_far ?_ NB198_203.out _; (with_reducible repeat (first | refine blk_drewN ?_ _ | refine blk_drew ?_ | refine blk_alloc ?_ _)); refine blk_far ?_ NB198_203.out _; (with_reducible repeat (first | refine blk_drewN ?_ _ | refine blk_drew ?_ | refine blk_alloc ?_ _)); exact BK198.out⟩, ⟨bv2_ HB GE198 GE203⟩⟩
              ·rw [if_neg c24] at H
               exact absurd H (by simp)
             ·rw [if_neg c23] at H
              have c23b0 : (t200 == t201) = false := beq_eq_false_iff_ne.mpr c23
              have c23b1 : (t200 != t201) = true := bne_iff_ne.mpr c23
              simp only [Option.some.injEq, Prod.mk.injEq] at H
              obtain ⟨rfl, rfl, rfl⟩ := H
              go_wp2_with (first | ((with_reducible refine gate_callee (f := 29) rfl ?_); refine gl_ 51 Tryd.func29 #[.int .i64 a0, .string x7_2] rfl mp_ ?_; (with_reducible refine (spec_ParseTerm.calls kj11 a0 x7_2 t200 t201 true _ A21.out).mono ?_); rintro e w30 ⟨rfl, hb⟩; refine ⟨_, rfl, ?_⟩; replace BK198 := kb_ BK198 hb; replace HB := Aside0.mk (below_step (bv1_ HB GE198) hb); (try clear hb); (try clear hb2); (try clear hk); (try clear hi)) | ((with_reducible refine gate_dst (N := 9) rfl ?_); (try (refine gate_guard (by rfl) ?_; dsimp only)); refine bx_ 9 #[.int .i64 0, .int .i64 0] 44 ?_; intro gb203 hg w31 hbox hb; have BK203 := Aside0.mk (hbox); have GW203 := gw_ hg (below_size (bv1_ HB GE198)); have GE203 := GW203; replace HB := Aside0.mk (below_step (bv1_ HB GE198) hb); have NB198_203 := nb_ hg (blk_lt (g := gb198) (o := .cells #[.int .i64 x199000_2, .int .i64 x199001_2] 23 (0, 0)) (kv_ BK198)); have NB203_198 := nc_ hg (blk_lt (g := gb198) (o := .cells #[.int .i64 x199000_2, .int .i64 x199001_2] 23 (0, 0)) (kv_ BK198)); replace BK198 := kb_ BK198 hb; clear hb hbox hg; have hnb32 := NB203_198.out; have hnc32 := NB198_203.out; obtain ⟨hcz33_0, hcz33_1, hfz33_0, hfz33_1⟩ := c2_ BK203; obtain ⟨hcz34_0, hcz34_1, hfz34_0, hfz34_1⟩ := c2_ BK198))
              refine bodyPost_ret (results_ct rfl _ _ gb198 23 #[.int .i64 0, .int .i64 0] (0, 0) _ rfl (by (with_reducible repeat (first | refine blk_drewN ?_ _ | refine blk_drew ?_ | refine blk_alloc ?_ _)); refine blk_put (cs := #[.int .i64 0, .int .i64 x199001_2]) ?_ 1 _ rfl; (with_reducible repeat (first | refine blk_drewN ?_ _ | refine blk_drew ?_ | refine blk_alloc ?_ _)); refine blk_put (cs := #[.int .i64 x199000_2, .int .i64 x199001_2]) ?_ 0 _ rfl; (with_reducible repeat (first | refine blk_drewN ?_ _ | refine blk_drew ?_ | refine blk_alloc ?_ _)); refine blk_far ?_ NB198_203.out _; (with_reducible repeat (first | refine blk_drewN ?_ _ | refine blk_drew ?_ | refine blk_alloc ?_ _)); refine blk_far ?_ NB198_203.out _; (with_reducible repeat (first | refine blk_drewN ?_ _ | refine blk_drew ?_ | refine blk_alloc ?_ _)); exact BK198.out) Tryd.underlying23 rfl (by kernel_rfl)) rfl ?_
              exact ⟨er_, bv2_ HB GE198 GE203⟩
            ·replace c22 := Bool.eq_false_iff.mpr c22
             subst c22
             rw [if_neg (show ¬ (false = true) by decide)] at H
             simp only [Option.some.injEq, Prod.mk.injEq] at H
             obtain ⟨rfl, rfl, rfl⟩ := H
             go_wp2_with (first | ((with_reducible refine gate_callee (f := 29) rfl ?_); refine gl_ 51 Tryd.func29 #[.int .i64 a0, .string x7_2] rfl mp_ ?_; (with_reducible refine (spec_ParseTerm.calls kj11 a0 x7_2 t200 t201 false _ A21.out).mono ?_); rintro e w35 ⟨rfl, hb⟩; refine ⟨_, rfl, ?_⟩; replace BK198 := kb_ BK198 hb; replace HB := Aside0.mk (below_step (bv1_ HB GE198) hb); (try clear hb); (try clear hb2); (try clear hk); (try clear hi)) | ((with_reducible refine gate_dst (N := 9) rfl ?_); (try (refine gate_guard (by rfl) ?_; dsimp only)); refine bx_ 9 #[.int .i64 0, .int .i64 0] 44 ?_; intro gb203 hg w36 hbox hb; have BK203 := Aside0.mk (hbox); have GW203 := gw_ hg (below_size (bv1_ HB GE198)); have GE203 := GW203; replace HB := Aside0.mk (below_step (bv1_ HB GE198) hb); have NB198_203 := nb_ hg (blk_lt (g := gb198) (o := .cells #[.int .i64 x199000_2, .int .i64 x199001_2] 23 (0, 0)) (kv_ BK198)); have NB203_198 := nc_ hg (blk_lt (g := gb198) (o := .cells #[.int .i64 x199000_2, .int .i64 x199001_2] 23 (0, 0)) (kv_ BK198)); replace BK198 := kb_ BK198 hb; clear hb hbox hg; have hnb37 := NB203_198.out; have hnc37 := NB198_203.out; obtain ⟨hcz38_0, hcz38_1, hfz38_0, hfz38_1⟩ := c2_ BK203; obtain ⟨hcz39_0, hcz39_1, hfz39_0, hfz39_1⟩ := c2_ BK198))
             refine bodyPost_ret (results_ct rfl _ _ gb198 23 #[.int .i64 0, .int .i64 0] (0, 0) _ rfl (by (with_reducible repeat (first | refine blk_drewN ?_ _ | refine blk_drew ?_ | refine blk_alloc ?_ _)); refine blk_put (cs := #[.int .i64 0, .int .i64 x199001_2]) ?_ 1 _ rfl; (with_reducible repeat (first | refine blk_drewN ?_ _ | refine blk_drew ?_ | refine blk_alloc ?_ _)); refine blk_put (cs := #[.int .i64 x199000_2, .int .i64 x199001_2]) ?_ 0 _ rfl; (with_reducible repeat (first | refine blk_drewN ?_ _ | refine blk_drew ?_ | refine blk_alloc ?_ _)); refine blk_far ?_ NB198_203.out _; (with_reducible repeat (first | refine blk_drewN ?_ _ | refine blk_drew ?_ | refine blk_alloc ?_ _)); refine blk_far ?_ NB198_203.out _; (with_reducible repeat (first | refine blk_drewN ?_ _ | refine blk_drew ?_ | refine blk_alloc ?_ _)); exact BK198.out) Tryd.underlying23 rfl (by kernel_rfl)) rfl ?_
             exact ⟨er_, bv2_ HB GE198 GE203⟩
        ·replace c11 := Bool.eq_false_iff.mpr c11
         subst c11
         rw [if_neg (show ¬ (false = true) by decide)] at H
         replace H := Option.bind_eq_some_iff.mp H
         obtain ⟨t204, A400, H⟩ := H
         have A40 := Aside0.mk A400
         clear A400
         replace H := Option.bind_eq_some_iff.mp H
         obtain ⟨t206, A410, H⟩ := H
         have A41 := Aside0.mk A410
         clear A410
         by_cases c42 : t206.toList = a1.toList
         ·rw [if_pos c42] at H
          have c42b0 : (t206.toList == a1.toList) = true := beq_iff_eq.mpr c42
          have c42b1 : (t206.toList != a1.toList) = false := bne_eq_false_iff_eq.mpr c42
          clear c42
          simp only [Option.some.injEq, Prod.mk.injEq] at H
          obtain ⟨rfl, rfl, rfl⟩ := H
          go_wp2_with (first | ((with_reducible refine gate_callee (f := 30) rfl ?_); refine gl_ 73 Tryd.func30 #[.agg #[.int .i64 a0, .int .i64 x6_2]] rfl mp_ ?_; (with_reducible refine (spec_l11Anf.calls kj8 a0 x6_2 t204 _ A40.out).mono ?_); rintro e w43 ⟨rfl, hb⟩; refine ⟨_, rfl, ?_⟩; replace BK198 := kb_ BK198 hb; replace HB := Aside0.mk (below_step (bv1_ HB GE198) hb); (try clear hb); (try clear hb2); (try clear hk); (try clear hi)) | ((with_reducible refine gate_dst (N := 11) rfl ?_); (try (refine gate_guard (by rfl) ?_; dsimp only)); refine bx_ 11 #[.int .i64 0, .int .i64 0] 23 ?_; intro gb205 hg w44 hbox hb; have BK205 := Aside0.mk (hbox); have GW205 := gw_ hg (below_size (bv1_ HB GE198)); have GE205 := GW205; replace HB := Aside0.mk (below_step (bv1_ HB GE198) hb); have NB198_205 := nb_ hg (blk_lt (g := gb198) (o := .cells #[.int .i64 x199000_2, .int .i64 x199001_2] 23 (0, 0)) (kv_ BK198)); have NB205_198 := nc_ hg (blk_lt (g := gb198) (o := .cells #[.int .i64 x199000_2, .int .i64 x199001_2] 23 (0, 0)) (kv_ BK198)); replace BK198 := kb_ BK198 hb; clear hb hbox hg; have hnb45 := NB205_198.out; have hnc45 := NB198_205.out; obtain ⟨hcz46_0, hcz46_1, hfz46_0, hfz46_1⟩ := c2_ BK205) | ((with_reducible refine gate_callee (f := 21) rfl ?_); refine gl_ 76 Tryd.func21 #[.agg #[.int .i64 a0, .int .i64 t204]] rfl mp_ ?_; (with_reducible refine (spec_FormatAnf.calls kj8 a0 t204 t206 _ A41.out).mono ?_); rintro e w47 ⟨rfl, hb⟩; refine ⟨_, rfl, ?_⟩; replace BK198 := Aside0.mk (blk_below (g := gb198) (o := .cells #[.int .i64 x199000_2, .int .i64 x199001_2] 23 (0, 0)) (by (with_reducible repeat (first | refine blk_drewN ?_ _ | refine blk_drew ?_ | refine blk_alloc ?_ _)); refine blk_far ?_ NB198_205.out _; (with_reducible repeat (first | refine blk_drewN ?_ _ | refine blk_drew ?_ | refine blk_alloc ?_ _)); refine blk_far ?_ NB198_205.out _; (with_reducible repeat (first | refine blk_drewN ?_ _ | refine blk_drew ?_ | refine blk_alloc ?_ _)); exact BK198.out) hb); replace BK205 := Aside0.mk (blk_below (g := gb205) (o := .cells #[.int .i64 a0, .int .i64 t204] 23 (0, 0)) (by (with_reducible repeat (first | refine blk_drewN ?_ _ | refine blk_drew ?_ | refine blk_alloc ?_ _)); refine blk_put (cs := #[.int .i64 a0, .int .i64 0]) ?_ 1 _ rfl; (with_reducible repeat (first | refine blk_drewN ?_ _ | refine blk_drew ?_ | refine blk_alloc ?_ _)); refine blk_put (cs := #[.int .i64 0, .int .i64 0]) ?_ 0 _ rfl; (with_reducible repeat (first | refine blk_drewN ?_ _ | refine blk_drew ?_ | refine blk_alloc ?_ _)); exact BK205.out) hb); replace HB := Aside0.mk (below_step (bv2_ HB GE198 GE205) hb); (try clear hb); (try clear hb2); (try clear hk); (try clear hi); obtain ⟨hcz48_0, hcz48_1, hfz48_0, hfz48_1⟩ := c2_ BK205; obtain ⟨hcz49_0, hcz49_1, hfz49_0, hfz49_1⟩ := c2_ BK198))
          refine bodyPost_ret (results_ct rfl _ _ gb198 23 #[.int .i64 a0, .int .i64 t204] (0, 0) _ rfl (by (with_reducible repeat (first | refine blk_drewN ?_ _ | refine blk_drew ?_ | refine blk_alloc ?_ _)); refine blk_put (cs := #[.int .i64 a0, .int .i64 x199001_2]) ?_ 1 _ rfl; (with_reducible repeat (first | refine blk_drewN ?_ _ | refine blk_drew ?_ | refine blk_alloc ?_ _)); refine blk_put (cs := #[.int .i64 x199000_2, .int .i64 x199001_2]) ?_ 0 _ rfl; (with_reducible repeat (first | refine blk_drewN ?_ _ | refine blk_drew ?_ | refine blk_alloc ?_ _)); exact BK198.out) Tryd.underlying23 rfl (by kernel_rfl)) rfl ?_
          exact ⟨er_, bv2_ HB GE198 GE205⟩
         ·rw [if_neg c42] at H
          have c42b0 : (t206.toList == a1.toList) = false := beq_eq_false_iff_ne.mpr c42
          have c42b1 : (t206.toList != a1.toList) = true := bne_iff_ne.mpr c42
          simp only [Option.some.injEq, Prod.mk.injEq] at H
          obtain ⟨rfl, rfl, rfl⟩ := H
          go_wp2_with (first | ((with_reducible refine gate_callee (f := 30) rfl ?_); refine gl_ 73 Tryd.func30 #[.agg #[.int .i64 a0, .int .i64 x6_2]] rfl mp_ ?_; (with_reducible refine (spec_l11Anf.calls kj8 a0 x6_2 t204 _ A40.out).mono ?_); rintro e w50 ⟨rfl, hb⟩; refine ⟨_, rfl, ?_⟩; replace BK198 := kb_ BK198 hb; replace HB := Aside0.mk (below_step (bv1_ HB GE198) hb); (try clear hb); (try clear hb2); (try clear hk); (try clear hi)) | ((with_reducible refine gate_dst (N := 11) rfl ?_); (try (refine gate_guard (by rfl) ?_; dsimp only)); refine bx_ 11 #[.int .i64 0, .int .i64 0] 23 ?_; intro gb205 hg w51 hbox hb; have BK205 := Aside0.mk (hbox); have GW205 := gw_ hg (below_size (bv1_ HB GE198)); have GE205 := GW205; replace HB := Aside0.mk (below_step (bv1_ HB GE198) hb); have NB198_205 := nb_ hg (blk_lt (g := gb198) (o := .cells #[.int .i64 x199000_2, .int .i64 x199001_2] 23 (0, 0)) (kv_ BK198)); have NB205_198 := nc_ hg (blk_lt (g := gb198) (o := .cells #[.int .i64 x199000_2, .int .i64 x199001_2] 23 (0, 0)) (kv_ BK198)); replace BK198 := kb_ BK198 hb; clear hb hbox hg; have hnb52 := NB205_198.out; have hnc52 := NB198_205.out; obtain ⟨hcz53_0, hcz53_1, hfz53_0, hfz53_1⟩ := c2_ BK205) | ((with_reducible refine gate_callee (f := 21) rfl ?_); refine gl_ 76 Tryd.func21 #[.agg #[.int .i64 a0, .int .i64 t204]] rfl mp_ ?_; (with_reducible refine (spec_FormatAnf.calls kj8 a0 t204 t206 _ A41.out).mono ?_); rintro e w54 ⟨rfl, hb⟩; refine ⟨_, rfl, ?_⟩; replace BK198 := Aside0.mk (blk_below (g := gb198) (o := .cells #[.int .i64 x199000_2, .int .i64 x199001_2] 23 (0, 0)) (by (with_reducible repeat (first | refine blk_drewN ?_ _ | refine blk_drew ?_ | refine blk_alloc ?_ _)); refine blk_far ?_ NB198_205.out _; (with_reducible repeat (first | refine blk_drewN ?_ _ | refine blk_drew ?_ | refine blk_alloc ?_ _)); refine blk_far ?_ NB198_205.out _; (with_reducible repeat (first | refine blk_drewN ?_ _ | refine blk_drew ?_ | refine blk_alloc ?_ _)); exact BK198.out) hb); replace BK205 := Aside0.mk (blk_below (g := gb205) (o := .cells #[.int .i64 a0, .int .i64 t204] 23 (0, 0)) (by (with_reducible repeat (first | refine blk_drewN ?_ _ | refine blk_drew ?_ | refine blk_alloc ?_ _)); refine blk_put (cs := #[.int .i64 a0, .int .i64 0]) ?_ 1 _ rfl; (with_reducible repeat (first | refine blk_drewN ?_ _ | refine blk_drew ?_ | refine blk_alloc ?_ _)); refine blk_put (cs := #[.int .i64 0, .int .i64 0]) ?_ 0 _ rfl; (with_reducible repeat (first | refine blk_drewN ?_ _ | refine blk_drew ?_ | refine blk_alloc ?_ _)); exact BK205.out) hb); replace HB := Aside0.mk (below_step (bv2_ HB GE198 GE205) hb); (try clear hb); (try clear hb2); (try clear hk); (try clear hi); obtain ⟨hcz55_0, hcz55_1, hfz55_0, hfz55_1⟩ := c2_ BK198))
          refine bodyPost_ret (results_ct rfl _ _ gb198 23 #[.int .i64 0, .int .i64 0] (0, 0) _ rfl (by (with_reducible repeat (first | refine blk_drewN ?_ _ | refine blk_drew ?_ | refine blk_alloc ?_ _)); refine blk_put (cs := #[.int .i64 0, .int .i64 x199001_2]) ?_ 1 _ rfl; (with_reducible repeat (first | refine blk_drewN ?_ _ | refine blk_drew ?_ | refine blk_alloc ?_ _)); refine blk_put (cs := #[.int .i64 x199000_2, .int .i64 x199001_2]) ?_ 0 _ rfl; (with_reducible repeat (first | refine blk_drewN ?_ _ | refine blk_drew ?_ | refine blk_alloc ?_ _)); exact BK198.out) Tryd.underlying23 rfl (by kernel_rfl)) rfl ?_
          exact ⟨er_, bv2_ HB GE198 GE205⟩


/-! ### impl_makeTable: function 60 -/
/-- The word whose values a function tells. -/
def impl_makeTable.word (g : Nat → Bool) : Nat → Int
  | 0 => 0
  | x + 1 => if g x = true then Go.bits .or .i64 (impl_makeTable.word g x) (wrap64 ((2 : Int) ^ x)) else impl_makeTable.word g x
theorem impl_makeTable.w (x : Int) (h0 : 0 ≤ x) (h1 : x ≤ 32) : wrap64 x = x := by unfold wrap64; omega
theorem impl_makeTable.size {a : Int} (h : 0 ≤ a ∧ a ≤ 5) : ∃ N : Nat, wrap64 ((2 : Int) ^ a.toNat) = (N : Int) ∧ 2 ^ a.toNat = N ∧ N ≤ 32 := by
  rcases (by omega : a = 0 ∨ a = 1 ∨ a = 2 ∨ a = 3 ∨ a = 4 ∨ a = 5) with rfl | rfl | rfl | rfl | rfl | rfl
  · exact ⟨1, (congrArg wrap64 (show ((2 : Int) ^ (0 : Int).toNat) = 1 by decide)).trans (impl_makeTable.w _ (by omega) (by omega)), by decide, by omega⟩
  · exact ⟨2, (congrArg wrap64 (show ((2 : Int) ^ (1 : Int).toNat) = 2 by decide)).trans (impl_makeTable.w _ (by omega) (by omega)), by decide, by omega⟩
  · exact ⟨4, (congrArg wrap64 (show ((2 : Int) ^ (2 : Int).toNat) = 4 by decide)).trans (impl_makeTable.w _ (by omega) (by omega)), by decide, by omega⟩
  · exact ⟨8, (congrArg wrap64 (show ((2 : Int) ^ (3 : Int).toNat) = 8 by decide)).trans (impl_makeTable.w _ (by omega) (by omega)), by decide, by omega⟩
  · exact ⟨16, (congrArg wrap64 (show ((2 : Int) ^ (4 : Int).toNat) = 16 by decide)).trans (impl_makeTable.w _ (by omega) (by omega)), by decide, by omega⟩
  · exact ⟨32, (congrArg wrap64 (show ((2 : Int) ^ (5 : Int).toNat) = 32 by decide)).trans (impl_makeTable.w _ (by omega) (by omega)), by decide, by omega⟩
-- EACH closure's number
set_option maxHeartbeats 4000000 in
set_option maxRecDepth 100000 in
theorem impl_makeTable.calls61 (n : Int) (hn : 0 ≤ n ∧ n ≤ 5) (caps : Array Value) (g : Nat → Bool) (w : World)
    (hp : ∀ (W : World) (x : Nat), Below w.heap.size w W → x < 2 ^ n.toNat → Calls Tryd.prog 61 (#[.int .i64 (x : Int)] ++ caps) W fun e w' => e = .returned (.bool (g x)) ∧ Below W.heap.size W w') :
    Calls Tryd.prog 60 #[.int .i64 n, .func (.func 61) #[] caps] w fun e w' => e = .returned (.agg #[.int .i64 n, .int .i64 (impl_makeTable.word g (2 ^ n.toNat))]) ∧ Below w.heap.size w w' := by
  obtain ⟨N, hN, hN2, hN32⟩ := impl_makeTable.size hn
  rw [hN2] at hp ⊢
  have hu := Tryd.underlying23
  have HP := Aside0.mk hp
  clear hN2 hp
  go_enter Tryd.func60, Tryd.ntmps60
  go_wp2_with fail
  rw [hN]
  have HB := Aside0.mk ((((Below.refl w.heap.size w).alloc (Nat.le_refl _) (Obj.cells #[Value.int IntKind.i64 0, Value.int IntKind.i64 0] 23)).alloc (by simp) (Obj.cells #[Value.int IntKind.i64 n, Value.int IntKind.i64 0] 23)))
  have RK := Aside0.mk (blk_alloc (blk_new w (Obj.cells #[Value.int IntKind.i64 0, Value.int IntKind.i64 0] 23)) (Obj.cells #[Value.int IntKind.i64 n, Value.int IntKind.i64 0] 23))
  have BK := Aside0.mk (blk_new (w.alloc (Obj.cells #[Value.int IntKind.i64 0, Value.int IntKind.i64 0] 23)) (Obj.cells #[Value.int IntKind.i64 n, Value.int IntKind.i64 0] 23))
  rw [show (w.alloc (Obj.cells #[Value.int IntKind.i64 0, Value.int IntKind.i64 0] 23)).heap.size = w.heap.size + 1 by simp] at BK
  go_loopw [11] (fun v wr => ∃ i : Nat, i ≤ N ∧ v = .int .i64 (i : Int) ∧ Aside0 (wr.heap[w.heap.size]? = some (.cells #[.int .i64 0, .int .i64 0] 23 (0, 0))) ∧ Aside0 (wr.heap[w.heap.size + 1]? = some (.cells #[.int .i64 n, .int .i64 (impl_makeTable.word g i)] 23 (0, 0))) ∧ Aside0 (Below w.heap.size w wr)) (fun v _ => N - (intOf v).toNat)
  case atStart => exact ⟨0, Nat.zero_le _, rfl, RK, BK, HB⟩
  case round =>
    obtain ⟨i, hi, rfl, RK, BK, HB⟩ := hrel
    by_cases hlt : i < N
    · have hcall := HP.out wr i HB.out hlt
      replace hcall : Calls Tryd.prog 61 (#[.int .i64 (i : Int)] ++ caps) wr fun e w' => e = .returned (.bool (g i)) ∧ Below wr.heap.size wr w' := hcall
      cases hg : g i with
      | true =>
        rw [hg] at hcall
        have S1 := Aside0.mk (show impl_makeTable.word g (i + 1) = Go.bits .or .i64 (impl_makeTable.word g i) (wrap64 ((2 : Int) ^ i)) by simp only [impl_makeTable.word]; rw [if_pos hg])
        clear hg
        go_wp2_with (go_at_call 61; refine hcall.mono ?_; rintro e w2 ⟨rfl, hb2⟩)
        have RK2 := Aside0.mk (blk_below RK.out hb2)
        have BK2 := Aside0.mk (blk_below BK.out hb2)
        have HB2 := Aside0.mk (below_step HB.out hb2)
        clear hb2 RK BK HB hcall
        have k1 := (blk_cell BK2.out 1).trans rfl
        have f1 := blk_frozen BK2.out 1
        have hi0 : (0 : Int) ≤ (i : Int) := Int.natCast_nonneg i
        have hid : decide ((i : Int) < 0) = false := by simp
        go_region
        all_goals go_wp2
        all_goals go_roundw
        case rel => exact ⟨i + 1, by omega, by go_num, ⟨blk_drew (blk_far RK2.out (by simp) _)⟩, ⟨by rw [S1.out]; exact blk_drew (blk_put BK2.out 1 _ rfl)⟩, ⟨below_drew1 (below_set HB2.out (by omega))⟩⟩
        case measure => simp [intOf]; omega
      | false =>
        rw [hg] at hcall
        have S1 := Aside0.mk (show impl_makeTable.word g (i + 1) = impl_makeTable.word g i by simp only [impl_makeTable.word]; rw [if_neg (by rw [hg]; decide)])
        clear hg
        go_wp2_with (go_at_call 61; refine hcall.mono ?_; rintro e w2 ⟨rfl, hb2⟩)
        go_roundw
        case rel => exact ⟨i + 1, by omega, by go_num, ⟨blk_below RK.out hb2⟩, ⟨by rw [S1.out]; exact blk_below BK.out hb2⟩, ⟨below_step HB.out hb2⟩⟩
        case measure => simp [intOf]; omega
    · obtain rfl : i = N := by omega
      have k0 := (blk_cell BK.out 0).trans rfl
      have k1 := (blk_cell BK.out 1).trans rfl
      have r0 := (blk_cell RK.out 0).trans rfl
      have r1 := (blk_cell RK.out 1).trans rfl
      have f0 := blk_frozen RK.out 0
      have f1 := blk_frozen RK.out 1
      go_wp2
      refine bodyPost_ret (results_cell_row rfl _ _ w.heap.size 23 #[.int .i64 n, .int .i64 (impl_makeTable.word g i)] (0, 0) _ rfl (blk_put (cs := #[.int .i64 n, .int .i64 0]) (blk_put (cs := #[.int .i64 0, .int .i64 0]) RK.out 0 _ rfl) 1 _ rfl) hu rfl (by kernel_rfl)) rfl ?_
      exact ⟨rfl, below_set (below_set HB.out (by omega)) (by omega)⟩


/-! ### impl_Table_anf: function 34 -/
/-- The sum modulo 2 of the values at the parts of an input. -/
def impl_Table_anf.sum (W m : Int) : Nat → Int
  | 0 => 0
  | x + 1 => if Go.bits .andNot .i64 (x : Int) m = 0 then Go.bits .xor .i64 (impl_Table_anf.sum W m x) (Go.bits .and .i64 (shr .i64 W (x : Int)) 1) else impl_Table_anf.sum W m x
def impl_Table_anf.on (n W : Int) (m : Nat) : Bool := decide (impl_Table_anf.sum W (m : Int) (2 ^ n.toNat) = 1)
def impl_Table_anf.f (a0_0 a0_1 : Int) : Option (Int × Int) :=
  if 0 ≤ a0_0 ∧ a0_0 ≤ 5 then some (a0_0, impl_makeTable.word (impl_Table_anf.on a0_0 a0_1) (2 ^ a0_0.toNat)) else none
theorem impl_Table_anf.size {a : Int} (h : 0 ≤ a ∧ a ≤ 5) : ∃ N : Nat, shl .i64 1 a = (N : Int) ∧ 2 ^ a.toNat = N ∧ N ≤ 32 := by
  rcases (by omega : a = 0 ∨ a = 1 ∨ a = 2 ∨ a = 3 ∨ a = 4 ∨ a = 5) with rfl | rfl | rfl | rfl | rfl | rfl
  · exact ⟨1, by simp [shl, IntKind.wrap_i64], rfl, by omega⟩
  · exact ⟨2, by simp [shl, IntKind.wrap_i64, IntKind.bits], rfl, by omega⟩
  · exact ⟨4, by simp [shl, IntKind.wrap_i64, IntKind.bits], rfl, by omega⟩
  · exact ⟨8, by simp [shl, IntKind.wrap_i64, IntKind.bits], rfl, by omega⟩
  · exact ⟨16, by simp [shl, IntKind.wrap_i64, IntKind.bits], rfl, by omega⟩
  · exact ⟨32, by simp [shl, IntKind.wrap_i64, IntKind.bits], rfl, by omega⟩
set_option maxHeartbeats 4000000 in
set_option maxRecDepth 100000 in
theorem impl_Table_anf.in_calls (a0_0 a0_1 : Int) (hb : 0 ≤ a0_0 ∧ a0_0 ≤ 5) (B : Nat) (m : Nat) (W : World) (hB : W.heap[B]? = some (.cells #[.int .i64 a0_0, .int .i64 a0_1] 23 (0, 0))) :
    Calls Tryd.prog 61 #[.int .i64 (m : Int), .pointer (some ⟨B, 0, none⟩)] W fun e w' => e = .returned (.bool (impl_Table_anf.on a0_0 a0_1 m)) ∧ Below W.heap.size W w' := by
  obtain ⟨N, hN, hN2, hN32⟩ := impl_Table_anf.size hb
  have hu := Tryd.underlying23
  have A2 := Aside0.mk (show impl_Table_size.f a0_0 a0_1 = some (N : Int) by unfold impl_Table_size.f; rw [if_pos hb.1, hN])
  have hv := Aside0.mk (show impl_Table_anf.on a0_0 a0_1 m = decide (impl_Table_anf.sum a0_1 (m : Int) N = 1) by unfold impl_Table_anf.on; rw [hN2])
  rw [hv.out]
  clear hv hN hN2 hb
  have hc0 := blk_cell hB 0
  have hc1 := blk_cell hB 1
  replace hc0 : W.cell? ⟨B, 0, none⟩ = some (.int .i64 a0_0) := hc0
  replace hc1 : W.cell? ⟨B, 1, none⟩ = some (.int .i64 a0_1) := hc1
  have BK0 := Aside0.mk hB
  clear hB
  go_enter Tryd.func61, Tryd.ntmps61
  go_wp2_with fail
  (with_reducible refine (impl_Table_size.calls a0_0 a0_1 _ _ A2.out).mono ?_)
  rintro e w1 ⟨rfl, hb1⟩
  have HB := Aside0.mk hb1
  clear hb1 A2 hc0 hc1
  go_wp2_with fail
  go_loopw [4, 8] (fun v4 v8 wr => ∃ i : Nat, i ≤ N ∧ v4 = .int .i64 (impl_Table_anf.sum a0_1 (m : Int) i) ∧ v8 = .int .i64 (i : Int) ∧ Aside0 (Below W.heap.size W wr)) (fun _ v8 _ => N - (intOf v8).toNat)
  case atStart => exact ⟨0, Nat.zero_le _, rfl, rfl, HB⟩
  case round =>
    obtain ⟨i, hi, rfl, rfl, HB⟩ := hrel
    by_cases hlt : i < N
    · have BK := Aside0.mk (blk_below BK0.out HB.out)
      have hc0 := blk_cell BK.out 0
      have hc1 := blk_cell BK.out 1
      replace hc0 : wr.cell? ⟨B, 0, none⟩ = some (.int .i64 a0_0) := hc0
      replace hc1 : wr.cell? ⟨B, 1, none⟩ = some (.int .i64 a0_1) := hc1
      have A4 := Aside0.mk (show impl_Table_at.f a0_0 a0_1 (i : Int) = some (Go.bits .and .i64 (shr .i64 a0_1 (i : Int)) 1) by unfold impl_Table_at.f; rw [if_pos (Int.natCast_nonneg _)])
      by_cases hc : Go.bits .andNot .i64 (i : Int) (m : Int) = 0
      · have S1 := Aside0.mk (show impl_Table_anf.sum a0_1 (m : Int) (i + 1) = Go.bits .xor .i64 (impl_Table_anf.sum a0_1 (m : Int) i) (Go.bits .and .i64 (shr .i64 a0_1 (i : Int)) 1) by simp only [impl_Table_anf.sum]; rw [if_pos hc])
        generalize Go.bits .and .i64 (shr .i64 a0_1 (i : Int)) 1 = v at A4 S1
        have hcb : (Go.bits .andNot .i64 (i : Int) (m : Int) == 0) = true := by rw [beq_iff_eq]; exact hc
        clear hc
        go_wp2_with fail
        (with_reducible refine (impl_Table_at.calls a0_0 a0_1 _ _ _ A4.out).mono ?_)
        rintro e w2 ⟨rfl, hb2⟩
        go_wp2
        go_roundw
        case rel => exact ⟨i + 1, by omega, by rw [S1.out], by go_num, ⟨below_step HB.out hb2⟩⟩
        case measure => simp [intOf]; omega
      · have S1 := Aside0.mk (show impl_Table_anf.sum a0_1 (m : Int) (i + 1) = impl_Table_anf.sum a0_1 (m : Int) i by simp only [impl_Table_anf.sum]; rw [if_neg hc])
        have hcb : (Go.bits .andNot .i64 (i : Int) (m : Int) == 0) = false := by rw [beq_eq_false_iff_ne]; exact hc
        clear hc
        go_wp2
        go_roundw
        case rel => exact ⟨i + 1, by omega, by rw [S1.out], by go_num, HB⟩
        case measure => simp [intOf]; omega
    · obtain rfl : i = N := by omega
      go_wp2
      go_ret
      exact ⟨by first | rfl | (simp; done), HB.out⟩
set_option maxHeartbeats 4000000 in
set_option maxRecDepth 100000 in
theorem impl_Table_anf.calls (a0_0 a0_1 r1 r2 : Int) (w : World) (h : impl_Table_anf.f a0_0 a0_1 = some (r1, r2)) :
    Calls Tryd.prog 34 #[.agg #[.int .i64 a0_0, .int .i64 a0_1]] w fun e w' => e = .returned (.agg #[.int .i64 r1, .int .i64 r2]) ∧ Below w.heap.size w w' := by
  unfold impl_Table_anf.f at h
  by_cases hb : 0 ≤ a0_0 ∧ a0_0 ≤ 5
  case neg => rw [if_neg hb] at h; exact absurd h (by simp)
  rw [if_pos hb] at h
  simp only [Option.some.injEq, Prod.mk.injEq] at h
  obtain ⟨rfl, rfl⟩ := h
  have hu := Tryd.underlying23
  have hcall := impl_makeTable.calls61 a0_0 hb #[.pointer (some ⟨w.heap.size, 0, none⟩)] (impl_Table_anf.on a0_0 a0_1) ((w.alloc (Obj.cells #[Value.int IntKind.i64 a0_0, Value.int IntKind.i64 a0_1] 23)).alloc (Obj.cells #[Value.int IntKind.i64 0, Value.int IntKind.i64 0] 23))
    (fun W x hW _ => impl_Table_anf.in_calls a0_0 a0_1 hb w.heap.size x W (blk_below (blk_alloc (blk_new w (Obj.cells #[Value.int IntKind.i64 a0_0, Value.int IntKind.i64 a0_1] 23)) (Obj.cells #[Value.int IntKind.i64 0, Value.int IntKind.i64 0] 23)) hW))
  generalize impl_makeTable.word (impl_Table_anf.on a0_0 a0_1) (2 ^ a0_0.toNat) = r at hcall ⊢
  go_enter Tryd.func34, Tryd.ntmps34
  go_wp2_with (go_at_call 60; refine hcall.mono ?_; rintro e w1 ⟨rfl, hb1⟩; have RK := Aside0.mk (blk_below (blk_new (w.alloc (Obj.cells #[Value.int IntKind.i64 a0_0, Value.int IntKind.i64 a0_1] 23)) (Obj.cells #[Value.int IntKind.i64 0, Value.int IntKind.i64 0] 23)) hb1); rw [show (w.alloc (Obj.cells #[Value.int IntKind.i64 a0_0, Value.int IntKind.i64 a0_1] 23)).heap.size = w.heap.size + 1 by simp] at RK; have k0 := (blk_cell RK.out 0).trans rfl; have k1 := (blk_cell RK.out 1).trans rfl; have f0 := blk_frozen RK.out 0; have f1 := blk_frozen RK.out 1)
  refine bodyPost_ret (results_cell_row rfl _ _ (w.heap.size + 1) 23 #[.int .i64 a0_0, .int .i64 r] (0, 0) _ rfl (blk_put (cs := #[.int .i64 a0_0, .int .i64 0]) (blk_put (cs := #[.int .i64 0, .int .i64 0]) RK.out 0 _ rfl) 1 _ rfl) hu rfl (by kernel_rfl)) rfl ?_
  exact ⟨rfl, below_set (below_set ((((Below.refl w.heap.size w).alloc (Nat.le_refl _) (Obj.cells #[Value.int IntKind.i64 a0_0, Value.int IntKind.i64 a0_1] 23)).alloc (by simp) (Obj.cells #[Value.int IntKind.i64 0, Value.int IntKind.i64 0] 23)).trans (hb1.mono (by simp; omega))) (by omega)) (by omega)⟩


/-! ### impl_isBits: function 31 -/
def impl_isBits.f (a0 : Int) : Option (Bool) := if a0 ≥ 0 then (some (decide (a0 ≤ 5))) else (some false)
set_option maxHeartbeats 8000000 in
set_option maxRecDepth 100000 in
theorem impl_isBits.calls (a0 : Int) (r : Bool) (w : World) (h : impl_isBits.f a0 = some r) :
  Calls Tryd.prog 31 #[.int .i64 a0] w fun e w' => e = .returned (.bool r) ∧ Drawn0 w w' := by
 have H : (if a0 ≥ 0 then (some (decide (a0 ≤ 5))) else (some false)) = some r := h
 clear h
 by_cases c2 : a0 ≥ 0
 ·rw [if_pos c2] at H
  have c2b0 : decide (0 ≤ a0) = true := decide_eq_true c2
  clear c2
  obtain rfl := Option.some.inj H
  go_enter Tryd.func31, Tryd.ntmps31
  go_wp2
  go_ret
  exact ⟨by first | rfl | (simp; done) | (simp [*]; done), by repeat (first | exact Drawn0.refl _ | apply Drawn0.step)⟩
 ·rw [if_neg c2] at H
  have c2b0 : decide (0 ≤ a0) = false := decide_eq_false c2
  clear c2
  obtain rfl := Option.some.inj H
  go_enter Tryd.func31, Tryd.ntmps31
  go_wp2
  go_ret
  exact ⟨by first | rfl | (simp; done) | (simp [*]; done), by repeat (first | exact Drawn0.refl _ | apply Drawn0.step)⟩


/-! ### impl_IsTable: function 37 -/
def impl_IsTable.f (a0_0 : Int) (a0_1 : Int) : Option (Bool) := (impl_isBits.f a0_0).bind fun t308 => (if t308 = true then (if a0_1 ≥ 0 then ((impl_Table_size.f a0_0 a0_1).bind fun t309 => (if 0 ≤ t309 then (some ((shr .i64 a0_1 t309) == 0)) else (none))) else (some false)) else (some false))
def impl_IsTable.T1 : Bool × List (List Nat × List Nat) := (true, [([], []), ([0], [0]), ([1], [1]), ([2, 2], [2]), ([3], [3]), ([4, 3], [3, 4]), ([5, 3], [3, 5]), ([3, 6], [3, 6]), ([7, 3], [7]), ([8], [8]), ([9, 8], [8, 9]), ([8], [8]), ([11, 8, 8], [8, 11]), ([10, 12, 8], [8, 10, 12]), ([13, 8], [8, 13]), ([8, 14], [8, 14]), ([15, 12, 0, 1, 2, 3, 4, 5, 6, 7, 8, 9, 10, 11, 12, 13, 14, 15], [15])])
def impl_IsTable.B1 : List Nat := [0, 1, 3, 7, 15, 31, 63, 127, 255, 511, 1023, 511, 2559, 8191, 16383, 32767, 65535]
theorem impl_IsTable.tab1 : rtab .any (opsOf Tryd.f37 1) = impl_IsTable.T1 := by kernel_rfl
theorem impl_IsTable.bits1 : waitsOk impl_IsTable.T1.2 impl_IsTable.B1 = true := by kernel_rfl
set_option maxHeartbeats 8000000 in
set_option maxRecDepth 100000 in
theorem impl_IsTable.calls (a0_0 : Int) (a0_1 : Int) (r : Bool) (w : World) (h : impl_IsTable.f a0_0 a0_1 = some r) :
  Calls Tryd.prog 37 #[.agg #[.int .i64 a0_0, .int .i64 a0_1]] w fun e w' => e = .returned (.bool r) ∧ Below w.heap.size w w' := by
 have hu23 := Tryd.underlying23
 have HB := Aside0.mk (Below.refl w.heap.size w)
 have H : ((impl_isBits.f a0_0).bind fun t308 => (if t308 = true then (if a0_1 ≥ 0 then ((impl_Table_size.f a0_0 a0_1).bind fun t309 => (if 0 ≤ t309 then (some ((shr .i64 a0_1 t309) == 0)) else (none))) else (some false)) else (some false))) = some r := h
 clear h
 replace H := Option.bind_eq_some_iff.mp H
 obtain ⟨t308, A20, H⟩ := H
 have A2 := Aside0.mk A20
 clear A20
 by_cases c3 : t308 = true
 ·subst c3
  rw [if_pos rfl] at H
  by_cases c4 : a0_1 ≥ 0
  ·rw [if_pos c4] at H
   have c4b0 : decide (0 ≤ a0_1) = true := decide_eq_true c4
   clear c4
   replace H := Option.bind_eq_some_iff.mp H
   obtain ⟨t309, A50, H⟩ := H
   have A5 := Aside0.mk A50
   clear A50
   by_cases c6 : 0 ≤ t309
   ·rw [if_pos c6] at H
    have c6b0 := eq_true c6
    have c6b1 : decide (0 ≤ t309) = true := decide_eq_true c6
    clear c6
    obtain ⟨ji7, hji7⟩ : ∃ j_ : Int, (shr .i64 a0_1 t309) = j_ := ⟨_, rfl⟩
    replace H : (some ((ji7) == 0)) = some r := by first | (rw [hji7] at H; exact H) | (simp only [hji7] at H ⊢; exact H)
    (try rw [hji7] at A2)
    (try rw [hji7] at A5)
    have hji7_ : (a0_1 / 2 ^ min t309.toNat 64) = ji7 := hji7
    have hji7z : t309 ≤ 64 → (a0_1 / 2 ^ t309.toNat) = ji7 := shr_small hji7
    obtain rfl := Option.some.inj H
    go_enter Tryd.func37, Tryd.ntmps37
    try go_wp2_with (first | ((with_reducible refine gate_dst (N := 1) rfl ?_); refine bx_ 1 #[.int .i64 a0_0, .int .i64 a0_1] 23 ?_; intro gb307 hg w8 hbox hb; have BK307 := Aside0.mk (hbox); have GW307 := gw_ hg (below_size (bv_ HB)); have GE307 := GW307; replace HB := Aside0.mk (below_step (bv_ HB) hb); clear hb hbox hg))
    replace BK307 := Aside0.mk (blk_drew BK307.out)
    replace HB := Aside0.mk (below_drew1 HB.out)
    refine start_ (n := 17) (S := fun w' => w'.cell? ⟨gb307, 0, none⟩ = some (.int .i64 a0_0) ∧ w'.cell? ⟨gb307, 1, none⟩ = some (.int .i64 a0_1)) (ds := []) (bs 17 0) (by kernel_rfl) rfl (by kernel_rfl) ⟨(blk_cell BK307.out 0).trans rfl, (blk_cell BK307.out 1).trans rfl⟩ (fun hHeld => ?_); refine with_tabW impl_IsTable.tab1 impl_IsTable.bits1 (fun HT_ HW_ => ?_)
    generalize w8.drew = w9 at BK307 HB hHeld ⊢
    refine pu_ HT_ 0 3 (bs 17 1) ?_
    refine ta2_ HT_ HW_ 1 4 (bs 17 3) hHeld ?_
    refine on_ HT_ 2 5 (bs 17 7) (fun K hK => ?_)
    refine goes_ Tryd.func31 (by kernel_rfl) rfl #[.int .i64 a0_0] (by rfl) rfl rfl mp_ ?_
    with_reducible refine (impl_isBits.calls a0_0 true _ A2.out).mono ?_
    rintro e w' ⟨rfl, ⟨nd, rfl⟩⟩
    refine ⟨_, rfl, ?_⟩
    refine hK.out _ _ ⟨(blk_cell BK307.out 0).trans rfl, (blk_cell BK307.out 1).trans rfl⟩ (fun hHeld => ?_)
    clear hK K
    refine no_ 5 ?_
    refine pu_ HT_ 3 6 (bs 17 15) ?_
    refine pu_ HT_ 4 7 (bs 17 31) ?_
    refine ta2_ HT_ HW_ 5 8 (bs 17 63) hHeld ?_
    refine pu_ HT_ 6 9 (bs 17 127) ?_
    refine pu_ HT_ 7 10 (bs 17 255) ?_
    refine pu_ HT_ 8 11 (bs 17 511) ?_
    refine pu_ HT_ 9 12 (bs 17 1023) ?_
    refine ta2_ HT_ HW_ 10 13 (bs 17 2047) hHeld ?_
    refine ta2_ HT_ HW_ 11 14 (bs 17 4095) hHeld ?_
    refine on_ HT_ 12 15 (bs 17 8191) (fun K hK => ?_)
    refine goes_ Tryd.func46 (by kernel_rfl) rfl #[.agg #[.int .i64 a0_0, .int .i64 a0_1]] (by rfl) rfl rfl mp_ ?_
    with_reducible refine (impl_Table_size.calls a0_0 a0_1 t309 _ A5.out).mono ?_
    rintro e w10 ⟨rfl, hb⟩
    refine ⟨_, rfl, ?_⟩
    replace BK307 := kb_ BK307 hb
    replace HB := Aside0.mk (below_step (bv1_ HB GE307) hb)
    (try clear hb)
    (try clear hb2)
    (try clear hk)
    (try clear hi)
    refine hK.out _ _ ⟨(blk_cell BK307.out 0).trans rfl, (blk_cell BK307.out 1).trans rfl⟩ (fun hHeld => ?_)
    clear hK K
    refine no_ 15 ?_
    refine pu_ HT_ 13 16 (bs 17 16383) ?_
    refine pu_ HT_ 14 17 (bs 17 32767) ?_
    refine pu_ HT_ 15 18 (bs 17 65535) ?_
    refine pu_ HT_ 16 2 (bs 17 131071) ?_
    refine done_ (done_of HT_.out (by kernel_rfl)) ?_
    try go_wp2
    go_ret
    exact ⟨by first | rfl | (simp [errW_none, errW_some] <;> rfl) | (simp only [← hji7]; first | rfl | (simp [errW_none, errW_some] <;> rfl)) | (simp [*, errW_none, errW_some] <;> rfl), bv1_ HB GE307⟩
   ·rw [if_neg c6] at H
    exact absurd H (by simp)
  ·rw [if_neg c4] at H
   have c4b0 : decide (0 ≤ a0_1) = false := decide_eq_false c4
   clear c4
   obtain rfl := Option.some.inj H
   go_enter Tryd.func37, Tryd.ntmps37
   try go_wp2_with (first | ((with_reducible refine gate_dst (N := 1) rfl ?_); refine bx_ 1 #[.int .i64 a0_0, .int .i64 a0_1] 23 ?_; intro gb307 hg w11 hbox hb; have BK307 := Aside0.mk (hbox); have GW307 := gw_ hg (below_size (bv_ HB)); have GE307 := GW307; replace HB := Aside0.mk (below_step (bv_ HB) hb); clear hb hbox hg))
   replace BK307 := Aside0.mk (blk_drew BK307.out)
   replace HB := Aside0.mk (below_drew1 HB.out)
   refine start_ (n := 17) (S := fun w' => w'.cell? ⟨gb307, 0, none⟩ = some (.int .i64 a0_0) ∧ w'.cell? ⟨gb307, 1, none⟩ = some (.int .i64 a0_1)) (ds := []) (bs 17 0) (by kernel_rfl) rfl (by kernel_rfl) ⟨(blk_cell BK307.out 0).trans rfl, (blk_cell BK307.out 1).trans rfl⟩ (fun hHeld => ?_); refine with_tabW impl_IsTable.tab1 impl_IsTable.bits1 (fun HT_ HW_ => ?_)
   generalize w11.drew = w12 at BK307 HB hHeld ⊢
   refine pu_ HT_ 0 3 (bs 17 1) ?_
   refine ta2_ HT_ HW_ 1 4 (bs 17 3) hHeld ?_
   refine on_ HT_ 2 5 (bs 17 7) (fun K hK => ?_)
   refine goes_ Tryd.func31 (by kernel_rfl) rfl #[.int .i64 a0_0] (by rfl) rfl rfl mp_ ?_
   with_reducible refine (impl_isBits.calls a0_0 true _ A2.out).mono ?_
   rintro e w' ⟨rfl, ⟨nd, rfl⟩⟩
   refine ⟨_, rfl, ?_⟩
   refine hK.out _ _ ⟨(blk_cell BK307.out 0).trans rfl, (blk_cell BK307.out 1).trans rfl⟩ (fun hHeld => ?_)
   clear hK K
   refine no_ 5 ?_
   refine pu_ HT_ 3 6 (bs 17 15) ?_
   refine pu_ HT_ 4 7 (bs 17 31) ?_
   refine ta2_ HT_ HW_ 5 8 (bs 17 63) hHeld ?_
   refine pu_ HT_ 6 9 (bs 17 127) ?_
   refine pu_ HT_ 7 10 (bs 17 255) ?_
   refine pu_ HT_ 8 11 (bs 17 511) ?_
   refine pure_ (i := 9) (N := some 12) (v := undef) (a' := ?_) (bs 17 1023) rfl rfl (any_of HT_.out (by kernel_rfl)) (fun _ _ _ h => h) (Or.inr ⟨by rfl, rfl⟩) ?_ ?_
   rotate_left
   ·simp only [Act.put, List.setIfInBounds_toArray, List.set_cons_zero, List.set_cons_succ, i64_w, i32_w]
    rfl
   refine pure_ (i := 10) (N := some 13) (v := undef) (a' := ?_) (bs 17 2047) rfl rfl (any_of HT_.out (by kernel_rfl)) (fun _ _ _ h => h) (Or.inr ⟨by rfl, rfl⟩) ?_ ?_
   rotate_left
   ·simp only [Act.put, List.setIfInBounds_toArray, List.set_cons_zero, List.set_cons_succ, i64_w, i32_w]
    rfl
   refine pure_ (i := 11) (N := some 14) (v := undef) (a' := ?_) (bs 17 4095) rfl rfl (any_of HT_.out (by kernel_rfl)) (fun _ _ _ h => h) (Or.inr ⟨by rfl, rfl⟩) ?_ ?_
   rotate_left
   ·simp only [Act.put, List.setIfInBounds_toArray, List.set_cons_zero, List.set_cons_succ, i64_w, i32_w]
    rfl
   refine pure_ (i := 12) (N := some 15) (v := undef) (a' := ?_) (bs 17 8191) rfl rfl (any_of HT_.out (by kernel_rfl)) (fun _ _ _ h => h) (Or.inr ⟨by rfl, rfl⟩) ?_ ?_
   rotate_left
   ·simp only [Act.put, List.setIfInBounds_toArray, List.set_cons_zero, List.set_cons_succ, i64_w, i32_w]
    rfl
   refine pure_ (i := 13) (N := some 16) (v := undef) (a' := ?_) (bs 17 16383) rfl rfl (any_of HT_.out (by kernel_rfl)) (fun _ _ _ h => h) (Or.inr ⟨by rfl, rfl⟩) ?_ ?_
   rotate_left
   ·simp only [Act.put, List.setIfInBounds_toArray, List.set_cons_zero, List.set_cons_succ, i64_w, i32_w]
    rfl
   refine pure_ (i := 14) (N := some 17) (v := undef) (a' := ?_) (bs 17 32767) rfl rfl (any_of HT_.out (by kernel_rfl)) (fun _ _ _ h => h) (Or.inr ⟨by rfl, rfl⟩) ?_ ?_
   rotate_left
   ·simp only [Act.put, List.setIfInBounds_toArray, List.set_cons_zero, List.set_cons_succ, i64_w, i32_w]
    rfl
   refine pu_ HT_ 15 18 (bs 17 65535) ?_
   refine pu_ HT_ 16 2 (bs 17 131071) ?_
   refine done_ (done_of HT_.out (by kernel_rfl)) ?_
   try go_wp2
   go_ret
   exact ⟨er_, bv1_ HB GE307⟩
 ·replace c3 := Bool.eq_false_iff.mpr c3
  subst c3
  rw [if_neg (show ¬ (false = true) by decide)] at H
  obtain rfl := Option.some.inj H
  go_enter Tryd.func37, Tryd.ntmps37
  try go_wp2_with (first | ((with_reducible refine gate_dst (N := 1) rfl ?_); refine bx_ 1 #[.int .i64 a0_0, .int .i64 a0_1] 23 ?_; intro gb307 hg w13 hbox hb; have BK307 := Aside0.mk (hbox); have GW307 := gw_ hg (below_size (bv_ HB)); have GE307 := GW307; replace HB := Aside0.mk (below_step (bv_ HB) hb); clear hb hbox hg))
  replace BK307 := Aside0.mk (blk_drew BK307.out)
  replace HB := Aside0.mk (below_drew1 HB.out)
  refine start_ (n := 17) (S := fun w' => w'.cell? ⟨gb307, 0, none⟩ = some (.int .i64 a0_0) ∧ w'.cell? ⟨gb307, 1, none⟩ = some (.int .i64 a0_1)) (ds := []) (bs 17 0) (by kernel_rfl) rfl (by kernel_rfl) ⟨(blk_cell BK307.out 0).trans rfl, (blk_cell BK307.out 1).trans rfl⟩ (fun hHeld => ?_); refine with_tabW impl_IsTable.tab1 impl_IsTable.bits1 (fun HT_ HW_ => ?_)
  generalize w13.drew = w14 at BK307 HB hHeld ⊢
  refine pu_ HT_ 0 3 (bs 17 1) ?_
  refine ta2_ HT_ HW_ 1 4 (bs 17 3) hHeld ?_
  refine on_ HT_ 2 5 (bs 17 7) (fun K hK => ?_)
  refine goes_ Tryd.func31 (by kernel_rfl) rfl #[.int .i64 a0_0] (by rfl) rfl rfl mp_ ?_
  with_reducible refine (impl_isBits.calls a0_0 false _ A2.out).mono ?_
  rintro e w' ⟨rfl, ⟨nd, rfl⟩⟩
  refine ⟨_, rfl, ?_⟩
  refine hK.out _ _ ⟨(blk_cell BK307.out 0).trans rfl, (blk_cell BK307.out 1).trans rfl⟩ (fun hHeld => ?_)
  clear hK K
  refine no_ 5 ?_
  refine pu_ HT_ 3 6 (bs 17 15) ?_
  refine pure_ (i := 4) (N := some 7) (v := undef) (a' := ?_) (bs 17 31) rfl rfl (any_of HT_.out (by kernel_rfl)) (fun _ _ _ h => h) (Or.inr ⟨by rfl, rfl⟩) ?_ ?_
  rotate_left
  ·simp only [Act.put, List.setIfInBounds_toArray, List.set_cons_zero, List.set_cons_succ, i64_w, i32_w]
   rfl
  refine pure_ (i := 5) (N := some 8) (v := undef) (a' := ?_) (bs 17 63) rfl rfl (any_of HT_.out (by kernel_rfl)) (fun _ _ _ h => h) (Or.inr ⟨by rfl, rfl⟩) ?_ ?_
  rotate_left
  ·simp only [Act.put, List.setIfInBounds_toArray, List.set_cons_zero, List.set_cons_succ, i64_w, i32_w]
   rfl
  refine pure_ (i := 6) (N := some 9) (v := undef) (a' := ?_) (bs 17 127) rfl rfl (any_of HT_.out (by kernel_rfl)) (fun _ _ _ h => h) (Or.inr ⟨by rfl, rfl⟩) ?_ ?_
  rotate_left
  ·simp only [Act.put, List.setIfInBounds_toArray, List.set_cons_zero, List.set_cons_succ, i64_w, i32_w]
   rfl
  refine pu_ HT_ 7 10 (bs 17 255) ?_
  refine pu_ HT_ 8 11 (bs 17 511) ?_
  refine pure_ (i := 9) (N := some 12) (v := undef) (a' := ?_) (bs 17 1023) rfl rfl (any_of HT_.out (by kernel_rfl)) (fun _ _ _ h => h) (Or.inr ⟨by rfl, rfl⟩) ?_ ?_
  rotate_left
  ·simp only [Act.put, List.setIfInBounds_toArray, List.set_cons_zero, List.set_cons_succ, i64_w, i32_w]
   rfl
  refine pure_ (i := 10) (N := some 13) (v := undef) (a' := ?_) (bs 17 2047) rfl rfl (any_of HT_.out (by kernel_rfl)) (fun _ _ _ h => h) (Or.inr ⟨by rfl, rfl⟩) ?_ ?_
  rotate_left
  ·simp only [Act.put, List.setIfInBounds_toArray, List.set_cons_zero, List.set_cons_succ, i64_w, i32_w]
   rfl
  refine pure_ (i := 11) (N := some 14) (v := undef) (a' := ?_) (bs 17 4095) rfl rfl (any_of HT_.out (by kernel_rfl)) (fun _ _ _ h => h) (Or.inr ⟨by rfl, rfl⟩) ?_ ?_
  rotate_left
  ·simp only [Act.put, List.setIfInBounds_toArray, List.set_cons_zero, List.set_cons_succ, i64_w, i32_w]
   rfl
  refine pure_ (i := 12) (N := some 15) (v := undef) (a' := ?_) (bs 17 8191) rfl rfl (any_of HT_.out (by kernel_rfl)) (fun _ _ _ h => h) (Or.inr ⟨by rfl, rfl⟩) ?_ ?_
  rotate_left
  ·simp only [Act.put, List.setIfInBounds_toArray, List.set_cons_zero, List.set_cons_succ, i64_w, i32_w]
   rfl
  refine pure_ (i := 13) (N := some 16) (v := undef) (a' := ?_) (bs 17 16383) rfl rfl (any_of HT_.out (by kernel_rfl)) (fun _ _ _ h => h) (Or.inr ⟨by rfl, rfl⟩) ?_ ?_
  rotate_left
  ·simp only [Act.put, List.setIfInBounds_toArray, List.set_cons_zero, List.set_cons_succ, i64_w, i32_w]
   rfl
  refine pure_ (i := 14) (N := some 17) (v := undef) (a' := ?_) (bs 17 32767) rfl rfl (any_of HT_.out (by kernel_rfl)) (fun _ _ _ h => h) (Or.inr ⟨by rfl, rfl⟩) ?_ ?_
  rotate_left
  ·simp only [Act.put, List.setIfInBounds_toArray, List.set_cons_zero, List.set_cons_succ, i64_w, i32_w]
   rfl
  refine pu_ HT_ 15 18 (bs 17 65535) ?_
  refine pu_ HT_ 16 2 (bs 17 131071) ?_
  refine done_ (done_of HT_.out (by kernel_rfl)) ?_
  try go_wp2
  go_ret
  exact ⟨er_, bv1_ HB GE307⟩


end Go.Proofs.YteljkpglgjjnlaaDoor.P
