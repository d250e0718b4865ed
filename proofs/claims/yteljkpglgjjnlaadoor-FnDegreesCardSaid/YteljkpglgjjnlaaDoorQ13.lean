-- Out of the translation, by this session's program over the printer's; Lean checks it.
import Derived.Test.YteljkpglgjjnlaaDoorSh
import Derived.Test.YteljkpglgjjnlaaDoorQ0
import Derived.Test.YteljkpglgjjnlaaDoorQ4
import Derived.Test.YteljkpglgjjnlaaDoorQ7
import Derived.Test.YteljkpglgjjnlaaDoorQ9
import Derived.Test.YteljkpglgjjnlaaDoorQ11
import Derived.Test.YteljkpglgjjnlaaDoorQ12
namespace Go.Proofs.YteljkpglgjjnlaaDoor.P
open Go.RowKit Go.Proofs.YteljkpglgjjnlaaDoorW.PrintWords Go.Proofs.YteljkpglgjjnlaaDoorW.PrintLast Go.Proofs.YteljkpglgjjnlaaDoorW.PrintMore
attribute [local go_sem] max2_int min2_int max_two min_two max_three min_three max_four min_four
set_option linter.unusedVariables false
set_option linter.unusedSimpArgs false

/-! ### spec_DrawTableOfCoefficients: function 24 -/
def spec_DrawTableOfCoefficients.j0 : Nat → List Int → Bool → List Int → Int → Int → Option (List Int)
 | 0, _, _, _, _, _ => none
 | k + 1, x4, x16, x782000, x782001, x782002 => if x16 = true then ((spec_l1Below.f x782000 x782001 x782002 (x4.length : Int)).bind fun bt792 => ((spec_l1PickInt.f x782000 bt792.2.1 bt792.2.2 (([0, 1, (-1), 1001, (-9223372036854775808)] : List Int))).bind fun bt798 => (if 0 ≤ bt792.1 then (if bt792.1 < (x4.length : Int) then ((some (x4.set (bt792.1 : Int).toNat bt798.1 : List Int)).bind fun y801 => ((spec_l1Once.f x782000 bt798.2.1 bt798.2.2 14).bind fun bt802 => (if bt802.1 = true then (if y801.length < 17592186044416 then (some (y801 ++ [0])) else (none)) else (some y801)))) else (none)) else (none)))) else ((spec_l1Once.f x782000 x782001 x782002 14).bind fun bt808 => (if bt808.1 = true then (if x4.length < 17592186044416 then (some (x4 ++ [0])) else (none)) else (some x4)))
def spec_DrawTableOfCoefficients.f (k : Nat) (l0 : List Int) : Option (List Int) := (spec_l1New.f k l0).bind fun bt778 => ((spec_l2Any.f k bt778.1 bt778.2.1 bt778.2.2).bind fun bt782 => ((spec_RealCoefficients.f k bt782.1 bt782.2.1).bind fun t786 => (if (t786.length : Int) > 0 then ((spec_l1Once.f bt778.1 bt782.2.2.1 bt782.2.2.2 4).bind fun bt789 => (spec_DrawTableOfCoefficients.j0 k t786 bt789.1 bt778.1 bt789.2.1 bt789.2.2)) else (spec_DrawTableOfCoefficients.j0 k t786 false bt778.1 bt782.2.2.1 bt782.2.2.2))))
theorem spec_DrawTableOfCoefficients.mono_l : ∀ k, (∀ y0 y1 y2 y3 y4, LeO (spec_DrawTableOfCoefficients.j0 k y0 y1 y2 y3 y4) (spec_DrawTableOfCoefficients.j0 (k + 1) y0 y1 y2 y3 y4))
 | 0 => fun _ _ _ _ _ r h => by simp [spec_DrawTableOfCoefficients.j0] at h
 | k + 1 => by
  have ih0 := spec_DrawTableOfCoefficients.mono_l k
  ·intro y0 y1 y2 y3 y4
   unfold spec_DrawTableOfCoefficients.j0
   repeat' first
   | (with_reducible exact ih0 _ _ _ _ _)
   | (with_reducible exact spec_RealCoefficients.mono _ _ _)
   | (with_reducible exact spec_l1New.mono _ _)
   | (with_reducible exact spec_l2Any.mono _ _ _ _)
   | (with_reducible exact LeO.refl _)
   | (with_reducible exact LeO.none _)
   | (with_reducible refine LeO.ite ?_ ?_)
   | (with_reducible refine LeO.bind ?_ (fun _ => ?_))
   | exact ih0 _ _ _ _ _
   | exact spec_RealCoefficients.mono _ _ _
   | exact spec_l1New.mono _ _
   | exact spec_l2Any.mono _ _ _ _
   | exact LeO.none _
   | refine LeO.ite ?_ ?_
   | refine LeO.bind ?_ (fun _ => ?_)
theorem spec_DrawTableOfCoefficients.mono : ∀ a0 k, LeO (spec_DrawTableOfCoefficients.f k a0) (spec_DrawTableOfCoefficients.f (k + 1) a0) := by
 intro a0 k
 have ih0 := spec_DrawTableOfCoefficients.mono_l k
 unfold spec_DrawTableOfCoefficients.f
 repeat' first
   | (with_reducible exact ih0 _ _ _ _ _)
   | (with_reducible exact spec_RealCoefficients.mono _ _ _)
   | (with_reducible exact spec_l1New.mono _ _)
   | (with_reducible exact spec_l2Any.mono _ _ _ _)
   | (with_reducible exact LeO.refl _)
   | (with_reducible exact LeO.none _)
   | (with_reducible refine LeO.ite ?_ ?_)
   | (with_reducible refine LeO.bind ?_ (fun _ => ?_))
   | exact ih0 _ _ _ _ _
   | exact spec_RealCoefficients.mono _ _ _
   | exact spec_l1New.mono _ _
   | exact spec_l2Any.mono _ _ _ _
   | exact LeO.none _
   | refine LeO.ite ?_ ?_
   | refine LeO.bind ?_ (fun _ => ?_)
set_option maxHeartbeats 8000000 in
set_option maxRecDepth 100000 in
theorem spec_DrawTableOfCoefficients.calls (k : Nat) (A0 : Option Addr) (c0 : Nat) (l0 : List Int) (r : List Int) (w : World) (hr0 : Kd.C (Kd.int .u8) w A0 l0.length l0) (hc0 : l0.length ≤ c0) (h : spec_DrawTableOfCoefficients.f k l0 = some r) :
  Calls Tryd.prog 24 #[.slice A0 l0.length c0] w fun e w' => ∃ v0_ : Value, e = .returned (v0_) ∧ Kd.R (Kd.int .i64) 3 w' w.heap.size (fun _ => True) v0_ r ∧ Below w.heap.size w w' := by
 have HR0 := Aside0.mk hr0
 have HC0 := Aside0.mk hc0
 clear hr0 hc0
 have HB := Aside0.mk (Below.refl w.heap.size w)
 have H : ((spec_l1New.f k l0).bind fun bt778 => ((spec_l2Any.f k bt778.1 bt778.2.1 bt778.2.2).bind fun bt782 => ((spec_RealCoefficients.f k bt782.1 bt782.2.1).bind fun t786 => (if (t786.length : Int) > 0 then ((spec_l1Once.f bt778.1 bt782.2.2.1 bt782.2.2.2 4).bind fun bt789 => (spec_DrawTableOfCoefficients.j0 k t786 bt789.1 bt778.1 bt789.2.1 bt789.2.2)) else (spec_DrawTableOfCoefficients.j0 k t786 false bt778.1 bt782.2.2.1 bt782.2.2.2))))) = some r := h
 clear h
 replace H := Option.bind_eq_some_iff.mp H
 obtain ⟨⟨t778, t779, t780⟩, A20, H⟩ := H
 dsimp only at H
 have A2 := Aside0.mk A20
 clear A20
 replace H := Option.bind_eq_some_iff.mp H
 obtain ⟨⟨t782, t783, t784, t785⟩, A30, H⟩ := H
 dsimp only at H
 have A3 := Aside0.mk A30
 clear A30
 replace H := Option.bind_eq_some_iff.mp H
 obtain ⟨t786, A40, H⟩ := H
 have A4 := Aside0.mk A40
 clear A40
 have HC5 := Aside0.mk H
 clear H
 go_enter Tryd.func24, Tryd.ntmps24
 go_upto_region 3 with (first | ((with_reducible refine gate_callee (f := 36) rfl ?_); refine gl_ 6 Tryd.func36 #[.slice A0 l0.length c0] rfl mp_ ?_; (with_reducible refine (spec_l1New.calls k _ _ l0 t778 t779 t780 w _ ?side1 ?side2 ?side3 A2.out).mono ?_); (case side1 => repeat (first | (with_reducible first | exact HB.out | apply below_alloc | apply pw_below_drewN | apply below_drew1) | exact HB.out)); (case side2 => exact HR0.out); (case side3 => exact HC0.out); rintro e w6 ⟨g781, rfl, hi, hb, hb2⟩; refine ⟨_, rfl, ?_⟩; have n0_ := Aside0.mk (hb); have n1_ := Aside0.mk (hi); clear HB; have HB := n0_; have HI781 := n1_; clear n0_ n1_; (try clear hb); (try clear hb2); (try clear hk); (try clear hi)) | ((with_reducible refine gate_callee (f := 35) rfl ?_); refine gl_ 8 Tryd.func35 #[.pointer (some ⟨g781, 0, none⟩)] rfl mp_ ?_; (with_reducible refine (spec_l2Any.calls k g781 t778 t779 t780 t782 t783 t784 t785 w _ ?side1 ?side2 A3.out).mono ?_); (case side1 => exact ia_ HI781); (case side2 => exact bi_ HB HI781); rintro e w7 ⟨rfl, hi, hb, hk⟩; refine ⟨_, rfl, ?_⟩; have n0_ := Aside0.mk (hb); have n1_ := Aside0.mk (hi); clear HB; clear HI781; have HB := n0_; have HI781 := n1_; clear n0_ n1_; (try clear hb); (try clear hb2); (try clear hk); (try clear hi)) | ((with_reducible refine gate_callee (f := 14) rfl ?_); refine gl_ 9 Tryd.func14 #[.agg #[.int .i64 t782, .int .i64 t783]] rfl mp_ ?_; (with_reducible refine (spec_RealCoefficients.calls k t782 t783 t786 _ A4.out).mono ?_); rintro e w8 ⟨v787, rfl, ho0, hb⟩; refine ⟨_, rfl, ?_⟩; have n0_ := Aside0.mk (Kd.R_lower ho0 (below_size (bi_ HB HI781))); have n1_ := Aside0.mk (IsS75.below (ia_ HI781) hb); have n2_ := Aside0.mk (below_step (bi_ HB HI781) hb); clear HI781; clear HB; have HO788 := n0_; have HI781 := n1_; have HB := n2_; clear n0_ n1_ n2_; (try clear hb); (try clear hb2); (try clear hk); (try clear hi); (try clear ho0)))
 (try simp only [Act.put, List.setIfInBounds_toArray, List.set_cons_zero, List.set_cons_succ])
 go_cut [16] (fun v16 wc => ∃ (kq : Nat) (x16_4 : Bool) (x782001_4 : Int) (x782002_4 : Int), v16 = .bool x16_4 ∧ Aside0 (spec_DrawTableOfCoefficients.j0 kq t786 x16_4 t778 x782001_4 x782002_4 = some r) ∧ Aside0 (kq ≤ k) ∧ Aside0 (Kd.R (Kd.int .i64) 3 wc w.heap.size (fun _ => True) v787 t786) ∧ Aside0 (IsS75 w wc g781 t778 x782001_4 x782002_4) ∧ Aside0 (Below w.heap.size w wc))
 case first =>
  have H := HC5.out
  clear HC5
  by_cases c9 : (t786.length : Int) > 0
  ·rw [if_pos c9] at H
   have c9b0 : decide (0 < (t786.length : Int)) = true := decide_eq_true c9
   have c9b1 : decide (0 < t786.length) = true := decide_eq_true (by omega)
   clear c9
   (first | rw [c9b0] | (simp only [i64_w, i32_w]; rw [c9b0]) | skip)
   replace H := Option.bind_eq_some_iff.mp H
   obtain ⟨⟨t789, t790, t791⟩, A100, H⟩ := H
   replace H : (spec_DrawTableOfCoefficients.j0 k t786 t789 t778 t790 t791) = some r := H
   have A10 := Aside0.mk A100
   clear A100
   have H' := Aside0.mk H
   clear H
   obtain ⟨Ao11, co11, eo11⟩ := Kd.R_slice HO788.out
   subst eo11
   go_wp2_with (first | (go_at_call 52; (with_reducible refine (spec_l1Once.calls g781 t778 t784 t785 4 t789 t790 t791 w _ ?side1 ?side2 A10.out).mono ?_); (case side1 => exact ia_ HI781); (case side2 => exact bi_ HB HI781); rintro e w12 ⟨rfl, hi, hb, hk⟩; replace HO788 := Aside0.mk (Kd.R_mono (Kd.R_keep (IsS75.apart (show IsS75 w _ g781 t778 t784 t785 from ia_ HI781) (rv_ HO788) (by decide)) hk (fun _ h => h.2)) (fun _ h => h.1)); replace HB := Aside0.mk (hb); replace HI781 := Aside0.mk (hi); (try clear hb); (try clear hb2); (try clear hk); (try clear hi)))
   go_meet
   case rel => exact ⟨_, (t789), (t790), (t791), (by first | rfl | (simp; done) | (simp [*]; done)), H', ⟨by first | omega | exact Nat.le_refl _⟩, ⟨by (with_reducible repeat (first | apply Kd.R_alloc | apply Kd.R_drewN | apply Kd.R_drew)); exact HO788.out⟩, ⟨ia_ HI781⟩, ⟨bi_ HB HI781⟩⟩
  ·rw [if_neg c9] at H
   have c9b0 : decide (0 < (t786.length : Int)) = false := decide_eq_false c9
   have c9b1 : decide (0 < t786.length) = false := decide_eq_false (by omega)
   clear c9
   (first | rw [c9b0] | (simp only [i64_w, i32_w]; rw [c9b0]) | skip)
   have H' := Aside0.mk H
   clear H
   obtain ⟨Ao13, co13, eo13⟩ := Kd.R_slice HO788.out
   subst eo13
   go_wp2
   go_meet
   case rel => exact ⟨_, (false), (t784), (t785), (by first | rfl | (simp; done) | (simp [*]; done)), H', ⟨by first | omega | exact Nat.le_refl _⟩, ⟨by (with_reducible repeat (first | apply Kd.R_alloc | apply Kd.R_drewN | apply Kd.R_drew)); exact HO788.out⟩, ⟨ia_ HI781⟩, ⟨bi_ HB HI781⟩⟩
 case rest =>
  clear HC5
  try clear c1
  try clear c2
  try clear p2
  try clear c3
  try clear c9
  try clear c9b0
  try clear c9b1
  obtain ⟨kq, x16_4, x782001_4, x782002_4, rfl, HA, HJ4, HO_4, HI781, HB⟩ := hcut
  cases kq with
  | zero => exact absurd HA.out (by simp [spec_DrawTableOfCoefficients.j0])
  | succ kj4 =>
   have H := HA.out
   clear HA
   simp only [spec_DrawTableOfCoefficients.j0] at H
   by_cases c14 : x16_4 = true
   ·subst c14
    rw [if_pos rfl] at H
    replace H := Option.bind_eq_some_iff.mp H
    obtain ⟨⟨t792, t793, t794⟩, A150, H⟩ := H
    dsimp only at H
    have A15 := Aside0.mk A150
    clear A150
    obtain ⟨y795, hy795⟩ : ∃ y_ : List Int, y_ = (([0, 1, (-1), 1001, (-9223372036854775808)] : List Int)) := ⟨_, rfl⟩
    replace H : ((spec_l1PickInt.f t778 t793 t794 y795).bind fun bt798 => (if 0 ≤ t792 then (if t792 < (t786.length : Int) then ((some (t786.set (t792 : Int).toNat bt798.1 : List Int)).bind fun y801 => ((spec_l1Once.f t778 bt798.2.1 bt798.2.2 14).bind fun bt802 => (if bt802.1 = true then (if y801.length < 17592186044416 then (some (y801 ++ [0])) else (none)) else (some y801)))) else (none)) else (none))) = some r := by first | (rw [hy795]; with_reducible exact H) | (have H2_ := (Option.bind_some _ _).symm.trans H; rw [hy795]; with_reducible exact H2_) | (have H2_ := (Option.bind_some _ _).symm.trans H; with_reducible exact H2_) | with_reducible exact H | (rw [hy795]; exact H) | exact H
    have Ny795 := Aside0.mk hy795
    clear hy795
    replace H := Option.bind_eq_some_iff.mp H
    obtain ⟨⟨t798, t799, t800⟩, A160, H⟩ := H
    dsimp only at H
    have A16 := Aside0.mk A160
    clear A160
    by_cases c17 : 0 ≤ t792
    ·rw [if_pos c17] at H
     have c17b0 : decide (0 ≤ t792) = true := decide_eq_true c17
     clear c17
     by_cases c18 : t792 < (t786.length : Int)
     ·rw [if_pos c18] at H
      have c18b0 : decide (t792 < (t786.length : Int)) = true := decide_eq_true c18
      clear c18
      obtain ⟨y801, hy801⟩ : ∃ y_ : List Int, y_ = (t786.set (t792 : Int).toNat t798) := ⟨_, rfl⟩
      replace H : ((spec_l1Once.f t778 t799 t800 14).bind fun bt802 => (if bt802.1 = true then (if y801.length < 17592186044416 then (some (y801 ++ [0])) else (none)) else (some y801))) = some r := by first | (rw [hy801]; with_reducible exact H) | (have H2_ := (Option.bind_some _ _).symm.trans H; rw [hy801]; with_reducible exact H2_) | (have H2_ := (Option.bind_some _ _).symm.trans H; with_reducible exact H2_) | with_reducible exact H | (rw [hy801]; exact H) | exact H
      have Ny801 := Aside0.mk hy801
      clear hy801
      replace H := Option.bind_eq_some_iff.mp H
      obtain ⟨⟨t802, t803, t804⟩, A200, H⟩ := H
      replace H : (if t802 = true then (if y801.length < 17592186044416 then (some (y801 ++ [0])) else (none)) else (some y801)) = some r := H
      have A20 := Aside0.mk A200
      clear A200
      by_cases c21 : t802 = true
      ·subst c21
       rw [if_pos rfl] at H
       by_cases c22 : y801.length < 17592186044416
       ·rw [if_pos c22] at H
        have LMc22 := Aside0.mk c22
        clear c22
        obtain ⟨y805, hy805⟩ : ∃ y_ : List Int, y_ = (y801 ++ [0]) := ⟨_, rfl⟩
        replace H : (some y805) = some r := by first | (rw [hy805]; with_reducible exact H) | (have H2_ := (Option.bind_some _ _).symm.trans H; rw [hy805]; with_reducible exact H2_) | (have H2_ := (Option.bind_some _ _).symm.trans H; with_reducible exact H2_) | with_reducible exact H | (rw [hy805]; exact H) | exact H
        have Ny805 := Aside0.mk hy805
        clear hy805
        obtain rfl := Option.some.inj H
        obtain ⟨Ao23, co23, eo23⟩ := Kd.R_slice HO_4.out
        subst eo23
        go_wp2_with (first | ((with_reducible refine gate_callee (f := 54) rfl ?_); refine gl_ 21 Tryd.func54 #[.pointer (some ⟨g781, 0, none⟩), .int .i64 (t786.length : Int)] rfl mp_ ?_; (with_reducible refine (spec_l1Below.calls g781 t778 x782001_4 x782002_4 (t786.length : Int) t792 t793 t794 w _ ?side1 ?side2 A15.out).mono ?_); (case side1 => exact ia_ HI781); (case side2 => exact bi_ HB HI781); rintro e w24 ⟨rfl, hi, hb, hk⟩; refine ⟨_, rfl, ?_⟩; replace HO_4 := Aside0.mk (Kd.R_mono (Kd.R_keep (IsS75.apart (show IsS75 w _ g781 t778 x782001_4 x782002_4 from ia_ HI781) (rv_ HO_4) (by decide)) hk (fun _ h => h.2)) (fun _ h => h.1)); replace HB := Aside0.mk (hb); replace HI781 := Aside0.mk (hi); (try clear hb); (try clear hb2); (try clear hk); (try clear hi)) | ((with_reducible refine gate_dst (N := 23) rfl ?_); refine Kd.R_lit (Kd.int .i64) _ 3 ?hg (N := 23) ?hd (xs := ([0, 1, (-1), 1001, (-9223372036854775808)] : List Int)) (inner := [.int .i64 0, .int .i64 1, .int .i64 (-1), .int .i64 1001, .int .i64 (-9223372036854775808)]) (ok := fun _ => True) (okp := fun _ => True) ?hr ?hp (fun _ hk => hk) trivial (Below.refl _ _) (Nat.le_refl _) (by simp) ?_; (case hd => rfl); (case hg => rfl); (case hr => first | (go_simp; done) | (go_simp; rfl)); (case hp => exact (Reps.one (show Kd.M (Kd.int .i64) _ _ _ 0 [.int .i64 0] from rfl) (Reps.one (show Kd.M (Kd.int .i64) _ _ _ 1 [.int .i64 1] from rfl) (Reps.one (show Kd.M (Kd.int .i64) _ _ _ (-1) [.int .i64 (-1)] from rfl) (Reps.one (show Kd.M (Kd.int .i64) _ _ _ 1001 [.int .i64 1001] from rfl) (Reps.one (show Kd.M (Kd.int .i64) _ _ _ (-9223372036854775808) [.int .i64 (-9223372036854775808)] from rfl) (Reps.none _ _))))))); intro v796 w25 ho26 hb hg_ hnew_; clear hg_ hnew_; (first | rw [← Ny795.out] at ho26 | (simp only [Int.reduceToNat] at ho26; rw [← Ny795.out] at ho26)); have HO797 := Aside0.mk (Kd.R_lower (Kd.R_new' ho26 (Kd.R_lt (rv_ HO_4))) (below_size (bi_ HB HI781))); replace HO_4 := Aside0.mk (Kd.R_elder' (rv_ HO_4) (Kd.R_base ho26) hb); replace HB := Aside0.mk (below_step (bi_ HB HI781) hb); replace HI781 := Aside0.mk (IsS75.below (ia_ HI781) hb); clear hb ho26; obtain ⟨Ao27, co27, eo27⟩ := Kd.R_slice HO797.out; subst eo27) | ((with_reducible refine gate_callee (f := 53) rfl ?_); refine gl_ 24 Tryd.func53 #[.pointer (some ⟨g781, 0, none⟩), .slice Ao27 y795.length co27] rfl mp_ ?_; (with_reducible refine (spec_l1PickInt.calls g781 t778 t793 t794 _ _ y795 t798 t799 t800 w _ ?side1 ?side2 ?side3 ?side4 ?side5 A16.out).mono ?_); (case side1 => exact ia_ HI781); (case side2 => exact bi_ HB HI781); (case side3 => repeat (first | exact (Kd.R_reads' HO797.out).2.2 | (with_reducible refine Kd.C_alloc ?_ _) | (with_reducible refine Kd.C_drewN ?_ _) | (with_reducible refine Kd.C_drew ?_))); (case side4 => exact (Kd.R_reads' HO797.out).2.1); (case side5 => exact far_slice (IsS75.own_ne HI781.out HO797.out (by decide))); rintro e w28 ⟨rfl, hi, hb, hk⟩; refine ⟨_, rfl, ?_⟩; replace HO_4 := Aside0.mk (Kd.R_mono (Kd.R_keep (IsS75.apart (show IsS75 w _ g781 t778 t793 t794 from ia_ HI781) (rv_ HO_4) (by decide)) hk (fun _ h => h.2)) (fun _ h => h.1)); replace HO797 := Aside0.mk (Kd.R_mono (Kd.R_keep (IsS75.apart (show IsS75 w _ g781 t778 t793 t794 from ia_ HI781) (rv_ HO797) (by decide)) hk (fun _ h => h.2)) (fun _ h => h.1)); replace HB := Aside0.mk (hb); replace HI781 := Aside0.mk (hi); (try clear hb); (try clear hb2); (try clear hk); (try clear hi); have p19 : 0 ≤ (t792 : Int) := of_decide_eq_true (by first | (with_reducible assumption) | assumption); have q19 : (t792 : Int) < ((t786.length : Int) : Int) := of_decide_eq_true (by first | (with_reducible assumption) | assumption); obtain ⟨go19, co19, eo19, gb19, gl19, cl19, HG19⟩ := Kd.R_form HO_4.out (by omega); (first | cases eo19 | (injection eo19 with ea_ en_ ec_; (first | subst ea_ | (injection ea_ with ea_; subst ea_)); subst ec_; clear en_)); have GB19 := Aside0.mk gb19; have GG19 := Aside0.mk HG19; clear gb19 gl19 HG19; obtain ⟨hx19_0, hf19_0⟩ := Kd.R_celln 0 HO_4.out (t792 : Int) p19 q19; replace p19 := eq_true p19; replace q19 := eq_true q19; have n_ := Aside0.mk (Kd.R_mono (ok' := (fun k_ => some k_ ≠ (.slice Ao27 y795.length co27 : Value).ownBlock)) HO_4.out (fun k_ hk => hk.2)); clear HO_4; have HO_4 := n_; clear n_; obtain ⟨hy29_, hz29_⟩ := Kd.R_celln 0 HO_4.out (t792 : Int) (of_decide_eq_true (by first | (with_reducible assumption) | assumption)) (of_decide_eq_true (by first | (with_reducible assumption) | assumption)); have HP29 := Kd.R_putg HO_4.out (t792 : Int) t798) | ((with_reducible refine gate_store (t := 3) (p := 25) rfl ?_); refine store_event (t := 3) (p := 25) (v := ?vo_w30) (w1 := (w28.setCell ⟨go19, (t792 : Int).toNat, none⟩ (.int .i64 t798))) ?hg ?ho ?hn ?hr ?_; (case ho => rfl); (case hg => rfl); (case hn => rfl); (case hr => first | (go_simp; done) | (go_simp; rfl)); intro w30 hw; have hg : w28.grownBy w30 (some go19) := (by rw [hw]; exact HP29.2); have hp_ : Kd.R (Kd.int .i64) 3 w30 w.heap.size (fun k_ => some k_ ≠ (.slice Ao27 y795.length co27 : Value).ownBlock) (.slice (some ⟨go19, 0, none⟩) t786.length co23) y801 := (by rw [hw, Ny801.out]; exact HP29.1); clear HP29; replace HI781 := Aside0.mk (IsS75.grown (ia_ HI781) hg (IsS75.own_ne HI781.out HO_4.out (by decide))); replace HO_4 := Aside0.mk (hp_); replace HO797 := Aside0.mk (Kd.R_after (v := (.slice (some ⟨go19, 0, none⟩) t786.length co23)) (v1 := (.slice (some ⟨go19, 0, none⟩) t786.length co23)) (ok := (fun _ => True)) (rv_ HO797) hg (.inl rfl)); replace HB := Aside0.mk ((by rw [hw]; exact below_set (HB.out) GB19.out : Below w.heap.size w w30)); clear hg hw hp_) | ((with_reducible refine gate_callee (f := 52) rfl ?_); refine gl_ 27 Tryd.func52 #[.pointer (some ⟨g781, 0, none⟩), .int .i64 14] rfl mp_ ?_; (with_reducible refine (spec_l1Once.calls g781 t778 t799 t800 14 true t803 t804 w _ ?side1 ?side2 A20.out).mono ?_); (case side1 => exact ia_ HI781); (case side2 => exact bi_ HB HI781); rintro e w31 ⟨rfl, hi, hb, hk⟩; refine ⟨_, rfl, ?_⟩; replace HO_4 := Aside0.mk (Kd.R_mono (Kd.R_keep (IsS75.apart (show IsS75 w _ g781 t778 t799 t800 from ia_ HI781) (rv_ HO_4) (by decide)) hk (fun _ h => h.2)) (fun _ h => h.1)); replace HO797 := Aside0.mk (Kd.R_mono (Kd.R_keep (IsS75.apart (show IsS75 w _ g781 t778 t799 t800 from ia_ HI781) (rv_ HO797) (by decide)) hk (fun _ h => h.2)) (fun _ h => h.1)); replace HB := Aside0.mk (hb); replace HI781 := Aside0.mk (hi); (try clear hb); (try clear hb2); (try clear hk); (try clear hi)) | ((with_reducible refine gate_builtin (b := .append) (xs := #[.tmp 28, .tmp 29]) rfl ?_); at_builtin; refine Kd.R_append (Kd.int .i64) (w0 := w) w.heap.size rfl (.tmp 28) (.tmp 29) 32 3 (.int .i64 0) 8 rfl Tryd.underlying32 info3 rfl (by decide) (by omega) (.slice (some ⟨go19, 0, none⟩) t786.length co23) y801 0 [.int .i64 0] (fun k_ => some k_ ≠ (.slice Ao27 y795.length co27 : Value).ownBlock) (fun _ => False) rfl rfl ?aP (fun _ hk => hk.elim) ?aF ?aO ?aB ?aS ?aL ?_; (case aP => exact rfl); (case aB => exact (bi_ HB HI781)); (case aF => exact (fun k_ hk => Kd.fresh' (Kd.R_lt (rv_ HO797)) k_ hk)); (case aO => exact (rv_ HO_4)); (case aS => exact (below_size (bi_ HB HI781))); (case aL => have := LMc22.out; omega); intro v806 w32 ho hb hg hat; rw [← Ny805.out] at ho; have n0_ := Aside0.mk (IsS75.grown (ia_ HI781) hg (IsS75.own_ne HI781.out HO_4.out (by decide))); have n1_ := Aside0.mk (Kd.R_after (ok := (fun _ => True)) (rv_ HO797) hg hat); have n2_ := Aside0.mk (hb); have n3_ := Aside0.mk (ho); clear HI781; clear HO797; clear HB; clear HO_4; have HI781 := n0_; have HO797 := n1_; have HB := n2_; have HO807 := n3_; clear n0_ n1_ n2_ n3_; clear ho hb hg hat))
        go_ret
        exact ⟨_, er_, by (with_reducible repeat (first | apply Kd.R_alloc | apply Kd.R_drewN | apply Kd.R_drew)); exact Kd.R_mono HO807.out (fun _ hk => trivial), bi_ HB HI781⟩
       ·rw [if_neg c22] at H
        exact absurd H (by simp)
      ·replace c21 := Bool.eq_false_iff.mpr c21
       subst c21
       rw [if_neg (show ¬ (false = true) by decide)] at H
       obtain rfl := Option.some.inj H
       obtain ⟨Ao33, co33, eo33⟩ := Kd.R_slice HO_4.out
       subst eo33
       go_wp2_with (first | ((with_reducible refine gate_callee (f := 54) rfl ?_); refine gl_ 21 Tryd.func54 #[.pointer (some ⟨g781, 0, none⟩), .int .i64 (t786.length : Int)] rfl mp_ ?_; (with_reducible refine (spec_l1Below.calls g781 t778 x782001_4 x782002_4 (t786.length : Int) t792 t793 t794 w _ ?side1 ?side2 A15.out).mono ?_); (case side1 => exact ia_ HI781); (case side2 => exact bi_ HB HI781); rintro e w34 ⟨rfl, hi, hb, hk⟩; refine ⟨_, rfl, ?_⟩; replace HO_4 := Aside0.mk (Kd.R_mono (Kd.R_keep (IsS75.apart (show IsS75 w _ g781 t778 x782001_4 x782002_4 from ia_ HI781) (rv_ HO_4) (by decide)) hk (fun _ h => h.2)) (fun _ h => h.1)); replace HB := Aside0.mk (hb); replace HI781 := Aside0.mk (hi); (try clear hb); (try clear hb2); (try clear hk); (try clear hi)) | ((with_reducible refine gate_dst (N := 23) rfl ?_); refine Kd.R_lit (Kd.int .i64) _ 3 ?hg (N := 23) ?hd (xs := ([0, 1, (-1), 1001, (-9223372036854775808)] : List Int)) (inner := [.int .i64 0, .int .i64 1, .int .i64 (-1), .int .i64 1001, .int .i64 (-9223372036854775808)]) (ok := fun _ => True) (okp := fun _ => True) ?hr ?hp (fun _ hk => hk) trivial (Below.refl _ _) (Nat.le_refl _) (by simp) ?_; (case hd => rfl); (case hg => rfl); (case hr => first | (go_simp; done) | (go_simp; rfl)); (case hp => exact (Reps.one (show Kd.M (Kd.int .i64) _ _ _ 0 [.int .i64 0] from rfl) (Reps.one (show Kd.M (Kd.int .i64) _ _ _ 1 [.int .i64 1] from rfl) (Reps.one (show Kd.M (Kd.int .i64) _ _ _ (-1) [.int .i64 (-1)] from rfl) (Reps.one (show Kd.M (Kd.int .i64) _ _ _ 1001 [.int .i64 1001] from rfl) (Reps.one (show Kd.M (Kd.int .i64) _ _ _ (-9223372036854775808) [.int .i64 (-9223372036854775808)] from rfl) (Reps.none _ _))))))); intro v796 w35 ho36 hb hg_ hnew_; clear hg_ hnew_; (first | rw [← Ny795.out] at ho36 | (simp only [Int.reduceToNat] at ho36; rw [← Ny795.out] at ho36)); have HO797 := Aside0.mk (Kd.R_lower (Kd.R_new' ho36 (Kd.R_lt (rv_ HO_4))) (below_size (bi_ HB HI781))); replace HO_4 := Aside0.mk (Kd.R_elder' (rv_ HO_4) (Kd.R_base ho36) hb); replace HB := Aside0.mk (below_step (bi_ HB HI781) hb); replace HI781 := Aside0.mk (IsS75.below (ia_ HI781) hb); clear hb ho36; obtain ⟨Ao37, co37, eo37⟩ := Kd.R_slice HO797.out; subst eo37) | ((with_reducible refine gate_callee (f := 53) rfl ?_); refine gl_ 24 Tryd.func53 #[.pointer (some ⟨g781, 0, none⟩), .slice Ao37 y795.length co37] rfl mp_ ?_; (with_reducible refine (spec_l1PickInt.calls g781 t778 t793 t794 _ _ y795 t798 t799 t800 w _ ?side1 ?side2 ?side3 ?side4 ?side5 A16.out).mono ?_); (case side1 => exact ia_ HI781); (case side2 => exact bi_ HB HI781); (case side3 => repeat (first | exact (Kd.R_reads' HO797.out).2.2 | (with_reducible refine Kd.C_alloc ?_ _) | (with_reducible refine Kd.C_drewN ?_ _) | (with_reducible refine Kd.C_drew ?_))); (case side4 => exact (Kd.R_reads' HO797.out).2.1); (case side5 => exact far_slice (IsS75.own_ne HI781.out HO797.out (by decide))); rintro e w38 ⟨rfl, hi, hb, hk⟩; refine ⟨_, rfl, ?_⟩; replace HO_4 := Aside0.mk (Kd.R_mono (Kd.R_keep (IsS75.apart (show IsS75 w _ g781 t778 t793 t794 from ia_ HI781) (rv_ HO_4) (by decide)) hk (fun _ h => h.2)) (fun _ h => h.1)); replace HO797 := Aside0.mk (Kd.R_mono (Kd.R_keep (IsS75.apart (show IsS75 w _ g781 t778 t793 t794 from ia_ HI781) (rv_ HO797) (by decide)) hk (fun _ h => h.2)) (fun _ h => h.1)); replace HB := Aside0.mk (hb); replace HI781 := Aside0.mk (hi); (try clear hb); (try clear hb2); (try clear hk); (try clear hi); have p19 : 0 ≤ (t792 : Int) := of_decide_eq_true (by first | (with_reducible assumption) | assumption); have q19 : (t792 : Int) < ((t786.length : Int) : Int) := of_decide_eq_true (by first | (with_reducible assumption) | assumption); obtain ⟨go19, co19, eo19, gb19, gl19, cl19, HG19⟩ := Kd.R_form HO_4.out (by omega); (first | cases eo19 | (injection eo19 with ea_ en_ ec_; (first | subst ea_ | (injection ea_ with ea_; subst ea_)); subst ec_; clear en_)); have GB19 := Aside0.mk gb19; have GG19 := Aside0.mk HG19; clear gb19 gl19 HG19; obtain ⟨hx19_0, hf19_0⟩ := Kd.R_celln 0 HO_4.out (t792 : Int) p19 q19; replace p19 := eq_true p19; replace q19 := eq_true q19; have n_ := Aside0.mk (Kd.R_mono (ok' := (fun k_ => some k_ ≠ (.slice Ao37 y795.length co37 : Value).ownBlock)) HO_4.out (fun k_ hk => hk.2)); clear HO_4; have HO_4 := n_; clear n_; obtain ⟨hy39_, hz39_⟩ := Kd.R_celln 0 HO_4.out (t792 : Int) (of_decide_eq_true (by first | (with_reducible assumption) | assumption)) (of_decide_eq_true (by first | (with_reducible assumption) | assumption)); have HP39 := Kd.R_putg HO_4.out (t792 : Int) t798) | ((with_reducible refine gate_store (t := 3) (p := 25) rfl ?_); refine store_event (t := 3) (p := 25) (v := ?vo_w40) (w1 := (w38.setCell ⟨go19, (t792 : Int).toNat, none⟩ (.int .i64 t798))) ?hg ?ho ?hn ?hr ?_; (case ho => rfl); (case hg => rfl); (case hn => rfl); (case hr => first | (go_simp; done) | (go_simp; rfl)); intro w40 hw; have hg : w38.grownBy w40 (some go19) := (by rw [hw]; exact HP39.2); have hp_ : Kd.R (Kd.int .i64) 3 w40 w.heap.size (fun k_ => some k_ ≠ (.slice Ao37 y795.length co37 : Value).ownBlock) (.slice (some ⟨go19, 0, none⟩) t786.length co33) y801 := (by rw [hw, Ny801.out]; exact HP39.1); clear HP39; replace HI781 := Aside0.mk (IsS75.grown (ia_ HI781) hg (IsS75.own_ne HI781.out HO_4.out (by decide))); replace HO_4 := Aside0.mk (hp_); replace HO797 := Aside0.mk (Kd.R_after (v := (.slice (some ⟨go19, 0, none⟩) t786.length co33)) (v1 := (.slice (some ⟨go19, 0, none⟩) t786.length co33)) (ok := (fun _ => True)) (rv_ HO797) hg (.inl rfl)); replace HB := Aside0.mk ((by rw [hw]; exact below_set (HB.out) GB19.out : Below w.heap.size w w40)); clear hg hw hp_) | ((with_reducible refine gate_callee (f := 52) rfl ?_); refine gl_ 27 Tryd.func52 #[.pointer (some ⟨g781, 0, none⟩), .int .i64 14] rfl mp_ ?_; (with_reducible refine (spec_l1Once.calls g781 t778 t799 t800 14 false t803 t804 w _ ?side1 ?side2 A20.out).mono ?_); (case side1 => exact ia_ HI781); (case side2 => exact bi_ HB HI781); rintro e w41 ⟨rfl, hi, hb, hk⟩; refine ⟨_, rfl, ?_⟩; replace HO_4 := Aside0.mk (Kd.R_mono (Kd.R_keep (IsS75.apart (show IsS75 w _ g781 t778 t799 t800 from ia_ HI781) (rv_ HO_4) (by decide)) hk (fun _ h => h.2)) (fun _ h => h.1)); replace HO797 := Aside0.mk (Kd.R_mono (Kd.R_keep (IsS75.apart (show IsS75 w _ g781 t778 t799 t800 from ia_ HI781) (rv_ HO797) (by decide)) hk (fun _ h => h.2)) (fun _ h => h.1)); replace HB := Aside0.mk (hb); replace HI781 := Aside0.mk (hi); (try clear hb); (try clear hb2); (try clear hk); (try clear hi)))
       go_ret
       exact ⟨_, er_, by (with_reducible repeat (first | apply Kd.R_alloc | apply Kd.R_drewN | apply Kd.R_drew)); exact Kd.R_mono HO_4.out (fun _ hk => trivial), bi_ HB HI781⟩
     ·rw [if_neg c18] at H
      exact absurd H (by simp)
    ·rw [if_neg c17] at H
     exact absurd H (by simp)
   ·replace c14 := Bool.eq_false_iff.mpr c14
    subst c14
    rw [if_neg (show ¬ (false = true) by decide)] at H
    replace H := Option.bind_eq_some_iff.mp H
    obtain ⟨⟨t808, t809, t810⟩, A420, H⟩ := H
    replace H : (if t808 = true then (if t786.length < 17592186044416 then (some (t786 ++ [0])) else (none)) else (some t786)) = some r := H
    have A42 := Aside0.mk A420
    clear A420
    by_cases c43 : t808 = true
    ·subst c43
     rw [if_pos rfl] at H
     by_cases c44 : t786.length < 17592186044416
     ·rw [if_pos c44] at H
      have LMc44 := Aside0.mk c44
      clear c44
      obtain ⟨y811, hy811⟩ : ∃ y_ : List Int, y_ = (t786 ++ [0]) := ⟨_, rfl⟩
      replace H : (some y811) = some r := by first | (rw [hy811]; with_reducible exact H) | (have H2_ := (Option.bind_some _ _).symm.trans H; rw [hy811]; with_reducible exact H2_) | (have H2_ := (Option.bind_some _ _).symm.trans H; with_reducible exact H2_) | with_reducible exact H | (rw [hy811]; exact H) | exact H
      have Ny811 := Aside0.mk hy811
      clear hy811
      obtain rfl := Option.some.inj H
      go_wp2_with (first | ((with_reducible refine gate_callee (f := 52) rfl ?_); refine gl_ 27 Tryd.func52 #[.pointer (some ⟨g781, 0, none⟩), .int .i64 14] rfl mp_ ?_; (with_reducible refine (spec_l1Once.calls g781 t778 x782001_4 x782002_4 14 true t809 t810 w _ ?side1 ?side2 A42.out).mono ?_); (case side1 => exact ia_ HI781); (case side2 => exact bi_ HB HI781); rintro e w45 ⟨rfl, hi, hb, hk⟩; refine ⟨_, rfl, ?_⟩; replace HO_4 := Aside0.mk (Kd.R_mono (Kd.R_keep (IsS75.apart (show IsS75 w _ g781 t778 x782001_4 x782002_4 from ia_ HI781) (rv_ HO_4) (by decide)) hk (fun _ h => h.2)) (fun _ h => h.1)); replace HB := Aside0.mk (hb); replace HI781 := Aside0.mk (hi); (try clear hb); (try clear hb2); (try clear hk); (try clear hi)) | ((with_reducible refine gate_builtin (b := .append) (xs := #[.tmp 28, .tmp 29]) rfl ?_); at_builtin; refine Kd.R_append (Kd.int .i64) (w0 := w) w.heap.size rfl (.tmp 28) (.tmp 29) 32 3 (.int .i64 0) 8 rfl Tryd.underlying32 info3 rfl (by decide) (by omega) v787 t786 0 [.int .i64 0] (fun _ => True) (fun _ => False) rfl rfl ?aP (fun _ hk => hk.elim) ?aF ?aO ?aB ?aS ?aL ?_; (case aP => exact rfl); (case aB => exact (bi_ HB HI781)); (case aF => exact (fun _ _ => trivial)); (case aO => exact (rv_ HO_4)); (case aS => exact (below_size (bi_ HB HI781))); (case aL => have := LMc44.out; omega); intro v812 w46 ho hb hg hat; rw [← Ny811.out] at ho; have n0_ := Aside0.mk (IsS75.grown (ia_ HI781) hg (IsS75.own_ne HI781.out HO_4.out (by decide))); have n1_ := Aside0.mk (hb); have n2_ := Aside0.mk (ho); clear HI781; clear HB; clear HO_4; have HI781 := n0_; have HB := n1_; have HO813 := n2_; clear n0_ n1_ n2_; clear ho hb hg hat))
      go_ret
      exact ⟨_, er_, by (with_reducible repeat (first | apply Kd.R_alloc | apply Kd.R_drewN | apply Kd.R_drew)); exact HO813.out, bi_ HB HI781⟩
     ·rw [if_neg c44] at H
      exact absurd H (by simp)
    ·replace c43 := Bool.eq_false_iff.mpr c43
     subst c43
     rw [if_neg (show ¬ (false = true) by decide)] at H
     obtain rfl := Option.some.inj H
     go_wp2_with (first | ((with_reducible refine gate_callee (f := 52) rfl ?_); refine gl_ 27 Tryd.func52 #[.pointer (some ⟨g781, 0, none⟩), .int .i64 14] rfl mp_ ?_; (with_reducible refine (spec_l1Once.calls g781 t778 x782001_4 x782002_4 14 false t809 t810 w _ ?side1 ?side2 A42.out).mono ?_); (case side1 => exact ia_ HI781); (case side2 => exact bi_ HB HI781); rintro e w47 ⟨rfl, hi, hb, hk⟩; refine ⟨_, rfl, ?_⟩; replace HO_4 := Aside0.mk (Kd.R_mono (Kd.R_keep (IsS75.apart (show IsS75 w _ g781 t778 x782001_4 x782002_4 from ia_ HI781) (rv_ HO_4) (by decide)) hk (fun _ h => h.2)) (fun _ h => h.1)); replace HB := Aside0.mk (hb); replace HI781 := Aside0.mk (hi); (try clear hb); (try clear hb2); (try clear hk); (try clear hi)))
     go_ret
     exact ⟨_, er_, by (with_reducible repeat (first | apply Kd.R_alloc | apply Kd.R_drewN | apply Kd.R_drew)); exact HO_4.out, bi_ HB HI781⟩


/-! ### spec_TableOfCoefficients: function 25 -/
mutual
def spec_TableOfCoefficients.l0 : Nat → List Int → Int → Option (Int × Int × Bool)
 | 0, _, _ => none
 | k + 1, x0, x4 => if x4 ≤ 5 then (if 0 ≤ x4 then (if (x0.length : Int) = (shl .i64 1 x4) then (spec_TableOfCoefficients.l1 k x0 x4 0 0) else (spec_TableOfCoefficients.l0 k x0 (wrap64 (x4 + 1)))) else (none)) else (some (0, 0, false))
def spec_TableOfCoefficients.l1 : Nat → List Int → Int → Int → Int → Option (Int × Int × Bool)
 | 0, _, _, _, _ => none
 | k + 1, x0, x4, x5, x6 => if x6 < (x0.length : Int) then (spec_TableOfCoefficients.l2 k x0 x4 x5 x6 0 0) else (some (x4, x5, true))
def spec_TableOfCoefficients.l2 : Nat → List Int → Int → Int → Int → Int → Int → Option (Int × Int × Bool)
 | 0, _, _, _, _, _, _ => none
 | k + 1, x0, x4, x5, x6, x7, x8 => if x8 ≤ x6 then (if (Go.bits .and .i64 x8 x6) = x8 then (if 0 ≤ x8 then (if x8 < (x0.length : Int) then ((spec_l1In.f (rd x0 x8) (-1000) 1000).bind fun t817 => (if t817 = true then (spec_TableOfCoefficients.l2 k x0 x4 x5 x6 (wrap64 (x7 + (rd x0 x8))) (wrap64 (x8 + 1))) else (some (0, 0, false)))) else (none)) else (none)) else (spec_TableOfCoefficients.l2 k x0 x4 x5 x6 x7 (wrap64 (x8 + 1)))) else ((spec_l1In.f x7 0 1).bind fun t815 => (if t815 = true then (if 0 ≤ x6 then (spec_TableOfCoefficients.l1 k x0 x4 (Go.bits .or .i64 x5 (shl .i64 x7 x6)) (wrap64 (x6 + 1))) else (none)) else (some (0, 0, false))))
end
def spec_TableOfCoefficients.f (k : Nat) (l0 : List Int) : Option (Int × Int × Bool) := spec_TableOfCoefficients.l0 k l0 0
theorem spec_TableOfCoefficients.mono_l : ∀ k, (∀ y0 y1, LeO (spec_TableOfCoefficients.l0 k y0 y1) (spec_TableOfCoefficients.l0 (k + 1) y0 y1)) ∧ (∀ y0 y1 y2 y3, LeO (spec_TableOfCoefficients.l1 k y0 y1 y2 y3) (spec_TableOfCoefficients.l1 (k + 1) y0 y1 y2 y3)) ∧ (∀ y0 y1 y2 y3 y4 y5, LeO (spec_TableOfCoefficients.l2 k y0 y1 y2 y3 y4 y5) (spec_TableOfCoefficients.l2 (k + 1) y0 y1 y2 y3 y4 y5))
 | 0 => ⟨fun _ _ r h => by simp [spec_TableOfCoefficients.l0] at h, fun _ _ _ _ r h => by simp [spec_TableOfCoefficients.l1] at h, fun _ _ _ _ _ _ r h => by simp [spec_TableOfCoefficients.l2] at h⟩
 | k + 1 => by
  obtain ⟨ih0, ih1, ih2⟩ := spec_TableOfCoefficients.mono_l k
  refine ⟨?_, ?_, ?_⟩
  ·intro y0 y1
   unfold spec_TableOfCoefficients.l0
   repeat' first
   | (with_reducible exact ih0 _ _)
   | (with_reducible exact ih1 _ _ _ _)
   | (with_reducible exact ih2 _ _ _ _ _ _)
   | (with_reducible exact LeO.refl _)
   | (with_reducible exact LeO.none _)
   | (with_reducible refine LeO.ite ?_ ?_)
   | (with_reducible refine LeO.bind ?_ (fun _ => ?_))
   | exact ih0 _ _
   | exact ih1 _ _ _ _
   | exact ih2 _ _ _ _ _ _
   | exact LeO.none _
   | refine LeO.ite ?_ ?_
   | refine LeO.bind ?_ (fun _ => ?_)
  ·intro y0 y1 y2 y3
   unfold spec_TableOfCoefficients.l1
   repeat' first
   | (with_reducible exact ih0 _ _)
   | (with_reducible exact ih1 _ _ _ _)
   | (with_reducible exact ih2 _ _ _ _ _ _)
   | (with_reducible exact LeO.refl _)
   | (with_reducible exact LeO.none _)
   | (with_reducible refine LeO.ite ?_ ?_)
   | (with_reducible refine LeO.bind ?_ (fun _ => ?_))
   | exact ih0 _ _
   | exact ih1 _ _ _ _
   | exact ih2 _ _ _ _ _ _
   | exact LeO.none _
   | refine LeO.ite ?_ ?_
   | refine LeO.bind ?_ (fun _ => ?_)
  ·intro y0 y1 y2 y3 y4 y5
   unfold spec_TableOfCoefficients.l2
   repeat' first
   | (with_reducible exact ih0 _ _)
   | (with_reducible exact ih1 _ _ _ _)
   | (with_reducible exact ih2 _ _ _ _ _ _)
   | (with_reducible exact LeO.refl _)
   | (with_reducible exact LeO.none _)
   | (with_reducible refine LeO.ite ?_ ?_)
   | (with_reducible refine LeO.bind ?_ (fun _ => ?_))
   | exact ih0 _ _
   | exact ih1 _ _ _ _
   | exact ih2 _ _ _ _ _ _
   | exact LeO.none _
   | refine LeO.ite ?_ ?_
   | refine LeO.bind ?_ (fun _ => ?_)
theorem spec_TableOfCoefficients.mono : ∀ a0 k, LeO (spec_TableOfCoefficients.f k a0) (spec_TableOfCoefficients.f (k + 1) a0) := by
 intro a0 k
 obtain ⟨ih0, ih1, ih2⟩ := spec_TableOfCoefficients.mono_l k
 unfold spec_TableOfCoefficients.f
 repeat' first
   | (with_reducible exact ih0 _ _)
   | (with_reducible exact ih1 _ _ _ _)
   | (with_reducible exact ih2 _ _ _ _ _ _)
   | (with_reducible exact LeO.refl _)
   | (with_reducible exact LeO.none _)
   | (with_reducible refine LeO.ite ?_ ?_)
   | (with_reducible refine LeO.bind ?_ (fun _ => ?_))
   | exact ih0 _ _
   | exact ih1 _ _ _ _
   | exact ih2 _ _ _ _ _ _
   | exact LeO.none _
   | refine LeO.ite ?_ ?_
   | refine LeO.bind ?_ (fun _ => ?_)
set_option maxHeartbeats 8000000 in
set_option maxRecDepth 100000 in
theorem spec_TableOfCoefficients.calls (k : Nat) (A0 : Option Addr) (c0 : Nat) (l0 : List Int) (r1 : Int) (r2 : Int) (r3 : Bool) (w : World) (hr0 : Kd.C (Kd.int .i64) w A0 l0.length l0) (hc0 : l0.length ≤ c0) (h : spec_TableOfCoefficients.f k l0 = some (r1, r2, r3)) :
  Calls Tryd.prog 25 #[.slice A0 l0.length c0] w fun e w' => e = .returned (.tuple #[.agg #[.int .i64 r1, .int .i64 r2], .bool r3]) ∧ Below w.heap.size w w' := by
 have hu23 := Tryd.underlying23
 have HR0 := Aside0.mk hr0
 have HC0 := Aside0.mk hc0
 clear hr0 hc0
 have HB := Aside0.mk (Below.refl w.heap.size w)
 have H : (spec_TableOfCoefficients.l0 k l0 0) = some (r1, r2, r3) := h
 clear h
 have H' := Aside0.mk H
 clear H
 go_enter Tryd.func25, Tryd.ntmps25
 go_wp2_with (first | ((with_reducible refine gate_dst (N := 2) rfl ?_); refine bx_ 2 #[.int .i64 0, .int .i64 0] 23 ?_; intro gb814 hg w2 hbox hb; have BK814 := Aside0.mk (hbox); have GW814 := gw_ hg (below_size (bv_ HB)); have GE814 := GW814; replace HB := Aside0.mk (below_step (bv_ HB) hb); clear hb hbox hg))
 go_loopg [4] k (fun kq v4 w' => ∃ (x4_1 : Int) (x815000_1 : Int) (x815001_1 : Int), v4 = .int .i64 x4_1 ∧ Aside0 (spec_TableOfCoefficients.l0 kq l0 x4_1 = some (r1, r2, r3)) ∧ Aside0 (kq ≤ k) ∧ Aside0 (w'.heap[gb814]? = some (.cells #[.int .i64 x815000_1, .int .i64 x815001_1] 23 (0, 0))) ∧ Aside0 (Below w.heap.size w w'))
 case atStart => exact ⟨(0), (0), (0), (by first | rfl | (simp; done) | (simp [*]; done)), H', ⟨Nat.le_refl _⟩, ⟨by (with_reducible repeat (first | refine blk_drewN ?_ _ | refine blk_drew ?_ | refine blk_alloc ?_ _)); exact BK814.out⟩, ⟨bv1_ HB GE814⟩⟩
 case round =>
  clear H'
  try clear c2
  try clear p2
  obtain ⟨x4_1, x815000_1, x815001_1, rfl, HA, HK1, BK814, HB⟩ := hrel
  cases gk with
  | zero => exact absurd HA.out (by simp [spec_TableOfCoefficients.l0])
  | succ k1 =>
   have H := HA.out
   clear HA
   simp only [spec_TableOfCoefficients.l0] at H
   by_cases c3 : x4_1 ≤ 5
   ·rw [if_pos c3] at H
    have c3b0 : decide (x4_1 ≤ 5) = true := decide_eq_true c3
    clear c3
    by_cases c4 : 0 ≤ x4_1
    ·rw [if_pos c4] at H
     have c4b0 := eq_true c4
     have c4b1 : decide (0 ≤ x4_1) = true := decide_eq_true c4
     clear c4
     obtain ⟨ji5, hji5⟩ : ∃ j_ : Int, (shl .i64 1 x4_1) = j_ := ⟨_, rfl⟩
     replace H : (if (l0.length : Int) = (ji5) then (spec_TableOfCoefficients.l1 k1 l0 x4_1 0 0) else (spec_TableOfCoefficients.l0 k1 l0 (wrap64 (x4_1 + 1)))) = some (r1, r2, r3) := by first | (rw [hji5] at H; exact H) | (simp only [hji5] at H ⊢; exact H)
     have hji5_ : (IntKind.i64.wrap (1 * 2 ^ min x4_1.toNat 64)) = ji5 := hji5
     have hji5z : x4_1 ≤ 64 → (IntKind.i64.wrap (1 * 2 ^ x4_1.toNat)) = ji5 := shl_small hji5
     have hji5u : (IntKind.i64.wrap (2 ^ min x4_1.toNat 64)) = ji5 := by have h_ := hji5_; rw [Int.one_mul] at h_; exact h_
     have hji5v : x4_1 ≤ 64 → (IntKind.i64.wrap (2 ^ x4_1.toNat)) = ji5 := fun hle_ => by have h_ := hji5z hle_; rw [Int.one_mul] at h_; exact h_
     have hji5y : (wrap64 (1 * 2 ^ min x4_1.toNat 64)) = ji5 := (i64_w _).symm.trans hji5_
     have hji5x : x4_1 ≤ 64 → (wrap64 (1 * 2 ^ x4_1.toNat)) = ji5 := fun h_ => (i64_w _).symm.trans (hji5z h_)
     by_cases c6 : (l0.length : Int) = (ji5)
     ·rw [if_pos c6] at H
      have c6b0 : ((l0.length : Int) == (ji5)) = true := beq_iff_eq.mpr c6
      have c6b1 : ((l0.length : Int) != (ji5)) = false := bne_eq_false_iff_eq.mpr c6
      clear c6
      have H' := Aside0.mk H
      clear H
      go_wp2
      go_loopg [5, 6] k1 (fun kq v5 v6 w' => ∃ (x5_2 : Int) (x6_2 : Int) (x815000_2 : Int) (x815001_2 : Int), v5 = .int .i64 x5_2 ∧ v6 = .int .i64 x6_2 ∧ Aside0 (spec_TableOfCoefficients.l1 kq l0 x4_1 x5_2 x6_2 = some (r1, r2, r3)) ∧ Aside0 (kq ≤ k1) ∧ Aside0 (w'.heap[gb814]? = some (.cells #[.int .i64 x815000_2, .int .i64 x815001_2] 23 (0, 0))) ∧ Aside0 (Below w.heap.size w w'))
      case atStart => exact ⟨(0), (0), (x815000_1), (x815001_1), (by first | rfl | (simp; done) | (simp [*]; done)), (by first | rfl | (simp; done) | (simp [*]; done)), H', ⟨Nat.le_refl _⟩, ⟨by (with_reducible repeat (first | refine blk_drewN ?_ _ | refine blk_drew ?_ | refine blk_alloc ?_ _)); exact BK814.out⟩, ⟨bv1_ HB GE814⟩⟩
      case round =>
       clear H'
       try clear c2
       try clear p2
       try clear c3
       try clear c3b0
       try clear c4
       try clear c4b0
       try clear c4b1
       try clear c6
       try clear c6b0
       try clear c6b1
       try clear p6
       try clear p2
       obtain ⟨x5_2, x6_2, x815000_2, x815001_2, rfl, rfl, HA, HK2, BK814, HB⟩ := hrel
       cases gk with
       | zero => exact absurd HA.out (by simp [spec_TableOfCoefficients.l1])
       | succ k2 =>
        have H := HA.out
        clear HA
        simp only [spec_TableOfCoefficients.l1] at H
        by_cases c7 : x6_2 < (l0.length : Int)
        ·rw [if_pos c7] at H
         have c7b0 : decide (x6_2 < (l0.length : Int)) = true := decide_eq_true c7
         clear c7
         have H' := Aside0.mk H
         clear H
         go_wp2
         go_loopg [7, 8] k2 (fun kq v7 v8 w' => ∃ (x7_3 : Int) (x8_3 : Int) (x815000_3 : Int) (x815001_3 : Int), v7 = .int .i64 x7_3 ∧ v8 = .int .i64 x8_3 ∧ Aside0 (spec_TableOfCoefficients.l2 kq l0 x4_1 x5_2 x6_2 x7_3 x8_3 = some (r1, r2, r3)) ∧ Aside0 (kq ≤ k2) ∧ Aside0 (w'.heap[gb814]? = some (.cells #[.int .i64 x815000_3, .int .i64 x815001_3] 23 (0, 0))) ∧ Aside0 (Below w.heap.size w w'))
         case atStart => exact ⟨(0), (0), (x815000_2), (x815001_2), (by first | rfl | (simp; done) | (simp [*]; done)), (by first | rfl | (simp; done) | (simp [*]; done)), H', ⟨Nat.le_refl _⟩, ⟨by (with_reducible repeat (first | refine blk_drewN ?_ _ | refine blk_drew ?_ | refine blk_alloc ?_ _)); exact BK814.out⟩, ⟨bv1_ HB GE814⟩⟩
         case round =>
          clear H'
          try clear c2
          try clear p2
          try clear c3
          try clear c3b0
          try clear c4
          try clear c4b0
          try clear c4b1
          try clear c6
          try clear c6b0
          try clear c6b1
          try clear p6
          try clear c7
          try clear c7b0
          try clear p2
          try clear p6
          obtain ⟨x7_3, x8_3, x815000_3, x815001_3, rfl, rfl, HA, HK3, BK814, HB⟩ := hrel
          cases gk with
          | zero => exact absurd HA.out (by simp [spec_TableOfCoefficients.l2])
          | succ k3 =>
           have H := HA.out
           clear HA
           simp only [spec_TableOfCoefficients.l2] at H
           by_cases c8 : x8_3 ≤ x6_2
           ·rw [if_pos c8] at H
            have c8b0 : decide (x8_3 ≤ x6_2) = true := decide_eq_true c8
            clear c8
            by_cases c9 : (Go.bits .and .i64 x8_3 x6_2) = x8_3
            ·rw [if_pos c9] at H
             have c9b0 : ((Go.bits .and .i64 x8_3 x6_2) == x8_3) = true := beq_iff_eq.mpr c9
             have c9b1 : ((Go.bits .and .i64 x8_3 x6_2) != x8_3) = false := bne_eq_false_iff_eq.mpr c9
             clear c9
             by_cases c10 : 0 ≤ x8_3
             ·rw [if_pos c10] at H
              have c10b0 : decide (0 ≤ x8_3) = true := decide_eq_true c10
              clear c10
              by_cases c11 : x8_3 < (l0.length : Int)
              ·rw [if_pos c11] at H
               have c11b0 : decide (x8_3 < (l0.length : Int)) = true := decide_eq_true c11
               clear c11
               replace H := Option.bind_eq_some_iff.mp H
               obtain ⟨t817, A120, H⟩ := H
               have A12 := Aside0.mk A120
               clear A120
               by_cases c13 : t817 = true
               ·subst c13
                rw [if_pos rfl] at H
                have H' := Aside0.mk H
                clear H
                have p816 : 0 ≤ (x8_3 : Int) := of_decide_eq_true (by first | (with_reducible assumption) | assumption)
                have q816 : x8_3 < (l0.length : Int) := of_decide_eq_true (by first | (with_reducible assumption) | assumption)
                obtain ⟨ad816, e816, hx816_0⟩ := Kd.at_int HR0.out x8_3 p816 q816
                cases e816
                replace hx816_0 := (HB.out.cell (World.block_lt_of_cell? w _ hx816_0)).trans hx816_0
                replace p816 := eq_true p816
                replace q816 := eq_true q816
                go_wp2_with (first | ((with_reducible refine gate_callee (f := 28) rfl ?_); refine gl_ 38 Tryd.func28 #[.int .i64 (rd l0 x8_3), .int .i64 (-1000), .int .i64 1000] rfl mp_ ?_; (with_reducible refine (spec_l1In.calls (rd l0 x8_3) (-1000) 1000 true _ A12.out).mono ?_); rintro e w' ⟨rfl, ⟨nd, rfl⟩⟩; refine ⟨_, rfl, ?_⟩; have p818 : 0 ≤ (x8_3 : Int) := of_decide_eq_true (by first | (with_reducible assumption) | assumption); have q818 : x8_3 < (l0.length : Int) := of_decide_eq_true (by first | (with_reducible assumption) | assumption); obtain ⟨ad818, e818, hx818_0⟩ := Kd.at_int HR0.out x8_3 p818 q818; obtain rfl : ad816 = ad818 := (by injection e818); replace hx818_0 := (HB.out.cell (World.block_lt_of_cell? w _ hx818_0)).trans hx818_0; replace p818 := eq_true p818; replace q818 := eq_true q818))
                go_roundg k3
                case measure => have := HK1.out; have := HK2.out; have := HK3.out; omega
                case rel => exact ⟨(wrap64 (x7_3 + (rd l0 x8_3))), (wrap64 (x8_3 + 1)), (x815000_3), (x815001_3), (by first | rfl | (simp; done) | (simp [*]; done)), (by first | rfl | (simp; done) | (simp [*]; done)), H', ⟨by have := HK1.out; have := HK2.out; have := HK3.out; omega⟩, ⟨by (with_reducible repeat (first | refine blk_drewN ?_ _ | refine blk_drew ?_ | refine blk_alloc ?_ _)); exact BK814.out⟩, ⟨bv1_ HB GE814⟩⟩
               ·replace c13 := Bool.eq_false_iff.mpr c13
                subst c13
                rw [if_neg (show ¬ (false = true) by decide)] at H
                simp only [Option.some.injEq, Prod.mk.injEq] at H
                obtain ⟨rfl, rfl, rfl⟩ := H
                have p816 : 0 ≤ (x8_3 : Int) := of_decide_eq_true (by first | (with_reducible assumption) | assumption)
                have q816 : x8_3 < (l0.length : Int) := of_decide_eq_true (by first | (with_reducible assumption) | assumption)
                obtain ⟨ad816, e816, hx816_0⟩ := Kd.at_int HR0.out x8_3 p816 q816
                cases e816
                replace hx816_0 := (HB.out.cell (World.block_lt_of_cell? w _ hx816_0)).trans hx816_0
                replace p816 := eq_true p816
                replace q816 := eq_true q816
                go_wp2_with (first | ((with_reducible refine gate_callee (f := 28) rfl ?_); refine gl_ 38 Tryd.func28 #[.int .i64 (rd l0 x8_3), .int .i64 (-1000), .int .i64 1000] rfl mp_ ?_; (with_reducible refine (spec_l1In.calls (rd l0 x8_3) (-1000) 1000 false _ A12.out).mono ?_); rintro e w' ⟨rfl, ⟨nd, rfl⟩⟩; refine ⟨_, rfl, ?_⟩; (try (rw [drewN_self wr]; generalize hq_ : World.drewN wr _ = wr; have n0_ : Aside0 (wr.heap[gb814]? = some (.cells #[.int .i64 x815000_3, .int .i64 x815001_3] 23 (0, 0))) := ⟨by rw [← hq_]; exact (kv_ BK814)⟩; have n1_ : Aside0 (Below w.heap.size w wr) := ⟨by rw [← hq_]; exact (bv1_ HB GE814)⟩; clear BK814 HB hq_; have BK814 := n0_; have HB := n1_; clear n0_ n1_)); obtain ⟨hcz14_0, hcz14_1, hfz14_0, hfz14_1⟩ := c2_ BK814))
                refine bodyPost_ret (results_ct rfl _ _ gb814 23 #[.int .i64 0, .int .i64 0] (0, 0) _ rfl (by (with_reducible repeat (first | refine blk_drewN ?_ _ | refine blk_drew ?_ | refine blk_alloc ?_ _)); refine blk_put (cs := #[.int .i64 0, .int .i64 x815001_3]) ?_ 1 _ rfl; (with_reducible repeat (first | refine blk_drewN ?_ _ | refine blk_drew ?_ | refine blk_alloc ?_ _)); refine blk_put (cs := #[.int .i64 x815000_3, .int .i64 x815001_3]) ?_ 0 _ rfl; (with_reducible repeat (first | refine blk_drewN ?_ _ | refine blk_drew ?_ | refine blk_alloc ?_ _)); exact BK814.out) Tryd.underlying23 rfl (by kernel_rfl)) rfl ?_
                exact ⟨by first | rfl | (simp [errW_none, errW_some] <;> rfl) | (simp only [← hji5]; first | rfl | (simp [errW_none, errW_some] <;> rfl)) | (simp [*, errW_none, errW_some] <;> rfl), bv1_ HB GE814⟩
              ·rw [if_neg c11] at H
               exact absurd H (by simp)
             ·rw [if_neg c10] at H
              exact absurd H (by simp)
            ·rw [if_neg c9] at H
             have c9b0 : ((Go.bits .and .i64 x8_3 x6_2) == x8_3) = false := beq_eq_false_iff_ne.mpr c9
             have c9b1 : ((Go.bits .and .i64 x8_3 x6_2) != x8_3) = true := bne_iff_ne.mpr c9
             have H' := Aside0.mk H
             clear H
             go_wp2
             go_roundg k3
             case measure => have := HK1.out; have := HK2.out; have := HK3.out; omega
             case rel => exact ⟨(x7_3), (wrap64 (x8_3 + 1)), (x815000_3), (x815001_3), (by first | rfl | (simp; done) | (simp [*]; done)), (by first | rfl | (simp; done) | (simp [*]; done)), H', ⟨by have := HK1.out; have := HK2.out; have := HK3.out; omega⟩, ⟨by (with_reducible repeat (first | refine blk_drewN ?_ _ | refine blk_drew ?_ | refine blk_alloc ?_ _)); exact BK814.out⟩, ⟨bv1_ HB GE814⟩⟩
           ·rw [if_neg c8] at H
            have c8b0 : decide (x8_3 ≤ x6_2) = false := decide_eq_false c8
            clear c8
            replace H := Option.bind_eq_some_iff.mp H
            obtain ⟨t815, A150, H⟩ := H
            have A15 := Aside0.mk A150
            clear A150
            by_cases c16 : t815 = true
            ·subst c16
             rw [if_pos rfl] at H
             by_cases c17 : 0 ≤ x6_2
             ·rw [if_pos c17] at H
              have c17b0 := eq_true c17
              have c17b1 : decide (0 ≤ x6_2) = true := decide_eq_true c17
              clear c17
              obtain ⟨ji18, hji18⟩ : ∃ j_ : Int, (shl .i64 x7_3 x6_2) = j_ := ⟨_, rfl⟩
              replace H : (spec_TableOfCoefficients.l1 k3 l0 x4_1 (Go.bits .or .i64 x5_2 (ji18)) (wrap64 (x6_2 + 1))) = some (r1, r2, r3) := by first | (rw [hji18] at H; exact H) | (simp only [hji18] at H ⊢; exact H)
              (try rw [hji18] at A15)
              have hji18_ : (IntKind.i64.wrap (x7_3 * 2 ^ min x6_2.toNat 64)) = ji18 := hji18
              have hji18z : x6_2 ≤ 64 → (IntKind.i64.wrap (x7_3 * 2 ^ x6_2.toNat)) = ji18 := shl_small hji18
              have hji18y : (wrap64 (x7_3 * 2 ^ min x6_2.toNat 64)) = ji18 := (i64_w _).symm.trans hji18_
              have hji18x : x6_2 ≤ 64 → (wrap64 (x7_3 * 2 ^ x6_2.toNat)) = ji18 := fun h_ => (i64_w _).symm.trans (hji18z h_)
              have H' := Aside0.mk H
              clear H
              go_wp2_with (first | ((with_reducible refine gate_callee (f := 28) rfl ?_); refine gl_ 48 Tryd.func28 #[.int .i64 x7_3, .int .i64 0, .int .i64 1] rfl mp_ ?_; (with_reducible refine (spec_l1In.calls x7_3 0 1 true _ A15.out).mono ?_); rintro e w' ⟨rfl, ⟨nd, rfl⟩⟩; refine ⟨_, rfl, ?_⟩))
              go_roundg k3
              case measure => have := HK1.out; have := HK2.out; have := HK3.out; omega
              case rel => exact ⟨(Go.bits .or .i64 x5_2 (ji18)), (wrap64 (x6_2 + 1)), (x815000_3), (x815001_3), (by first | rfl | (simp; done) | (simp only [← hji18] <;> (first | rfl | simp)) | (simp [*]; done)), (by first | rfl | (simp; done) | (simp [*]; done)), H', ⟨by have := HK1.out; have := HK2.out; have := HK3.out; omega⟩, ⟨by (with_reducible repeat (first | refine blk_drewN ?_ _ | refine blk_drew ?_ | refine blk_alloc ?_ _)); exact BK814.out⟩, ⟨bv1_ HB GE814⟩⟩
             ·rw [if_neg c17] at H
              exact absurd H (by simp)
            ·replace c16 := Bool.eq_false_iff.mpr c16
             subst c16
             rw [if_neg (show ¬ (false = true) by decide)] at H
             simp only [Option.some.injEq, Prod.mk.injEq] at H
             obtain ⟨rfl, rfl, rfl⟩ := H
             go_wp2_with (first | ((with_reducible refine gate_callee (f := 28) rfl ?_); refine gl_ 48 Tryd.func28 #[.int .i64 x7_3, .int .i64 0, .int .i64 1] rfl mp_ ?_; (with_reducible refine (spec_l1In.calls x7_3 0 1 false _ A15.out).mono ?_); rintro e w' ⟨rfl, ⟨nd, rfl⟩⟩; refine ⟨_, rfl, ?_⟩; (try (rw [drewN_self wr]; generalize hq_ : World.drewN wr _ = wr; have n0_ : Aside0 (wr.heap[gb814]? = some (.cells #[.int .i64 x815000_3, .int .i64 x815001_3] 23 (0, 0))) := ⟨by rw [← hq_]; exact (kv_ BK814)⟩; have n1_ : Aside0 (Below w.heap.size w wr) := ⟨by rw [← hq_]; exact (bv1_ HB GE814)⟩; clear BK814 HB hq_; have BK814 := n0_; have HB := n1_; clear n0_ n1_)); obtain ⟨hcz19_0, hcz19_1, hfz19_0, hfz19_1⟩ := c2_ BK814))
             refine bodyPost_ret (results_ct rfl _ _ gb814 23 #[.int .i64 0, .int .i64 0] (0, 0) _ rfl (by (with_reducible repeat (first | refine blk_drewN ?_ _ | refine blk_drew ?_ | refine blk_alloc ?_ _)); refine blk_put (cs := #[.int .i64 0, .int .i64 x815001_3]) ?_ 1 _ rfl; (with_reducible repeat (first | refine blk_drewN ?_ _ | refine blk_drew ?_ | refine blk_alloc ?_ _)); refine blk_put (cs := #[.int .i64 x815000_3, .int .i64 x815001_3]) ?_ 0 _ rfl; (with_reducible repeat (first | refine blk_drewN ?_ _ | refine blk_drew ?_ | refine blk_alloc ?_ _)); exact BK814.out) Tryd.underlying23 rfl (by kernel_rfl)) rfl ?_
             exact ⟨by first | rfl | (simp [errW_none, errW_some] <;> rfl) | (simp only [← hji5]; first | rfl | (simp [errW_none, errW_some] <;> rfl)) | (simp [*, errW_none, errW_some] <;> rfl), bv1_ HB GE814⟩
        ·rw [if_neg c7] at H
         have c7b0 : decide (x6_2 < (l0.length : Int)) = false := decide_eq_false c7
         clear c7
         simp only [Option.some.injEq, Prod.mk.injEq] at H
         obtain ⟨rfl, rfl, rfl⟩ := H
         obtain ⟨hcz20_0, hcz20_1, hfz20_0, hfz20_1⟩ := c2_ BK814
         go_wp2
         refine bodyPost_ret (results_ct rfl _ _ gb814 23 #[.int .i64 x4_1, .int .i64 x5_2] (0, 0) _ rfl (by (with_reducible repeat (first | refine blk_drewN ?_ _ | refine blk_drew ?_ | refine blk_alloc ?_ _)); refine blk_put (cs := #[.int .i64 x4_1, .int .i64 x815001_2]) ?_ 1 _ rfl; (with_reducible repeat (first | refine blk_drewN ?_ _ | refine blk_drew ?_ | refine blk_alloc ?_ _)); refine blk_put (cs := #[.int .i64 x815000_2, .int .i64 x815001_2]) ?_ 0 _ rfl; (with_reducible repeat (first | refine blk_drewN ?_ _ | refine blk_drew ?_ | refine blk_alloc ?_ _)); exact BK814.out) Tryd.underlying23 rfl (by kernel_rfl)) rfl ?_
         exact ⟨by first | rfl | (simp [errW_none, errW_some] <;> rfl) | (simp only [← hji5]; first | rfl | (simp [errW_none, errW_some] <;> rfl)) | (simp [*, errW_none, errW_some] <;> rfl), bv1_ HB GE814⟩
     ·rw [if_neg c6] at H
      have c6b0 : ((l0.length : Int) == (ji5)) = false := beq_eq_false_iff_ne.mpr c6
      have c6b1 : ((l0.length : Int) != (ji5)) = true := bne_iff_ne.mpr c6
      have H' := Aside0.mk H
      clear H
      go_wp2
      go_roundg k1
      case measure => have := HK1.out; omega
      case rel => exact ⟨(wrap64 (x4_1 + 1)), (x815000_1), (x815001_1), (by first | rfl | (simp; done) | (simp [*]; done)), H', ⟨by have := HK1.out; omega⟩, ⟨by (with_reducible repeat (first | refine blk_drewN ?_ _ | refine blk_drew ?_ | refine blk_alloc ?_ _)); exact BK814.out⟩, ⟨bv1_ HB GE814⟩⟩
    ·rw [if_neg c4] at H
     exact absurd H (by simp)
   ·rw [if_neg c3] at H
    have c3b0 : decide (x4_1 ≤ 5) = false := decide_eq_false c3
    clear c3
    simp only [Option.some.injEq, Prod.mk.injEq] at H
    obtain ⟨rfl, rfl, rfl⟩ := H
    obtain ⟨hcz21_0, hcz21_1, hfz21_0, hfz21_1⟩ := c2_ BK814
    go_wp2
    refine bodyPost_ret (results_ct rfl _ _ gb814 23 #[.int .i64 0, .int .i64 0] (0, 0) _ rfl (by (with_reducible repeat (first | refine blk_drewN ?_ _ | refine blk_drew ?_ | refine blk_alloc ?_ _)); refine blk_put (cs := #[.int .i64 0, .int .i64 x815001_1]) ?_ 1 _ rfl; (with_reducible repeat (first | refine blk_drewN ?_ _ | refine blk_drew ?_ | refine blk_alloc ?_ _)); refine blk_put (cs := #[.int .i64 x815000_1, .int .i64 x815001_1]) ?_ 0 _ rfl; (with_reducible repeat (first | refine blk_drewN ?_ _ | refine blk_drew ?_ | refine blk_alloc ?_ _)); exact BK814.out) Tryd.underlying23 rfl (by kernel_rfl)) rfl ?_
    exact ⟨er_, bv1_ HB GE814⟩


end Go.Proofs.YteljkpglgjjnlaaDoor.P
