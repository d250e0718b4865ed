-- Out of the translation, by this session's program over the printer's; Lean checks it.
import Derived.Test.YteljkpglgjjnlaaDoorSh
import Derived.Test.YteljkpglgjjnlaaDoorQ0
import Derived.Test.YteljkpglgjjnlaaDoorQ1
import Derived.Test.YteljkpglgjjnlaaDoorQ4
import Derived.Test.YteljkpglgjjnlaaDoorQ7
import Derived.Test.YteljkpglgjjnlaaDoorQ9
import Derived.Test.YteljkpglgjjnlaaDoorQ15
namespace Go.Proofs.YteljkpglgjjnlaaDoor.P
open Go.RowKit Go.Proofs.YteljkpglgjjnlaaDoorW.PrintWords Go.Proofs.YteljkpglgjjnlaaDoorW.PrintLast Go.Proofs.YteljkpglgjjnlaaDoorW.PrintMore
attribute [local go_sem] max2_int min2_int max_two min_two max_three min_three max_four min_four
set_option linter.unusedVariables false
set_option linter.unusedSimpArgs false

/-! ### spec_DrawParseAnf: function 26 -/
def spec_DrawParseAnf.f (k : Nat) (l0 : List Int) : Option (Int × ByteArray) := (spec_l1New.f k l0).bind fun bt868 => ((spec_l2Any.f k bt868.1 bt868.2.1 bt868.2.2).bind fun bt872 => ((spec_FormatAnf.f k bt872.1 bt872.2.1).bind fun t877 => ((spec_l1Below.f bt868.1 bt872.2.2.1 bt872.2.2.2 4).bind fun bt878 => (if bt878.1 = 0 then ((spec_l1Spoil.f k bt868.1 bt878.2.1 bt878.2.2 t877).bind fun bt881 => (some (mn bt872.1 6, bt881.1))) else (if bt878.1 = 1 then ((spec_l1Pick.f bt868.1 bt878.2.1 bt878.2.2 (([(⟨#[]⟩ : ByteArray), (⟨#[48]⟩ : ByteArray), (⟨#[49]⟩ : ByteArray), (⟨#[97, 43, 49]⟩ : ByteArray), (⟨#[49, 43, 97]⟩ : ByteArray), (⟨#[97, 43, 97]⟩ : ByteArray), (⟨#[33, 97]⟩ : ByteArray), (⟨#[49, 43, 97, 98, 43, 98]⟩ : ByteArray), (⟨#[49, 43, 98, 43, 97, 98]⟩ : ByteArray)] : List ByteArray))).bind fun bt887 => (some (mn bt872.1 6, bt887.1))) else (some (mn bt872.1 6, t877)))))))
theorem spec_DrawParseAnf.mono : ∀ a0 k, LeO (spec_DrawParseAnf.f k a0) (spec_DrawParseAnf.f (k + 1) a0) := by
 intro a0 k
 unfold spec_DrawParseAnf.f
 repeat' first
   | (with_reducible exact spec_FormatAnf.mono _ _ _)
   | (with_reducible exact spec_l1New.mono _ _)
   | (with_reducible exact spec_l1Spoil.mono _ _ _ _ _)
   | (with_reducible exact spec_l2Any.mono _ _ _ _)
   | (with_reducible exact LeO.refl _)
   | (with_reducible exact LeO.none _)
   | (with_reducible refine LeO.ite ?_ ?_)
   | (with_reducible refine LeO.bind ?_ (fun _ => ?_))
   | exact spec_FormatAnf.mono _ _ _
   | exact spec_l1New.mono _ _
   | exact spec_l1Spoil.mono _ _ _ _ _
   | exact spec_l2Any.mono _ _ _ _
   | exact LeO.none _
   | refine LeO.ite ?_ ?_
   | refine LeO.bind ?_ (fun _ => ?_)
set_option maxHeartbeats 8000000 in
set_option maxRecDepth 100000 in
theorem spec_DrawParseAnf.calls (k : Nat) (A0 : Option Addr) (c0 : Nat) (l0 : List Int) (r1 : Int) (r2 : ByteArray) (w : World) (hr0 : Kd.C (Kd.int .u8) w A0 l0.length l0) (hc0 : l0.length ≤ c0) (h : spec_DrawParseAnf.f k l0 = some (r1, r2)) :
  Calls Tryd.prog 26 #[.slice A0 l0.length c0] w fun e w' => e = .returned (.tuple #[.int .i64 r1, .string r2]) ∧ Below w.heap.size w w' := by
 have hu23 := Tryd.underlying23
 have HR0 := Aside0.mk hr0
 have HC0 := Aside0.mk hc0
 clear hr0 hc0
 have HB := Aside0.mk (Below.refl w.heap.size w)
 have H : ((spec_l1New.f k l0).bind fun bt868 => ((spec_l2Any.f k bt868.1 bt868.2.1 bt868.2.2).bind fun bt872 => ((spec_FormatAnf.f k bt872.1 bt872.2.1).bind fun t877 => ((spec_l1Below.f bt868.1 bt872.2.2.1 bt872.2.2.2 4).bind fun bt878 => (if bt878.1 = 0 then ((spec_l1Spoil.f k bt868.1 bt878.2.1 bt878.2.2 t877).bind fun bt881 => (some (mn bt872.1 6, bt881.1))) else (if bt878.1 = 1 then ((spec_l1Pick.f bt868.1 bt878.2.1 bt878.2.2 (([(⟨#[]⟩ : ByteArray), (⟨#[48]⟩ : ByteArray), (⟨#[49]⟩ : ByteArray), (⟨#[97, 43, 49]⟩ : ByteArray), (⟨#[49, 43, 97]⟩ : ByteArray), (⟨#[97, 43, 97]⟩ : ByteArray), (⟨#[33, 97]⟩ : ByteArray), (⟨#[49, 43, 97, 98, 43, 98]⟩ : ByteArray), (⟨#[49, 43, 98, 43, 97, 98]⟩ : ByteArray)] : List ByteArray))).bind fun bt887 => (some (mn bt872.1 6, bt887.1))) else (some (mn bt872.1 6, t877)))))))) = some (r1, r2) := h
 clear h
 replace H := Option.bind_eq_some_iff.mp H
 obtain ⟨⟨t868, t869, t870⟩, A20, H⟩ := H
 dsimp only at H
 have A2 := Aside0.mk A20
 clear A20
 replace H := Option.bind_eq_some_iff.mp H
 obtain ⟨⟨t872, t873, t874, t875⟩, A30, H⟩ := H
 dsimp only at H
 have A3 := Aside0.mk A30
 clear A30
 replace H := Option.bind_eq_some_iff.mp H
 obtain ⟨t877, A40, H⟩ := H
 have A4 := Aside0.mk A40
 clear A40
 obtain ⟨ji5, hji5⟩ : ∃ j_ : Int, (mn t872 6) = j_ := ⟨_, rfl⟩
 replace H : ((spec_l1Below.f t868 t874 t875 4).bind fun bt878 => (if bt878.1 = 0 then ((spec_l1Spoil.f k t868 bt878.2.1 bt878.2.2 t877).bind fun bt881 => (some (ji5, bt881.1))) else (if bt878.1 = 1 then ((spec_l1Pick.f t868 bt878.2.1 bt878.2.2 (([(⟨#[]⟩ : ByteArray), (⟨#[48]⟩ : ByteArray), (⟨#[49]⟩ : ByteArray), (⟨#[97, 43, 49]⟩ : ByteArray), (⟨#[49, 43, 97]⟩ : ByteArray), (⟨#[97, 43, 97]⟩ : ByteArray), (⟨#[33, 97]⟩ : ByteArray), (⟨#[49, 43, 97, 98, 43, 98]⟩ : ByteArray), (⟨#[49, 43, 98, 43, 97, 98]⟩ : ByteArray)] : List ByteArray))).bind fun bt887 => (some (ji5, bt887.1))) else (some (ji5, t877))))) = some (r1, r2) := by first | (rw [hji5] at H; exact H) | (simp only [hji5] at H ⊢; exact H)
 (try rw [hji5] at A2)
 (try rw [hji5] at A3)
 (try rw [hji5] at A4)
 (try (have hji5h : ji5 ≤ 6 := by (rw [← hji5]; unfold mn; (repeat' split) <;> omega)))
 (try (have hji5g : ji5 ≤ 64 := by omega))
 have hji5_ : (if 6 < t872 then 6 else t872) = ji5 := hji5
 replace H := Option.bind_eq_some_iff.mp H
 obtain ⟨⟨t878, t879, t880⟩, A60, H⟩ := H
 dsimp only at H
 have A6 := Aside0.mk A60
 clear A60
 by_cases c7 : t878 = 0
 ·rw [if_pos c7] at H
  have c7b0 : (t878 == 0) = true := beq_iff_eq.mpr c7
  have c7b1 : (t878 != 0) = false := bne_eq_false_iff_eq.mpr c7
  clear c7
  replace H := Option.bind_eq_some_iff.mp H
  obtain ⟨⟨t881, t882, t883⟩, A80, H⟩ := H
  replace H : (some (ji5, t881)) = some (r1, r2) := H
  have A8 := Aside0.mk A80
  clear A80
  simp only [Option.some.injEq, Prod.mk.injEq] at H
  obtain ⟨rfl, rfl⟩ := H
  go_enter Tryd.func26, Tryd.ntmps26
  go_wp2_with (first | ((with_reducible refine gate_callee (f := 36) rfl ?_); refine gl_ 9 Tryd.func36 #[.slice A0 l0.length c0] rfl mp_ ?_; (with_reducible refine (spec_l1New.calls k _ _ l0 t868 t869 t870 w _ ?side1 ?side2 ?side3 A2.out).mono ?_); (case side1 => repeat (first | (with_reducible first | exact HB.out | apply below_alloc | apply pw_below_drewN | apply below_drew1) | exact HB.out)); (case side2 => exact HR0.out); (case side3 => exact HC0.out); rintro e w9 ⟨g871, rfl, hi, hb, hb2⟩; refine ⟨_, rfl, ?_⟩; replace HB := Aside0.mk (hb); have HI871 := Aside0.mk (hi); (try clear hb); (try clear hb2); (try clear hk); (try clear hi)) | ((with_reducible refine gate_callee (f := 35) rfl ?_); refine gl_ 11 Tryd.func35 #[.pointer (some ⟨g871, 0, none⟩)] rfl mp_ ?_; (with_reducible refine (spec_l2Any.calls k g871 t868 t869 t870 t872 t873 t874 t875 w _ ?side1 ?side2 A3.out).mono ?_); (case side1 => exact ia_ HI871); (case side2 => exact bi_ HB HI871); rintro e w10 ⟨rfl, hi, hb, hk⟩; refine ⟨_, rfl, ?_⟩; replace HB := Aside0.mk (hb); replace HI871 := Aside0.mk (hi); (try clear hb); (try clear hb2); (try clear hk); (try clear hi)) | ((with_reducible refine gate_dst (N := 5) rfl ?_); refine bx_ 5 #[.int .i64 0, .int .i64 0] 23 ?_; intro gb876 hg w11 hbox hb; have BK876 := Aside0.mk (hbox); have GW876 := Aside0.mk ((by rw [hg]; exact (below_size (bi_ HB HI871)) : w.heap.size ≤ gb876)); have GE876 := GW876; replace HB := Aside0.mk (below_step (bi_ HB HI871) hb); have NB871_876 := Aside0.mk ((by rw [hg]; exact Nat.ne_of_lt (IsS75.lt (show IsS75 w _ g871 t868 t874 t875 from ia_ HI871)) : g871 ≠ gb876)); have NB876_871 := Aside0.mk ((by rw [hg]; exact Nat.ne_of_gt (IsS75.lt (show IsS75 w _ g871 t868 t874 t875 from ia_ HI871)) : gb876 ≠ g871)); replace HI871 := Aside0.mk (IsS75.below (ia_ HI871) hb); clear hb hbox hg; have hnb12 := NB876_871.out; have hnc12 := NB871_876.out; obtain ⟨hcz13_0, hcz13_1, hfz13_0, hfz13_1⟩ := c2_ BK876) | ((with_reducible refine gate_callee (f := 21) rfl ?_); refine gl_ 13 Tryd.func21 #[.agg #[.int .i64 t872, .int .i64 t873]] rfl mp_ ?_; (with_reducible refine (spec_FormatAnf.calls k t872 t873 t877 _ A4.out).mono ?_); rintro e w14 ⟨rfl, hb⟩; refine ⟨_, rfl, ?_⟩; replace BK876 := Aside0.mk (blk_below (g := gb876) (o := .cells #[.int .i64 t872, .int .i64 t873] 23 (0, 0)) (by (with_reducible repeat (first | refine blk_drewN ?_ _ | refine blk_drew ?_ | refine blk_alloc ?_ _)); refine blk_put (cs := #[.int .i64 t872, .int .i64 0]) ?_ 1 _ rfl; (with_reducible repeat (first | refine blk_drewN ?_ _ | refine blk_drew ?_ | refine blk_alloc ?_ _)); refine blk_put (cs := #[.int .i64 0, .int .i64 0]) ?_ 0 _ rfl; (with_reducible repeat (first | refine blk_drewN ?_ _ | refine blk_drew ?_ | refine blk_alloc ?_ _)); exact BK876.out) hb); replace HB := Aside0.mk (below_step (bi1_ HB HI871 GE876) hb); replace HI871 := Aside0.mk (IsS75.below (show IsS75 w ((w11.setCell ⟨gb876, 0, none⟩ (.int .i64 t872)).setCell ⟨gb876, 1, none⟩ (.int .i64 t873)) g871 t868 t874 t875 from ia1_ HI871 NB871_876) hb); (try clear hb); (try clear hb2); (try clear hk); (try clear hi); obtain ⟨hcz15_0, hcz15_1, hfz15_0, hfz15_1⟩ := c2_ BK876) | ((with_reducible refine gate_callee (f := 54) rfl ?_); refine gl_ 18 Tryd.func54 #[.pointer (some ⟨g871, 0, none⟩), .int .i64 4] rfl mp_ ?_; (with_reducible refine (spec_l1Below.calls g871 t868 t874 t875 4 t878 t879 t880 w _ ?side1 ?side2 A6.out).mono ?_); (case side1 => exact ia1_ HI871 NB871_876); (case side2 => exact bi1_ HB HI871 GE876); rintro e w16 ⟨rfl, hi, hb, hk⟩; refine ⟨_, rfl, ?_⟩; replace BK876 := Aside0.mk (KeepBut.blk hk (g' := gb876) (o := .cells #[.int .i64 t872, .int .i64 t873] 23 (0, 0)) (kv_ BK876) NB876_871.out (by simp)); replace HB := Aside0.mk (hb); replace HI871 := Aside0.mk (hi); (try clear hb); (try clear hb2); (try clear hk); (try clear hi)) | ((with_reducible refine gate_callee (f := 55) rfl ?_); refine gl_ 24 Tryd.func55 #[.pointer (some ⟨g871, 0, none⟩), .string t877] rfl mp_ ?_; (with_reducible refine (spec_l1Spoil.calls k g871 t868 t879 t880 t877 t881 t882 t883 w _ ?side1 ?side2 A8.out).mono ?_); (case side1 => exact ia1_ HI871 NB871_876); (case side2 => exact bi1_ HB HI871 GE876); rintro e w17 ⟨rfl, hi, hb, hk⟩; refine ⟨_, rfl, ?_⟩; replace BK876 := Aside0.mk (KeepBut.blk hk (g' := gb876) (o := .cells #[.int .i64 t872, .int .i64 t873] 23 (0, 0)) (kv_ BK876) NB876_871.out (by simp)); replace HB := Aside0.mk (hb); replace HI871 := Aside0.mk (hi); (try clear hb); (try clear hb2); (try clear hk); (try clear hi)))
  go_ret2
  exact ⟨by first | rfl | (simp [errW_none, errW_some] <;> rfl) | (simp only [← hji5]; first | rfl | (simp [errW_none, errW_some] <;> rfl)) | (simp [*, errW_none, errW_some] <;> rfl), bi1_ HB HI871 GE876⟩
 ·rw [if_neg c7] at H
  have c7b0 : (t878 == 0) = false := beq_eq_false_iff_ne.mpr c7
  have c7b1 : (t878 != 0) = true := bne_iff_ne.mpr c7
  by_cases c18 : t878 = 1
  ·rw [if_pos c18] at H
   have c18b0 : (t878 == 1) = true := beq_iff_eq.mpr c18
   have c18b1 : (t878 != 1) = false := bne_eq_false_iff_eq.mpr c18
   clear c18
   obtain ⟨y884, hy884⟩ : ∃ y_ : List ByteArray, y_ = (([(⟨#[]⟩ : ByteArray), (⟨#[48]⟩ : ByteArray), (⟨#[49]⟩ : ByteArray), (⟨#[97, 43, 49]⟩ : ByteArray), (⟨#[49, 43, 97]⟩ : ByteArray), (⟨#[97, 43, 97]⟩ : ByteArray), (⟨#[33, 97]⟩ : ByteArray), (⟨#[49, 43, 97, 98, 43, 98]⟩ : ByteArray), (⟨#[49, 43, 98, 43, 97, 98]⟩ : ByteArray)] : List ByteArray)) := ⟨_, rfl⟩
   replace H : ((spec_l1Pick.f t868 t879 t880 y884).bind fun bt887 => (some (ji5, bt887.1))) = some (r1, r2) := by first | (rw [hy884]; with_reducible exact H) | (have H2_ := (Option.bind_some _ _).symm.trans H; rw [hy884]; with_reducible exact H2_) | (have H2_ := (Option.bind_some _ _).symm.trans H; with_reducible exact H2_) | with_reducible exact H | (rw [hy884]; exact H) | exact H
   have Ny884 := Aside0.mk hy884
   clear hy884
   replace H := Option.bind_eq_some_iff.mp H
   obtain ⟨⟨t887, t888, t889⟩, A190, H⟩ := H
   replace H : (some (ji5, t887)) = some (r1, r2) := H
   have A19 := Aside0.mk A190
   clear A190
   simp only [Option.some.injEq, Prod.mk.injEq] at H
   obtain ⟨rfl, rfl⟩ := H
   go_enter Tryd.func26, Tryd.ntmps26
   go_wp2_with (first | ((with_reducible refine gate_callee (f := 36) rfl ?_); refine gl_ 9 Tryd.func36 #[.slice A0 l0.length c0] rfl mp_ ?_; (with_reducible refine (spec_l1New.calls k _ _ l0 t868 t869 t870 w _ ?side1 ?side2 ?side3 A2.out).mono ?_); (case side1 => repeat (first | (with_reducible first | exact HB.out | apply below_alloc | apply pw_below_drewN | apply below_drew1) | exact HB.out)); (case side2 => exact HR0.out); (case side3 => exact HC0.out); rintro e w20 ⟨g871, rfl, hi, hb, hb2⟩; refine ⟨_, rfl, ?_⟩; replace HB := Aside0.mk (hb); have HI871 := Aside0.mk (hi); (try clear hb); (try clear hb2); (try clear hk); (try clear hi)) | ((with_reducible refine gate_callee (f := 35) rfl ?_); refine gl_ 11 Tryd.func35 #[.pointer (some ⟨g871, 0, none⟩)] rfl mp_ ?_; (with_reducible refine (spec_l2Any.calls k g871 t868 t869 t870 t872 t873 t874 t875 w _ ?side1 ?side2 A3.out).mono ?_); (case side1 => exact ia_ HI871); (case side2 => exact bi_ HB HI871); rintro e w21 ⟨rfl, hi, hb, hk⟩; refine ⟨_, rfl, ?_⟩; replace HB := Aside0.mk (hb); replace HI871 := Aside0.mk (hi); (try clear hb); (try clear hb2); (try clear hk); (try clear hi)) | ((with_reducible refine gate_dst (N := 5) rfl ?_); refine bx_ 5 #[.int .i64 0, .int .i64 0] 23 ?_; intro gb876 hg w22 hbox hb; have BK876 := Aside0.mk (hbox); have GW876 := Aside0.mk ((by rw [hg]; exact (below_size (bi_ HB HI871)) : w.heap.size ≤ gb876)); have GE876 := GW876; replace HB := Aside0.mk (below_step (bi_ HB HI871) hb); have NB871_876 := Aside0.mk ((by rw [hg]; exact Nat.ne_of_lt (IsS75.lt (show IsS75 w _ g871 t868 t874 t875 from ia_ HI871)) : g871 ≠ gb876)); have NB876_871 := Aside0.mk ((by rw [hg]; exact Nat.ne_of_gt (IsS75.lt (show IsS75 w _ g871 t868 t874 t875 from ia_ HI871)) : gb876 ≠ g871)); replace HI871 := Aside0.mk (IsS75.below (ia_ HI871) hb); clear hb hbox hg; have hnb23 := NB876_871.out; have hnc23 := NB871_876.out; obtain ⟨hcz24_0, hcz24_1, hfz24_0, hfz24_1⟩ := c2_ BK876) | ((with_reducible refine gate_callee (f := 21) rfl ?_); refine gl_ 13 Tryd.func21 #[.agg #[.int .i64 t872, .int .i64 t873]] rfl mp_ ?_; (with_reducible refine (spec_FormatAnf.calls k t872 t873 t877 _ A4.out).mono ?_); rintro e w25 ⟨rfl, hb⟩; refine ⟨_, rfl, ?_⟩; replace BK876 := Aside0.mk (blk_below (g := gb876) (o := .cells #[.int .i64 t872, .int .i64 t873] 23 (0, 0)) (by (with_reducible repeat (first | refine blk_drewN ?_ _ | refine blk_drew ?_ | refine blk_alloc ?_ _)); refine blk_put (cs := #[.int .i64 t872, .int .i64 0]) ?_ 1 _ rfl; (with_reducible repeat (first | refine blk_drewN ?_ _ | refine blk_drew ?_ | refine blk_alloc ?_ _)); refine blk_put (cs := #[.int .i64 0, .int .i64 0]) ?_ 0 _ rfl; (with_reducible repeat (first | refine blk_drewN ?_ _ | refine blk_drew ?_ | refine blk_alloc ?_ _)); exact BK876.out) hb); replace HB := Aside0.mk (below_step (bi1_ HB HI871 GE876) hb); replace HI871 := Aside0.mk (IsS75.below (show IsS75 w ((w22.setCell ⟨gb876, 0, none⟩ (.int .i64 t872)).setCell ⟨gb876, 1, none⟩ (.int .i64 t873)) g871 t868 t874 t875 from ia1_ HI871 NB871_876) hb); (try clear hb); (try clear hb2); (try clear hk); (try clear hi); obtain ⟨hcz26_0, hcz26_1, hfz26_0, hfz26_1⟩ := c2_ BK876) | ((with_reducible refine gate_callee (f := 54) rfl ?_); refine gl_ 18 Tryd.func54 #[.pointer (some ⟨g871, 0, none⟩), .int .i64 4] rfl mp_ ?_; (with_reducible refine (spec_l1Below.calls g871 t868 t874 t875 4 t878 t879 t880 w _ ?side1 ?side2 A6.out).mono ?_); (case side1 => exact ia1_ HI871 NB871_876); (case side2 => exact bi1_ HB HI871 GE876); rintro e w27 ⟨rfl, hi, hb, hk⟩; refine ⟨_, rfl, ?_⟩; replace BK876 := Aside0.mk (KeepBut.blk hk (g' := gb876) (o := .cells #[.int .i64 t872, .int .i64 t873] 23 (0, 0)) (kv_ BK876) NB876_871.out (by simp)); replace HB := Aside0.mk (hb); replace HI871 := Aside0.mk (hi); (try clear hb); (try clear hb2); (try clear hk); (try clear hi)) | ((with_reducible refine gate_dst (N := 29) rfl ?_); refine Kd.R_lit Kd.string _ 9 ?hg (N := 29) ?hd (xs := ([(⟨#[]⟩ : ByteArray), (⟨#[48]⟩ : ByteArray), (⟨#[49]⟩ : ByteArray), (⟨#[97, 43, 49]⟩ : ByteArray), (⟨#[49, 43, 97]⟩ : ByteArray), (⟨#[97, 43, 97]⟩ : ByteArray), (⟨#[33, 97]⟩ : ByteArray), (⟨#[49, 43, 97, 98, 43, 98]⟩ : ByteArray), (⟨#[49, 43, 98, 43, 97, 98]⟩ : ByteArray)] : List ByteArray)) (inner := [.string (⟨#[]⟩ : ByteArray), .string (⟨#[48]⟩ : ByteArray), .string (⟨#[49]⟩ : ByteArray), .string (⟨#[97, 43, 49]⟩ : ByteArray), .string (⟨#[49, 43, 97]⟩ : ByteArray), .string (⟨#[97, 43, 97]⟩ : ByteArray), .string (⟨#[33, 97]⟩ : ByteArray), .string (⟨#[49, 43, 97, 98, 43, 98]⟩ : ByteArray), .string (⟨#[49, 43, 98, 43, 97, 98]⟩ : ByteArray)]) (ok := fun _ => True) (okp := fun _ => True) ?hr ?hp (fun _ hk => hk) trivial (Below.refl _ _) (Nat.le_refl _) (by simp) ?_; (case hd => rfl); (case hg => rfl); (case hr => first | (go_simp; done) | (go_simp; rfl)); (case hp => exact (Reps.one (show Kd.M Kd.string _ _ _ (⟨#[]⟩ : ByteArray) [.string (⟨#[]⟩ : ByteArray)] from rfl) (Reps.one (show Kd.M Kd.string _ _ _ (⟨#[48]⟩ : ByteArray) [.string (⟨#[48]⟩ : ByteArray)] from rfl) (Reps.one (show Kd.M Kd.string _ _ _ (⟨#[49]⟩ : ByteArray) [.string (⟨#[49]⟩ : ByteArray)] from rfl) (Reps.one (show Kd.M Kd.string _ _ _ (⟨#[97, 43, 49]⟩ : ByteArray) [.string (⟨#[97, 43, 49]⟩ : ByteArray)] from rfl) (Reps.one (show Kd.M Kd.string _ _ _ (⟨#[49, 43, 97]⟩ : ByteArray) [.string (⟨#[49, 43, 97]⟩ : ByteArray)] from rfl) (Reps.one (show Kd.M Kd.string _ _ _ (⟨#[97, 43, 97]⟩ : ByteArray) [.string (⟨#[97, 43, 97]⟩ : ByteArray)] from rfl) (Reps.one (show Kd.M Kd.string _ _ _ (⟨#[33, 97]⟩ : ByteArray) [.string (⟨#[33, 97]⟩ : ByteArray)] from rfl) (Reps.one (show Kd.M Kd.string _ _ _ (⟨#[49, 43, 97, 98, 43, 98]⟩ : ByteArray) [.string (⟨#[49, 43, 97, 98, 43, 98]⟩ : ByteArray)] from rfl) (Reps.one (show Kd.M Kd.string _ _ _ (⟨#[49, 43, 98, 43, 97, 98]⟩ : ByteArray) [.string (⟨#[49, 43, 98, 43, 97, 98]⟩ : ByteArray)] from rfl) (Reps.none _ _))))))))))); intro v885 w28 ho29 hb hg_ hnew_; clear hg_ hnew_; (first | rw [← Ny884.out] at ho29 | (simp only [Int.reduceToNat] at ho29; rw [← Ny884.out] at ho29)); have HO886 := Aside0.mk (Kd.R_lower ho29 (below_size (bi1_ HB HI871 GE876))); replace BK876 := kb_ BK876 hb; replace HB := Aside0.mk (below_step (bi1_ HB HI871 GE876) hb); replace HI871 := Aside0.mk (IsS75.below (ia1_ HI871 NB871_876) hb); clear hb ho29; obtain ⟨Ao30, co30, eo30⟩ := Kd.R_slice HO886.out; subst eo30) | ((with_reducible refine gate_callee (f := 56) rfl ?_); refine gl_ 30 Tryd.func56 #[.pointer (some ⟨g871, 0, none⟩), .slice Ao30 y884.length co30] rfl mp_ ?_; (with_reducible refine (spec_l1Pick.calls g871 t868 t879 t880 _ _ y884 t887 t888 t889 w _ ?side1 ?side2 ?side3 ?side4 ?side5 A19.out).mono ?_); (case side1 => exact ia1_ HI871 NB871_876); (case side2 => exact bi1_ HB HI871 GE876); (case side3 => repeat (first | exact (Kd.R_reads' HO886.out).2.2 | (with_reducible refine Kd.C_alloc ?_ _) | (with_reducible refine Kd.C_drewN ?_ _) | (with_reducible refine Kd.C_drew ?_))); (case side4 => exact (Kd.R_reads' HO886.out).2.1); (case side5 => exact far_slice (IsS75.own_ne HI871.out HO886.out (by decide))); rintro e w31 ⟨rfl, hi, hb, hk⟩; refine ⟨_, rfl, ?_⟩; replace BK876 := Aside0.mk (KeepBut.blk hk (g' := gb876) (o := .cells #[.int .i64 t872, .int .i64 t873] 23 (0, 0)) (kv_ BK876) NB876_871.out (by simp)); replace HO886 := Aside0.mk (Kd.R_mono (Kd.R_keep (IsS75.apart (show IsS75 w _ g871 t868 t879 t880 from ia1_ HI871 NB871_876) (rv_ HO886) (by decide)) hk (fun _ h => h.2)) (fun _ h => h.1)); replace HB := Aside0.mk (hb); replace HI871 := Aside0.mk (hi); (try clear hb); (try clear hb2); (try clear hk); (try clear hi)))
   go_ret2
   exact ⟨by first | rfl | (simp [errW_none, errW_some] <;> rfl) | (simp only [← hji5]; first | rfl | (simp [errW_none, errW_some] <;> rfl)) | (simp [*, errW_none, errW_some] <;> rfl), bi1_ HB HI871 GE876⟩
  ·rw [if_neg c18] at H
   have c18b0 : (t878 == 1) = false := beq_eq_false_iff_ne.mpr c18
   have c18b1 : (t878 != 1) = true := bne_iff_ne.mpr c18
   simp only [Option.some.injEq, Prod.mk.injEq] at H
   obtain ⟨rfl, rfl⟩ := H
   go_enter Tryd.func26, Tryd.ntmps26
   go_wp2_with (first | ((with_reducible refine gate_callee (f := 36) rfl ?_); refine gl_ 9 Tryd.func36 #[.slice A0 l0.length c0] rfl mp_ ?_; (with_reducible refine (spec_l1New.calls k _ _ l0 t868 t869 t870 w _ ?side1 ?side2 ?side3 A2.out).mono ?_); (case side1 => repeat (first | (with_reducible first | exact HB.out | apply below_alloc | apply pw_below_drewN | apply below_drew1) | exact HB.out)); (case side2 => exact HR0.out); (case side3 => exact HC0.out); rintro e w32 ⟨g871, rfl, hi, hb, hb2⟩; refine ⟨_, rfl, ?_⟩; replace HB := Aside0.mk (hb); have HI871 := Aside0.mk (hi); (try clear hb); (try clear hb2); (try clear hk); (try clear hi)) | ((with_reducible refine gate_callee (f := 35) rfl ?_); refine gl_ 11 Tryd.func35 #[.pointer (some ⟨g871, 0, none⟩)] rfl mp_ ?_; (with_reducible refine (spec_l2Any.calls k g871 t868 t869 t870 t872 t873 t874 t875 w _ ?side1 ?side2 A3.out).mono ?_); (case side1 => exact ia_ HI871); (case side2 => exact bi_ HB HI871); rintro e w33 ⟨rfl, hi, hb, hk⟩; refine ⟨_, rfl, ?_⟩; replace HB := Aside0.mk (hb); replace HI871 := Aside0.mk (hi); (try clear hb); (try clear hb2); (try clear hk); (try clear hi)) | ((with_reducible refine gate_dst (N := 5) rfl ?_); refine bx_ 5 #[.int .i64 0, .int .i64 0] 23 ?_; intro gb876 hg w34 hbox hb; have BK876 := Aside0.mk (hbox); have GW876 := Aside0.mk ((by rw [hg]; exact (below_size (bi_ HB HI871)) : w.heap.size ≤ gb876)); have GE876 := GW876; replace HB := Aside0.mk (below_step (bi_ HB HI871) hb); have NB871_876 := Aside0.mk ((by rw [hg]; exact Nat.ne_of_lt (IsS75.lt (show IsS75 w _ g871 t868 t874 t875 from ia_ HI871)) : g871 ≠ gb876)); have NB876_871 := Aside0.mk ((by rw [hg]; exact Nat.ne_of_gt (IsS75.lt (show IsS75 w _ g871 t868 t874 t875 from ia_ HI871)) : gb876 ≠ g871)); replace HI871 := Aside0.mk (IsS75.below (ia_ HI871) hb); clear hb hbox hg; have hnb35 := NB876_871.out; have hnc35 := NB871_876.out; obtain ⟨hcz36_0, hcz36_1, hfz36_0, hfz36_1⟩ := c2_ BK876) | ((with_reducible refine gate_callee (f := 21) rfl ?_); refine gl_ 13 Tryd.func21 #[.agg #[.int .i64 t872, .int .i64 t873]] rfl mp_ ?_; (with_reducible refine (spec_FormatAnf.calls k t872 t873 t877 _ A4.out).mono ?_); rintro e w37 ⟨rfl, hb⟩; refine ⟨_, rfl, ?_⟩; replace BK876 := Aside0.mk (blk_below (g := gb876) (o := .cells #[.int .i64 t872, .int .i64 t873] 23 (0, 0)) (by (with_reducible repeat (first | refine blk_drewN ?_ _ | refine blk_drew ?_ | refine blk_alloc ?_ _)); refine blk_put (cs := #[.int .i64 t872, .int .i64 0]) ?_ 1 _ rfl; (with_reducible repeat (first | refine blk_drewN ?_ _ | refine blk_drew ?_ | refine blk_alloc ?_ _)); refine blk_put (cs := #[.int .i64 0, .int .i64 0]) ?_ 0 _ rfl; (with_reducible repeat (first | refine blk_drewN ?_ _ | refine blk_drew ?_ | refine blk_alloc ?_ _)); exact BK876.out) hb); replace HB := Aside0.mk (below_step (bi1_ HB HI871 GE876) hb); replace HI871 := Aside0.mk (IsS75.below (show IsS75 w ((w34.setCell ⟨gb876, 0, none⟩ (.int .i64 t872)).setCell ⟨gb876, 1, none⟩ (.int .i64 t873)) g871 t868 t874 t875 from ia1_ HI871 NB871_876) hb); (try clear hb); (try clear hb2); (try clear hk); (try clear hi); obtain ⟨hcz38_0, hcz38_1, hfz38_0, hfz38_1⟩ := c2_ BK876) | ((with_reducible refine gate_callee (f := 54) rfl ?_); refine gl_ 18 Tryd.func54 #[.pointer (some ⟨g871, 0, none⟩), .int .i64 4] rfl mp_ ?_; (with_reducible refine (spec_l1Below.calls g871 t868 t874 t875 4 t878 t879 t880 w _ ?side1 ?side2 A6.out).mono ?_); (case side1 => exact ia1_ HI871 NB871_876); (case side2 => exact bi1_ HB HI871 GE876); rintro e w39 ⟨rfl, hi, hb, hk⟩; refine ⟨_, rfl, ?_⟩; replace BK876 := Aside0.mk (KeepBut.blk hk (g' := gb876) (o := .cells #[.int .i64 t872, .int .i64 t873] 23 (0, 0)) (kv_ BK876) NB876_871.out (by simp)); replace HB := Aside0.mk (hb); replace HI871 := Aside0.mk (hi); (try clear hb); (try clear hb2); (try clear hk); (try clear hi)))
   go_ret2
   exact ⟨by first | rfl | (simp [errW_none, errW_some] <;> rfl) | (simp only [← hji5]; first | rfl | (simp [errW_none, errW_some] <;> rfl)) | (simp [*, errW_none, errW_some] <;> rfl), bi1_ HB HI871 GE876⟩


/-! ### spec_DrawFormatAnf: function 27 -/
def spec_DrawFormatAnf.f (k : Nat) (l0 : List Int) : Option (Int × Int) := (spec_l1New.f k l0).bind fun bt891 => ((spec_l2Any.f k bt891.1 bt891.2.1 bt891.2.2).bind fun bt895 => (some (bt895.1, bt895.2.1)))
theorem spec_DrawFormatAnf.mono : ∀ a0 k, LeO (spec_DrawFormatAnf.f k a0) (spec_DrawFormatAnf.f (k + 1) a0) := by
 intro a0 k
 unfold spec_DrawFormatAnf.f
 repeat' first
   | (with_reducible exact spec_l1New.mono _ _)
   | (with_reducible exact spec_l2Any.mono _ _ _ _)
   | (with_reducible exact LeO.refl _)
   | (with_reducible exact LeO.none _)
   | (with_reducible refine LeO.ite ?_ ?_)
   | (with_reducible refine LeO.bind ?_ (fun _ => ?_))
   | exact spec_l1New.mono _ _
   | exact spec_l2Any.mono _ _ _ _
   | exact LeO.none _
   | refine LeO.ite ?_ ?_
   | refine LeO.bind ?_ (fun _ => ?_)
set_option maxHeartbeats 8000000 in
set_option maxRecDepth 100000 in
theorem spec_DrawFormatAnf.calls (k : Nat) (A0 : Option Addr) (c0 : Nat) (l0 : List Int) (r1 : Int) (r2 : Int) (w : World) (hr0 : Kd.C (Kd.int .u8) w A0 l0.length l0) (hc0 : l0.length ≤ c0) (h : spec_DrawFormatAnf.f k l0 = some (r1, r2)) :
  Calls Tryd.prog 27 #[.slice A0 l0.length c0] w fun e w' => e = .returned (.agg #[.int .i64 r1, .int .i64 r2]) ∧ Below w.heap.size w w' := by
 have hu23 := Tryd.underlying23
 have HR0 := Aside0.mk hr0
 have HC0 := Aside0.mk hc0
 clear hr0 hc0
 have HB := Aside0.mk (Below.refl w.heap.size w)
 have H : ((spec_l1New.f k l0).bind fun bt891 => ((spec_l2Any.f k bt891.1 bt891.2.1 bt891.2.2).bind fun bt895 => (some (bt895.1, bt895.2.1)))) = some (r1, r2) := h
 clear h
 replace H := Option.bind_eq_some_iff.mp H
 obtain ⟨⟨t891, t892, t893⟩, A20, H⟩ := H
 replace H : ((spec_l2Any.f k t891 t892 t893).bind fun bt895 => (some (bt895.1, bt895.2.1))) = some (r1, r2) := H
 have A2 := Aside0.mk A20
 clear A20
 replace H := Option.bind_eq_some_iff.mp H
 obtain ⟨⟨t895, t896, t897, t898⟩, A30, H⟩ := H
 replace H : (some (t895, t896)) = some (r1, r2) := H
 have A3 := Aside0.mk A30
 clear A30
 simp only [Option.some.injEq, Prod.mk.injEq] at H
 obtain ⟨rfl, rfl⟩ := H
 go_enter Tryd.func27, Tryd.ntmps27
 go_wp2_with (first | ((with_reducible refine gate_dst (N := 2) rfl ?_); refine bx_ 2 #[.int .i64 0, .int .i64 0] 23 ?_; intro gb890 hg w4 hbox hb; have BK890 := Aside0.mk (hbox); have GW890 := gw_ hg (below_size (bv_ HB)); have GE890 := GW890; replace HB := Aside0.mk (below_step (bv_ HB) hb); clear hb hbox hg) | ((with_reducible refine gate_callee (f := 36) rfl ?_); refine gl_ 4 Tryd.func36 #[.slice A0 l0.length c0] rfl mp_ ?_; (with_reducible refine (spec_l1New.calls k _ _ l0 t891 t892 t893 w _ ?side1 ?side2 ?side3 A2.out).mono ?_); (case side1 => repeat (first | (with_reducible first | exact HB.out | apply below_alloc | apply pw_below_drewN | apply below_drew1 | refine below_set ?_ GE890.out) | exact HB.out)); (case side2 => exact HR0.out); (case side3 => exact HC0.out); rintro e w5 ⟨g894, rfl, hi, hb, hb2⟩; refine ⟨_, rfl, ?_⟩; replace HB := Aside0.mk (hb); have HI894 := Aside0.mk (hi); have NB894_890 := Aside0.mk (IsS75.ne_blk hi (blk_below (g := gb890) (o := .cells #[.int .i64 0, .int .i64 0] 23 (0, 0)) (kv_ BK890) hb2) (by decide)); have NB890_894 := Aside0.mk (Ne.symm (IsS75.ne_blk hi (blk_below (g := gb890) (o := .cells #[.int .i64 0, .int .i64 0] 23 (0, 0)) (kv_ BK890) hb2) (by decide))); replace BK890 := kb_ BK890 hb2; (try clear hb); (try clear hb2); (try clear hk); (try clear hi)) | ((with_reducible refine gate_callee (f := 35) rfl ?_); refine gl_ 5 Tryd.func35 #[.pointer (some ⟨g894, 0, none⟩)] rfl mp_ ?_; (with_reducible refine (spec_l2Any.calls k g894 t891 t892 t893 t895 t896 t897 t898 w _ ?side1 ?side2 A3.out).mono ?_); (case side1 => exact ia1_ HI894 NB894_890); (case side2 => exact bi1_ HB HI894 GE890); rintro e w6 ⟨rfl, hi, hb, hk⟩; refine ⟨_, rfl, ?_⟩; replace BK890 := Aside0.mk (KeepBut.blk hk (g' := gb890) (o := .cells #[.int .i64 0, .int .i64 0] 23 (0, 0)) (kv_ BK890) NB890_894.out (by simp)); replace HB := Aside0.mk (hb); replace HI894 := Aside0.mk (hi); (try clear hb); (try clear hb2); (try clear hk); (try clear hi); have hnb7 := NB890_894.out; have hnc7 := NB894_890.out; obtain ⟨hcz8_0, hcz8_1, hfz8_0, hfz8_1⟩ := c2_ BK890))
 refine bodyPost_ret (results_cell_row rfl _ _ gb890 23 #[.int .i64 t895, .int .i64 t896] (0, 0) _ rfl (by (with_reducible repeat (first | refine blk_drewN ?_ _ | refine blk_drew ?_ | refine blk_alloc ?_ _)); refine blk_put (cs := #[.int .i64 t895, .int .i64 0]) ?_ 1 _ rfl; (with_reducible repeat (first | refine blk_drewN ?_ _ | refine blk_drew ?_ | refine blk_alloc ?_ _)); refine blk_put (cs := #[.int .i64 0, .int .i64 0]) ?_ 0 _ rfl; (with_reducible repeat (first | refine blk_drewN ?_ _ | refine blk_drew ?_ | refine blk_alloc ?_ _)); exact BK890.out) Tryd.underlying23 rfl (by kernel_rfl)) rfl ?_
 exact ⟨er_, bi1_ HB HI894 GE890⟩


/-! ### pre_69: function 0 -/
-- NOT PRINTED: function 4 (laws_FnDegrees)

end Go.Proofs.YteljkpglgjjnlaaDoor.P
