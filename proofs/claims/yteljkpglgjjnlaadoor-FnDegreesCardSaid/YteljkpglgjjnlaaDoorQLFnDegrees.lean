-- Out of the translation, by this session's program over the printer's; Lean checks it.
import Derived.Test.YteljkpglgjjnlaaDoorSh
import Derived.Test.YteljkpglgjjnlaaDoorQ1
import Derived.Test.YteljkpglgjjnlaaDoorQ3
import Derived.Test.YteljkpglgjjnlaaDoorQ4
import Derived.Test.YteljkpglgjjnlaaDoorQ6
import Derived.Test.YteljkpglgjjnlaaDoorQ9
import Derived.Test.YteljkpglgjjnlaaDoorQ10
import Derived.Test.YteljkpglgjjnlaaDoorQ11
import Derived.Test.YteljkpglgjjnlaaDoorQ12
import Derived.Test.YteljkpglgjjnlaaDoorQ13
import Derived.Test.YteljkpglgjjnlaaDoorQ16
namespace Go.Proofs.YteljkpglgjjnlaaDoor.P
open Go.RowKit Go.Proofs.YteljkpglgjjnlaaDoorW.PrintWords Go.Proofs.YteljkpglgjjnlaaDoorW.PrintLast Go.Proofs.YteljkpglgjjnlaaDoorW.PrintMore
attribute [local go_sem] max2_int min2_int max_two min_two max_three min_three max_four min_four
set_option linter.unusedVariables false
set_option linter.unusedSimpArgs false

/-! ### laws_FnDegrees: function 4 -/
def laws_FnDegrees.l0 : Nat → List Int → List Int → Int → Int → Int → Option (Bool)
 | 0, _, _, _, _, _ => none
 | k + 1, x0, x8, x16, x920000, x920001 => if x16 < (x8.length : Int) then (if 0 ≤ x16 then ((impl_ValueAt.f x920000 x920001 x16).bind fun t950 => (if (((Int.tmod (rd x8 x16) 2) != 0) != (t950 == 1)) = true then (none) else (laws_FnDegrees.l0 k x0 x8 (wrap64 (x16 + 1)) x920000 x920001))) else (none)) else ((spec_DrawTableOfCoefficients.f k x0).bind fun t951 => ((impl_TableOfCoefficients.f k t951).bind fun bt954 => ((spec_TableOfCoefficients.f k t951).bind fun bt958 => ((spec_DrawParseAnf.f k x0).bind fun bt962 => ((impl_ParseAnf.f k bt962.1 bt962.2).bind fun bt964 => ((spec_ParseAnf.f k bt962.1 bt962.2).bind fun bt968 => ((spec_DrawFormatAnf.f k x0).bind fun bt972 => (if (bt954.1 == bt958.1 && (bt954.2.1 == bt958.2.1)) = true then (if (bt954.2.2 == bt958.2.2) = true then (if (bt964.1 == bt968.1 && (bt964.2.1 == bt968.2.1)) = true then (if (bt964.2.2 == bt968.2.2) = true then ((impl_FormatAnf.f k bt972.1 bt972.2).bind fun t975 => ((spec_FormatAnf.f k bt972.1 bt972.2).bind fun t976 => (some (t975.toList == t976.toList)))) else (none)) else (none)) else (none)) else (none)))))))))
def laws_FnDegrees.f (k : Nat) (l0 : List Int) : Option (Bool) := (laws_big.f l0).bind fun t908 => (if t908 = true then (some true) else ((spec_DrawAnfOf.f k l0).bind fun bt909 => ((impl_AnfOf.f bt909.1 bt909.2).bind fun bt912 => ((spec_AnfOf.f k bt909.1 bt909.2).bind fun bt916 => ((impl_RealCoefficients.f k bt909.1 bt909.2).bind fun t920 => (if (!(bt912.1 == bt916.1) || (!(bt912.2.1 == bt916.2.1))) = true then (none) else (if (bt912.2.2 != bt916.2.2) = true then (none) else ((spec_RealCoefficients.f k bt909.1 bt909.2).bind fun t923 => ((laws_sameInts.f k t920 t923).bind fun t926 => (if t926 = true then ((impl_DegreeMod2.f bt909.1 bt909.2).bind fun t927 => ((spec_DegreeMod2.f k bt909.1 bt909.2).bind fun t928 => (if t927 = t928 then ((impl_RealDegree.f k bt909.1 bt909.2).bind fun t929 => ((spec_RealDegree.f k bt909.1 bt909.2).bind fun t930 => (if t929 = t930 then (if bt912.2.2 = true then ((impl_AnfOf.f bt916.1 bt916.2.1).bind fun bt931 => ((impl_TableOfCoefficients.f k t920).bind fun bt935 => ((impl_FormatAnf.f k bt909.1 bt909.2).bind fun t939 => ((impl_ParseAnf.f k bt909.1 t939).bind fun bt940 => (if (!(bt931.1 == bt909.1) || (!(bt931.2.1 == bt909.2))) = true then (none) else (if bt935.2.2 = true then (if (!(bt935.1 == bt909.1) || (!(bt935.2.1 == bt909.2))) = true then (none) else (if bt940.2.2 = true then (if (!(bt940.1 == bt909.1) || (!(bt940.2.1 == bt909.2))) = true then (none) else ((spec_FormatAnf.f k bt909.1 bt909.2).bind fun t944 => (if t939.toList = t944.toList then ((impl_DegreeMod2.f bt909.1 bt909.2).bind fun t945 => ((impl_RealDegree.f k bt909.1 bt909.2).bind fun t946 => (if t945 > t946 then (none) else ((impl_DegreeMod2.f bt909.1 bt909.2).bind fun t947 => ((impl_CountOnes.f bt909.1 bt909.2).bind fun t948 => (if ((t947 == bt909.1) != ((Int.tmod t948 2) == 1)) = true then (none) else (laws_FnDegrees.l0 k l0 t920 0 bt916.1 bt916.2.1))))))) else (none)))) else (none))) else (none))))))) else ((spec_DrawTableOfCoefficients.f k l0).bind fun t977 => ((impl_TableOfCoefficients.f k t977).bind fun bt980 => ((spec_TableOfCoefficients.f k t977).bind fun bt984 => ((spec_DrawParseAnf.f k l0).bind fun bt988 => ((impl_ParseAnf.f k bt988.1 bt988.2).bind fun bt990 => ((spec_ParseAnf.f k bt988.1 bt988.2).bind fun bt994 => ((spec_DrawFormatAnf.f k l0).bind fun bt998 => (if (bt980.1 == bt984.1 && (bt980.2.1 == bt984.2.1)) = true then (if (bt980.2.2 == bt984.2.2) = true then (if (bt990.1 == bt994.1 && (bt990.2.1 == bt994.2.1)) = true then (if (bt990.2.2 == bt994.2.2) = true then ((impl_FormatAnf.f k bt998.1 bt998.2).bind fun t1001 => ((spec_FormatAnf.f k bt998.1 bt998.2).bind fun t1002 => (some (t1001.toList == t1002.toList)))) else (none)) else (none)) else (none)) else (none)))))))))) else (none)))) else (none)))) else (none)))))))))))
theorem laws_FnDegrees.mono_l : ∀ k, (∀ y0 y1 y2 y3 y4, LeO (laws_FnDegrees.l0 k y0 y1 y2 y3 y4) (laws_FnDegrees.l0 (k + 1) y0 y1 y2 y3 y4))
 | 0 => fun _ _ _ _ _ r h => by simp [laws_FnDegrees.l0] at h
 | k + 1 => by
  have ih0 := laws_FnDegrees.mono_l k
  ·intro y0 y1 y2 y3 y4
   unfold laws_FnDegrees.l0
   repeat' first
   | (with_reducible exact ih0 _ _ _ _ _)
   | (with_reducible exact impl_FormatAnf.mono _ _ _)
   | (with_reducible exact impl_ParseAnf.mono _ _ _)
   | (with_reducible exact impl_RealCoefficients.mono _ _ _)
   | (with_reducible exact impl_RealDegree.mono _ _ _)
   | (with_reducible exact impl_TableOfCoefficients.mono _ _)
   | (with_reducible exact laws_sameInts.mono _ _ _)
   | (with_reducible exact spec_AnfOf.mono _ _ _)
   | (with_reducible exact spec_DegreeMod2.mono _ _ _)
   | (with_reducible exact spec_DrawAnfOf.mono _ _)
   | (with_reducible exact spec_DrawFormatAnf.mono _ _)
   | (with_reducible exact spec_DrawParseAnf.mono _ _)
   | (with_reducible exact spec_DrawTableOfCoefficients.mono _ _)
   | (with_reducible exact spec_FormatAnf.mono _ _ _)
   | (with_reducible exact spec_ParseAnf.mono _ _ _)
   | (with_reducible exact spec_RealCoefficients.mono _ _ _)
   | (with_reducible exact spec_RealDegree.mono _ _ _)
   | (with_reducible exact spec_TableOfCoefficients.mono _ _)
   | (with_reducible exact LeO.refl _)
   | (with_reducible exact LeO.none _)
   | (with_reducible refine LeO.ite ?_ ?_)
   | (with_reducible refine LeO.bind ?_ (fun _ => ?_))
   | exact ih0 _ _ _ _ _
   | exact impl_FormatAnf.mono _ _ _
   | exact impl_ParseAnf.mono _ _ _
   | exact impl_RealCoefficients.mono _ _ _
   | exact impl_RealDegree.mono _ _ _
   | exact impl_TableOfCoefficients.mono _ _
   | exact laws_sameInts.mono _ _ _
   | exact spec_AnfOf.mono _ _ _
   | exact spec_DegreeMod2.mono _ _ _
   | exact spec_DrawAnfOf.mono _ _
   | exact spec_DrawFormatAnf.mono _ _
   | exact spec_DrawParseAnf.mono _ _
   | exact spec_DrawTableOfCoefficients.mono _ _
   | exact spec_FormatAnf.mono _ _ _
   | exact spec_ParseAnf.mono _ _ _
   | exact spec_RealCoefficients.mono _ _ _
   | exact spec_RealDegree.mono _ _ _
   | exact spec_TableOfCoefficients.mono _ _
   | exact LeO.none _
   | refine LeO.ite ?_ ?_
   | refine LeO.bind ?_ (fun _ => ?_)
theorem laws_FnDegrees.mono : ∀ a0 k, LeO (laws_FnDegrees.f k a0) (laws_FnDegrees.f (k + 1) a0) := by
 intro a0 k
 have ih0 := laws_FnDegrees.mono_l k
 unfold laws_FnDegrees.f
 repeat' first
   | (with_reducible exact ih0 _ _ _ _ _)
   | (with_reducible exact impl_FormatAnf.mono _ _ _)
   | (with_reducible exact impl_ParseAnf.mono _ _ _)
   | (with_reducible exact impl_RealCoefficients.mono _ _ _)
   | (with_reducible exact impl_RealDegree.mono _ _ _)
   | (with_reducible exact impl_TableOfCoefficients.mono _ _)
   | (with_reducible exact laws_sameInts.mono _ _ _)
   | (with_reducible exact spec_AnfOf.mono _ _ _)
   | (with_reducible exact spec_DegreeMod2.mono _ _ _)
   | (with_reducible exact spec_DrawAnfOf.mono _ _)
   | (with_reducible exact spec_DrawFormatAnf.mono _ _)
   | (with_reducible exact spec_DrawParseAnf.mono _ _)
   | (with_reducible exact spec_DrawTableOfCoefficients.mono _ _)
   | (with_reducible exact spec_FormatAnf.mono _ _ _)
   | (with_reducible exact spec_ParseAnf.mono _ _ _)
   | (with_reducible exact spec_RealCoefficients.mono _ _ _)
   | (with_reducible exact spec_RealDegree.mono _ _ _)
   | (with_reducible exact spec_TableOfCoefficients.mono _ _)
   | (with_reducible exact LeO.refl _)
   | (with_reducible exact LeO.none _)
   | (with_reducible refine LeO.ite ?_ ?_)
   | (with_reducible refine LeO.bind ?_ (fun _ => ?_))
   | exact ih0 _ _ _ _ _
   | exact impl_FormatAnf.mono _ _ _
   | exact impl_ParseAnf.mono _ _ _
   | exact impl_RealCoefficients.mono _ _ _
   | exact impl_RealDegree.mono _ _ _
   | exact impl_TableOfCoefficients.mono _ _
   | exact laws_sameInts.mono _ _ _
   | exact spec_AnfOf.mono _ _ _
   | exact spec_DegreeMod2.mono _ _ _
   | exact spec_DrawAnfOf.mono _ _
   | exact spec_DrawFormatAnf.mono _ _
   | exact spec_DrawParseAnf.mono _ _
   | exact spec_DrawTableOfCoefficients.mono _ _
   | exact spec_FormatAnf.mono _ _ _
   | exact spec_ParseAnf.mono _ _ _
   | exact spec_RealCoefficients.mono _ _ _
   | exact spec_RealDegree.mono _ _ _
   | exact spec_TableOfCoefficients.mono _ _
   | exact LeO.none _
   | refine LeO.ite ?_ ?_
   | refine LeO.bind ?_ (fun _ => ?_)
def laws_FnDegrees.T7 : Bool × List (List Nat × List Nat) := (true, [([], []), ([], []), ([0, 1], [0, 1]), ([2], [2]), ([3], [3]), ([3], [3]), ([4, 5, 3], [3, 4, 5]), ([3, 6], [3, 6]), ([7, 3], [7]), ([8], [8]), ([8], [8]), ([10, 8, 8], [8, 10]), ([9, 11, 11, 8], [8, 9, 11]), ([12, 8], [8, 12]), ([8, 13], [8, 13]), ([14, 12], [14]), ([15], [15]), ([16, 15, 15], [15, 16]), ([15], [15]), ([18, 17, 15], [15, 18]), ([17, 19, 15], [15, 17, 19]), ([15, 20], [15, 20]), ([21, 19], [21]), ([22], [22]), ([23, 22, 22], [22, 23]), ([22], [22]), ([25, 24, 22], [22, 25]), ([24, 26, 22], [22, 24, 26]), ([22, 27], [22, 27])])
def laws_FnDegrees.B7 : List Nat := [0, 0, 3, 7, 15, 15, 63, 127, 255, 511, 511, 1535, 4095, 8191, 16383, 32767, 65535, 131071, 65535, 524287, 1048575, 2097151, 4194303, 8388607, 16777215, 8388607, 67108863, 134217727, 268435455]
theorem laws_FnDegrees.tab7 : rtab .any (opsOf Tryd.f4 7) = laws_FnDegrees.T7 := by kernel_rfl
theorem laws_FnDegrees.bits7 : waitsOk laws_FnDegrees.T7.2 laws_FnDegrees.B7 = true := by kernel_rfl
def laws_FnDegrees.T14 : Bool × List (List Nat × List Nat) := (true, [([], []), ([], []), ([0, 1], [0, 1]), ([2], [2]), ([3], [3]), ([4, 3], [3, 4]), ([3, 5], [3, 5]), ([6, 3], [6]), ([7], [7]), ([7], [7]), ([8, 9, 7], [7, 8, 9]), ([7, 10], [7, 10]), ([11, 7], [11]), ([12], [12]), ([13, 12], [12, 13]), ([12, 14], [12, 14]), ([15, 12], [15]), ([16], [16]), ([16], [16]), ([17, 18, 16], [16, 17, 18]), ([16, 19], [16, 19]), ([20, 16], [20]), ([21], [21]), ([21], [21]), ([23, 21, 21], [21, 23]), ([22, 24, 21], [21, 22, 24]), ([21, 25], [21, 25]), ([26, 24], [26]), ([27], [27]), ([28, 27, 27], [27, 28]), ([27], [27]), ([30, 29, 27], [27, 30]), ([29, 31, 27], [27, 29, 31]), ([27, 32], [27, 32]), ([33, 31], [33]), ([34], [34]), ([35, 34, 34], [34, 35]), ([34], [34]), ([37, 34], [34, 37]), ([36, 38, 34], [34, 36, 38]), ([34], [34]), ([40, 36, 34], [34, 40]), ([41, 34], [34, 41]), ([42, 34], [34, 42]), ([39, 43, 34], [34, 39, 43]), ([34, 44], [34, 44])])
def laws_FnDegrees.B14 : List Nat := [0, 0, 3, 7, 15, 31, 63, 127, 255, 255, 1023, 2047, 4095, 8191, 16383, 32767, 65535, 131071, 131071, 524287, 1048575, 2097151, 4194303, 4194303, 12582911, 33554431, 67108863, 134217727, 268435455, 536870911, 268435455, 2147483647, 4294967295, 8589934591, 17179869183, 34359738367, 68719476735, 34359738367, 171798691839, 549755813887, 34359738367, 1236950581247, 3435973836799, 7834020347903, 17592186044415, 35184372088831]
theorem laws_FnDegrees.tab14 : rtab .any (opsOf Tryd.f4 14) = laws_FnDegrees.T14 := by kernel_rfl
theorem laws_FnDegrees.bits14 : waitsOk laws_FnDegrees.T14.2 laws_FnDegrees.B14 = true := by kernel_rfl
def laws_FnDegrees.T19 : Bool × List (List Nat × List Nat) := (true, [([], []), ([], []), ([0, 1], [0, 1]), ([2], [2]), ([3], [3]), ([4], [4]), ([], []), ([], []), ([6, 7], [6, 7]), ([8], [8]), ([5, 9], [5, 9])])
def laws_FnDegrees.B19 : List Nat := [0, 0, 3, 7, 15, 31, 0, 0, 192, 448, 1023]
theorem laws_FnDegrees.tab19 : rtab .any (opsOf Tryd.f4 19) = laws_FnDegrees.T19 := by kernel_rfl
theorem laws_FnDegrees.bits19 : waitsOk laws_FnDegrees.T19.2 laws_FnDegrees.B19 = true := by kernel_rfl
def laws_FnDegrees.T28 : Bool × List (List Nat × List Nat) := (true, [([], []), ([], []), ([0, 1], [0, 1]), ([2], [2]), ([3], [3]), ([3], [3]), ([4, 5, 3], [3, 4, 5]), ([3, 6], [3, 6]), ([7, 3], [7]), ([8], [8]), ([8], [8]), ([9, 10, 8], [8, 9, 10]), ([8, 11], [8, 11]), ([12, 8], [12]), ([13], [13]), ([13], [13]), ([14, 15, 13], [13, 14, 15]), ([13, 16], [13, 16]), ([17, 13], [17]), ([18], [18]), ([19, 18, 18], [18, 19]), ([18], [18]), ([21, 20, 18], [18, 21]), ([20, 22, 18], [18, 20, 22]), ([18, 23], [18, 23]), ([24, 22, 0, 1, 2, 3, 4, 5, 6, 7, 8, 9, 10, 11, 12, 13, 14, 15, 16, 17, 18, 19, 20, 21, 22, 23, 24], [24])])
def laws_FnDegrees.B28 : List Nat := [0, 0, 3, 7, 15, 15, 63, 127, 255, 511, 511, 2047, 4095, 8191, 16383, 16383, 65535, 131071, 262143, 524287, 1048575, 524287, 4194303, 8388607, 16777215, 33554431]
theorem laws_FnDegrees.tab28 : rtab .any (opsOf Tryd.f4 28) = laws_FnDegrees.T28 := by kernel_rfl
theorem laws_FnDegrees.bits28 : waitsOk laws_FnDegrees.T28.2 laws_FnDegrees.B28 = true := by kernel_rfl
set_option maxHeartbeats 8000000 in
set_option maxRecDepth 100000 in
theorem laws_FnDegrees.calls (k : Nat) (A0 : Option Addr) (c0 : Nat) (l0 : List Int) (r : Bool) (w : World) (hr0 : Kd.C (Kd.int .u8) w A0 l0.length l0) (hc0 : l0.length ≤ c0) (h : laws_FnDegrees.f k l0 = some r) :
  Calls Tryd.prog 4 #[.slice A0 l0.length c0] w fun e w' => e = .returned (.bool r) ∧ Below w.heap.size w w' := by
 have hu23 := Tryd.underlying23
 have HR0 := Aside0.mk hr0
 have HC0 := Aside0.mk hc0
 clear hr0 hc0
 have HB := Aside0.mk (Below.refl w.heap.size w)
 have H : ((laws_big.f l0).bind fun t908 => (if t908 = true then (some true) else ((spec_DrawAnfOf.f k l0).bind fun bt909 => ((impl_AnfOf.f bt909.1 bt909.2).bind fun bt912 => ((spec_AnfOf.f k bt909.1 bt909.2).bind fun bt916 => ((impl_RealCoefficients.f k bt909.1 bt909.2).bind fun t920 => (if (!(bt912.1 == bt916.1) || (!(bt912.2.1 == bt916.2.1))) = true then (none) else (if (bt912.2.2 != bt916.2.2) = true then (none) else ((spec_RealCoefficients.f k bt909.1 bt909.2).bind fun t923 => ((laws_sameInts.f k t920 t923).bind fun t926 => (if t926 = true then ((impl_DegreeMod2.f bt909.1 bt909.2).bind fun t927 => ((spec_DegreeMod2.f k bt909.1 bt909.2).bind fun t928 => (if t927 = t928 then ((impl_RealDegree.f k bt909.1 bt909.2).bind fun t929 => ((spec_RealDegree.f k bt909.1 bt909.2).bind fun t930 => (if t929 = t930 then (if bt912.2.2 = true then ((impl_AnfOf.f bt916.1 bt916.2.1).bind fun bt931 => ((impl_TableOfCoefficients.f k t920).bind fun bt935 => ((impl_FormatAnf.f k bt909.1 bt909.2).bind fun t939 => ((impl_ParseAnf.f k bt909.1 t939).bind fun bt940 => (if (!(bt931.1 == bt909.1) || (!(bt931.2.1 == bt909.2))) = true then (none) else (if bt935.2.2 = true then (if (!(bt935.1 == bt909.1) || (!(bt935.2.1 == bt909.2))) = true then (none) else (if bt940.2.2 = true then (if (!(bt940.1 == bt909.1) || (!(bt940.2.1 == bt909.2))) = true then (none) else ((spec_FormatAnf.f k bt909.1 bt909.2).bind fun t944 => (if t939.toList = t944.toList then ((impl_DegreeMod2.f bt909.1 bt909.2).bind fun t945 => ((impl_RealDegree.f k bt909.1 bt909.2).bind fun t946 => (if t945 > t946 then (none) else ((impl_DegreeMod2.f bt909.1 bt909.2).bind fun t947 => ((impl_CountOnes.f bt909.1 bt909.2).bind fun t948 => (if ((t947 == bt909.1) != ((Int.tmod t948 2) == 1)) = true then (none) else (laws_FnDegrees.l0 k l0 t920 0 bt916.1 bt916.2.1))))))) else (none)))) else (none))) else (none))))))) else ((spec_DrawTableOfCoefficients.f k l0).bind fun t977 => ((impl_TableOfCoefficients.f k t977).bind fun bt980 => ((spec_TableOfCoefficients.f k t977).bind fun bt984 => ((spec_DrawParseAnf.f k l0).bind fun bt988 => ((impl_ParseAnf.f k bt988.1 bt988.2).bind fun bt990 => ((spec_ParseAnf.f k bt988.1 bt988.2).bind fun bt994 => ((spec_DrawFormatAnf.f k l0).bind fun bt998 => (if (bt980.1 == bt984.1 && (bt980.2.1 == bt984.2.1)) = true then (if (bt980.2.2 == bt984.2.2) = true then (if (bt990.1 == bt994.1 && (bt990.2.1 == bt994.2.1)) = true then (if (bt990.2.2 == bt994.2.2) = true then ((impl_FormatAnf.f k bt998.1 bt998.2).bind fun t1001 => ((spec_FormatAnf.f k bt998.1 bt998.2).bind fun t1002 => (some (t1001.toList == t1002.toList)))) else (none)) else (none)) else (none)) else (none)))))))))) else (none)))) else (none)))) else (none)))))))))))) = some r := h
 clear h
 replace H := Option.bind_eq_some_iff.mp H
 obtain ⟨t908, A20, H⟩ := H
 have A2 := Aside0.mk A20
 clear A20
 by_cases c3 : t908 = true
 ·subst c3
  rw [if_pos rfl] at H
  obtain rfl := Option.some.inj H
  go_enter Tryd.func4, Tryd.ntmps4
  go_wp2_with (first | ((with_reducible refine gate_callee (f := 8) rfl ?_); refine gl_ 30 Tryd.func8 #[.slice A0 l0.length c0] rfl mp_ ?_; (with_reducible refine (laws_big.calls _ _ l0 true _ ?side1 ?side2 A2.out).mono ?_); (case side1 => exact cv_ HR0.out); (case side2 => exact HC0.out); rintro e w' ⟨rfl, ⟨nd, rfl⟩⟩; refine ⟨_, rfl, ?_⟩))
  go_ret
  exact ⟨er_, bv_ HB⟩
 ·replace c3 := Bool.eq_false_iff.mpr c3
  subst c3
  rw [if_neg (show ¬ (false = true) by decide)] at H
  replace H := Option.bind_eq_some_iff.mp H
  obtain ⟨⟨t909, t910⟩, A40, H⟩ := H
  dsimp only at H
  have A4 := Aside0.mk A40
  clear A40
  replace H := Option.bind_eq_some_iff.mp H
  obtain ⟨⟨t912, t913, t914⟩, A50, H⟩ := H
  dsimp only at H
  have A5 := Aside0.mk A50
  clear A50
  replace H := Option.bind_eq_some_iff.mp H
  obtain ⟨⟨t916, t917, t918⟩, A60, H⟩ := H
  dsimp only at H
  have A6 := Aside0.mk A60
  clear A60
  replace H := Option.bind_eq_some_iff.mp H
  obtain ⟨t920, A70, H⟩ := H
  have A7 := Aside0.mk A70
  clear A70
  by_cases c8 : (!(t912 == t916) || (!(t913 == t917))) = true
  ·rw [if_pos c8] at H
   exact absurd H (by simp)
  ·rw [if_neg c8] at H
   have c8b0 : (!(t912 == t916) || (!(t913 == t917))) = false := by simpa using c8
   have c8e_ : t912 = t916 ∧ t913 = t917 := by simpa using c8b0
   have c8e0 : (t912 = t916) = True := eq_true c8e_.1
   have c8e1 : (t913 = t917) = True := eq_true c8e_.2
   clear c8e_
   clear c8
   by_cases c9 : (t914 != t918) = true
   ·rw [if_pos c9] at H
    exact absurd H (by simp)
   ·rw [if_neg c9] at H
    have c9b0 : (t914 != t918) = false := by simpa using c9
    (try (have c9b1 : decide (t914 = t918) = true := by simpa using c9))
    (try (have c9b2 : (t914 == t918) = true := by simpa using c9))
    clear c9
    replace H := Option.bind_eq_some_iff.mp H
    obtain ⟨t923, A100, H⟩ := H
    have A10 := Aside0.mk A100
    clear A100
    replace H := Option.bind_eq_some_iff.mp H
    obtain ⟨t926, A110, H⟩ := H
    have A11 := Aside0.mk A110
    clear A110
    by_cases c12 : t926 = true
    ·subst c12
     rw [if_pos rfl] at H
     replace H := Option.bind_eq_some_iff.mp H
     obtain ⟨t927, A130, H⟩ := H
     have A13 := Aside0.mk A130
     clear A130
     replace H := Option.bind_eq_some_iff.mp H
     obtain ⟨t928, A140, H⟩ := H
     have A14 := Aside0.mk A140
     clear A140
     by_cases c15 : t927 = t928
     ·rw [if_pos c15] at H
      have c15b0 : (t927 == t928) = true := beq_iff_eq.mpr c15
      have c15b1 : (t927 != t928) = false := bne_eq_false_iff_eq.mpr c15
      clear c15
      replace H := Option.bind_eq_some_iff.mp H
      obtain ⟨t929, A160, H⟩ := H
      have A16 := Aside0.mk A160
      clear A160
      replace H := Option.bind_eq_some_iff.mp H
      obtain ⟨t930, A170, H⟩ := H
      have A17 := Aside0.mk A170
      clear A170
      by_cases c18 : t929 = t930
      ·rw [if_pos c18] at H
       have c18b0 : (t929 == t930) = true := beq_iff_eq.mpr c18
       have c18b1 : (t929 != t930) = false := bne_eq_false_iff_eq.mpr c18
       clear c18
       by_cases c19 : t914 = true
       ·subst c19
        rw [if_pos rfl] at H
        replace H := Option.bind_eq_some_iff.mp H
        obtain ⟨⟨t931, t932, t933⟩, A200, H⟩ := H
        dsimp only at H
        have A20 := Aside0.mk A200
        clear A200
        replace H := Option.bind_eq_some_iff.mp H
        obtain ⟨⟨t935, t936, t937⟩, A210, H⟩ := H
        dsimp only at H
        have A21 := Aside0.mk A210
        clear A210
        replace H := Option.bind_eq_some_iff.mp H
        obtain ⟨t939, A220, H⟩ := H
        have A22 := Aside0.mk A220
        clear A220
        replace H := Option.bind_eq_some_iff.mp H
        obtain ⟨⟨t940, t941, t942⟩, A230, H⟩ := H
        dsimp only at H
        have A23 := Aside0.mk A230
        clear A230
        by_cases c24 : (!(t931 == t909) || (!(t932 == t910))) = true
        ·rw [if_pos c24] at H
         exact absurd H (by simp)
        ·rw [if_neg c24] at H
         have c24b0 : (!(t931 == t909) || (!(t932 == t910))) = false := by simpa using c24
         have c24e_ : t931 = t909 ∧ t932 = t910 := by simpa using c24b0
         have c24e0 : (t931 = t909) = True := eq_true c24e_.1
         have c24e1 : (t932 = t910) = True := eq_true c24e_.2
         clear c24e_
         clear c24
         by_cases c25 : t937 = true
         ·subst c25
          rw [if_pos rfl] at H
          by_cases c26 : (!(t935 == t909) || (!(t936 == t910))) = true
          ·rw [if_pos c26] at H
           exact absurd H (by simp)
          ·rw [if_neg c26] at H
           have c26b0 : (!(t935 == t909) || (!(t936 == t910))) = false := by simpa using c26
           have c26e_ : t935 = t909 ∧ t936 = t910 := by simpa using c26b0
           have c26e0 : (t935 = t909) = True := eq_true c26e_.1
           have c26e1 : (t936 = t910) = True := eq_true c26e_.2
           clear c26e_
           clear c26
           by_cases c27 : t942 = true
           ·subst c27
            rw [if_pos rfl] at H
            by_cases c28 : (!(t940 == t909) || (!(t941 == t910))) = true
            ·rw [if_pos c28] at H
             exact absurd H (by simp)
            ·rw [if_neg c28] at H
             have c28b0 : (!(t940 == t909) || (!(t941 == t910))) = false := by simpa using c28
             have c28e_ : t940 = t909 ∧ t941 = t910 := by simpa using c28b0
             have c28e0 : (t940 = t909) = True := eq_true c28e_.1
             have c28e1 : (t941 = t910) = True := eq_true c28e_.2
             clear c28e_
             clear c28
             replace H := Option.bind_eq_some_iff.mp H
             obtain ⟨t944, A290, H⟩ := H
             have A29 := Aside0.mk A290
             clear A290
             by_cases c30 : t939.toList = t944.toList
             ·rw [if_pos c30] at H
              have c30b0 : (t939.toList == t944.toList) = true := beq_iff_eq.mpr c30
              have c30b1 : (t939.toList != t944.toList) = false := bne_eq_false_iff_eq.mpr c30
              clear c30
              replace H := Option.bind_eq_some_iff.mp H
              obtain ⟨t945, A310, H⟩ := H
              have A31 := Aside0.mk A310
              clear A310
              replace H := Option.bind_eq_some_iff.mp H
              obtain ⟨t946, A320, H⟩ := H
              have A32 := Aside0.mk A320
              clear A320
              by_cases c33 : t945 > t946
              ·rw [if_pos c33] at H
               exact absurd H (by simp)
              ·rw [if_neg c33] at H
               have c33b0 : decide (t946 < t945) = false := decide_eq_false c33
               clear c33
               replace H := Option.bind_eq_some_iff.mp H
               obtain ⟨t947, A340, H⟩ := H
               have A34 := Aside0.mk A340
               clear A340
               replace H := Option.bind_eq_some_iff.mp H
               obtain ⟨t948, A350, H⟩ := H
               have A35 := Aside0.mk A350
               clear A350
               by_cases c36 : ((t947 == t909) != ((Int.tmod t948 2) == 1)) = true
               ·rw [if_pos c36] at H
                exact absurd H (by simp)
               ·rw [if_neg c36] at H
                have c36b0 : ((t947 == t909) != ((Int.tmod t948 2) == 1)) = false := by simpa using c36
                (try (have c36b1 : decide ((t947 == t909) = ((Int.tmod t948 2) == 1)) = true := by simpa using c36))
                (try (have c36b2 : ((t947 == t909) == ((Int.tmod t948 2) == 1)) = true := by simpa using c36))
                clear c36
                have H' := Aside0.mk H
                clear H
                go_enter Tryd.func4, Tryd.ntmps4
                try go_wp2_with (first | ((with_reducible refine gate_callee (f := 8) rfl ?_); refine gl_ 30 Tryd.func8 #[.slice A0 l0.length c0] rfl mp_ ?_; (with_reducible refine (laws_big.calls _ _ l0 false _ ?side1 ?side2 A2.out).mono ?_); (case side1 => exact cv_ HR0.out); (case side2 => exact HC0.out); rintro e w' ⟨rfl, ⟨nd, rfl⟩⟩; refine ⟨_, rfl, ?_⟩) | ((with_reducible refine gate_callee (f := 9) rfl ?_); refine gl_ 32 Tryd.func9 #[.slice A0 l0.length c0] rfl mp_ ?_; (with_reducible refine (spec_DrawAnfOf.calls k _ _ l0 t909 t910 _ ?side1 ?side2 A4.out).mono ?_); (case side1 => exact cv_ HR0.out); (case side2 => exact HC0.out); rintro e w37 ⟨rfl, hb⟩; refine ⟨_, rfl, ?_⟩; replace HB := Aside0.mk (below_step (bv_ HB) hb); (try clear hb); (try clear hb2); (try clear hk); (try clear hi)) | ((with_reducible refine gate_dst (N := 3) rfl ?_); refine bx_ 3 #[.int .i64 0, .int .i64 0] 23 ?_; intro gb911 hg w38 hbox hb; have BK911 := Aside0.mk (hbox); have GW911 := gw_ hg (below_size (bv_ HB)); have GE911 := GW911; replace HB := Aside0.mk (below_step (bv_ HB) hb); clear hb hbox hg; obtain ⟨hcz39_0, hcz39_1, hfz39_0, hfz39_1⟩ := c2_ BK911) | ((with_reducible refine gate_callee (f := 10) rfl ?_); refine gl_ 35 Tryd.func10 #[.agg #[.int .i64 t909, .int .i64 t910]] rfl mp_ ?_; (with_reducible refine (impl_AnfOf.calls t909 t910 t912 t913 true _ A5.out).mono ?_); rintro e w40 ⟨rfl, hb⟩; refine ⟨_, rfl, ?_⟩; replace BK911 := Aside0.mk (blk_below (g := gb911) (o := .cells #[.int .i64 t909, .int .i64 t910] 23 (0, 0)) (by (with_reducible repeat (first | refine blk_drewN ?_ _ | refine blk_drew ?_ | refine blk_alloc ?_ _)); refine blk_put (cs := #[.int .i64 t909, .int .i64 0]) ?_ 1 _ rfl; (with_reducible repeat (first | refine blk_drewN ?_ _ | refine blk_drew ?_ | refine blk_alloc ?_ _)); refine blk_put (cs := #[.int .i64 0, .int .i64 0]) ?_ 0 _ rfl; (with_reducible repeat (first | refine blk_drewN ?_ _ | refine blk_drew ?_ | refine blk_alloc ?_ _)); exact BK911.out) hb); replace HB := Aside0.mk (below_step (bv1_ HB GE911) hb); (try clear hb); (try clear hb2); (try clear hk); (try clear hi)) | ((with_reducible refine gate_dst (N := 4) rfl ?_); refine bx_ 4 #[.int .i64 0, .int .i64 0] 23 ?_; intro gb915 hg w41 hbox hb; have BK915 := Aside0.mk (hbox); have GW915 := gw_ hg (below_size (bv1_ HB GE911)); have GE915 := GW915; replace HB := Aside0.mk (below_step (bv1_ HB GE911) hb); have NB911_915 := nb_ hg (blk_lt (g := gb911) (o := .cells #[.int .i64 t909, .int .i64 t910] 23 (0, 0)) (kv_ BK911)); have NB915_911 := nc_ hg (blk_lt (g := gb911) (o := .cells #[.int .i64 t909, .int .i64 t910] 23 (0, 0)) (kv_ BK911)); replace BK911 := kb_ BK911 hb; clear hb hbox hg; have hnb42 := NB915_911.out; have hnc42 := NB911_915.out; obtain ⟨hcz43_0, hcz43_1, hfz43_0, hfz43_1⟩ := c2_ BK915; obtain ⟨hcz44_0, hcz44_1, hfz44_0, hfz44_1⟩ := c2_ BK911) | ((with_reducible refine gate_callee (f := 11) rfl ?_); refine gl_ 40 Tryd.func11 #[.agg #[.int .i64 t909, .int .i64 t910]] rfl mp_ ?_; (with_reducible refine (spec_AnfOf.calls k t909 t910 t916 t917 t918 _ A6.out).mono ?_); rintro e w45 ⟨rfl, hb⟩; refine ⟨_, rfl, ?_⟩; replace BK911 := Aside0.mk (blk_below (g := gb911) (o := .cells #[.int .i64 t909, .int .i64 t910] 23 (0, 0)) (by (with_reducible repeat (first | refine blk_drewN ?_ _ | refine blk_drew ?_ | refine blk_alloc ?_ _)); refine blk_far ?_ NB911_915.out _; (with_reducible repeat (first | refine blk_drewN ?_ _ | refine blk_drew ?_ | refine blk_alloc ?_ _)); refine blk_far ?_ NB911_915.out _; (with_reducible repeat (first | refine blk_drewN ?_ _ | refine blk_drew ?_ | refine blk_alloc ?_ _)); exact BK911.out) hb); replace BK915 := Aside0.mk (blk_below (g := gb915) (o := .cells #[.int .i64 t912, .int .i64 t913] 23 (0, 0)) (by (with_reducible repeat (first | refine blk_drewN ?_ _ | refine blk_drew ?_ | refine blk_alloc ?_ _)); refine blk_put (cs := #[.int .i64 t912, .int .i64 0]) ?_ 1 _ rfl; (with_reducible repeat (first | refine blk_drewN ?_ _ | refine blk_drew ?_ | refine blk_alloc ?_ _)); refine blk_put (cs := #[.int .i64 0, .int .i64 0]) ?_ 0 _ rfl; (with_reducible repeat (first | refine blk_drewN ?_ _ | refine blk_drew ?_ | refine blk_alloc ?_ _)); exact BK915.out) hb); replace HB := Aside0.mk (below_step (bv2_ HB GE911 GE915) hb); (try clear hb); (try clear hb2); (try clear hk); (try clear hi)) | ((with_reducible refine gate_dst (N := 6) rfl ?_); refine bx_ 6 #[.int .i64 0, .int .i64 0] 23 ?_; intro gb919 hg w46 hbox hb; have BK919 := Aside0.mk (hbox); have GW919 := gw_ hg (below_size (bv2_ HB GE911 GE915)); have GE919 := GW919; replace HB := Aside0.mk (below_step (bv2_ HB GE911 GE915) hb); have NB911_919 := nb_ hg (blk_lt (g := gb911) (o := .cells #[.int .i64 t909, .int .i64 t910] 23 (0, 0)) (kv_ BK911)); have NB919_911 := nc_ hg (blk_lt (g := gb911) (o := .cells #[.int .i64 t909, .int .i64 t910] 23 (0, 0)) (kv_ BK911)); replace BK911 := kb_ BK911 hb; have NB915_919 := nb_ hg (blk_lt (g := gb915) (o := .cells #[.int .i64 t912, .int .i64 t913] 23 (0, 0)) (kv_ BK915)); have NB919_915 := nc_ hg (blk_lt (g := gb915) (o := .cells #[.int .i64 t912, .int .i64 t913] 23 (0, 0)) (kv_ BK915)); replace BK915 := kb_ BK915 hb; clear hb hbox hg; have hnb47 := NB919_911.out; have hnc47 := NB911_919.out; have hnb48 := NB919_915.out; have hnc48 := NB915_919.out; obtain ⟨hcz49_0, hcz49_1, hfz49_0, hfz49_1⟩ := c2_ BK919; obtain ⟨hcz50_0, hcz50_1, hfz50_0, hfz50_1⟩ := c2_ BK911) | ((with_reducible refine gate_callee (f := 12) rfl ?_); refine gl_ 44 Tryd.func12 #[.agg #[.int .i64 t909, .int .i64 t910]] rfl mp_ ?_; (with_reducible refine (impl_RealCoefficients.calls k t909 t910 t920 _ A7.out).mono ?_); rintro e w51 ⟨v921, rfl, ho0, hb⟩; refine ⟨_, rfl, ?_⟩; have HO922 := Aside0.mk (Kd.R_lower ho0 (below_size (bv3_ HB GE911 GE915 GE919))); replace BK911 := Aside0.mk (blk_below (g := gb911) (o := .cells #[.int .i64 t909, .int .i64 t910] 23 (0, 0)) (by (with_reducible repeat (first | refine blk_drewN ?_ _ | refine blk_drew ?_ | refine blk_alloc ?_ _)); refine blk_far ?_ NB911_919.out _; (with_reducible repeat (first | refine blk_drewN ?_ _ | refine blk_drew ?_ | refine blk_alloc ?_ _)); refine blk_far ?_ NB911_919.out _; (with_reducible repeat (first | refine blk_drewN ?_ _ | refine blk_drew ?_ | refine blk_alloc ?_ _)); exact BK911.out) hb); replace BK915 := Aside0.mk (blk_below (g := gb915) (o := .cells #[.int .i64 t912, .int .i64 t913] 23 (0, 0)) (by (with_reducible repeat (first | refine blk_drewN ?_ _ | refine blk_drew ?_ | refine blk_alloc ?_ _)); refine blk_far ?_ NB915_919.out _; (with_reducible repeat (first | refine blk_drewN ?_ _ | refine blk_drew ?_ | refine blk_alloc ?_ _)); refine blk_far ?_ NB915_919.out _; (with_reducible repeat (first | refine blk_drewN ?_ _ | refine blk_drew ?_ | refine blk_alloc ?_ _)); exact BK915.out) hb); replace BK919 := Aside0.mk (blk_below (g := gb919) (o := .cells #[.int .i64 t916, .int .i64 t917] 23 (0, 0)) (by (with_reducible repeat (first | refine blk_drewN ?_ _ | refine blk_drew ?_ | refine blk_alloc ?_ _)); refine blk_put (cs := #[.int .i64 t916, .int .i64 0]) ?_ 1 _ rfl; (with_reducible repeat (first | refine blk_drewN ?_ _ | refine blk_drew ?_ | refine blk_alloc ?_ _)); refine blk_put (cs := #[.int .i64 0, .int .i64 0]) ?_ 0 _ rfl; (with_reducible repeat (first | refine blk_drewN ?_ _ | refine blk_drew ?_ | refine blk_alloc ?_ _)); exact BK919.out) hb); replace HB := Aside0.mk (below_step (bv3_ HB GE911 GE915 GE919) hb); (try clear hb); (try clear hb2); (try clear hk); (try clear hi); (try clear ho0)))
                replace HO922 := Aside0.mk (Kd.R_drew HO922.out)
                replace BK911 := Aside0.mk (blk_drew BK911.out)
                replace BK915 := Aside0.mk (blk_drew BK915.out)
                replace BK919 := Aside0.mk (blk_drew BK919.out)
                replace HB := Aside0.mk (below_drew1 HB.out)
                (try clear hcz39_0); (try clear hcz39_1); (try clear hfz39_0); (try clear hfz39_1); (try clear hnb42); (try clear hnc42); (try clear hcz43_0); (try clear hcz43_1); (try clear hfz43_0); (try clear hfz43_1); (try clear hcz44_0); (try clear hcz44_1)
                (try clear hfz44_0); (try clear hfz44_1); (try clear hnb47); (try clear hnc47); (try clear hnb48); (try clear hnc48); (try clear hcz49_0); (try clear hcz49_1); (try clear hfz49_0); (try clear hfz49_1); (try clear hcz50_0); (try clear hcz50_1)
                (try clear hfz50_0); (try clear hfz50_1)
                refine start_ (n := 29) (S := fun w' => w'.cell? ⟨gb915, 0, none⟩ = some (.int .i64 t912) ∧ w'.cell? ⟨gb915, 1, none⟩ = some (.int .i64 t913) ∧ w'.cell? ⟨gb919, 0, none⟩ = some (.int .i64 t916) ∧ w'.cell? ⟨gb919, 1, none⟩ = some (.int .i64 t917) ∧ w'.cell? ⟨gb911, 0, none⟩ = some (.int .i64 t909) ∧ w'.cell? ⟨gb911, 1, none⟩ = some (.int .i64 t910)) (ds := []) (bs 29 0) (by kernel_rfl) rfl (by kernel_rfl) ⟨(blk_cell BK915.out 0).trans rfl, (blk_cell BK915.out 1).trans rfl, (blk_cell BK919.out 0).trans rfl, (blk_cell BK919.out 1).trans rfl, (blk_cell BK911.out 0).trans rfl, (blk_cell BK911.out 1).trans rfl⟩ (fun hHeld => ?_); refine with_tabW laws_FnDegrees.tab7 laws_FnDegrees.bits7 (fun HT_ HW_ => ?_)
                generalize w51.drew = w52 at HO922 BK911 BK915 BK919 HB hHeld ⊢
                refine ta6_ HT_ HW_ 0 45 (bs 29 1) hHeld ?_
                refine ta6_ HT_ HW_ 1 46 (bs 29 3) hHeld ?_
                refine pu_ HT_ 2 47 (bs 29 7) ?_
                refine pu_ HT_ 3 48 (bs 29 15) ?_
                refine pu_ HT_ 4 49 (bs 29 31) ?_
                refine pu_ HT_ 5 50 (bs 29 63) ?_
                refine pu_ HT_ 6 51 (bs 29 127) ?_
                refine pu_ HT_ 7 52 (bs 29 255) ?_
                refine pu_ HT_ 8 53 (bs 29 511) ?_
                refine pu_ HT_ 9 54 (bs 29 1023) ?_
                refine ta6_ HT_ HW_ 10 55 (bs 29 2047) hHeld ?_
                refine on_ HT_ 11 56 (bs 29 4095) (fun K hK => ?_)
                refine goes_ Tryd.func14 (by kernel_rfl) rfl #[.agg #[.int .i64 t909, .int .i64 t910]] (by rfl) rfl rfl mp_ ?_
                with_reducible refine (spec_RealCoefficients.calls k t909 t910 t923 _ A10.out).mono ?_
                rintro e w53 ⟨v924, rfl, ho0, hb⟩
                refine ⟨_, rfl, ?_⟩
                have HO925 := Aside0.mk (Kd.R_lower (Kd.R_new' ho0 (Kd.R_lt (rv_ HO922))) (below_size (bv3_ HB GE911 GE915 GE919)))
                replace HO922 := Aside0.mk (Kd.R_elder' (rv_ HO922) (Kd.R_base ho0) hb)
                replace BK911 := kb_ BK911 hb
                replace BK915 := kb_ BK915 hb
                replace BK919 := kb_ BK919 hb
                replace HB := Aside0.mk (below_step (bv3_ HB GE911 GE915 GE919) hb)
                (try clear hb)
                (try clear hb2)
                (try clear hk)
                (try clear hi)
                (try clear ho0)
                obtain ⟨Ao54, co54, eo54⟩ := Kd.R_slice HO922.out
                (first | subst eo54 | (injection eo54 with f1_ f2_ f3_; have f4_ := f1_.symm; have f5_ := f3_.symm; clear f1_ f2_ f3_; subst f4_; subst f5_))
                obtain ⟨Ao55, co55, eo55⟩ := Kd.R_slice HO925.out
                (first | subst eo55 | (injection eo55 with f1_ f2_ f3_; have f4_ := f1_.symm; have f5_ := f3_.symm; clear f1_ f2_ f3_; subst f4_; subst f5_))
                refine hK.out _ _ ⟨(blk_cell BK915.out 0).trans rfl, (blk_cell BK915.out 1).trans rfl, (blk_cell BK919.out 0).trans rfl, (blk_cell BK919.out 1).trans rfl, (blk_cell BK911.out 0).trans rfl, (blk_cell BK911.out 1).trans rfl⟩ (fun hHeld => ?_)
                clear hK K
                refine no_ 56 ?_
                refine on_ HT_ 12 57 (bs 29 8191) (fun K hK => ?_)
                refine goes_ Tryd.func13 (by kernel_rfl) rfl #[.slice Ao54 t920.length co54, .slice Ao55 t923.length co55] (by rfl) rfl rfl mp_ ?_
                with_reducible refine (laws_sameInts.calls k _ _ t920 _ _ t923 true _ ?side1 ?side2 ?side3 ?side4 A11.out).mono ?_
                (case side1 => repeat (first | exact (Kd.R_reads' HO922.out).2.2 | (with_reducible refine Kd.C_alloc ?_ _) | (with_reducible refine Kd.C_drewN ?_ _) | (with_reducible refine Kd.C_drew ?_)))
                (case side2 => exact (Kd.R_reads' HO922.out).2.1)
                (case side3 => repeat (first | exact (Kd.R_reads' HO925.out).2.2 | (with_reducible refine Kd.C_alloc ?_ _) | (with_reducible refine Kd.C_drewN ?_ _) | (with_reducible refine Kd.C_drew ?_)))
                (case side4 => exact (Kd.R_reads' HO925.out).2.1)
                rintro e w' ⟨rfl, ⟨nd, rfl⟩⟩
                refine ⟨_, rfl, ?_⟩
                refine hK.out _ _ ⟨(blk_cell BK915.out 0).trans rfl, (blk_cell BK915.out 1).trans rfl, (blk_cell BK919.out 0).trans rfl, (blk_cell BK919.out 1).trans rfl, (blk_cell BK911.out 0).trans rfl, (blk_cell BK911.out 1).trans rfl⟩ (fun hHeld => ?_)
                clear hK K
                refine no_ 57 ?_
                refine pu_ HT_ 13 58 (bs 29 16383) ?_
                refine pu_ HT_ 14 59 (bs 29 32767) ?_
                refine pu_ HT_ 15 60 (bs 29 65535) ?_
                refine ta6_ HT_ HW_ 16 61 (bs 29 131071) hHeld ?_
                refine ta6_ HT_ HW_ 18 63 (bs 29 393215) hHeld ?_
                refine on_ HT_ 17 62 (bs 29 524287) (fun K hK => ?_)
                refine goes_ Tryd.func15 (by kernel_rfl) rfl #[.agg #[.int .i64 t909, .int .i64 t910]] (by rfl) rfl rfl mp_ ?_
                with_reducible refine (impl_DegreeMod2.calls t909 t910 t927 _ A13.out).mono ?_
                rintro e w56 ⟨rfl, hb⟩
                refine ⟨_, rfl, ?_⟩
                replace HO922 := Aside0.mk (Kd.R_below (rv_ HO922) hb)
                replace HO925 := Aside0.mk (Kd.R_below (rv_ HO925) hb)
                replace BK911 := kb_ BK911 hb
                replace BK915 := kb_ BK915 hb
                replace BK919 := kb_ BK919 hb
                replace HB := Aside0.mk (below_step (bv3_ HB GE911 GE915 GE919) hb)
                (try clear hb)
                (try clear hb2)
                (try clear hk)
                (try clear hi)
                refine hK.out _ _ ⟨(blk_cell BK915.out 0).trans rfl, (blk_cell BK915.out 1).trans rfl, (blk_cell BK919.out 0).trans rfl, (blk_cell BK919.out 1).trans rfl, (blk_cell BK911.out 0).trans rfl, (blk_cell BK911.out 1).trans rfl⟩ (fun hHeld => ?_)
                clear hK K
                refine no_ 62 ?_
                refine on_ HT_ 19 64 (bs 29 1048575) (fun K hK => ?_)
                refine goes_ Tryd.func16 (by kernel_rfl) rfl #[.agg #[.int .i64 t909, .int .i64 t910]] (by rfl) rfl rfl mp_ ?_
                with_reducible refine (spec_DegreeMod2.calls k t909 t910 t928 _ A14.out).mono ?_
                rintro e w57 ⟨rfl, hb⟩
                refine ⟨_, rfl, ?_⟩
                replace HO922 := Aside0.mk (Kd.R_below (rv_ HO922) hb)
                replace HO925 := Aside0.mk (Kd.R_below (rv_ HO925) hb)
                replace BK911 := kb_ BK911 hb
                replace BK915 := kb_ BK915 hb
                replace BK919 := kb_ BK919 hb
                replace HB := Aside0.mk (below_step (bv3_ HB GE911 GE915 GE919) hb)
                (try clear hb)
                (try clear hb2)
                (try clear hk)
                (try clear hi)
                refine hK.out _ _ ⟨(blk_cell BK915.out 0).trans rfl, (blk_cell BK915.out 1).trans rfl, (blk_cell BK919.out 0).trans rfl, (blk_cell BK919.out 1).trans rfl, (blk_cell BK911.out 0).trans rfl, (blk_cell BK911.out 1).trans rfl⟩ (fun hHeld => ?_)
                clear hK K
                refine no_ 64 ?_
                refine pu_ HT_ 20 65 (bs 29 2097151) ?_
                refine pu_ HT_ 21 66 (bs 29 4194303) ?_
                refine pu_ HT_ 22 67 (bs 29 8388607) ?_
                refine ta6_ HT_ HW_ 23 68 (bs 29 16777215) hHeld ?_
                refine ta6_ HT_ HW_ 25 70 (bs 29 50331647) hHeld ?_
                refine on_ HT_ 24 69 (bs 29 67108863) (fun K hK => ?_)
                refine goes_ Tryd.func17 (by kernel_rfl) rfl #[.agg #[.int .i64 t909, .int .i64 t910]] (by rfl) rfl rfl mp_ ?_
                with_reducible refine (impl_RealDegree.calls k t909 t910 t929 _ A16.out).mono ?_
                rintro e w58 ⟨rfl, hb⟩
                refine ⟨_, rfl, ?_⟩
                replace HO922 := Aside0.mk (Kd.R_below (rv_ HO922) hb)
                replace HO925 := Aside0.mk (Kd.R_below (rv_ HO925) hb)
                replace BK911 := kb_ BK911 hb
                replace BK915 := kb_ BK915 hb
                replace BK919 := kb_ BK919 hb
                replace HB := Aside0.mk (below_step (bv3_ HB GE911 GE915 GE919) hb)
                (try clear hb)
                (try clear hb2)
                (try clear hk)
                (try clear hi)
                refine hK.out _ _ ⟨(blk_cell BK915.out 0).trans rfl, (blk_cell BK915.out 1).trans rfl, (blk_cell BK919.out 0).trans rfl, (blk_cell BK919.out 1).trans rfl, (blk_cell BK911.out 0).trans rfl, (blk_cell BK911.out 1).trans rfl⟩ (fun hHeld => ?_)
                clear hK K
                refine no_ 69 ?_
                refine on_ HT_ 26 71 (bs 29 134217727) (fun K hK => ?_)
                refine goes_ Tryd.func18 (by kernel_rfl) rfl #[.agg #[.int .i64 t909, .int .i64 t910]] (by rfl) rfl rfl mp_ ?_
                with_reducible refine (spec_RealDegree.calls k t909 t910 t930 _ A17.out).mono ?_
                rintro e w59 ⟨rfl, hb⟩
                refine ⟨_, rfl, ?_⟩
                replace HO922 := Aside0.mk (Kd.R_below (rv_ HO922) hb)
                replace HO925 := Aside0.mk (Kd.R_below (rv_ HO925) hb)
                replace BK911 := kb_ BK911 hb
                replace BK915 := kb_ BK915 hb
                replace BK919 := kb_ BK919 hb
                replace HB := Aside0.mk (below_step (bv3_ HB GE911 GE915 GE919) hb)
                (try clear hb)
                (try clear hb2)
                (try clear hk)
                (try clear hi)
                refine hK.out _ _ ⟨(blk_cell BK915.out 0).trans rfl, (blk_cell BK915.out 1).trans rfl, (blk_cell BK919.out 0).trans rfl, (blk_cell BK919.out 1).trans rfl, (blk_cell BK911.out 0).trans rfl, (blk_cell BK911.out 1).trans rfl⟩ (fun hHeld => ?_)
                clear hK K
                refine no_ 71 ?_
                refine pu_ HT_ 27 72 (bs 29 268435455) ?_
                refine pu_ HT_ 28 73 (bs 29 536870911) ?_
                refine done_ (done_of HT_.out (by kernel_rfl)) ?_
                obtain ⟨hcz60_0, hcz60_1, hfz60_0, hfz60_1⟩ := c2_ BK919
                try go_wp2_with (first | ((with_reducible refine gate_callee (f := 10) rfl ?_); refine gl_ 77 Tryd.func10 #[.agg #[.int .i64 t916, .int .i64 t917]] rfl mp_ ?_; (with_reducible refine (impl_AnfOf.calls t916 t917 t931 t932 t933 _ A20.out).mono ?_); rintro e w61 ⟨rfl, hb⟩; refine ⟨_, rfl, ?_⟩; have n0_ := Aside0.mk (Kd.R_below (rv_ HO922) hb); have n1_ := Aside0.mk (Kd.R_below (rv_ HO925) hb); have n2_ := kb_ BK911 hb; have n3_ := kb_ BK915 hb; have n4_ := kb_ BK919 hb; have n5_ := Aside0.mk (below_step (bv3_ HB GE911 GE915 GE919) hb); clear HO922; clear HO925; clear BK911; clear BK915; clear BK919; clear HB; have HO922 := n0_; have HO925 := n1_; have BK911 := n2_; have BK915 := n3_; have BK919 := n4_; have HB := n5_; clear n0_ n1_ n2_ n3_ n4_ n5_; (try clear hb); (try clear hb2); (try clear hk); (try clear hi)) | ((with_reducible refine gate_dst (N := 9) rfl ?_); refine bx_ 9 #[.int .i64 0, .int .i64 0] 23 ?_; intro gb934 hg w62 hbox hb; have n0_ := Aside0.mk (Kd.R_below (rv_ HO922) hb); have n1_ := Aside0.mk (Kd.R_below (rv_ HO925) hb); have n2_ := kb_ BK911 hb; have n3_ := kb_ BK915 hb; have n4_ := kb_ BK919 hb; have n5_ := Aside0.mk (below_step (bv3_ HB GE911 GE915 GE919) hb); have n6_ := Aside0.mk (hbox); have n7_ := gw_ hg (below_size (bv3_ HB GE911 GE915 GE919)); have n8_ := gw_ hg (below_size (bv3_ HB GE911 GE915 GE919)); have n9_ := nb_ hg (blk_lt (g := gb911) (o := .cells #[.int .i64 t909, .int .i64 t910] 23 (0, 0)) (kv_ BK911)); have n10_ := nc_ hg (blk_lt (g := gb911) (o := .cells #[.int .i64 t909, .int .i64 t910] 23 (0, 0)) (kv_ BK911)); have n11_ := nb_ hg (blk_lt (g := gb915) (o := .cells #[.int .i64 t912, .int .i64 t913] 23 (0, 0)) (kv_ BK915)); have n12_ := nc_ hg (blk_lt (g := gb915) (o := .cells #[.int .i64 t912, .int .i64 t913] 23 (0, 0)) (kv_ BK915)); have n13_ := nb_ hg (blk_lt (g := gb919) (o := .cells #[.int .i64 t916, .int .i64 t917] 23 (0, 0)) (kv_ BK919)); have n14_ := nc_ hg (blk_lt (g := gb919) (o := .cells #[.int .i64 t916, .int .i64 t917] 23 (0, 0)) (kv_ BK919)); clear HO922; clear HO925; clear BK911; clear BK915; clear BK919; clear HB; have HO922 := n0_; have HO925 := n1_; have BK911 := n2_; have BK915 := n3_; have BK919 := n4_; have HB := n5_; have BK934 := n6_; have GW934 := n7_; have GE934 := n8_; have NB911_934 := n9_; have NB934_911 := n10_; have NB915_934 := n11_; have NB934_915 := n12_; have NB919_934 := n13_; have NB934_919 := n14_; clear n0_ n1_ n2_ n3_ n4_ n5_ n6_ n7_ n8_ n9_ n10_ n11_ n12_ n13_ n14_; clear hb hbox hg; have hnb63 := NB934_911.out; have hnc63 := NB911_934.out; have hnb64 := NB934_915.out; have hnc64 := NB915_934.out; have hnb65 := NB934_919.out; have hnc65 := NB919_934.out; have hcz66_0 : w62.cell? ⟨gb934, 0, none⟩ = some (.int .i64 0) := (blk_cell BK934.out 0).trans rfl; have hcz66_1 : w62.cell? ⟨gb934, 1, none⟩ = some (.int .i64 0) := (blk_cell BK934.out 1).trans rfl; have hfz66_0 := blk_frozen BK934.out 0; have hfz66_1 := blk_frozen BK934.out 1) | ((with_reducible refine gate_callee (f := 19) rfl ?_); refine gl_ 82 Tryd.func19 #[.slice Ao54 t920.length co54] rfl mp_ ?_; (with_reducible refine (impl_TableOfCoefficients.calls k _ _ t920 t935 t936 true _ ?side1 ?side2 A21.out).mono ?_); (case side1 => refine (Kd.R_reads' (e := 3) (base := w.heap.size) (ok := fun k_ => (True ∧ some k_ ≠ (.slice Ao55 t923.length co55 : Value).ownBlock)) (n := t920.length) (c := co54) ?_).2.2; exact (by (with_reducible repeat (first | apply Kd.R_alloc | apply Kd.R_drewN | apply Kd.R_drew)); exact (Kd.R_mono (Kd.R_far (p := ⟨gb934, 1, none⟩) (Kd.R_far (p := ⟨gb934, 0, none⟩) (Kd.R_types HO922.out BK934.out (by decide)) (fun _ hk => hk.2) (.int .i64 t931)) (fun _ hk => hk.2) (.int .i64 t932)) (fun _ h_ => h_.1)))); (case side2 => exact (Kd.R_reads' HO922.out).2.1); rintro e w67 ⟨rfl, hb⟩; refine ⟨_, rfl, ?_⟩; have n0_ := Aside0.mk (Kd.R_below (by (with_reducible repeat (first | apply Kd.R_alloc | apply Kd.R_drewN | apply Kd.R_drew)); exact (Kd.R_mono (Kd.R_far (p := ⟨gb934, 1, none⟩) (Kd.R_far (p := ⟨gb934, 0, none⟩) (Kd.R_types HO922.out BK934.out (by decide)) (fun _ hk => hk.2) (.int .i64 t931)) (fun _ hk => hk.2) (.int .i64 t932)) (fun _ h_ => h_.1))) hb); have n1_ := Aside0.mk (Kd.R_below (by (with_reducible repeat (first | apply Kd.R_alloc | apply Kd.R_drewN | apply Kd.R_drew)); exact (Kd.R_mono (Kd.R_far (p := ⟨gb934, 1, none⟩) (Kd.R_far (p := ⟨gb934, 0, none⟩) (Kd.R_types HO925.out BK934.out (by decide)) (fun _ hk => hk.2) (.int .i64 t931)) (fun _ hk => hk.2) (.int .i64 t932)) (fun _ h_ => h_.1))) hb); have n2_ := Aside0.mk (blk_below (g := gb911) (o := .cells #[.int .i64 t909, .int .i64 t910] 23 (0, 0)) (by (with_reducible repeat (first | refine blk_drewN ?_ _ | refine blk_drew ?_ | refine blk_alloc ?_ _)); refine blk_far ?_ NB911_934.out _; (with_reducible repeat (first | refine blk_drewN ?_ _ | refine blk_drew ?_ | refine blk_alloc ?_ _)); refine blk_far ?_ NB911_934.out _; (with_reducible repeat (first | refine blk_drewN ?_ _ | refine blk_drew ?_ | refine blk_alloc ?_ _)); exact BK911.out) hb); have n3_ := Aside0.mk (blk_below (g := gb915) (o := .cells #[.int .i64 t912, .int .i64 t913] 23 (0, 0)) (by (with_reducible repeat (first | refine blk_drewN ?_ _ | refine blk_drew ?_ | refine blk_alloc ?_ _)); refine blk_far ?_ NB915_934.out _; (with_reducible repeat (first | refine blk_drewN ?_ _ | refine blk_drew ?_ | refine blk_alloc ?_ _)); refine blk_far ?_ NB915_934.out _; (with_reducible repeat (first | refine blk_drewN ?_ _ | refine blk_drew ?_ | refine blk_alloc ?_ _)); exact BK915.out) hb); have n4_ := Aside0.mk (blk_below (g := gb919) (o := .cells #[.int .i64 t916, .int .i64 t917] 23 (0, 0)) (by (with_reducible repeat (first | refine blk_drewN ?_ _ | refine blk_drew ?_ | refine blk_alloc ?_ _)); refine blk_far ?_ NB919_934.out _; (with_reducible repeat (first | refine blk_drewN ?_ _ | refine blk_drew ?_ | refine blk_alloc ?_ _)); refine blk_far ?_ NB919_934.out _; (with_reducible repeat (first | refine blk_drewN ?_ _ | refine blk_drew ?_ | refine blk_alloc ?_ _)); exact BK919.out) hb); have n5_ := Aside0.mk (blk_below (g := gb934) (o := .cells #[.int .i64 t931, .int .i64 t932] 23 (0, 0)) (by (with_reducible repeat (first | refine blk_drewN ?_ _ | refine blk_drew ?_ | refine blk_alloc ?_ _)); refine blk_put (cs := #[.int .i64 t931, .int .i64 0]) ?_ 1 _ rfl; (with_reducible repeat (first | refine blk_drewN ?_ _ | refine blk_drew ?_ | refine blk_alloc ?_ _)); refine blk_put (cs := #[.int .i64 0, .int .i64 0]) ?_ 0 _ rfl; (with_reducible repeat (first | refine blk_drewN ?_ _ | refine blk_drew ?_ | refine blk_alloc ?_ _)); exact BK934.out) hb); have n6_ := Aside0.mk (below_step (bv4_ HB GE911 GE915 GE919 GE934) hb); clear HO922; clear HO925; clear BK911; clear BK915; clear BK919; clear BK934; clear HB; have HO922 := n0_; have HO925 := n1_; have BK911 := n2_; have BK915 := n3_; have BK919 := n4_; have BK934 := n5_; have HB := n6_; clear n0_ n1_ n2_ n3_ n4_ n5_ n6_; (try clear hb); (try clear hb2); (try clear hk); (try clear hi)) | ((with_reducible refine gate_dst (N := 11) rfl ?_); refine bx_ 11 #[.int .i64 0, .int .i64 0] 23 ?_; intro gb938 hg w68 hbox hb; have n0_ := Aside0.mk (Kd.R_below (rv_ HO922) hb); have n1_ := Aside0.mk (Kd.R_below (rv_ HO925) hb); have n2_ := kb_ BK911 hb; have n3_ := kb_ BK915 hb; have n4_ := kb_ BK919 hb; have n5_ := kb_ BK934 hb; have n6_ := Aside0.mk (below_step (bv4_ HB GE911 GE915 GE919 GE934) hb); have n7_ := Aside0.mk (hbox); have n8_ := gw_ hg (below_size (bv4_ HB GE911 GE915 GE919 GE934)); have n9_ := gw_ hg (below_size (bv4_ HB GE911 GE915 GE919 GE934)); have n10_ := nb_ hg (blk_lt (g := gb911) (o := .cells #[.int .i64 t909, .int .i64 t910] 23 (0, 0)) (kv_ BK911)); have n11_ := nc_ hg (blk_lt (g := gb911) (o := .cells #[.int .i64 t909, .int .i64 t910] 23 (0, 0)) (kv_ BK911)); have n12_ := nb_ hg (blk_lt (g := gb915) (o := .cells #[.int .i64 t912, .int .i64 t913] 23 (0, 0)) (kv_ BK915)); have n13_ := nc_ hg (blk_lt (g := gb915) (o := .cells #[.int .i64 t912, .int .i64 t913] 23 (0, 0)) (kv_ BK915)); have n14_ := nb_ hg (blk_lt (g := gb919) (o := .cells #[.int .i64 t916, .int .i64 t917] 23 (0, 0)) (kv_ BK919)); have n15_ := nc_ hg (blk_lt (g := gb919) (o := .cells #[.int .i64 t916, .int .i64 t917] 23 (0, 0)) (kv_ BK919)); have n16_ := nb_ hg (blk_lt (g := gb934) (o := .cells #[.int .i64 t931, .int .i64 t932] 23 (0, 0)) (kv_ BK934)); have n17_ := nc_ hg (blk_lt (g := gb934) (o := .cells #[.int .i64 t931, .int .i64 t932] 23 (0, 0)) (kv_ BK934)); clear HO922; clear HO925; clear BK911; clear BK915; clear BK919; clear BK934; clear HB; have HO922 := n0_; have HO925 := n1_; have BK911 := n2_; have BK915 := n3_; have BK919 := n4_; have BK934 := n5_; have HB := n6_; have BK938 := n7_; have GW938 := n8_; have GE938 := n9_; have NB911_938 := n10_; have NB938_911 := n11_; have NB915_938 := n12_; have NB938_915 := n13_; have NB919_938 := n14_; have NB938_919 := n15_; have NB934_938 := n16_; have NB938_934 := n17_; clear n0_ n1_ n2_ n3_ n4_ n5_ n6_ n7_ n8_ n9_ n10_ n11_ n12_ n13_ n14_ n15_ n16_ n17_; clear hb hbox hg; have hnb69 := NB938_911.out; have hnc69 := NB911_938.out; have hnb70 := NB938_915.out; have hnc70 := NB915_938.out; have hnb71 := NB938_919.out; have hnc71 := NB919_938.out; have hnb72 := NB938_934.out; have hnc72 := NB934_938.out; have hcz73_0 : w68.cell? ⟨gb938, 0, none⟩ = some (.int .i64 0) := (blk_cell BK938.out 0).trans rfl; have hcz73_1 : w68.cell? ⟨gb938, 1, none⟩ = some (.int .i64 0) := (blk_cell BK938.out 1).trans rfl; have hfz73_0 := blk_frozen BK938.out 0; have hfz73_1 := blk_frozen BK938.out 1; have hcz74_0 : w68.cell? ⟨gb911, 0, none⟩ = some (.int .i64 t909) := (blk_cell BK911.out 0).trans rfl; have hcz74_1 : w68.cell? ⟨gb911, 1, none⟩ = some (.int .i64 t910) := (blk_cell BK911.out 1).trans rfl; have hfz74_0 := blk_frozen BK911.out 0; have hfz74_1 := blk_frozen BK911.out 1) | ((with_reducible refine gate_callee (f := 20) rfl ?_); refine gl_ 86 Tryd.func20 #[.agg #[.int .i64 t909, .int .i64 t910]] rfl mp_ ?_; (with_reducible refine (impl_FormatAnf.calls k t909 t910 t939 _ A22.out).mono ?_); rintro e w75 ⟨rfl, hb⟩; refine ⟨_, rfl, ?_⟩; have n0_ := Aside0.mk (Kd.R_below (by (with_reducible repeat (first | apply Kd.R_alloc | apply Kd.R_drewN | apply Kd.R_drew)); exact (Kd.R_mono (Kd.R_far (p := ⟨gb938, 1, none⟩) (Kd.R_far (p := ⟨gb938, 0, none⟩) (Kd.R_types HO922.out BK938.out (by decide)) (fun _ hk => hk.2) (.int .i64 t935)) (fun _ hk => hk.2) (.int .i64 t936)) (fun _ h_ => h_.1))) hb); have n1_ := Aside0.mk (Kd.R_below (by (with_reducible repeat (first | apply Kd.R_alloc | apply Kd.R_drewN | apply Kd.R_drew)); exact (Kd.R_mono (Kd.R_far (p := ⟨gb938, 1, none⟩) (Kd.R_far (p := ⟨gb938, 0, none⟩) (Kd.R_types HO925.out BK938.out (by decide)) (fun _ hk => hk.2) (.int .i64 t935)) (fun _ hk => hk.2) (.int .i64 t936)) (fun _ h_ => h_.1))) hb); have n2_ := Aside0.mk (blk_below (g := gb911) (o := .cells #[.int .i64 t909, .int .i64 t910] 23 (0, 0)) (by (with_reducible repeat (first | refine blk_drewN ?_ _ | refine blk_drew ?_ | refine blk_alloc ?_ _)); refine blk_far ?_ NB911_938.out _; (with_reducible repeat (first | refine blk_drewN ?_ _ | refine blk_drew ?_ | refine blk_alloc ?_ _)); refine blk_far ?_ NB911_938.out _; (with_reducible repeat (first | refine blk_drewN ?_ _ | refine blk_drew ?_ | refine blk_alloc ?_ _)); exact BK911.out) hb); have n3_ := Aside0.mk (blk_below (g := gb915) (o := .cells #[.int .i64 t912, .int .i64 t913] 23 (0, 0)) (by (with_reducible repeat (first | refine blk_drewN ?_ _ | refine blk_drew ?_ | refine blk_alloc ?_ _)); refine blk_far ?_ NB915_938.out _; (with_reducible repeat (first | refine blk_drewN ?_ _ | refine blk_drew ?_ | refine blk_alloc ?_ _)); refine blk_far ?_ NB915_938.out _; (with_reducible repeat (first | refine blk_drewN ?_ _ | refine blk_drew ?_ | refine blk_alloc ?_ _)); exact BK915.out) hb); have n4_ := Aside0.mk (blk_below (g := gb919) (o := .cells #[.int .i64 t916, .int .i64 t917] 23 (0, 0)) (by (with_reducible repeat (first | refine blk_drewN ?_ _ | refine blk_drew ?_ | refine blk_alloc ?_ _)); refine blk_far ?_ NB919_938.out _; (with_reducible repeat (first | refine blk_drewN ?_ _ | refine blk_drew ?_ | refine blk_alloc ?_ _)); refine blk_far ?_ NB919_938.out _; (with_reducible repeat (first | refine blk_drewN ?_ _ | refine blk_drew ?_ | refine blk_alloc ?_ _)); exact BK919.out) hb); have n5_ := Aside0.mk (blk_below (g := gb934) (o := .cells #[.int .i64 t931, .int .i64 t932] 23 (0, 0)) (by (with_reducible repeat (first | refine blk_drewN ?_ _ | refine blk_drew ?_ | refine blk_alloc ?_ _)); refine blk_far ?_ NB934_938.out _; (with_reducible repeat (first | refine blk_drewN ?_ _ | refine blk_drew ?_ | refine blk_alloc ?_ _)); refine blk_far ?_ NB934_938.out _; (with_reducible repeat (first | refine blk_drewN ?_ _ | refine blk_drew ?_ | refine blk_alloc ?_ _)); exact BK934.out) hb); have n6_ := Aside0.mk (blk_below (g := gb938) (o := .cells #[.int .i64 t935, .int .i64 t936] 23 (0, 0)) (by (with_reducible repeat (first | refine blk_drewN ?_ _ | refine blk_drew ?_ | refine blk_alloc ?_ _)); refine blk_put (cs := #[.int .i64 t935, .int .i64 0]) ?_ 1 _ rfl; (with_reducible repeat (first | refine blk_drewN ?_ _ | refine blk_drew ?_ | refine blk_alloc ?_ _)); refine blk_put (cs := #[.int .i64 0, .int .i64 0]) ?_ 0 _ rfl; (with_reducible repeat (first | refine blk_drewN ?_ _ | refine blk_drew ?_ | refine blk_alloc ?_ _)); exact BK938.out) hb); have n7_ := Aside0.mk (below_step (bv5_ HB GE911 GE915 GE919 GE934 GE938) hb); clear HO922; clear HO925; clear BK911; clear BK915; clear BK919; clear BK934; clear BK938; clear HB; have HO922 := n0_; have HO925 := n1_; have BK911 := n2_; have BK915 := n3_; have BK919 := n4_; have BK934 := n5_; have BK938 := n6_; have HB := n7_; clear n0_ n1_ n2_ n3_ n4_ n5_ n6_ n7_; (try clear hb); (try clear hb2); (try clear hk); (try clear hi); have hcz76_0 : w75.cell? ⟨gb911, 0, none⟩ = some (.int .i64 t909) := (blk_cell BK911.out 0).trans rfl; have hcz76_1 : w75.cell? ⟨gb911, 1, none⟩ = some (.int .i64 t910) := (blk_cell BK911.out 1).trans rfl; have hfz76_0 := blk_frozen BK911.out 0; have hfz76_1 := blk_frozen BK911.out 1) | ((with_reducible refine gate_callee (f := 6) rfl ?_); refine gl_ 91 Tryd.func6 #[.int .i64 t909, .string t939] rfl mp_ ?_; (with_reducible refine (impl_ParseAnf.calls k t909 t939 t940 t941 true _ A23.out).mono ?_); rintro e w77 ⟨rfl, hb⟩; refine ⟨_, rfl, ?_⟩; have n0_ := Aside0.mk (Kd.R_below (rv_ HO922) hb); have n1_ := Aside0.mk (Kd.R_below (rv_ HO925) hb); have n2_ := kb_ BK911 hb; have n3_ := kb_ BK915 hb; have n4_ := kb_ BK919 hb; have n5_ := kb_ BK934 hb; have n6_ := kb_ BK938 hb; have n7_ := Aside0.mk (below_step (bv5_ HB GE911 GE915 GE919 GE934 GE938) hb); clear HO922; clear HO925; clear BK911; clear BK915; clear BK919; clear BK934; clear BK938; clear HB; have HO922 := n0_; have HO925 := n1_; have BK911 := n2_; have BK915 := n3_; have BK919 := n4_; have BK934 := n5_; have BK938 := n6_; have HB := n7_; clear n0_ n1_ n2_ n3_ n4_ n5_ n6_ n7_; (try clear hb); (try clear hb2); (try clear hk); (try clear hi)) | ((with_reducible refine gate_dst (N := 14) rfl ?_); refine bx_ 14 #[.int .i64 0, .int .i64 0] 23 ?_; intro gb943 hg w78 hbox hb; have n0_ := Aside0.mk (Kd.R_below (rv_ HO922) hb); have n1_ := Aside0.mk (Kd.R_below (rv_ HO925) hb); have n2_ := kb_ BK911 hb; have n3_ := kb_ BK915 hb; have n4_ := kb_ BK919 hb; have n5_ := kb_ BK934 hb; have n6_ := kb_ BK938 hb; have n7_ := Aside0.mk (below_step (bv5_ HB GE911 GE915 GE919 GE934 GE938) hb); have n8_ := Aside0.mk (hbox); have n9_ := gw_ hg (below_size (bv5_ HB GE911 GE915 GE919 GE934 GE938)); have n10_ := gw_ hg (below_size (bv5_ HB GE911 GE915 GE919 GE934 GE938)); have n11_ := nb_ hg (blk_lt (g := gb911) (o := .cells #[.int .i64 t909, .int .i64 t910] 23 (0, 0)) (kv_ BK911)); have n12_ := nc_ hg (blk_lt (g := gb911) (o := .cells #[.int .i64 t909, .int .i64 t910] 23 (0, 0)) (kv_ BK911)); have n13_ := nb_ hg (blk_lt (g := gb915) (o := .cells #[.int .i64 t912, .int .i64 t913] 23 (0, 0)) (kv_ BK915)); have n14_ := nc_ hg (blk_lt (g := gb915) (o := .cells #[.int .i64 t912, .int .i64 t913] 23 (0, 0)) (kv_ BK915)); have n15_ := nb_ hg (blk_lt (g := gb919) (o := .cells #[.int .i64 t916, .int .i64 t917] 23 (0, 0)) (kv_ BK919)); have n16_ := nc_ hg (blk_lt (g := gb919) (o := .cells #[.int .i64 t916, .int .i64 t917] 23 (0, 0)) (kv_ BK919)); have n17_ := nb_ hg (blk_lt (g := gb934) (o := .cells #[.int .i64 t931, .int .i64 t932] 23 (0, 0)) (kv_ BK934)); have n18_ := nc_ hg (blk_lt (g := gb934) (o := .cells #[.int .i64 t931, .int .i64 t932] 23 (0, 0)) (kv_ BK934)); have n19_ := nb_ hg (blk_lt (g := gb938) (o := .cells #[.int .i64 t935, .int .i64 t936] 23 (0, 0)) (kv_ BK938)); have n20_ := nc_ hg (blk_lt (g := gb938) (o := .cells #[.int .i64 t935, .int .i64 t936] 23 (0, 0)) (kv_ BK938)); clear HO922; clear HO925; clear BK911; clear BK915; clear BK919; clear BK934; clear BK938; clear HB; have HO922 := n0_; have HO925 := n1_; have BK911 := n2_; have BK915 := n3_; have BK919 := n4_; have BK934 := n5_; have BK938 := n6_; have HB := n7_; have BK943 := n8_; have GW943 := n9_; have GE943 := n10_; have NB911_943 := n11_; have NB943_911 := n12_; have NB915_943 := n13_; have NB943_915 := n14_; have NB919_943 := n15_; have NB943_919 := n16_; have NB934_943 := n17_; have NB943_934 := n18_; have NB938_943 := n19_; have NB943_938 := n20_; clear n0_ n1_ n2_ n3_ n4_ n5_ n6_ n7_ n8_ n9_ n10_ n11_ n12_ n13_ n14_ n15_ n16_ n17_ n18_ n19_ n20_; clear hb hbox hg; have hnb79 := NB943_911.out; have hnc79 := NB911_943.out; have hnb80 := NB943_915.out; have hnc80 := NB915_943.out; have hnb81 := NB943_919.out; have hnc81 := NB919_943.out; have hnb82 := NB943_934.out; have hnc82 := NB934_943.out; have hnb83 := NB943_938.out; have hnc83 := NB938_943.out; have hcz84_0 : w78.cell? ⟨gb943, 0, none⟩ = some (.int .i64 0) := (blk_cell BK943.out 0).trans rfl; have hcz84_1 : w78.cell? ⟨gb943, 1, none⟩ = some (.int .i64 0) := (blk_cell BK943.out 1).trans rfl; have hfz84_0 := blk_frozen BK943.out 0; have hfz84_1 := blk_frozen BK943.out 1))
                have n0_ : Aside0 (Kd.R (Kd.int .i64) 3 ((w78.setCell ⟨gb943, 0, none⟩ (.int .i64 t940)).setCell ⟨gb943, 1, none⟩ (.int .i64 t941)) w.heap.size (fun k_ => some k_ ≠ (.slice Ao55 t923.length co55 : Value).ownBlock) (.slice Ao54 t920.length co54) t920) := ⟨by (with_reducible repeat (first | apply Kd.R_alloc | apply Kd.R_drewN | apply Kd.R_drew)); exact Kd.R_mono (Kd.R_far (p := ⟨gb943, 1, none⟩) (Kd.R_far (p := ⟨gb943, 0, none⟩) (Kd.R_types HO922.out BK943.out (by decide)) (fun _ hk => hk.2) (.int .i64 t940)) (fun _ hk => hk.2) (.int .i64 t941)) (fun _ hk => hk.1.2)⟩
                have n1_ : Aside0 (Kd.R (Kd.int .i64) 3 ((w78.setCell ⟨gb943, 0, none⟩ (.int .i64 t940)).setCell ⟨gb943, 1, none⟩ (.int .i64 t941)) w.heap.size (fun k_ => some k_ ≠ (.slice Ao54 t920.length co54 : Value).ownBlock) (.slice Ao55 t923.length co55) t923) := ⟨by (with_reducible repeat (first | apply Kd.R_alloc | apply Kd.R_drewN | apply Kd.R_drew)); exact Kd.R_mono (Kd.R_far (p := ⟨gb943, 1, none⟩) (Kd.R_far (p := ⟨gb943, 0, none⟩) (Kd.R_types HO925.out BK943.out (by decide)) (fun _ hk => hk.2) (.int .i64 t940)) (fun _ hk => hk.2) (.int .i64 t941)) (fun _ hk => hk.1.2)⟩
                have n2_ : Aside0 (((w78.setCell ⟨gb943, 0, none⟩ (.int .i64 t940)).setCell ⟨gb943, 1, none⟩ (.int .i64 t941)).heap[gb911]? = some (.cells #[.int .i64 t909, .int .i64 t910] 23 (0, 0))) := ⟨by (with_reducible repeat (first | refine blk_drewN ?_ _ | refine blk_drew ?_ | refine blk_alloc ?_ _)); refine blk_far ?_ NB911_943.out _; (with_reducible repeat (first | refine blk_drewN ?_ _ | refine blk_drew ?_ | refine blk_alloc ?_ _)); refine blk_far ?_ NB911_943.out _; (with_reducible repeat (first | refine blk_drewN ?_ _ | refine blk_drew ?_ | refine blk_alloc ?_ _)); exact BK911.out⟩
                have n3_ : Aside0 (((w78.setCell ⟨gb943, 0, none⟩ (.int .i64 t940)).setCell ⟨gb943, 1, none⟩ (.int .i64 t941)).heap[gb915]? = some (.cells #[.int .i64 t912, .int .i64 t913] 23 (0, 0))) := ⟨by (with_reducible repeat (first | refine blk_drewN ?_ _ | refine blk_drew ?_ | refine blk_alloc ?_ _)); refine blk_far ?_ NB915_943.out _; (with_reducible repeat (first | refine blk_drewN ?_ _ | refine blk_drew ?_ | refine blk_alloc ?_ _)); refine blk_far ?_ NB915_943.out _; (with_reducible repeat (first | refine blk_drewN ?_ _ | refine blk_drew ?_ | refine blk_alloc ?_ _)); exact BK915.out⟩
                have n4_ : Aside0 (((w78.setCell ⟨gb943, 0, none⟩ (.int .i64 t940)).setCell ⟨gb943, 1, none⟩ (.int .i64 t941)).heap[gb919]? = some (.cells #[.int .i64 t916, .int .i64 t917] 23 (0, 0))) := ⟨by (with_reducible repeat (first | refine blk_drewN ?_ _ | refine blk_drew ?_ | refine blk_alloc ?_ _)); refine blk_far ?_ NB919_943.out _; (with_reducible repeat (first | refine blk_drewN ?_ _ | refine blk_drew ?_ | refine blk_alloc ?_ _)); refine blk_far ?_ NB919_943.out _; (with_reducible repeat (first | refine blk_drewN ?_ _ | refine blk_drew ?_ | refine blk_alloc ?_ _)); exact BK919.out⟩
                have n5_ : Aside0 (((w78.setCell ⟨gb943, 0, none⟩ (.int .i64 t940)).setCell ⟨gb943, 1, none⟩ (.int .i64 t941)).heap[gb934]? = some (.cells #[.int .i64 t931, .int .i64 t932] 23 (0, 0))) := ⟨by (with_reducible repeat (first | refine blk_drewN ?_ _ | refine blk_drew ?_ | refine blk_alloc ?_ _)); refine blk_far ?_ NB934_943.out _; (with_reducible repeat (first | refine blk_drewN ?_ _ | refine blk_drew ?_ | refine blk_alloc ?_ _)); refine blk_far ?_ NB934_943.out _; (with_reducible repeat (first | refine blk_drewN ?_ _ | refine blk_drew ?_ | refine blk_alloc ?_ _)); exact BK934.out⟩
                have n6_ : Aside0 (((w78.setCell ⟨gb943, 0, none⟩ (.int .i64 t940)).setCell ⟨gb943, 1, none⟩ (.int .i64 t941)).heap[gb938]? = some (.cells #[.int .i64 t935, .int .i64 t936] 23 (0, 0))) := ⟨by (with_reducible repeat (first | refine blk_drewN ?_ _ | refine blk_drew ?_ | refine blk_alloc ?_ _)); refine blk_far ?_ NB938_943.out _; (with_reducible repeat (first | refine blk_drewN ?_ _ | refine blk_drew ?_ | refine blk_alloc ?_ _)); refine blk_far ?_ NB938_943.out _; (with_reducible repeat (first | refine blk_drewN ?_ _ | refine blk_drew ?_ | refine blk_alloc ?_ _)); exact BK938.out⟩
                have n7_ : Aside0 (((w78.setCell ⟨gb943, 0, none⟩ (.int .i64 t940)).setCell ⟨gb943, 1, none⟩ (.int .i64 t941)).heap[gb943]? = some (.cells #[.int .i64 t940, .int .i64 t941] 23 (0, 0))) := ⟨by (with_reducible repeat (first | refine blk_drewN ?_ _ | refine blk_drew ?_ | refine blk_alloc ?_ _)); refine blk_put (cs := #[.int .i64 t940, .int .i64 0]) ?_ 1 _ rfl; (with_reducible repeat (first | refine blk_drewN ?_ _ | refine blk_drew ?_ | refine blk_alloc ?_ _)); refine blk_put (cs := #[.int .i64 0, .int .i64 0]) ?_ 0 _ rfl; (with_reducible repeat (first | refine blk_drewN ?_ _ | refine blk_drew ?_ | refine blk_alloc ?_ _)); exact BK943.out⟩
                have n8_ : Aside0 (Below w.heap.size w ((w78.setCell ⟨gb943, 0, none⟩ (.int .i64 t940)).setCell ⟨gb943, 1, none⟩ (.int .i64 t941))) := ⟨bv6_ HB GE911 GE915 GE919 GE934 GE938 GE943⟩
                (try clear HO922)
                (try clear HO925)
                (try clear BK911)
                (try clear BK915)
                (try clear BK919)
                (try clear BK934)
                (try clear BK938)
                (try clear BK943)
                (try clear HB)
                generalize ((w78.setCell ⟨gb943, 0, none⟩ (.int .i64 t940)).setCell ⟨gb943, 1, none⟩ (.int .i64 t941)) = w85 at n0_ n1_ n2_ n3_ n4_ n5_ n6_ n7_ n8_ ⊢
                have HO922 := n0_
                have HO925 := n1_
                have BK911 := n2_
                have BK915 := n3_
                have BK919 := n4_
                have BK934 := n5_
                have BK938 := n6_
                have BK943 := n7_
                have HB := n8_
                clear n0_ n1_ n2_ n3_ n4_ n5_ n6_ n7_ n8_
                replace HO922 := Aside0.mk (Kd.R_drew HO922.out)
                replace HO925 := Aside0.mk (Kd.R_drew HO925.out)
                replace BK911 := Aside0.mk (blk_drew BK911.out)
                replace BK915 := Aside0.mk (blk_drew BK915.out)
                replace BK919 := Aside0.mk (blk_drew BK919.out)
                replace BK934 := Aside0.mk (blk_drew BK934.out)
                replace BK938 := Aside0.mk (blk_drew BK938.out)
                replace BK943 := Aside0.mk (blk_drew BK943.out)
                replace HB := Aside0.mk (below_drew1 HB.out)
                (try clear hcz39_0); (try clear hcz39_1); (try clear hfz39_0); (try clear hfz39_1); (try clear hnb42); (try clear hnc42); (try clear hcz43_0); (try clear hcz43_1); (try clear hfz43_0); (try clear hfz43_1); (try clear hcz44_0); (try clear hcz44_1)
                (try clear hfz44_0); (try clear hfz44_1); (try clear hnb47); (try clear hnc47); (try clear hnb48); (try clear hnc48); (try clear hcz49_0); (try clear hcz49_1); (try clear hfz49_0); (try clear hfz49_1); (try clear hcz50_0); (try clear hcz50_1)
                (try clear hfz50_0); (try clear hfz50_1); (try clear hcz60_0); (try clear hcz60_1); (try clear hfz60_0); (try clear hfz60_1); (try clear hnb63); (try clear hnc63); (try clear hnb64); (try clear hnc64); (try clear hnb65); (try clear hnc65)
                (try clear hcz66_0); (try clear hcz66_1); (try clear hfz66_0); (try clear hfz66_1); (try clear hnb69); (try clear hnc69); (try clear hnb70); (try clear hnc70); (try clear hnb71); (try clear hnc71); (try clear hnb72); (try clear hnc72)
                (try clear hcz73_0); (try clear hcz73_1); (try clear hfz73_0); (try clear hfz73_1); (try clear hcz74_0); (try clear hcz74_1); (try clear hfz74_0); (try clear hfz74_1); (try clear hcz76_0); (try clear hcz76_1); (try clear hfz76_0); (try clear hfz76_1)
                (try clear hnb79); (try clear hnc79); (try clear hnb80); (try clear hnc80); (try clear hnb81); (try clear hnc81); (try clear hnb82); (try clear hnc82); (try clear hnb83); (try clear hnc83); (try clear hcz84_0); (try clear hcz84_1)
                (try clear hfz84_0); (try clear hfz84_1)
                refine start_ (n := 46) (S := fun w' => w'.cell? ⟨gb934, 0, none⟩ = some (.int .i64 t931) ∧ w'.cell? ⟨gb934, 1, none⟩ = some (.int .i64 t932) ∧ w'.cell? ⟨gb911, 0, none⟩ = some (.int .i64 t909) ∧ w'.cell? ⟨gb911, 1, none⟩ = some (.int .i64 t910) ∧ w'.cell? ⟨gb938, 0, none⟩ = some (.int .i64 t935) ∧ w'.cell? ⟨gb938, 1, none⟩ = some (.int .i64 t936) ∧ w'.cell? ⟨gb943, 0, none⟩ = some (.int .i64 t940) ∧ w'.cell? ⟨gb943, 1, none⟩ = some (.int .i64 t941)) (ds := []) (bs 46 0) (by kernel_rfl) rfl (by kernel_rfl) ⟨(blk_cell BK934.out 0).trans rfl, (blk_cell BK934.out 1).trans rfl, (blk_cell BK911.out 0).trans rfl, (blk_cell BK911.out 1).trans rfl, (blk_cell BK938.out 0).trans rfl, (blk_cell BK938.out 1).trans rfl, (blk_cell BK943.out 0).trans rfl, (blk_cell BK943.out 1).trans rfl⟩ (fun hHeld => ?_); refine with_tabW laws_FnDegrees.tab14 laws_FnDegrees.bits14 (fun HT_ HW_ => ?_)
                generalize w85.drew = w86 at HO922 HO925 BK911 BK915 BK919 BK934 BK938 BK943 HB hHeld ⊢
                refine ta8_ HT_ HW_ 0 94 (bs 46 1) hHeld ?_
                refine ta8_ HT_ HW_ 1 95 (bs 46 3) hHeld ?_
                refine pu_ HT_ 2 96 (bs 46 7) ?_
                refine pu_ HT_ 3 97 (bs 46 15) ?_
                refine pu_ HT_ 4 98 (bs 46 31) ?_
                refine pu_ HT_ 5 99 (bs 46 63) ?_
                refine pu_ HT_ 6 100 (bs 46 127) ?_
                refine pu_ HT_ 7 101 (bs 46 255) ?_
                refine ta8_ HT_ HW_ 8 102 (bs 46 511) hHeld ?_
                refine ta8_ HT_ HW_ 9 103 (bs 46 1023) hHeld ?_
                refine pu_ HT_ 10 104 (bs 46 2047) ?_
                refine pu_ HT_ 11 105 (bs 46 4095) ?_
                refine pu_ HT_ 12 106 (bs 46 8191) ?_
                refine pu_ HT_ 13 107 (bs 46 16383) ?_
                refine pu_ HT_ 14 108 (bs 46 32767) ?_
                refine pu_ HT_ 15 109 (bs 46 65535) ?_
                refine pu_ HT_ 16 110 (bs 46 131071) ?_
                refine ta8_ HT_ HW_ 17 111 (bs 46 262143) hHeld ?_
                refine ta8_ HT_ HW_ 18 112 (bs 46 524287) hHeld ?_
                refine pu_ HT_ 19 113 (bs 46 1048575) ?_
                refine pu_ HT_ 20 114 (bs 46 2097151) ?_
                refine pu_ HT_ 21 115 (bs 46 4194303) ?_
                refine pu_ HT_ 22 116 (bs 46 8388607) ?_
                refine ta8_ HT_ HW_ 23 117 (bs 46 16777215) hHeld ?_
                refine on_ HT_ 24 118 (bs 46 33554431) (fun K hK => ?_)
                refine goes_ Tryd.func21 (by kernel_rfl) rfl #[.agg #[.int .i64 t909, .int .i64 t910]] (by rfl) rfl rfl mp_ ?_
                with_reducible refine (spec_FormatAnf.calls k t909 t910 t944 _ A29.out).mono ?_
                rintro e w87 ⟨rfl, hb⟩
                refine ⟨_, rfl, ?_⟩
                replace HO922 := Aside0.mk (Kd.R_below (rv_ HO922) hb)
                replace HO925 := Aside0.mk (Kd.R_below (rv_ HO925) hb)
                replace BK911 := kb_ BK911 hb
                replace BK915 := kb_ BK915 hb
                replace BK919 := kb_ BK919 hb
                replace BK934 := kb_ BK934 hb
                replace BK938 := kb_ BK938 hb
                replace BK943 := kb_ BK943 hb
                replace HB := Aside0.mk (below_step (bv6_ HB GE911 GE915 GE919 GE934 GE938 GE943) hb)
                (try clear hb)
                (try clear hb2)
                (try clear hk)
                (try clear hi)
                refine hK.out _ _ ⟨(blk_cell BK934.out 0).trans rfl, (blk_cell BK934.out 1).trans rfl, (blk_cell BK911.out 0).trans rfl, (blk_cell BK911.out 1).trans rfl, (blk_cell BK938.out 0).trans rfl, (blk_cell BK938.out 1).trans rfl, (blk_cell BK943.out 0).trans rfl, (blk_cell BK943.out 1).trans rfl⟩ (fun hHeld => ?_)
                clear hK K
                refine no_ 118 ?_
                refine pu_ HT_ 25 119 (bs 46 67108863) ?_
                refine pu_ HT_ 26 120 (bs 46 134217727) ?_
                refine pu_ HT_ 27 121 (bs 46 268435455) ?_
                refine ta8_ HT_ HW_ 28 122 (bs 46 536870911) hHeld ?_
                refine ta8_ HT_ HW_ 30 124 (bs 46 1610612735) hHeld ?_
                refine on_ HT_ 29 123 (bs 46 2147483647) (fun K hK => ?_)
                refine goes_ Tryd.func15 (by kernel_rfl) rfl #[.agg #[.int .i64 t909, .int .i64 t910]] (by rfl) rfl rfl mp_ ?_
                with_reducible refine (impl_DegreeMod2.calls t909 t910 t945 _ A31.out).mono ?_
                rintro e w88 ⟨rfl, hb⟩
                refine ⟨_, rfl, ?_⟩
                replace HO922 := Aside0.mk (Kd.R_below (rv_ HO922) hb)
                replace HO925 := Aside0.mk (Kd.R_below (rv_ HO925) hb)
                replace BK911 := kb_ BK911 hb
                replace BK915 := kb_ BK915 hb
                replace BK919 := kb_ BK919 hb
                replace BK934 := kb_ BK934 hb
                replace BK938 := kb_ BK938 hb
                replace BK943 := kb_ BK943 hb
                replace HB := Aside0.mk (below_step (bv6_ HB GE911 GE915 GE919 GE934 GE938 GE943) hb)
                (try clear hb)
                (try clear hb2)
                (try clear hk)
                (try clear hi)
                refine hK.out _ _ ⟨(blk_cell BK934.out 0).trans rfl, (blk_cell BK934.out 1).trans rfl, (blk_cell BK911.out 0).trans rfl, (blk_cell BK911.out 1).trans rfl, (blk_cell BK938.out 0).trans rfl, (blk_cell BK938.out 1).trans rfl, (blk_cell BK943.out 0).trans rfl, (blk_cell BK943.out 1).trans rfl⟩ (fun hHeld => ?_)
                clear hK K
                refine no_ 123 ?_
                refine on_ HT_ 31 125 (bs 46 4294967295) (fun K hK => ?_)
                refine goes_ Tryd.func17 (by kernel_rfl) rfl #[.agg #[.int .i64 t909, .int .i64 t910]] (by rfl) rfl rfl mp_ ?_
                with_reducible refine (impl_RealDegree.calls k t909 t910 t946 _ A32.out).mono ?_
                rintro e w89 ⟨rfl, hb⟩
                refine ⟨_, rfl, ?_⟩
                replace HO922 := Aside0.mk (Kd.R_below (rv_ HO922) hb)
                replace HO925 := Aside0.mk (Kd.R_below (rv_ HO925) hb)
                replace BK911 := kb_ BK911 hb
                replace BK915 := kb_ BK915 hb
                replace BK919 := kb_ BK919 hb
                replace BK934 := kb_ BK934 hb
                replace BK938 := kb_ BK938 hb
                replace BK943 := kb_ BK943 hb
                replace HB := Aside0.mk (below_step (bv6_ HB GE911 GE915 GE919 GE934 GE938 GE943) hb)
                (try clear hb)
                (try clear hb2)
                (try clear hk)
                (try clear hi)
                refine hK.out _ _ ⟨(blk_cell BK934.out 0).trans rfl, (blk_cell BK934.out 1).trans rfl, (blk_cell BK911.out 0).trans rfl, (blk_cell BK911.out 1).trans rfl, (blk_cell BK938.out 0).trans rfl, (blk_cell BK938.out 1).trans rfl, (blk_cell BK943.out 0).trans rfl, (blk_cell BK943.out 1).trans rfl⟩ (fun hHeld => ?_)
                clear hK K
                refine no_ 125 ?_
                refine pu_ HT_ 32 126 (bs 46 8589934591) ?_
                refine pu_ HT_ 33 127 (bs 46 17179869183) ?_
                refine pu_ HT_ 34 128 (bs 46 34359738367) ?_
                refine pu_ HT_ 37 131 (bs 46 171798691839) ?_
                refine ta8_ HT_ HW_ 35 129 (bs 46 206158430207) hHeld ?_
                refine ta8_ HT_ HW_ 38 132 (bs 46 481036337151) hHeld ?_
                refine ta8_ HT_ HW_ 40 134 (bs 46 1580547964927) hHeld ?_
                refine on_ HT_ 36 130 (bs 46 1649267441663) (fun K hK => ?_)
                refine goes_ Tryd.func15 (by kernel_rfl) rfl #[.agg #[.int .i64 t909, .int .i64 t910]] (by rfl) rfl rfl mp_ ?_
                with_reducible refine (impl_DegreeMod2.calls t909 t910 t947 _ A34.out).mono ?_
                rintro e w90 ⟨rfl, hb⟩
                refine ⟨_, rfl, ?_⟩
                replace HO922 := Aside0.mk (Kd.R_below (rv_ HO922) hb)
                replace HO925 := Aside0.mk (Kd.R_below (rv_ HO925) hb)
                replace BK911 := kb_ BK911 hb
                replace BK915 := kb_ BK915 hb
                replace BK919 := kb_ BK919 hb
                replace BK934 := kb_ BK934 hb
                replace BK938 := kb_ BK938 hb
                replace BK943 := kb_ BK943 hb
                replace HB := Aside0.mk (below_step (bv6_ HB GE911 GE915 GE919 GE934 GE938 GE943) hb)
                (try clear hb)
                (try clear hb2)
                (try clear hk)
                (try clear hi)
                refine hK.out _ _ ⟨(blk_cell BK934.out 0).trans rfl, (blk_cell BK934.out 1).trans rfl, (blk_cell BK911.out 0).trans rfl, (blk_cell BK911.out 1).trans rfl, (blk_cell BK938.out 0).trans rfl, (blk_cell BK938.out 1).trans rfl, (blk_cell BK943.out 0).trans rfl, (blk_cell BK943.out 1).trans rfl⟩ (fun hHeld => ?_)
                clear hK K
                refine no_ 130 ?_
                refine pu_ HT_ 39 133 (bs 46 2199023255551) ?_
                refine on_ HT_ 41 135 (bs 46 4398046511103) (fun K hK => ?_)
                refine goes_ Tryd.func22 (by kernel_rfl) rfl #[.agg #[.int .i64 t909, .int .i64 t910]] (by rfl) rfl rfl mp_ ?_
                with_reducible refine (impl_CountOnes.calls t909 t910 t948 _ A35.out).mono ?_
                rintro e w91 ⟨rfl, hb⟩
                refine ⟨_, rfl, ?_⟩
                replace HO922 := Aside0.mk (Kd.R_below (rv_ HO922) hb)
                replace HO925 := Aside0.mk (Kd.R_below (rv_ HO925) hb)
                replace BK911 := kb_ BK911 hb
                replace BK915 := kb_ BK915 hb
                replace BK919 := kb_ BK919 hb
                replace BK934 := kb_ BK934 hb
                replace BK938 := kb_ BK938 hb
                replace BK943 := kb_ BK943 hb
                replace HB := Aside0.mk (below_step (bv6_ HB GE911 GE915 GE919 GE934 GE938 GE943) hb)
                (try clear hb)
                (try clear hb2)
                (try clear hk)
                (try clear hi)
                refine hK.out _ _ ⟨(blk_cell BK934.out 0).trans rfl, (blk_cell BK934.out 1).trans rfl, (blk_cell BK911.out 0).trans rfl, (blk_cell BK911.out 1).trans rfl, (blk_cell BK938.out 0).trans rfl, (blk_cell BK938.out 1).trans rfl, (blk_cell BK943.out 0).trans rfl, (blk_cell BK943.out 1).trans rfl⟩ (fun hHeld => ?_)
                clear hK K
                refine no_ 135 ?_
                refine pu_ HT_ 42 136 (bs 46 8796093022207) ?_
                refine pu_ HT_ 43 137 (bs 46 17592186044415) ?_
                refine pu_ HT_ 44 138 (bs 46 35184372088831) ?_
                refine pu_ HT_ 45 139 (bs 46 70368744177663) ?_
                refine done_ (done_of HT_.out (by kernel_rfl)) ?_
                try go_wp2
                go_loopg [16] k (fun kq v16 w' => ∃ (x16_1 : Int), v16 = .int .i64 x16_1 ∧ Aside0 (laws_FnDegrees.l0 kq l0 t920 x16_1 t916 t917 = some r) ∧ Aside0 (kq ≤ k) ∧ Aside0 (Kd.R (Kd.int .i64) 3 w' w.heap.size (fun _ => True) (.slice Ao54 t920.length co54) t920) ∧ Aside0 (w'.heap[gb911]? = some (.cells #[.int .i64 t909, .int .i64 t910] 23 (0, 0))) ∧ Aside0 (w'.heap[gb915]? = some (.cells #[.int .i64 t912, .int .i64 t913] 23 (0, 0))) ∧ Aside0 (w'.heap[gb919]? = some (.cells #[.int .i64 t916, .int .i64 t917] 23 (0, 0))) ∧ Aside0 (w'.heap[gb934]? = some (.cells #[.int .i64 t931, .int .i64 t932] 23 (0, 0))) ∧ Aside0 (w'.heap[gb938]? = some (.cells #[.int .i64 t935, .int .i64 t936] 23 (0, 0))) ∧ Aside0 (w'.heap[gb943]? = some (.cells #[.int .i64 t940, .int .i64 t941] 23 (0, 0))) ∧ Aside0 (Below w.heap.size w w'))
                case atStart => exact ⟨(0), (by first | rfl | (simp; done) | (simp [*]; done)), H', ⟨Nat.le_refl _⟩, ⟨by (with_reducible repeat (first | apply Kd.R_alloc | apply Kd.R_drewN | apply Kd.R_drew)); exact Kd.R_mono HO922.out (fun _ hk => trivial)⟩, ⟨by (with_reducible repeat (first | refine blk_drewN ?_ _ | refine blk_drew ?_ | refine blk_alloc ?_ _)); exact BK911.out⟩, ⟨by (with_reducible repeat (first | refine blk_drewN ?_ _ | refine blk_drew ?_ | refine blk_alloc ?_ _)); exact BK915.out⟩, ⟨by (with_reducible repeat (first | refine blk_drewN ?_ _ | refine blk_drew ?_ | refine blk_alloc ?_ _)); exact BK919.out⟩, ⟨by (with_reducible repeat (first | refine blk_drewN ?_ _ | refine blk_drew ?_ | refine blk_alloc ?_ _)); exact BK934.out⟩, ⟨by (with_reducible repeat (first | refine blk_drewN ?_ _ | refine blk_drew ?_ | refine blk_alloc ?_ _)); exact BK938.out⟩, ⟨by (with_reducible repeat (first | refine blk_drewN ?_ _ | refine blk_drew ?_ | refine blk_alloc ?_ _)); exact BK943.out⟩, ⟨bv6_ HB GE911 GE915 GE919 GE934 GE938 GE943⟩⟩
                case round =>
                 clear H'
                 try clear c1
                 try clear c2
                 try clear p2
                 try clear c15
                 try clear c17
                 try clear c21
                 try clear c22
                 obtain ⟨x16_1, rfl, HA, HK1, HO_8, BK911, BK915, BK919, BK934, BK938, BK943, HB⟩ := hrel
                 cases gk with
                 | zero => exact absurd HA.out (by simp [laws_FnDegrees.l0])
                 | succ k1 =>
                  have H := HA.out
                  clear HA
                  simp only [laws_FnDegrees.l0] at H
                  by_cases c92 : x16_1 < (t920.length : Int)
                  ·rw [if_pos c92] at H
                   have c92b0 : decide (x16_1 < (t920.length : Int)) = true := decide_eq_true c92
                   clear c92
                   by_cases c93 : 0 ≤ x16_1
                   ·rw [if_pos c93] at H
                    have c93b0 : decide (0 ≤ x16_1) = true := decide_eq_true c93
                    clear c93
                    replace H := Option.bind_eq_some_iff.mp H
                    obtain ⟨t950, A940, H⟩ := H
                    have A94 := Aside0.mk A940
                    clear A940
                    by_cases c95 : (((Int.tmod (rd t920 x16_1) 2) != 0) != (t950 == 1)) = true
                    ·rw [if_pos c95] at H
                     exact absurd H (by simp)
                    ·rw [if_neg c95] at H
                     have c95b0 : (((Int.tmod (rd t920 x16_1) 2) != 0) != (t950 == 1)) = false := by simpa using c95
                     (try (have c95b1 : decide (((Int.tmod (rd t920 x16_1) 2) != 0) = (t950 == 1)) = true := by simpa using c95))
                     (try (have c95b2 : (((Int.tmod (rd t920 x16_1) 2) != 0) == (t950 == 1)) = true := by simpa using c95))
                     clear c95
                     have H' := Aside0.mk H
                     clear H
                     try go_wp2
                     replace HO_8 := Aside0.mk (Kd.R_drew HO_8.out)
                     replace BK911 := Aside0.mk (blk_drew BK911.out)
                     replace BK915 := Aside0.mk (blk_drew BK915.out)
                     replace BK919 := Aside0.mk (blk_drew BK919.out)
                     replace BK934 := Aside0.mk (blk_drew BK934.out)
                     replace BK938 := Aside0.mk (blk_drew BK938.out)
                     replace BK943 := Aside0.mk (blk_drew BK943.out)
                     replace HB := Aside0.mk (below_drew1 HB.out)
                     have p949 : 0 ≤ (x16_1 : Int) := of_decide_eq_true (by first | (with_reducible assumption) | assumption)
                     have q949 : x16_1 < (t920.length : Int) := of_decide_eq_true (by first | (with_reducible assumption) | assumption)
                     obtain ⟨ad949, e949, hx949_0⟩ := Kd.at_int (Kd.R_reads' HO_8.out).2.2 x16_1 p949 q949
                     cases e949
                     replace p949 := eq_true p949
                     replace q949 := eq_true q949
                     (try clear hcz39_0); (try clear hcz39_1); (try clear hfz39_0); (try clear hfz39_1); (try clear hnb42); (try clear hnc42); (try clear hcz43_0); (try clear hcz43_1); (try clear hfz43_0); (try clear hfz43_1); (try clear hcz44_0); (try clear hcz44_1)
                     (try clear hfz44_0); (try clear hfz44_1); (try clear hnb47); (try clear hnc47); (try clear hnb48); (try clear hnc48); (try clear hcz49_0); (try clear hcz49_1); (try clear hfz49_0); (try clear hfz49_1); (try clear hcz50_0); (try clear hcz50_1)
                     (try clear hfz50_0); (try clear hfz50_1); (try clear hcz60_0); (try clear hcz60_1); (try clear hfz60_0); (try clear hfz60_1); (try clear hnb63); (try clear hnc63); (try clear hnb64); (try clear hnc64); (try clear hnb65); (try clear hnc65)
                     (try clear hcz66_0); (try clear hcz66_1); (try clear hfz66_0); (try clear hfz66_1); (try clear hnb69); (try clear hnc69); (try clear hnb70); (try clear hnc70); (try clear hnb71); (try clear hnc71); (try clear hnb72); (try clear hnc72)
                     (try clear hcz73_0); (try clear hcz73_1); (try clear hfz73_0); (try clear hfz73_1); (try clear hcz74_0); (try clear hcz74_1); (try clear hfz74_0); (try clear hfz74_1); (try clear hcz76_0); (try clear hcz76_1); (try clear hfz76_0); (try clear hfz76_1)
                     (try clear hnb79); (try clear hnc79); (try clear hnb80); (try clear hnc80); (try clear hnb81); (try clear hnc81); (try clear hnb82); (try clear hnc82); (try clear hnb83); (try clear hnc83); (try clear hcz84_0); (try clear hcz84_1)
                     (try clear hfz84_0); (try clear hfz84_1)
                     refine start_ (n := 11) (S := fun w' => w'.cell? ⟨gb919, 0, none⟩ = some (.int .i64 t916) ∧ w'.cell? ⟨gb919, 1, none⟩ = some (.int .i64 t917) ∧ w'.cell? (ad949.add (x16_1).toNat) = some (.int .i64 (rd t920 x16_1))) (ds := []) (bs 11 0) (by kernel_rfl) rfl (by kernel_rfl) ⟨(blk_cell BK919.out 0).trans rfl, (blk_cell BK919.out 1).trans rfl, hx949_0⟩ (fun hHeld => ?_); refine with_tabW laws_FnDegrees.tab19 laws_FnDegrees.bits19 (fun HT_ HW_ => ?_)
                     generalize wr.drew = w96 at HO_8 BK911 BK915 BK919 BK934 BK938 BK943 HB hx949_0 hHeld ⊢
                     refine pu_ HT_ 0 146 (bs 11 1) ?_
                     refine pu_ HT_ 1 147 (bs 11 3) ?_
                     refine pu_ HT_ 2 148 (bs 11 7) ?_
                     refine pu_ HT_ 7 153 (bs 11 135) ?_
                     refine ta3_ HT_ HW_ 3 149 (bs 11 143) hHeld ?_
                     refine pu_ HT_ 4 150 (bs 11 159) ?_
                     refine pu_ HT_ 5 151 (bs 11 191) ?_
                     refine ta3_ HT_ HW_ 6 152 (bs 11 255) hHeld ?_
                     refine on_ HT_ 8 154 (bs 11 511) (fun K hK => ?_)
                     refine goes_ Tryd.func23 (by kernel_rfl) rfl #[.agg #[.int .i64 t916, .int .i64 t917], .int .i64 x16_1] (by rfl) rfl rfl mp_ ?_
                     with_reducible refine (impl_ValueAt.calls t916 t917 x16_1 t950 _ A94.out).mono ?_
                     rintro e w97 ⟨rfl, hb⟩
                     have HS2_ := (hb.cell (World.block_lt_of_cell? _ _ (hHeld.2.2))).trans (hHeld.2.2)
                     refine ⟨_, rfl, ?_⟩
                     replace HO_8 := Aside0.mk (Kd.R_below (rv_ HO_8) hb)
                     replace BK911 := kb_ BK911 hb
                     replace BK915 := kb_ BK915 hb
                     replace BK919 := kb_ BK919 hb
                     replace BK934 := kb_ BK934 hb
                     replace BK938 := kb_ BK938 hb
                     replace BK943 := kb_ BK943 hb
                     replace HB := Aside0.mk (below_step (bv6_ HB GE911 GE915 GE919 GE934 GE938 GE943) hb)
                     (try clear hb)
                     (try clear hb2)
                     (try clear hk)
                     (try clear hi)
                     refine hK.out _ _ ⟨(blk_cell BK919.out 0).trans rfl, (blk_cell BK919.out 1).trans rfl, HS2_⟩ (fun hHeld => ?_)
                     clear hK K
                     refine no_ 154 ?_
                     refine pu_ HT_ 9 155 (bs 11 1023) ?_
                     refine pu_ HT_ 10 156 (bs 11 2047) ?_
                     refine done_ (done_of HT_.out (by kernel_rfl)) ?_
                     try go_wp2
                     go_roundg k1
                     case measure => have := HK1.out; omega
                     case rel => exact ⟨(wrap64 (x16_1 + 1)), (by first | rfl | (simp; done) | (simp [*]; done)), H', ⟨by have := HK1.out; omega⟩, ⟨by (with_reducible repeat (first | apply Kd.R_alloc | apply Kd.R_drewN | apply Kd.R_drew)); exact HO_8.out⟩, ⟨by (with_reducible repeat (first | refine blk_drewN ?_ _ | refine blk_drew ?_ | refine blk_alloc ?_ _)); exact BK911.out⟩, ⟨by (with_reducible repeat (first | refine blk_drewN ?_ _ | refine blk_drew ?_ | refine blk_alloc ?_ _)); exact BK915.out⟩, ⟨by (with_reducible repeat (first | refine blk_drewN ?_ _ | refine blk_drew ?_ | refine blk_alloc ?_ _)); exact BK919.out⟩, ⟨by (with_reducible repeat (first | refine blk_drewN ?_ _ | refine blk_drew ?_ | refine blk_alloc ?_ _)); exact BK934.out⟩, ⟨by (with_reducible repeat (first | refine blk_drewN ?_ _ | refine blk_drew ?_ | refine blk_alloc ?_ _)); exact BK938.out⟩, ⟨by (with_reducible repeat (first | refine blk_drewN ?_ _ | refine blk_drew ?_ | refine blk_alloc ?_ _)); exact BK943.out⟩, ⟨bv6_ HB GE911 GE915 GE919 GE934 GE938 GE943⟩⟩
                   ·rw [if_neg c93] at H
                    exact absurd H (by simp)
                  ·rw [if_neg c92] at H
                   have c92b0 : decide (x16_1 < (t920.length : Int)) = false := decide_eq_false c92
                   clear c92
                   replace H := Option.bind_eq_some_iff.mp H
                   obtain ⟨t951, A980, H⟩ := H
                   have A98 := Aside0.mk A980
                   clear A980
                   replace H := Option.bind_eq_some_iff.mp H
                   obtain ⟨⟨t954, t955, t956⟩, A990, H⟩ := H
                   dsimp only at H
                   have A99 := Aside0.mk A990
                   clear A990
                   replace H := Option.bind_eq_some_iff.mp H
                   obtain ⟨⟨t958, t959, t960⟩, A1000, H⟩ := H
                   dsimp only at H
                   have A100 := Aside0.mk A1000
                   clear A1000
                   replace H := Option.bind_eq_some_iff.mp H
                   obtain ⟨⟨t962, t963⟩, A1010, H⟩ := H
                   dsimp only at H
                   have A101 := Aside0.mk A1010
                   clear A1010
                   replace H := Option.bind_eq_some_iff.mp H
                   obtain ⟨⟨t964, t965, t966⟩, A1020, H⟩ := H
                   dsimp only at H
                   have A102 := Aside0.mk A1020
                   clear A1020
                   replace H := Option.bind_eq_some_iff.mp H
                   obtain ⟨⟨t968, t969, t970⟩, A1030, H⟩ := H
                   dsimp only at H
                   have A103 := Aside0.mk A1030
                   clear A1030
                   replace H := Option.bind_eq_some_iff.mp H
                   obtain ⟨⟨t972, t973⟩, A1040, H⟩ := H
                   dsimp only at H
                   have A104 := Aside0.mk A1040
                   clear A1040
                   by_cases c105 : (t954 == t958 && (t955 == t959)) = true
                   ·rw [if_pos c105] at H
                    have c105b0 : (t954 == t958 && (t955 == t959)) = true := c105
                    have c105e_ : t954 = t958 ∧ t955 = t959 := by simpa using c105b0
                    have c105e0 : (t954 = t958) = True := eq_true c105e_.1
                    have c105e1 : (t955 = t959) = True := eq_true c105e_.2
                    clear c105e_
                    (try (have c105b1 : decide (t954 = t958 && (t955 == t959)) = true := by simpa using c105))
                    (try (have c105b2 : (t954 == t958 && (t955 == t959)) = true := by simpa using c105))
                    clear c105
                    by_cases c106 : (t956 == t960) = true
                    ·rw [if_pos c106] at H
                     have c106b0 : (t956 == t960) = true := c106
                     (try (have c106b1 : decide (t956 = t960) = true := by simpa using c106))
                     (try (have c106b2 : (t956 == t960) = true := by simpa using c106))
                     clear c106
                     by_cases c107 : (t964 == t968 && (t965 == t969)) = true
                     ·rw [if_pos c107] at H
                      have c107b0 : (t964 == t968 && (t965 == t969)) = true := c107
                      have c107e_ : t964 = t968 ∧ t965 = t969 := by simpa using c107b0
                      have c107e0 : (t964 = t968) = True := eq_true c107e_.1
                      have c107e1 : (t965 = t969) = True := eq_true c107e_.2
                      clear c107e_
                      (try (have c107b1 : decide (t964 = t968 && (t965 == t969)) = true := by simpa using c107))
                      (try (have c107b2 : (t964 == t968 && (t965 == t969)) = true := by simpa using c107))
                      clear c107
                      by_cases c108 : (t966 == t970) = true
                      ·rw [if_pos c108] at H
                       have c108b0 : (t966 == t970) = true := c108
                       (try (have c108b1 : decide (t966 = t970) = true := by simpa using c108))
                       (try (have c108b2 : (t966 == t970) = true := by simpa using c108))
                       clear c108
                       replace H := Option.bind_eq_some_iff.mp H
                       obtain ⟨t975, A1090, H⟩ := H
                       have A109 := Aside0.mk A1090
                       clear A1090
                       replace H := Option.bind_eq_some_iff.mp H
                       obtain ⟨t976, A1100, H⟩ := H
                       have A110 := Aside0.mk A1100
                       clear A1100
                       obtain rfl := Option.some.inj H
                       try go_wp2_with (first | ((with_reducible refine gate_callee (f := 24) rfl ?_); refine gl_ 158 Tryd.func24 #[.slice A0 l0.length c0] rfl mp_ ?_; (with_reducible refine (spec_DrawTableOfCoefficients.calls k1 _ _ l0 t951 _ ?side1 ?side2 A98.out).mono ?_); (case side1 => exact cv_ (Kd.C_below HR0.out HB.out)); (case side2 => exact HC0.out); rintro e w111 ⟨v952, rfl, ho0, hb⟩; refine ⟨_, rfl, ?_⟩; have HO953 := Aside0.mk (Kd.R_lower (Kd.R_new' ho0 (Kd.R_lt (rv_ HO_8))) (below_size (bv6_ HB GE911 GE915 GE919 GE934 GE938 GE943))); replace HO_8 := Aside0.mk (Kd.R_elder' (rv_ HO_8) (Kd.R_base ho0) hb); replace BK911 := kb_ BK911 hb; replace BK915 := kb_ BK915 hb; replace BK919 := kb_ BK919 hb; replace BK934 := kb_ BK934 hb; replace BK938 := kb_ BK938 hb; replace BK943 := kb_ BK943 hb; replace HB := Aside0.mk (below_step (bv6_ HB GE911 GE915 GE919 GE934 GE938 GE943) hb); (try clear hb); (try clear hb2); (try clear hk); (try clear hi); (try clear ho0); obtain ⟨Ao112, co112, eo112⟩ := Kd.R_slice HO953.out; subst eo112) | ((with_reducible refine gate_callee (f := 19) rfl ?_); refine gl_ 161 Tryd.func19 #[.slice Ao112 t951.length co112] rfl mp_ ?_; (with_reducible refine (impl_TableOfCoefficients.calls k1 _ _ t951 t954 t955 t956 _ ?side1 ?side2 A99.out).mono ?_); (case side1 => repeat (first | exact (Kd.R_reads' HO953.out).2.2 | (with_reducible refine Kd.C_alloc ?_ _) | (with_reducible refine Kd.C_drewN ?_ _) | (with_reducible refine Kd.C_drew ?_))); (case side2 => exact (Kd.R_reads' HO953.out).2.1); rintro e w113 ⟨rfl, hb⟩; refine ⟨_, rfl, ?_⟩; replace HO_8 := Aside0.mk (Kd.R_below (rv_ HO_8) hb); replace HO953 := Aside0.mk (Kd.R_below (rv_ HO953) hb); replace BK911 := kb_ BK911 hb; replace BK915 := kb_ BK915 hb; replace BK919 := kb_ BK919 hb; replace BK934 := kb_ BK934 hb; replace BK938 := kb_ BK938 hb; replace BK943 := kb_ BK943 hb; replace HB := Aside0.mk (below_step (bv6_ HB GE911 GE915 GE919 GE934 GE938 GE943) hb); (try clear hb); (try clear hb2); (try clear hk); (try clear hi)) | ((with_reducible refine gate_dst (N := 18) rfl ?_); refine bx_ 18 #[.int .i64 0, .int .i64 0] 23 ?_; intro gb957 hg w114 hbox hb; replace HO_8 := Aside0.mk (Kd.R_below (rv_ HO_8) hb); replace HO953 := Aside0.mk (Kd.R_below (rv_ HO953) hb); have BK957 := Aside0.mk (hbox); have GW957 := gw_ hg (below_size (bv6_ HB GE911 GE915 GE919 GE934 GE938 GE943)); have GE957 := GW957; replace HB := Aside0.mk (below_step (bv6_ HB GE911 GE915 GE919 GE934 GE938 GE943) hb); have NB911_957 := nb_ hg (blk_lt (g := gb911) (o := .cells #[.int .i64 t909, .int .i64 t910] 23 (0, 0)) (kv_ BK911)); have NB957_911 := nc_ hg (blk_lt (g := gb911) (o := .cells #[.int .i64 t909, .int .i64 t910] 23 (0, 0)) (kv_ BK911)); replace BK911 := kb_ BK911 hb; have NB915_957 := nb_ hg (blk_lt (g := gb915) (o := .cells #[.int .i64 t912, .int .i64 t913] 23 (0, 0)) (kv_ BK915)); have NB957_915 := nc_ hg (blk_lt (g := gb915) (o := .cells #[.int .i64 t912, .int .i64 t913] 23 (0, 0)) (kv_ BK915)); replace BK915 := kb_ BK915 hb; have NB919_957 := nb_ hg (blk_lt (g := gb919) (o := .cells #[.int .i64 t916, .int .i64 t917] 23 (0, 0)) (kv_ BK919)); have NB957_919 := nc_ hg (blk_lt (g := gb919) (o := .cells #[.int .i64 t916, .int .i64 t917] 23 (0, 0)) (kv_ BK919)); replace BK919 := kb_ BK919 hb; have NB934_957 := nb_ hg (blk_lt (g := gb934) (o := .cells #[.int .i64 t931, .int .i64 t932] 23 (0, 0)) (kv_ BK934)); have NB957_934 := nc_ hg (blk_lt (g := gb934) (o := .cells #[.int .i64 t931, .int .i64 t932] 23 (0, 0)) (kv_ BK934)); replace BK934 := kb_ BK934 hb; have NB938_957 := nb_ hg (blk_lt (g := gb938) (o := .cells #[.int .i64 t935, .int .i64 t936] 23 (0, 0)) (kv_ BK938)); have NB957_938 := nc_ hg (blk_lt (g := gb938) (o := .cells #[.int .i64 t935, .int .i64 t936] 23 (0, 0)) (kv_ BK938)); replace BK938 := kb_ BK938 hb; have NB943_957 := nb_ hg (blk_lt (g := gb943) (o := .cells #[.int .i64 t940, .int .i64 t941] 23 (0, 0)) (kv_ BK943)); have NB957_943 := nc_ hg (blk_lt (g := gb943) (o := .cells #[.int .i64 t940, .int .i64 t941] 23 (0, 0)) (kv_ BK943)); replace BK943 := kb_ BK943 hb; clear hb hbox hg; have hnb115 := NB957_911.out; have hnc115 := NB911_957.out; have hnb116 := NB957_915.out; have hnc116 := NB915_957.out; have hnb117 := NB957_919.out; have hnc117 := NB919_957.out; have hnb118 := NB957_934.out; have hnc118 := NB934_957.out; have hnb119 := NB957_938.out; have hnc119 := NB938_957.out; have hnb120 := NB957_943.out; have hnc120 := NB943_957.out; obtain ⟨hcz121_0, hcz121_1, hfz121_0, hfz121_1⟩ := c2_ BK957) | ((with_reducible refine gate_callee (f := 25) rfl ?_); refine gl_ 166 Tryd.func25 #[.slice Ao112 t951.length co112] rfl mp_ ?_; (with_reducible refine (spec_TableOfCoefficients.calls k1 _ _ t951 t958 t959 t960 _ ?side1 ?side2 A100.out).mono ?_); (case side1 => refine (Kd.R_reads' (e := 3) (base := w.heap.size) (ok := fun k_ => (True ∧ some k_ ≠ (.slice Ao54 t920.length co54 : Value).ownBlock)) (n := t951.length) (c := co112) ?_).2.2; exact (by (with_reducible repeat (first | apply Kd.R_alloc | apply Kd.R_drewN | apply Kd.R_drew)); exact (Kd.R_mono (Kd.R_far (p := ⟨gb957, 1, none⟩) (Kd.R_far (p := ⟨gb957, 0, none⟩) (Kd.R_types HO953.out BK957.out (by decide)) (fun _ hk => hk.2) (.int .i64 t954)) (fun _ hk => hk.2) (.int .i64 t955)) (fun _ h_ => h_.1)))); (case side2 => exact (Kd.R_reads' HO953.out).2.1); rintro e w122 ⟨rfl, hb⟩; refine ⟨_, rfl, ?_⟩; replace HO_8 := Aside0.mk (Kd.R_below (by (with_reducible repeat (first | apply Kd.R_alloc | apply Kd.R_drewN | apply Kd.R_drew)); exact (Kd.R_mono (Kd.R_far (p := ⟨gb957, 1, none⟩) (Kd.R_far (p := ⟨gb957, 0, none⟩) (Kd.R_types HO_8.out BK957.out (by decide)) (fun _ hk => hk.2) (.int .i64 t954)) (fun _ hk => hk.2) (.int .i64 t955)) (fun _ h_ => h_.1))) hb); replace HO953 := Aside0.mk (Kd.R_below (by (with_reducible repeat (first | apply Kd.R_alloc | apply Kd.R_drewN | apply Kd.R_drew)); exact (Kd.R_mono (Kd.R_far (p := ⟨gb957, 1, none⟩) (Kd.R_far (p := ⟨gb957, 0, none⟩) (Kd.R_types HO953.out BK957.out (by decide)) (fun _ hk => hk.2) (.int .i64 t954)) (fun _ hk => hk.2) (.int .i64 t955)) (fun _ h_ => h_.1))) hb); replace BK911 := Aside0.mk (blk_below (g := gb911) (o := .cells #[.int .i64 t909, .int .i64 t910] 23 (0, 0)) (by (with_reducible repeat (first | refine blk_drewN ?_ _ | refine blk_drew ?_ | refine blk_alloc ?_ _)); refine blk_far ?_ NB911_957.out _; (with_reducible repeat (first | refine blk_drewN ?_ _ | refine blk_drew ?_ | refine blk_alloc ?_ _)); refine blk_far ?_ NB911_957.out _; (with_reducible repeat (first | refine blk_drewN ?_ _ | refine blk_drew ?_ | refine blk_alloc ?_ _)); exact BK911.out) hb); replace BK915 := Aside0.mk (blk_below (g := gb915) (o := .cells #[.int .i64 t912, .int .i64 t913] 23 (0, 0)) (by (with_reducible repeat (first | refine blk_drewN ?_ _ | refine blk_drew ?_ | refine blk_alloc ?_ _)); refine blk_far ?_ NB915_957.out _; (with_reducible repeat (first | refine blk_drewN ?_ _ | refine blk_drew ?_ | refine blk_alloc ?_ _)); refine blk_far ?_ NB915_957.out _; (with_reducible repeat (first | refine blk_drewN ?_ _ | refine blk_drew ?_ | refine blk_alloc ?_ _)); exact BK915.out) hb); replace BK919 := Aside0.mk (blk_below (g := gb919) (o := .cells #[.int .i64 t916, .int .i64 t917] 23 (0, 0)) (by (with_reducible repeat (first | refine blk_drewN ?_ _ | refine blk_drew ?_ | refine blk_alloc ?_ _)); refine blk_far ?_ NB919_957.out _; (with_reducible repeat (first | refine blk_drewN ?_ _ | refine blk_drew ?_ | refine blk_alloc ?_ _)); refine blk_far ?_ NB919_957.out _; (with_reducible repeat (first | refine blk_drewN ?_ _ | refine blk_drew ?_ | refine blk_alloc ?_ _)); exact BK919.out) hb); replace BK934 := Aside0.mk (blk_below (g := gb934) (o := .cells #[.int .i64 t931, .int .i64 t932] 23 (0, 0)) (by (with_reducible repeat (first | refine blk_drewN ?_ _ | refine blk_drew ?_ | refine blk_alloc ?_ _)); refine blk_far ?_ NB934_957.out _; (with_reducible repeat (first | refine blk_drewN ?_ _ | refine blk_drew ?_ | refine blk_alloc ?_ _)); refine blk_far ?_ NB934_957.out _; (with_reducible repeat (first | refine blk_drewN ?_ _ | refine blk_drew ?_ | refine blk_alloc ?_ _)); exact BK934.out) hb); replace BK938 := Aside0.mk (blk_below (g := gb938) (o := .cells #[.int .i64 t935, .int .i64 t936] 23 (0, 0)) (by (with_reducible repeat (first | refine blk_drewN ?_ _ | refine blk_drew ?_ | refine blk_alloc ?_ _)); refine blk_far ?_ NB938_957.out _; (with_reducible repeat (first | refine blk_drewN ?_ _ | refine blk_drew ?_ | refine blk_alloc ?_ _)); refine blk_far ?_ NB938_957.out _; (with_reducible repeat (first | refine blk_drewN ?_ _ | refine blk_drew ?_ | refine blk_alloc ?_ _)); exact BK938.out) hb); replace BK943 := Aside0.mk (blk_below (g := gb943) (o := .cells #[.int .i64 t940, .int .i64 t941] 23 (0, 0)) (by (with_reducible repeat (first | refine blk_drewN ?_ _ | refine blk_drew ?_ | refine blk_alloc ?_ _)); refine blk_far ?_ NB943_957.out _; (with_reducible repeat (first | refine blk_drewN ?_ _ | refine blk_drew ?_ | refine blk_alloc ?_ _)); refine blk_far ?_ NB943_957.out _; (with_reducible repeat (first | refine blk_drewN ?_ _ | refine blk_drew ?_ | refine blk_alloc ?_ _)); exact BK943.out) hb); replace BK957 := Aside0.mk (blk_below (g := gb957) (o := .cells #[.int .i64 t954, .int .i64 t955] 23 (0, 0)) (by (with_reducible repeat (first | refine blk_drewN ?_ _ | refine blk_drew ?_ | refine blk_alloc ?_ _)); refine blk_put (cs := #[.int .i64 t954, .int .i64 0]) ?_ 1 _ rfl; (with_reducible repeat (first | refine blk_drewN ?_ _ | refine blk_drew ?_ | refine blk_alloc ?_ _)); refine blk_put (cs := #[.int .i64 0, .int .i64 0]) ?_ 0 _ rfl; (with_reducible repeat (first | refine blk_drewN ?_ _ | refine blk_drew ?_ | refine blk_alloc ?_ _)); exact BK957.out) hb); replace HB := Aside0.mk (below_step (bv7_ HB GE911 GE915 GE919 GE934 GE938 GE943 GE957) hb); (try clear hb); (try clear hb2); (try clear hk); (try clear hi)) | ((with_reducible refine gate_dst (N := 20) rfl ?_); refine bx_ 20 #[.int .i64 0, .int .i64 0] 23 ?_; intro gb961 hg w123 hbox hb; replace HO_8 := Aside0.mk (Kd.R_below (rv_ HO_8) hb); replace HO953 := Aside0.mk (Kd.R_below (rv_ HO953) hb); have BK961 := Aside0.mk (hbox); have GW961 := gw_ hg (below_size (bv7_ HB GE911 GE915 GE919 GE934 GE938 GE943 GE957)); have GE961 := GW961; replace HB := Aside0.mk (below_step (bv7_ HB GE911 GE915 GE919 GE934 GE938 GE943 GE957) hb); have NB911_961 := nb_ hg (blk_lt (g := gb911) (o := .cells #[.int .i64 t909, .int .i64 t910] 23 (0, 0)) (kv_ BK911)); have NB961_911 := nc_ hg (blk_lt (g := gb911) (o := .cells #[.int .i64 t909, .int .i64 t910] 23 (0, 0)) (kv_ BK911)); replace BK911 := kb_ BK911 hb; have NB915_961 := nb_ hg (blk_lt (g := gb915) (o := .cells #[.int .i64 t912, .int .i64 t913] 23 (0, 0)) (kv_ BK915)); have NB961_915 := nc_ hg (blk_lt (g := gb915) (o := .cells #[.int .i64 t912, .int .i64 t913] 23 (0, 0)) (kv_ BK915)); replace BK915 := kb_ BK915 hb; have NB919_961 := nb_ hg (blk_lt (g := gb919) (o := .cells #[.int .i64 t916, .int .i64 t917] 23 (0, 0)) (kv_ BK919)); have NB961_919 := nc_ hg (blk_lt (g := gb919) (o := .cells #[.int .i64 t916, .int .i64 t917] 23 (0, 0)) (kv_ BK919)); replace BK919 := kb_ BK919 hb; have NB934_961 := nb_ hg (blk_lt (g := gb934) (o := .cells #[.int .i64 t931, .int .i64 t932] 23 (0, 0)) (kv_ BK934)); have NB961_934 := nc_ hg (blk_lt (g := gb934) (o := .cells #[.int .i64 t931, .int .i64 t932] 23 (0, 0)) (kv_ BK934)); replace BK934 := kb_ BK934 hb; have NB938_961 := nb_ hg (blk_lt (g := gb938) (o := .cells #[.int .i64 t935, .int .i64 t936] 23 (0, 0)) (kv_ BK938)); have NB961_938 := nc_ hg (blk_lt (g := gb938) (o := .cells #[.int .i64 t935, .int .i64 t936] 23 (0, 0)) (kv_ BK938)); replace BK938 := kb_ BK938 hb; have NB943_961 := nb_ hg (blk_lt (g := gb943) (o := .cells #[.int .i64 t940, .int .i64 t941] 23 (0, 0)) (kv_ BK943)); have NB961_943 := nc_ hg (blk_lt (g := gb943) (o := .cells #[.int .i64 t940, .int .i64 t941] 23 (0, 0)) (kv_ BK943)); replace BK943 := kb_ BK943 hb; have NB957_961 := nb_ hg (blk_lt (g := gb957) (o := .cells #[.int .i64 t954, .int .i64 t955] 23 (0, 0)) (kv_ BK957)); have NB961_957 := nc_ hg (blk_lt (g := gb957) (o := .cells #[.int .i64 t954, .int .i64 t955] 23 (0, 0)) (kv_ BK957)); replace BK957 := kb_ BK957 hb; clear hb hbox hg; have hnb124 := NB961_911.out; have hnc124 := NB911_961.out; have hnb125 := NB961_915.out; have hnc125 := NB915_961.out; have hnb126 := NB961_919.out; have hnc126 := NB919_961.out; have hnb127 := NB961_934.out; have hnc127 := NB934_961.out; have hnb128 := NB961_938.out; have hnc128 := NB938_961.out; have hnb129 := NB961_943.out; have hnc129 := NB943_961.out; have hnb130 := NB961_957.out; have hnc130 := NB957_961.out; obtain ⟨hcz131_0, hcz131_1, hfz131_0, hfz131_1⟩ := c2_ BK961) | ((with_reducible refine gate_callee (f := 26) rfl ?_); refine gl_ 171 Tryd.func26 #[.slice A0 l0.length c0] rfl mp_ ?_; (with_reducible refine (spec_DrawParseAnf.calls k1 _ _ l0 t962 t963 _ ?side1 ?side2 A101.out).mono ?_); (case side1 => exact Kd.C_below HR0.out (bv8_ HB GE911 GE915 GE919 GE934 GE938 GE943 GE957 GE961)); (case side2 => exact HC0.out); rintro e w132 ⟨rfl, hb⟩; refine ⟨_, rfl, ?_⟩; replace HO_8 := Aside0.mk (Kd.R_below (by (with_reducible repeat (first | apply Kd.R_alloc | apply Kd.R_drewN | apply Kd.R_drew)); exact (Kd.R_mono (Kd.R_far (p := ⟨gb961, 1, none⟩) (Kd.R_far (p := ⟨gb961, 0, none⟩) (Kd.R_types HO_8.out BK961.out (by decide)) (fun _ hk => hk.2) (.int .i64 t958)) (fun _ hk => hk.2) (.int .i64 t959)) (fun _ h_ => h_.1))) hb); replace HO953 := Aside0.mk (Kd.R_below (by (with_reducible repeat (first | apply Kd.R_alloc | apply Kd.R_drewN | apply Kd.R_drew)); exact (Kd.R_mono (Kd.R_far (p := ⟨gb961, 1, none⟩) (Kd.R_far (p := ⟨gb961, 0, none⟩) (Kd.R_types HO953.out BK961.out (by decide)) (fun _ hk => hk.2) (.int .i64 t958)) (fun _ hk => hk.2) (.int .i64 t959)) (fun _ h_ => h_.1))) hb); replace BK911 := Aside0.mk (blk_below (g := gb911) (o := .cells #[.int .i64 t909, .int .i64 t910] 23 (0, 0)) (by (with_reducible repeat (first | refine blk_drewN ?_ _ | refine blk_drew ?_ | refine blk_alloc ?_ _)); refine blk_far ?_ NB911_961.out _; (with_reducible repeat (first | refine blk_drewN ?_ _ | refine blk_drew ?_ | refine blk_alloc ?_ _)); refine blk_far ?_ NB911_961.out _; (with_reducible repeat (first | refine blk_drewN ?_ _ | refine blk_drew ?_ | refine blk_alloc ?_ _)); exact BK911.out) hb); replace BK915 := Aside0.mk (blk_below (g := gb915) (o := .cells #[.int .i64 t912, .int .i64 t913] 23 (0, 0)) (by (with_reducible repeat (first | refine blk_drewN ?_ _ | refine blk_drew ?_ | refine blk_alloc ?_ _)); refine blk_far ?_ NB915_961.out _; (with_reducible repeat (first | refine blk_drewN ?_ _ | refine blk_drew ?_ | refine blk_alloc ?_ _)); refine blk_far ?_ NB915_961.out _; (with_reducible repeat (first | refine blk_drewN ?_ _ | refine blk_drew ?_ | refine blk_alloc ?_ _)); exact BK915.out) hb); replace BK919 := Aside0.mk (blk_below (g := gb919) (o := .cells #[.int .i64 t916, .int .i64 t917] 23 (0, 0)) (by (with_reducible repeat (first | refine blk_drewN ?_ _ | refine blk_drew ?_ | refine blk_alloc ?_ _)); refine blk_far ?_ NB919_961.out _; (with_reducible repeat (first | refine blk_drewN ?_ _ | refine blk_drew ?_ | refine blk_alloc ?_ _)); refine blk_far ?_ NB919_961.out _; (with_reducible repeat (first | refine blk_drewN ?_ _ | refine blk_drew ?_ | refine blk_alloc ?_ _)); exact BK919.out) hb); replace BK934 := Aside0.mk (blk_below (g := gb934) (o := .cells #[.int .i64 t931, .int .i64 t932] 23 (0, 0)) (by (with_reducible repeat (first | refine blk_drewN ?_ _ | refine blk_drew ?_ | refine blk_alloc ?_ _)); refine blk_far ?_ NB934_961.out _; (with_reducible repeat (first | refine blk_drewN ?_ _ | refine blk_drew ?_ | refine blk_alloc ?_ _)); refine blk_far ?_ NB934_961.out _; (with_reducible repeat (first | refine blk_drewN ?_ _ | refine blk_drew ?_ | refine blk_alloc ?_ _)); exact BK934.out) hb); replace BK938 := Aside0.mk (blk_below (g := gb938) (o := .cells #[.int .i64 t935, .int .i64 t936] 23 (0, 0)) (by (with_reducible repeat (first | refine blk_drewN ?_ _ | refine blk_drew ?_ | refine blk_alloc ?_ _)); refine blk_far ?_ NB938_961.out _; (with_reducible repeat (first | refine blk_drewN ?_ _ | refine blk_drew ?_ | refine blk_alloc ?_ _)); refine blk_far ?_ NB938_961.out _; (with_reducible repeat (first | refine blk_drewN ?_ _ | refine blk_drew ?_ | refine blk_alloc ?_ _)); exact BK938.out) hb); replace BK943 := Aside0.mk (blk_below (g := gb943) (o := .cells #[.int .i64 t940, .int .i64 t941] 23 (0, 0)) (by (with_reducible repeat (first | refine blk_drewN ?_ _ | refine blk_drew ?_ | refine blk_alloc ?_ _)); refine blk_far ?_ NB943_961.out _; (with_reducible repeat (first | refine blk_drewN ?_ _ | refine blk_drew ?_ | refine blk_alloc ?_ _)); refine blk_far ?_ NB943_961.out _; (with_reducible repeat (first | refine blk_drewN ?_ _ | refine blk_drew ?_ | refine blk_alloc ?_ _)); exact BK943.out) hb); replace BK957 := Aside0.mk (blk_below (g := gb957) (o := .cells #[.int .i64 t954, .int .i64 t955] 23 (0, 0)) (by (with_reducible repeat (first | refine blk_drewN ?_ _ | refine blk_drew ?_ | refine blk_alloc ?_ _)); refine blk_far ?_ NB957_961.out _; (with_reducible repeat (first | refine blk_drewN ?_ _ | refine blk_drew ?_ | refine blk_alloc ?_ _)); refine blk_far ?_ NB957_961.out _; (with_reducible repeat (first | refine blk_drewN ?_ _ | refine blk_drew ?_ | refine blk_alloc ?_ _)); exact BK957.out) hb); replace BK961 := Aside0.mk (blk_below (g := gb961) (o := .cells #[.int .i64 t958, .int .i64 t959] 23 (0, 0)) (by (with_reducible repeat (first | refine blk_drewN ?_ _ | refine blk_drew ?_ | refine blk_alloc ?_ _)); refine blk_put (cs := #[.int .i64 t958, .int .i64 0]) ?_ 1 _ rfl; (with_reducible repeat (first | refine blk_drewN ?_ _ | refine blk_drew ?_ | refine blk_alloc ?_ _)); refine blk_put (cs := #[.int .i64 0, .int .i64 0]) ?_ 0 _ rfl; (with_reducible repeat (first | refine blk_drewN ?_ _ | refine blk_drew ?_ | refine blk_alloc ?_ _)); exact BK961.out) hb); replace HB := Aside0.mk (below_step (bv8_ HB GE911 GE915 GE919 GE934 GE938 GE943 GE957 GE961) hb); (try clear hb); (try clear hb2); (try clear hk); (try clear hi)) | ((with_reducible refine gate_callee (f := 6) rfl ?_); refine gl_ 177 Tryd.func6 #[.int .i64 t962, .string t963] rfl mp_ ?_; (with_reducible refine (impl_ParseAnf.calls k1 t962 t963 t964 t965 t966 _ A102.out).mono ?_); rintro e w133 ⟨rfl, hb⟩; refine ⟨_, rfl, ?_⟩; replace HO_8 := Aside0.mk (Kd.R_below (rv_ HO_8) hb); replace HO953 := Aside0.mk (Kd.R_below (rv_ HO953) hb); replace BK911 := kb_ BK911 hb; replace BK915 := kb_ BK915 hb; replace BK919 := kb_ BK919 hb; replace BK934 := kb_ BK934 hb; replace BK938 := kb_ BK938 hb; replace BK943 := kb_ BK943 hb; replace BK957 := kb_ BK957 hb; replace BK961 := kb_ BK961 hb; replace HB := Aside0.mk (below_step (bv8_ HB GE911 GE915 GE919 GE934 GE938 GE943 GE957 GE961) hb); (try clear hb); (try clear hb2); (try clear hk); (try clear hi)) | ((with_reducible refine gate_dst (N := 24) rfl ?_); refine bx_ 24 #[.int .i64 0, .int .i64 0] 23 ?_; intro gb967 hg w134 hbox hb; replace HO_8 := Aside0.mk (Kd.R_below (rv_ HO_8) hb); replace HO953 := Aside0.mk (Kd.R_below (rv_ HO953) hb); have BK967 := Aside0.mk (hbox); have GW967 := gw_ hg (below_size (bv8_ HB GE911 GE915 GE919 GE934 GE938 GE943 GE957 GE961)); have GE967 := GW967; replace HB := Aside0.mk (below_step (bv8_ HB GE911 GE915 GE919 GE934 GE938 GE943 GE957 GE961) hb); have NB911_967 := nb_ hg (blk_lt (g := gb911) (o := .cells #[.int .i64 t909, .int .i64 t910] 23 (0, 0)) (kv_ BK911)); have NB967_911 := nc_ hg (blk_lt (g := gb911) (o := .cells #[.int .i64 t909, .int .i64 t910] 23 (0, 0)) (kv_ BK911)); replace BK911 := kb_ BK911 hb; have NB915_967 := nb_ hg (blk_lt (g := gb915) (o := .cells #[.int .i64 t912, .int .i64 t913] 23 (0, 0)) (kv_ BK915)); have NB967_915 := nc_ hg (blk_lt (g := gb915) (o := .cells #[.int .i64 t912, .int .i64 t913] 23 (0, 0)) (kv_ BK915)); replace BK915 := kb_ BK915 hb; have NB919_967 := nb_ hg (blk_lt (g := gb919) (o := .cells #[.int .i64 t916, .int .i64 t917] 23 (0, 0)) (kv_ BK919)); have NB967_919 := nc_ hg (blk_lt (g := gb919) (o := .cells #[.int .i64 t916, .int .i64 t917] 23 (0, 0)) (kv_ BK919)); replace BK919 := kb_ BK919 hb; have NB934_967 := nb_ hg (blk_lt (g := gb934) (o := .cells #[.int .i64 t931, .int .i64 t932] 23 (0, 0)) (kv_ BK934)); have NB967_934 := nc_ hg (blk_lt (g := gb934) (o := .cells #[.int .i64 t931, .int .i64 t932] 23 (0, 0)) (kv_ BK934)); replace BK934 := kb_ BK934 hb; have NB938_967 := nb_ hg (blk_lt (g := gb938) (o := .cells #[.int .i64 t935, .int .i64 t936] 23 (0, 0)) (kv_ BK938)); have NB967_938 := nc_ hg (blk_lt (g := gb938) (o := .cells #[.int .i64 t935, .int .i64 t936] 23 (0, 0)) (kv_ BK938)); replace BK938 := kb_ BK938 hb; have NB943_967 := nb_ hg (blk_lt (g := gb943) (o := .cells #[.int .i64 t940, .int .i64 t941] 23 (0, 0)) (kv_ BK943)); have NB967_943 := nc_ hg (blk_lt (g := gb943) (o := .cells #[.int .i64 t940, .int .i64 t941] 23 (0, 0)) (kv_ BK943)); replace BK943 := kb_ BK943 hb; have NB957_967 := nb_ hg (blk_lt (g := gb957) (o := .cells #[.int .i64 t954, .int .i64 t955] 23 (0, 0)) (kv_ BK957)); have NB967_957 := nc_ hg (blk_lt (g := gb957) (o := .cells #[.int .i64 t954, .int .i64 t955] 23 (0, 0)) (kv_ BK957)); replace BK957 := kb_ BK957 hb; have NB961_967 := nb_ hg (blk_lt (g := gb961) (o := .cells #[.int .i64 t958, .int .i64 t959] 23 (0, 0)) (kv_ BK961)); have NB967_961 := nc_ hg (blk_lt (g := gb961) (o := .cells #[.int .i64 t958, .int .i64 t959] 23 (0, 0)) (kv_ BK961)); replace BK961 := kb_ BK961 hb; clear hb hbox hg; have hnb135 := NB967_911.out; have hnc135 := NB911_967.out; have hnb136 := NB967_915.out; have hnc136 := NB915_967.out; have hnb137 := NB967_919.out; have hnc137 := NB919_967.out; have hnb138 := NB967_934.out; have hnc138 := NB934_967.out; have hnb139 := NB967_938.out; have hnc139 := NB938_967.out; have hnb140 := NB967_943.out; have hnc140 := NB943_967.out; have hnb141 := NB967_957.out; have hnc141 := NB957_967.out; have hnb142 := NB967_961.out; have hnc142 := NB961_967.out; obtain ⟨hcz143_0, hcz143_1, hfz143_0, hfz143_1⟩ := c2_ BK967) | ((with_reducible refine gate_callee (f := 5) rfl ?_); refine gl_ 183 Tryd.func5 #[.int .i64 t962, .string t963] rfl mp_ ?_; (with_reducible refine (spec_ParseAnf.calls k1 t962 t963 t968 t969 t970 _ A103.out).mono ?_); rintro e w144 ⟨rfl, hb⟩; refine ⟨_, rfl, ?_⟩; replace HO_8 := Aside0.mk (Kd.R_below (by (with_reducible repeat (first | apply Kd.R_alloc | apply Kd.R_drewN | apply Kd.R_drew)); exact (Kd.R_mono (Kd.R_far (p := ⟨gb967, 1, none⟩) (Kd.R_far (p := ⟨gb967, 0, none⟩) (Kd.R_types HO_8.out BK967.out (by decide)) (fun _ hk => hk.2) (.int .i64 t964)) (fun _ hk => hk.2) (.int .i64 t965)) (fun _ h_ => h_.1))) hb); replace HO953 := Aside0.mk (Kd.R_below (by (with_reducible repeat (first | apply Kd.R_alloc | apply Kd.R_drewN | apply Kd.R_drew)); exact (Kd.R_mono (Kd.R_far (p := ⟨gb967, 1, none⟩) (Kd.R_far (p := ⟨gb967, 0, none⟩) (Kd.R_types HO953.out BK967.out (by decide)) (fun _ hk => hk.2) (.int .i64 t964)) (fun _ hk => hk.2) (.int .i64 t965)) (fun _ h_ => h_.1))) hb); replace BK911 := Aside0.mk (blk_below (g := gb911) (o := .cells #[.int .i64 t909, .int .i64 t910] 23 (0, 0)) (by (with_reducible repeat (first | refine blk_drewN ?_ _ | refine blk_drew ?_ | refine blk_alloc ?_ _)); refine blk_far ?_ NB911_967.out _; (with_reducible repeat (first | refine blk_drewN ?_ _ | refine blk_drew ?_ | refine blk_alloc ?_ _)); refine blk_far ?_ NB911_967.out _; (with_reducible repeat (first | refine blk_drewN ?_ _ | refine blk_drew ?_ | refine blk_alloc ?_ _)); exact BK911.out) hb); replace BK915 := Aside0.mk (blk_below (g := gb915) (o := .cells #[.int .i64 t912, .int .i64 t913] 23 (0, 0)) (by (with_reducible repeat (first | refine blk_drewN ?_ _ | refine blk_drew ?_ | refine blk_alloc ?_ _)); refine blk_far ?_ NB915_967.out _; (with_reducible repeat (first | refine blk_drewN ?_ _ | refine blk_drew ?_ | refine blk_alloc ?_ _)); refine blk_far ?_ NB915_967.out _; (with_reducible repeat (first | refine blk_drewN ?_ _ | refine blk_drew ?_ | refine blk_alloc ?_ _)); exact BK915.out) hb); replace BK919 := Aside0.mk (blk_below (g := gb919) (o := .cells #[.int .i64 t916, .int .i64 t917] 23 (0, 0)) (by (with_reducible repeat (first | refine blk_drewN ?_ _ | refine blk_drew ?_ | refine blk_alloc ?_ _)); refine blk_far ?_ NB919_967.out _; (with_reducible repeat (first | refine blk_drewN ?_ _ | refine blk_drew ?_ | refine blk_alloc ?_ _)); refine blk_far ?_ NB919_967.out _; (with_reducible repeat (first | refine blk_drewN ?_ _ | refine blk_drew ?_ | refine blk_alloc ?_ _)); exact BK919.out) hb); replace BK934 := Aside0.mk (blk_below (g := gb934) (o := .cells #[.int .i64 t931, .int .i64 t932] 23 (0, 0)) (by (with_reducible repeat (first | refine blk_drewN ?_ _ | refine blk_drew ?_ | refine blk_alloc ?_ _)); refine blk_far ?_ NB934_967.out _; (with_reducible repeat (first | refine blk_drewN ?_ _ | refine blk_drew ?_ | refine blk_alloc ?_ _)); refine blk_far ?_ NB934_967.out _; (with_reducible repeat (first | refine blk_drewN ?_ _ | refine blk_drew ?_ | refine blk_alloc ?_ _)); exact BK934.out) hb); replace BK938 := Aside0.mk (blk_below (g := gb938) (o := .cells #[.int .i64 t935, .int .i64 t936] 23 (0, 0)) (by (with_reducible repeat (first | refine blk_drewN ?_ _ | refine blk_drew ?_ | refine blk_alloc ?_ _)); refine blk_far ?_ NB938_967.out _; (with_reducible repeat (first | refine blk_drewN ?_ _ | refine blk_drew ?_ | refine blk_alloc ?_ _)); refine blk_far ?_ NB938_967.out _; (with_reducible repeat (first | refine blk_drewN ?_ _ | refine blk_drew ?_ | refine blk_alloc ?_ _)); exact BK938.out) hb); replace BK943 := Aside0.mk (blk_below (g := gb943) (o := .cells #[.int .i64 t940, .int .i64 t941] 23 (0, 0)) (by (with_reducible repeat (first | refine blk_drewN ?_ _ | refine blk_drew ?_ | refine blk_alloc ?_ _)); refine blk_far ?_ NB943_967.out _; (with_reducible repeat (first | refine blk_drewN ?_ _ | refine blk_drew ?_ | refine blk_alloc ?_ _)); refine blk_far ?_ NB943_967.out _; (with_reducible repeat (first | refine blk_drewN ?_ _ | refine blk_drew ?_ | refine blk_alloc ?_ _)); exact BK943.out) hb); replace BK957 := Aside0.mk (blk_below (g := gb957) (o := .cells #[.int .i64 t954, .int .i64 t955] 23 (0, 0)) (by (with_reducible repeat (first | refine blk_drewN ?_ _ | refine blk_drew ?_ | refine blk_alloc ?_ _)); refine blk_far ?_ NB957_967.out _; (with_reducible repeat (first | refine blk_drewN ?_ _ | refine blk_drew ?_ | refine blk_alloc ?_ _)); refine blk_far ?_ NB957_967.out _; (with_reducible repeat (first | refine blk_drewN ?_ _ | refine blk_drew ?_ | refine blk_alloc ?_ _)); exact BK957.out) hb); replace BK961 := Aside0.mk (blk_below (g := gb961) (o := .cells #[.int .i64 t958, .int .i64 t959] 23 (0, 0)) (by (with_reducible repeat (first | refine blk_drewN ?_ _ | refine blk_drew ?_ | refine blk_alloc ?_ _)); refine blk_far ?_ NB961_967.out _; (with_reducible repeat (first | refine blk_drewN ?_ _ | refine blk_drew ?_ | refine blk_alloc ?_ _)); refine blk_far ?_ NB961_967.out _; (with_reducible repeat (first | refine blk_drewN ?_ _ | refine blk_drew ?_ | refine blk_alloc ?_ _)); exact BK961.out) hb); replace BK967 := Aside0.mk (blk_below (g := gb967) (o := .cells #[.int .i64 t964, .int .i64 t965] 23 (0, 0)) (by (with_reducible repeat (first | refine blk_drewN ?_ _ | refine blk_drew ?_ | refine blk_alloc ?_ _)); refine blk_put (cs := #[.int .i64 t964, .int .i64 0]) ?_ 1 _ rfl; (with_reducible repeat (first | refine blk_drewN ?_ _ | refine blk_drew ?_ | refine blk_alloc ?_ _)); refine blk_put (cs := #[.int .i64 0, .int .i64 0]) ?_ 0 _ rfl; (with_reducible repeat (first | refine blk_drewN ?_ _ | refine blk_drew ?_ | refine blk_alloc ?_ _)); exact BK967.out) hb); replace HB := Aside0.mk (below_step (bv9_ HB GE911 GE915 GE919 GE934 GE938 GE943 GE957 GE961 GE967) hb); (try clear hb); (try clear hb2); (try clear hk); (try clear hi)) | ((with_reducible refine gate_dst (N := 26) rfl ?_); refine bx_ 26 #[.int .i64 0, .int .i64 0] 23 ?_; intro gb971 hg w145 hbox hb; replace HO_8 := Aside0.mk (Kd.R_below (rv_ HO_8) hb); replace HO953 := Aside0.mk (Kd.R_below (rv_ HO953) hb); have BK971 := Aside0.mk (hbox); have GW971 := gw_ hg (below_size (bv9_ HB GE911 GE915 GE919 GE934 GE938 GE943 GE957 GE961 GE967)); have GE971 := GW971; replace HB := Aside0.mk (below_step (bv9_ HB GE911 GE915 GE919 GE934 GE938 GE943 GE957 GE961 GE967) hb); have NB911_971 := nb_ hg (blk_lt (g := gb911) (o := .cells #[.int .i64 t909, .int .i64 t910] 23 (0, 0)) (kv_ BK911)); have NB971_911 := nc_ hg (blk_lt (g := gb911) (o := .cells #[.int .i64 t909, .int .i64 t910] 23 (0, 0)) (kv_ BK911)); replace BK911 := kb_ BK911 hb; have NB915_971 := nb_ hg (blk_lt (g := gb915) (o := .cells #[.int .i64 t912, .int .i64 t913] 23 (0, 0)) (kv_ BK915)); have NB971_915 := nc_ hg (blk_lt (g := gb915) (o := .cells #[.int .i64 t912, .int .i64 t913] 23 (0, 0)) (kv_ BK915)); replace BK915 := kb_ BK915 hb; have NB919_971 := nb_ hg (blk_lt (g := gb919) (o := .cells #[.int .i64 t916, .int .i64 t917] 23 (0, 0)) (kv_ BK919)); have NB971_919 := nc_ hg (blk_lt (g := gb919) (o := .cells #[.int .i64 t916, .int .i64 t917] 23 (0, 0)) (kv_ BK919)); replace BK919 := kb_ BK919 hb; have NB934_971 := nb_ hg (blk_lt (g := gb934) (o := .cells #[.int .i64 t931, .int .i64 t932] 23 (0, 0)) (kv_ BK934)); have NB971_934 := nc_ hg (blk_lt (g := gb934) (o := .cells #[.int .i64 t931, .int .i64 t932] 23 (0, 0)) (kv_ BK934)); replace BK934 := kb_ BK934 hb; have NB938_971 := nb_ hg (blk_lt (g := gb938) (o := .cells #[.int .i64 t935, .int .i64 t936] 23 (0, 0)) (kv_ BK938)); have NB971_938 := nc_ hg (blk_lt (g := gb938) (o := .cells #[.int .i64 t935, .int .i64 t936] 23 (0, 0)) (kv_ BK938)); replace BK938 := kb_ BK938 hb; have NB943_971 := nb_ hg (blk_lt (g := gb943) (o := .cells #[.int .i64 t940, .int .i64 t941] 23 (0, 0)) (kv_ BK943)); have NB971_943 := nc_ hg (blk_lt (g := gb943) (o := .cells #[.int .i64 t940, .int .i64 t941] 23 (0, 0)) (kv_ BK943)); replace BK943 := kb_ BK943 hb; have NB957_971 := nb_ hg (blk_lt (g := gb957) (o := .cells #[.int .i64 t954, .int .i64 t955] 23 (0, 0)) (kv_ BK957)); have NB971_957 := nc_ hg (blk_lt (g := gb957) (o := .cells #[.int .i64 t954, .int .i64 t955] 23 (0, 0)) (kv_ BK957)); replace BK957 := kb_ BK957 hb; have NB961_971 := nb_ hg (blk_lt (g := gb961) (o := .cells #[.int .i64 t958, .int .i64 t959] 23 (0, 0)) (kv_ BK961)); have NB971_961 := nc_ hg (blk_lt (g := gb961) (o := .cells #[.int .i64 t958, .int .i64 t959] 23 (0, 0)) (kv_ BK961)); replace BK961 := kb_ BK961 hb; have NB967_971 := nb_ hg (blk_lt (g := gb967) (o := .cells #[.int .i64 t964, .int .i64 t965] 23 (0, 0)) (kv_ BK967)); have NB971_967 := nc_ hg (blk_lt (g := gb967) (o := .cells #[.int .i64 t964, .int .i64 t965] 23 (0, 0)) (kv_ BK967)); replace BK967 := kb_ BK967 hb; clear hb hbox hg; have hnb146 := NB971_911.out; have hnc146 := NB911_971.out; have hnb147 := NB971_915.out; have hnc147 := NB915_971.out; have hnb148 := NB971_919.out; have hnc148 := NB919_971.out; have hnb149 := NB971_934.out; have hnc149 := NB934_971.out; have hnb150 := NB971_938.out; have hnc150 := NB938_971.out; have hnb151 := NB971_943.out; have hnc151 := NB943_971.out; have hnb152 := NB971_957.out; have hnc152 := NB957_971.out; have hnb153 := NB971_961.out; have hnc153 := NB961_971.out; have hnb154 := NB971_967.out; have hnc154 := NB967_971.out; obtain ⟨hcz155_0, hcz155_1, hfz155_0, hfz155_1⟩ := c2_ BK971) | ((with_reducible refine gate_callee (f := 27) rfl ?_); refine gl_ 187 Tryd.func27 #[.slice A0 l0.length c0] rfl mp_ ?_; (with_reducible refine (spec_DrawFormatAnf.calls k1 _ _ l0 t972 t973 _ ?side1 ?side2 A104.out).mono ?_); (case side1 => exact Kd.C_below HR0.out (by repeat (first | (with_reducible first | exact HB.out | apply below_alloc | apply pw_below_drewN | apply below_drew1 | refine below_set ?_ GE911.out | refine below_set ?_ GE915.out | refine below_set ?_ GE919.out | refine below_set ?_ GE934.out | refine below_set ?_ GE938.out | refine below_set ?_ GE943.out | refine below_set ?_ GE957.out | refine below_set ?_ GE961.out | refine below_set ?_ GE967.out | refine below_set ?_ GE971.out) | exact HB.out))); (case side2 => exact HC0.out); rintro e w156 ⟨rfl, hb⟩; refine ⟨_, rfl, ?_⟩; replace HO_8 := Aside0.mk (Kd.R_below (by (with_reducible repeat (first | apply Kd.R_alloc | apply Kd.R_drewN | apply Kd.R_drew)); exact (Kd.R_mono (Kd.R_far (p := ⟨gb971, 1, none⟩) (Kd.R_far (p := ⟨gb971, 0, none⟩) (Kd.R_types HO_8.out BK971.out (by decide)) (fun _ hk => hk.2) (.int .i64 t968)) (fun _ hk => hk.2) (.int .i64 t969)) (fun _ h_ => h_.1))) hb); replace HO953 := Aside0.mk (Kd.R_below (by (with_reducible repeat (first | apply Kd.R_alloc | apply Kd.R_drewN | apply Kd.R_drew)); exact (Kd.R_mono (Kd.R_far (p := ⟨gb971, 1, none⟩) (Kd.R_far (p := ⟨gb971, 0, none⟩) (Kd.R_types HO953.out BK971.out (by decide)) (fun _ hk => hk.2) (.int .i64 t968)) (fun _ hk => hk.2) (.int .i64 t969)) (fun _ h_ => h_.1))) hb); replace BK911 := Aside0.mk (blk_below (g := gb911) (o := .cells #[.int .i64 t909, .int .i64 t910] 23 (0, 0)) (by (with_reducible repeat (first | refine blk_drewN ?_ _ | refine blk_drew ?_ | refine blk_alloc ?_ _)); refine blk_far ?_ NB911_971.out _; (with_reducible repeat (first | refine blk_drewN ?_ _ | refine blk_drew ?_ | refine blk_alloc ?_ _)); refine blk_far ?_ NB911_971.out _; (with_reducible repeat (first | refine blk_drewN ?_ _ | refine blk_drew ?_ | refine blk_alloc ?_ _)); exact BK911.out) hb); replace BK915 := Aside0.mk (blk_below (g := gb915) (o := .cells #[.int .i64 t912, .int .i64 t913] 23 (0, 0)) (by (with_reducible repeat (first | refine blk_drewN ?_ _ | refine blk_drew ?_ | refine blk_alloc ?_ _)); refine blk_far ?_ NB915_971.out _; (with_reducible repeat (first | refine blk_drewN ?_ _ | refine blk_drew ?_ | refine blk_alloc ?_ _)); refine blk_far ?_ NB915_971.out _; (with_reducible repeat (first | refine blk_drewN ?_ _ | refine blk_drew ?_ | refine blk_alloc ?_ _)); exact BK915.out) hb); replace BK919 := Aside0.mk (blk_below (g := gb919) (o := .cells #[.int .i64 t916, .int .i64 t917] 23 (0, 0)) (by (with_reducible repeat (first | refine blk_drewN ?_ _ | refine blk_drew ?_ | refine blk_alloc ?_ _)); refine blk_far ?_ NB919_971.out _; (with_reducible repeat (first | refine blk_drewN ?_ _ | refine blk_drew ?_ | refine blk_alloc ?_ _)); refine blk_far ?_ NB919_971.out _; (with_reducible repeat (first | refine blk_drewN ?_ _ | refine blk_drew ?_ | refine blk_alloc ?_ _)); exact BK919.out) hb); replace BK934 := Aside0.mk (blk_below (g := gb934) (o := .cells #[.int .i64 t931, .int .i64 t932] 23 (0, 0)) (by (with_reducible repeat (first | refine blk_drewN ?_ _ | refine blk_drew ?_ | refine blk_alloc ?_ _)); refine blk_far ?_ NB934_971.out _; (with_reducible repeat (first | refine blk_drewN ?_ _ | refine blk_drew ?_ | refine blk_alloc ?_ _)); refine blk_far ?_ NB934_971.out _; (with_reducible repeat (first | refine blk_drewN ?_ _ | refine blk_drew ?_ | refine blk_alloc ?_ _)); exact BK934.out) hb); replace BK938 := Aside0.mk (blk_below (g := gb938) (o := .cells #[.int .i64 t935, .int .i64 t936] 23 (0, 0)) (by (with_reducible repeat (first | refine blk_drewN ?_ _ | refine blk_drew ?_ | refine blk_alloc ?_ _)); refine blk_far ?_ NB938_971.out _; (with_reducible repeat (first | refine blk_drewN ?_ _ | refine blk_drew ?_ | refine blk_alloc ?_ _)); refine blk_far ?_ NB938_971.out _; (with_reducible repeat (first | refine blk_drewN ?_ _ | refine blk_drew ?_ | refine blk_alloc ?_ _)); exact BK938.out) hb); replace BK943 := Aside0.mk (blk_below (g := gb943) (o := .cells #[.int .i64 t940, .int .i64 t941] 23 (0, 0)) (by (with_reducible repeat (first | refine blk_drewN ?_ _ | refine blk_drew ?_ | refine blk_alloc ?_ _)); refine blk_far ?_ NB943_971.out _; (with_reducible repeat (first | refine blk_drewN ?_ _ | refine blk_drew ?_ | refine blk_alloc ?_ _)); refine blk_far ?_ NB943_971.out _; (with_reducible repeat (first | refine blk_drewN ?_ _ | refine blk_drew ?_ | refine blk_alloc ?_ _)); exact BK943.out) hb); replace BK957 := Aside0.mk (blk_below (g := gb957) (o := .cells #[.int .i64 t954, .int .i64 t955] 23 (0, 0)) (by (with_reducible repeat (first | refine blk_drewN ?_ _ | refine blk_drew ?_ | refine blk_alloc ?_ _)); refine blk_far ?_ NB957_971.out _; (with_reducible repeat (first | refine blk_drewN ?_ _ | refine blk_drew ?_ | refine blk_alloc ?_ _)); refine blk_far ?_ NB957_971.out _; (with_reducible repeat (first | refine blk_drewN ?_ _ | refine blk_drew ?_ | refine blk_alloc ?_ _)); exact BK957.out) hb); replace BK961 := Aside0.mk (blk_below (g := gb961) (o := .cells #[.int .i64 t958, .int .i64 t959] 23 (0, 0)) (by (with_reducible repeat (first | refine blk_drewN ?_ _ | refine blk_drew ?_ | refine blk_alloc ?_ _)); refine blk_far ?_ NB961_971.out _; (with_reducible repeat (first | refine blk_drewN ?_ _ | refine blk_drew ?_ | refine blk_alloc ?_ _)); refine blk_far ?_ NB961_971.out _; (with_reducible repeat (first | refine blk_drewN ?_ _ | refine blk_drew ?_ | refine blk_alloc ?_ _)); exact BK961.out) hb); replace BK967 := Aside0.mk (blk_below (g := gb967) (o := .cells #[.int .i64 t964, .int .i64 t965] 23 (0, 0)) (by (with_reducible repeat (first | refine blk_drewN ?_ _ | refine blk_drew ?_ | refine blk_alloc ?_ _)); refine blk_far ?_ NB967_971.out _; (with_reducible repeat (first | refine blk_drewN ?_ _ | refine blk_drew ?_ | refine blk_alloc ?_ _)); refine blk_far ?_ NB967_971.out _; (with_reducible repeat (first | refine blk_drewN ?_ _ | refine blk_drew ?_ | refine blk_alloc ?_ _)); exact BK967.out) hb); replace BK971 := Aside0.mk (blk_below (g := gb971) (o := .cells #[.int .i64 t968, .int .i64 t969] 23 (0, 0)) (by (with_reducible repeat (first | refine blk_drewN ?_ _ | refine blk_drew ?_ | refine blk_alloc ?_ _)); refine blk_put (cs := #[.int .i64 t968, .int .i64 0]) ?_ 1 _ rfl; (with_reducible repeat (first | refine blk_drewN ?_ _ | refine blk_drew ?_ | refine blk_alloc ?_ _)); refine blk_put (cs := #[.int .i64 0, .int .i64 0]) ?_ 0 _ rfl; (with_reducible repeat (first | refine blk_drewN ?_ _ | refine blk_drew ?_ | refine blk_alloc ?_ _)); exact BK971.out) hb); replace HB := Aside0.mk (below_step (by repeat (first | (with_reducible first | exact HB.out | apply below_alloc | apply pw_below_drewN | apply below_drew1 | refine below_set ?_ GE911.out | refine below_set ?_ GE915.out | refine below_set ?_ GE919.out | refine below_set ?_ GE934.out | refine below_set ?_ GE938.out | refine below_set ?_ GE943.out | refine below_set ?_ GE957.out | refine below_set ?_ GE961.out | refine below_set ?_ GE967.out | refine below_set ?_ GE971.out) | exact HB.out)) hb); (try clear hb); (try clear hb2); (try clear hk); (try clear hi)) | ((with_reducible refine gate_dst (N := 28) rfl ?_); refine bx_ 28 #[.int .i64 0, .int .i64 0] 23 ?_; intro gb974 hg w157 hbox hb; replace HO_8 := Aside0.mk (Kd.R_below (rv_ HO_8) hb); replace HO953 := Aside0.mk (Kd.R_below (rv_ HO953) hb); have BK974 := Aside0.mk (hbox); have GW974 := Aside0.mk ((by rw [hg]; exact (below_size (by repeat (first | (with_reducible first | exact HB.out | apply below_alloc | apply pw_below_drewN | apply below_drew1 | refine below_set ?_ GE911.out | refine below_set ?_ GE915.out | refine below_set ?_ GE919.out | refine below_set ?_ GE934.out | refine below_set ?_ GE938.out | refine below_set ?_ GE943.out | refine below_set ?_ GE957.out | refine below_set ?_ GE961.out | refine below_set ?_ GE967.out | refine below_set ?_ GE971.out) | exact HB.out))) : w.heap.size ≤ gb974)); have GE974 := GW974; replace HB := Aside0.mk (below_step (by repeat (first | (with_reducible first | exact HB.out | apply below_alloc | apply pw_below_drewN | apply below_drew1 | refine below_set ?_ GE911.out | refine below_set ?_ GE915.out | refine below_set ?_ GE919.out | refine below_set ?_ GE934.out | refine below_set ?_ GE938.out | refine below_set ?_ GE943.out | refine below_set ?_ GE957.out | refine below_set ?_ GE961.out | refine below_set ?_ GE967.out | refine below_set ?_ GE971.out) | exact HB.out)) hb); have NB911_974 := nb_ hg (blk_lt (g := gb911) (o := .cells #[.int .i64 t909, .int .i64 t910] 23 (0, 0)) (kv_ BK911)); have NB974_911 := nc_ hg (blk_lt (g := gb911) (o := .cells #[.int .i64 t909, .int .i64 t910] 23 (0, 0)) (kv_ BK911)); replace BK911 := kb_ BK911 hb; have NB915_974 := nb_ hg (blk_lt (g := gb915) (o := .cells #[.int .i64 t912, .int .i64 t913] 23 (0, 0)) (kv_ BK915)); have NB974_915 := nc_ hg (blk_lt (g := gb915) (o := .cells #[.int .i64 t912, .int .i64 t913] 23 (0, 0)) (kv_ BK915)); replace BK915 := kb_ BK915 hb; have NB919_974 := nb_ hg (blk_lt (g := gb919) (o := .cells #[.int .i64 t916, .int .i64 t917] 23 (0, 0)) (kv_ BK919)); have NB974_919 := nc_ hg (blk_lt (g := gb919) (o := .cells #[.int .i64 t916, .int .i64 t917] 23 (0, 0)) (kv_ BK919)); replace BK919 := kb_ BK919 hb; have NB934_974 := nb_ hg (blk_lt (g := gb934) (o := .cells #[.int .i64 t931, .int .i64 t932] 23 (0, 0)) (kv_ BK934)); have NB974_934 := nc_ hg (blk_lt (g := gb934) (o := .cells #[.int .i64 t931, .int .i64 t932] 23 (0, 0)) (kv_ BK934)); replace BK934 := kb_ BK934 hb; have NB938_974 := nb_ hg (blk_lt (g := gb938) (o := .cells #[.int .i64 t935, .int .i64 t936] 23 (0, 0)) (kv_ BK938)); have NB974_938 := nc_ hg (blk_lt (g := gb938) (o := .cells #[.int .i64 t935, .int .i64 t936] 23 (0, 0)) (kv_ BK938)); replace BK938 := kb_ BK938 hb; have NB943_974 := nb_ hg (blk_lt (g := gb943) (o := .cells #[.int .i64 t940, .int .i64 t941] 23 (0, 0)) (kv_ BK943)); have NB974_943 := nc_ hg (blk_lt (g := gb943) (o := .cells #[.int .i64 t940, .int .i64 t941] 23 (0, 0)) (kv_ BK943)); replace BK943 := kb_ BK943 hb; have NB957_974 := nb_ hg (blk_lt (g := gb957) (o := .cells #[.int .i64 t954, .int .i64 t955] 23 (0, 0)) (kv_ BK957)); have NB974_957 := nc_ hg (blk_lt (g := gb957) (o := .cells #[.int .i64 t954, .int .i64 t955] 23 (0, 0)) (kv_ BK957)); replace BK957 := kb_ BK957 hb; have NB961_974 := nb_ hg (blk_lt (g := gb961) (o := .cells #[.int .i64 t958, .int .i64 t959] 23 (0, 0)) (kv_ BK961)); have NB974_961 := nc_ hg (blk_lt (g := gb961) (o := .cells #[.int .i64 t958, .int .i64 t959] 23 (0, 0)) (kv_ BK961)); replace BK961 := kb_ BK961 hb; have NB967_974 := nb_ hg (blk_lt (g := gb967) (o := .cells #[.int .i64 t964, .int .i64 t965] 23 (0, 0)) (kv_ BK967)); have NB974_967 := nc_ hg (blk_lt (g := gb967) (o := .cells #[.int .i64 t964, .int .i64 t965] 23 (0, 0)) (kv_ BK967)); replace BK967 := kb_ BK967 hb; have NB971_974 := nb_ hg (blk_lt (g := gb971) (o := .cells #[.int .i64 t968, .int .i64 t969] 23 (0, 0)) (kv_ BK971)); have NB974_971 := nc_ hg (blk_lt (g := gb971) (o := .cells #[.int .i64 t968, .int .i64 t969] 23 (0, 0)) (kv_ BK971)); replace BK971 := kb_ BK971 hb; clear hb hbox hg; have hnb158 := NB974_911.out; have hnc158 := NB911_974.out; have hnb159 := NB974_915.out; have hnc159 := NB915_974.out; have hnb160 := NB974_919.out; have hnc160 := NB919_974.out; have hnb161 := NB974_934.out; have hnc161 := NB934_974.out; have hnb162 := NB974_938.out; have hnc162 := NB938_974.out; have hnb163 := NB974_943.out; have hnc163 := NB943_974.out; have hnb164 := NB974_957.out; have hnc164 := NB957_974.out; have hnb165 := NB974_961.out; have hnc165 := NB961_974.out; have hnb166 := NB974_967.out; have hnc166 := NB967_974.out; have hnb167 := NB974_971.out; have hnc167 := NB971_974.out; obtain ⟨hcz168_0, hcz168_1, hfz168_0, hfz168_1⟩ := c2_ BK974))
                       have n0_ : Aside0 (Kd.R (Kd.int .i64) 3 ((w157.setCell ⟨gb974, 0, none⟩ (.int .i64 t972)).setCell ⟨gb974, 1, none⟩ (.int .i64 t973)) w.heap.size (fun k_ => some k_ ≠ (.slice Ao112 t951.length co112 : Value).ownBlock) (.slice Ao54 t920.length co54) t920) := ⟨by (with_reducible repeat (first | apply Kd.R_alloc | apply Kd.R_drewN | apply Kd.R_drew)); exact Kd.R_mono (Kd.R_far (p := ⟨gb974, 1, none⟩) (Kd.R_far (p := ⟨gb974, 0, none⟩) (Kd.R_types HO_8.out BK974.out (by decide)) (fun _ hk => hk.2) (.int .i64 t972)) (fun _ hk => hk.2) (.int .i64 t973)) (fun _ hk => hk.1.2)⟩
                       have n1_ : Aside0 (Kd.R (Kd.int .i64) 3 ((w157.setCell ⟨gb974, 0, none⟩ (.int .i64 t972)).setCell ⟨gb974, 1, none⟩ (.int .i64 t973)) w.heap.size (fun k_ => some k_ ≠ (.slice Ao54 t920.length co54 : Value).ownBlock) (.slice Ao112 t951.length co112) t951) := ⟨by (with_reducible repeat (first | apply Kd.R_alloc | apply Kd.R_drewN | apply Kd.R_drew)); exact Kd.R_mono (Kd.R_far (p := ⟨gb974, 1, none⟩) (Kd.R_far (p := ⟨gb974, 0, none⟩) (Kd.R_types HO953.out BK974.out (by decide)) (fun _ hk => hk.2) (.int .i64 t972)) (fun _ hk => hk.2) (.int .i64 t973)) (fun _ hk => hk.1.2)⟩
                       have n2_ : Aside0 (((w157.setCell ⟨gb974, 0, none⟩ (.int .i64 t972)).setCell ⟨gb974, 1, none⟩ (.int .i64 t973)).heap[gb911]? = some (.cells #[.int .i64 t909, .int .i64 t910] 23 (0, 0))) := ⟨by (with_reducible repeat (first | refine blk_drewN ?_ _ | refine blk_drew ?_ | refine blk_alloc ?_ _)); refine blk_far ?_ NB911_974.out _; (with_reducible repeat (first | refine blk_drewN ?_ _ | refine blk_drew ?_ | refine blk_alloc ?_ _)); refine blk_far ?_ NB911_974.out _; (with_reducible repeat (first | refine blk_drewN ?_ _ | refine blk_drew ?_ | refine blk_alloc ?_ _)); exact BK911.out⟩
                       have n3_ : Aside0 (((w157.setCell ⟨gb974, 0, none⟩ (.int .i64 t972)).setCell ⟨gb974, 1, none⟩ (.int .i64 t973)).heap[gb915]? = some (.cells #[.int .i64 t912, .int .i64 t913] 23 (0, 0))) := ⟨by (with_reducible repeat (first | refine blk_drewN ?_ _ | refine blk_drew ?_ | refine blk_alloc ?_ _)); refine blk_far ?_ NB915_974.out _; (with_reducible repeat (first | refine blk_drewN ?_ _ | refine blk_drew ?_ | refine blk_alloc ?_ _)); refine blk_far ?_ NB915_974.out _; (with_reducible repeat (first | refine blk_drewN ?_ _ | refine blk_drew ?_ | refine blk_alloc ?_ _)); exact BK915.out⟩
                       have n4_ : Aside0 (((w157.setCell ⟨gb974, 0, none⟩ (.int .i64 t972)).setCell ⟨gb974, 1, none⟩ (.int .i64 t973)).heap[gb919]? = some (.cells #[.int .i64 t916, .int .i64 t917] 23 (0, 0))) := ⟨by (with_reducible repeat (first | refine blk_drewN ?_ _ | refine blk_drew ?_ | refine blk_alloc ?_ _)); refine blk_far ?_ NB919_974.out _; (with_reducible repeat (first | refine blk_drewN ?_ _ | refine blk_drew ?_ | refine blk_alloc ?_ _)); refine blk_far ?_ NB919_974.out _; (with_reducible repeat (first | refine blk_drewN ?_ _ | refine blk_drew ?_ | refine blk_alloc ?_ _)); exact BK919.out⟩
                       have n5_ : Aside0 (((w157.setCell ⟨gb974, 0, none⟩ (.int .i64 t972)).setCell ⟨gb974, 1, none⟩ (.int .i64 t973)).heap[gb934]? = some (.cells #[.int .i64 t931, .int .i64 t932] 23 (0, 0))) := ⟨by (with_reducible repeat (first | refine blk_drewN ?_ _ | refine blk_drew ?_ | refine blk_alloc ?_ _)); refine blk_far ?_ NB934_974.out _; (with_reducible repeat (first | refine blk_drewN ?_ _ | refine blk_drew ?_ | refine blk_alloc ?_ _)); refine blk_far ?_ NB934_974.out _; (with_reducible repeat (first | refine blk_drewN ?_ _ | refine blk_drew ?_ | refine blk_alloc ?_ _)); exact BK934.out⟩
                       have n6_ : Aside0 (((w157.setCell ⟨gb974, 0, none⟩ (.int .i64 t972)).setCell ⟨gb974, 1, none⟩ (.int .i64 t973)).heap[gb938]? = some (.cells #[.int .i64 t935, .int .i64 t936] 23 (0, 0))) := ⟨by (with_reducible repeat (first | refine blk_drewN ?_ _ | refine blk_drew ?_ | refine blk_alloc ?_ _)); refine blk_far ?_ NB938_974.out _; (with_reducible repeat (first | refine blk_drewN ?_ _ | refine blk_drew ?_ | refine blk_alloc ?_ _)); refine blk_far ?_ NB938_974.out _; (with_reducible repeat (first | refine blk_drewN ?_ _ | refine blk_drew ?_ | refine blk_alloc ?_ _)); exact BK938.out⟩
                       have n7_ : Aside0 (((w157.setCell ⟨gb974, 0, none⟩ (.int .i64 t972)).setCell ⟨gb974, 1, none⟩ (.int .i64 t973)).heap[gb943]? = some (.cells #[.int .i64 t940, .int .i64 t941] 23 (0, 0))) := ⟨by (with_reducible repeat (first | refine blk_drewN ?_ _ | refine blk_drew ?_ | refine blk_alloc ?_ _)); refine blk_far ?_ NB943_974.out _; (with_reducible repeat (first | refine blk_drewN ?_ _ | refine blk_drew ?_ | refine blk_alloc ?_ _)); refine blk_far ?_ NB943_974.out _; (with_reducible repeat (first | refine blk_drewN ?_ _ | refine blk_drew ?_ | refine blk_alloc ?_ _)); exact BK943.out⟩
                       have n8_ : Aside0 (((w157.setCell ⟨gb974, 0, none⟩ (.int .i64 t972)).setCell ⟨gb974, 1, none⟩ (.int .i64 t973)).heap[gb957]? = some (.cells #[.int .i64 t954, .int .i64 t955] 23 (0, 0))) := ⟨by (with_reducible repeat (first | refine blk_drewN ?_ _ | refine blk_drew ?_ | refine blk_alloc ?_ _)); refine blk_far ?_ NB957_974.out _; (with_reducible repeat (first | refine blk_drewN ?_ _ | refine blk_drew ?_ | refine blk_alloc ?_ _)); refine blk_far ?_ NB957_974.out _; (with_reducible repeat (first | refine blk_drewN ?_ _ | refine blk_drew ?_ | refine blk_alloc ?_ _)); exact BK957.out⟩
                       have n9_ : Aside0 (((w157.setCell ⟨gb974, 0, none⟩ (.int .i64 t972)).setCell ⟨gb974, 1, none⟩ (.int .i64 t973)).heap[gb961]? = some (.cells #[.int .i64 t958, .int .i64 t959] 23 (0, 0))) := ⟨by (with_reducible repeat (first | refine blk_drewN ?_ _ | refine blk_drew ?_ | refine blk_alloc ?_ _)); refine blk_far ?_ NB961_974.out _; (with_reducible repeat (first | refine blk_drewN ?_ _ | refine blk_drew ?_ | refine blk_alloc ?_ _)); refine blk_far ?_ NB961_974.out _; (with_reducible repeat (first | refine blk_drewN ?_ _ | refine blk_drew ?_ | refine blk_alloc ?_ _)); exact BK961.out⟩
                       have n10_ : Aside0 (((w157.setCell ⟨gb974, 0, none⟩ (.int .i64 t972)).setCell ⟨gb974, 1, none⟩ (.int .i64 t973)).heap[gb967]? = some (.cells #[.int .i64 t964, .int .i64 t965] 23 (0, 0))) := ⟨by (with_reducible repeat (first | refine blk_drewN ?_ _ | refine blk_drew ?_ | refine blk_alloc ?_ _)); refine blk_far ?_ NB967_974.out _; (with_reducible repeat (first | refine blk_drewN ?_ _ | refine blk_drew ?_ | refine blk_alloc ?_ _)); refine blk_far ?_ NB967_974.out _; (with_reducible repeat (first | refine blk_drewN ?_ _ | refine blk_drew ?_ | refine blk_alloc ?_ _)); exact BK967.out⟩
                       have n11_ : Aside0 (((w157.setCell ⟨gb974, 0, none⟩ (.int .i64 t972)).setCell ⟨gb974, 1, none⟩ (.int .i64 t973)).heap[gb971]? = some (.cells #[.int .i64 t968, .int .i64 t969] 23 (0, 0))) := ⟨by (with_reducible repeat (first | refine blk_drewN ?_ _ | refine blk_drew ?_ | refine blk_alloc ?_ _)); refine blk_far ?_ NB971_974.out _; (with_reducible repeat (first | refine blk_drewN ?_ _ | refine blk_drew ?_ | refine blk_alloc ?_ _)); refine blk_far ?_ NB971_974.out _; (with_reducible repeat (first | refine blk_drewN ?_ _ | refine blk_drew ?_ | refine blk_alloc ?_ _)); exact BK971.out⟩
                       have n12_ : Aside0 (((w157.setCell ⟨gb974, 0, none⟩ (.int .i64 t972)).setCell ⟨gb974, 1, none⟩ (.int .i64 t973)).heap[gb974]? = some (.cells #[.int .i64 t972, .int .i64 t973] 23 (0, 0))) := ⟨by (with_reducible repeat (first | refine blk_drewN ?_ _ | refine blk_drew ?_ | refine blk_alloc ?_ _)); refine blk_put (cs := #[.int .i64 t972, .int .i64 0]) ?_ 1 _ rfl; (with_reducible repeat (first | refine blk_drewN ?_ _ | refine blk_drew ?_ | refine blk_alloc ?_ _)); refine blk_put (cs := #[.int .i64 0, .int .i64 0]) ?_ 0 _ rfl; (with_reducible repeat (first | refine blk_drewN ?_ _ | refine blk_drew ?_ | refine blk_alloc ?_ _)); exact BK974.out⟩
                       have n13_ : Aside0 (Below w.heap.size w ((w157.setCell ⟨gb974, 0, none⟩ (.int .i64 t972)).setCell ⟨gb974, 1, none⟩ (.int .i64 t973))) := ⟨by repeat (first | (with_reducible first | exact HB.out | apply below_alloc | apply pw_below_drewN | apply below_drew1 | refine below_set ?_ GE911.out | refine below_set ?_ GE915.out | refine below_set ?_ GE919.out | refine below_set ?_ GE934.out | refine below_set ?_ GE938.out | refine below_set ?_ GE943.out | refine below_set ?_ GE957.out | refine below_set ?_ GE961.out | refine below_set ?_ GE967.out | refine below_set ?_ GE971.out | refine below_set ?_ GE974.out) | exact HB.out)⟩
                       (try clear HO_8)
                       (try clear HO953)
                       (try clear BK911)
                       (try clear BK915)
                       (try clear BK919)
                       (try clear BK934)
                       (try clear BK938)
                       (try clear BK943)
                       (try clear BK957)
                       (try clear BK961)
                       (try clear BK967)
                       (try clear BK971)
                       (try clear BK974)
                       (try clear HB)
                       generalize ((w157.setCell ⟨gb974, 0, none⟩ (.int .i64 t972)).setCell ⟨gb974, 1, none⟩ (.int .i64 t973)) = w169 at n0_ n1_ n2_ n3_ n4_ n5_ n6_ n7_ n8_ n9_ n10_ n11_ n12_ n13_ ⊢
                       have HO_8 := n0_
                       have HO953 := n1_
                       have BK911 := n2_
                       have BK915 := n3_
                       have BK919 := n4_
                       have BK934 := n5_
                       have BK938 := n6_
                       have BK943 := n7_
                       have BK957 := n8_
                       have BK961 := n9_
                       have BK967 := n10_
                       have BK971 := n11_
                       have BK974 := n12_
                       have HB := n13_
                       clear n0_ n1_ n2_ n3_ n4_ n5_ n6_ n7_ n8_ n9_ n10_ n11_ n12_ n13_
                       replace HO_8 := Aside0.mk (Kd.R_drew HO_8.out)
                       replace HO953 := Aside0.mk (Kd.R_drew HO953.out)
                       replace BK911 := Aside0.mk (blk_drew BK911.out)
                       replace BK915 := Aside0.mk (blk_drew BK915.out)
                       replace BK919 := Aside0.mk (blk_drew BK919.out)
                       replace BK934 := Aside0.mk (blk_drew BK934.out)
                       replace BK938 := Aside0.mk (blk_drew BK938.out)
                       replace BK943 := Aside0.mk (blk_drew BK943.out)
                       replace BK957 := Aside0.mk (blk_drew BK957.out)
                       replace BK961 := Aside0.mk (blk_drew BK961.out)
                       replace BK967 := Aside0.mk (blk_drew BK967.out)
                       replace BK971 := Aside0.mk (blk_drew BK971.out)
                       replace BK974 := Aside0.mk (blk_drew BK974.out)
                       replace HB := Aside0.mk (below_drew1 HB.out)
                       (try clear hcz39_0); (try clear hcz39_1); (try clear hfz39_0); (try clear hfz39_1); (try clear hnb42); (try clear hnc42); (try clear hcz43_0); (try clear hcz43_1); (try clear hfz43_0); (try clear hfz43_1); (try clear hcz44_0); (try clear hcz44_1)
                       (try clear hfz44_0); (try clear hfz44_1); (try clear hnb47); (try clear hnc47); (try clear hnb48); (try clear hnc48); (try clear hcz49_0); (try clear hcz49_1); (try clear hfz49_0); (try clear hfz49_1); (try clear hcz50_0); (try clear hcz50_1)
                       (try clear hfz50_0); (try clear hfz50_1); (try clear hcz60_0); (try clear hcz60_1); (try clear hfz60_0); (try clear hfz60_1); (try clear hnb63); (try clear hnc63); (try clear hnb64); (try clear hnc64); (try clear hnb65); (try clear hnc65)
                       (try clear hcz66_0); (try clear hcz66_1); (try clear hfz66_0); (try clear hfz66_1); (try clear hnb69); (try clear hnc69); (try clear hnb70); (try clear hnc70); (try clear hnb71); (try clear hnc71); (try clear hnb72); (try clear hnc72)
                       (try clear hcz73_0); (try clear hcz73_1); (try clear hfz73_0); (try clear hfz73_1); (try clear hcz74_0); (try clear hcz74_1); (try clear hfz74_0); (try clear hfz74_1); (try clear hcz76_0); (try clear hcz76_1); (try clear hfz76_0); (try clear hfz76_1)
                       (try clear hnb79); (try clear hnc79); (try clear hnb80); (try clear hnc80); (try clear hnb81); (try clear hnc81); (try clear hnb82); (try clear hnc82); (try clear hnb83); (try clear hnc83); (try clear hcz84_0); (try clear hcz84_1)
                       (try clear hfz84_0); (try clear hfz84_1); (try clear hnb115); (try clear hnc115); (try clear hnb116); (try clear hnc116); (try clear hnb117); (try clear hnc117); (try clear hnb118); (try clear hnc118); (try clear hnb119); (try clear hnc119)
                       (try clear hnb120); (try clear hnc120); (try clear hcz121_0); (try clear hcz121_1); (try clear hfz121_0); (try clear hfz121_1); (try clear hnb124); (try clear hnc124); (try clear hnb125); (try clear hnc125); (try clear hnb126); (try clear hnc126)
                       (try clear hnb127); (try clear hnc127); (try clear hnb128); (try clear hnc128); (try clear hnb129); (try clear hnc129); (try clear hnb130); (try clear hnc130); (try clear hcz131_0); (try clear hcz131_1); (try clear hfz131_0); (try clear hfz131_1)
                       (try clear hnb135); (try clear hnc135); (try clear hnb136); (try clear hnc136); (try clear hnb137); (try clear hnc137); (try clear hnb138); (try clear hnc138); (try clear hnb139); (try clear hnc139); (try clear hnb140); (try clear hnc140)
                       (try clear hnb141); (try clear hnc141); (try clear hnb142); (try clear hnc142); (try clear hcz143_0); (try clear hcz143_1); (try clear hfz143_0); (try clear hfz143_1); (try clear hnb146); (try clear hnc146); (try clear hnb147); (try clear hnc147)
                       (try clear hnb148); (try clear hnc148); (try clear hnb149); (try clear hnc149); (try clear hnb150); (try clear hnc150); (try clear hnb151); (try clear hnc151); (try clear hnb152); (try clear hnc152); (try clear hnb153); (try clear hnc153)
                       (try clear hnb154); (try clear hnc154); (try clear hcz155_0); (try clear hcz155_1); (try clear hfz155_0); (try clear hfz155_1); (try clear hnb158); (try clear hnc158); (try clear hnb159); (try clear hnc159); (try clear hnb160); (try clear hnc160)
                       (try clear hnb161); (try clear hnc161); (try clear hnb162); (try clear hnc162); (try clear hnb163); (try clear hnc163); (try clear hnb164); (try clear hnc164); (try clear hnb165); (try clear hnc165); (try clear hnb166); (try clear hnc166)
                       (try clear hnb167); (try clear hnc167); (try clear hcz168_0); (try clear hcz168_1); (try clear hfz168_0); (try clear hfz168_1)
                       refine start_ (n := 26) (S := fun w' => w'.cell? ⟨gb957, 0, none⟩ = some (.int .i64 t954) ∧ w'.cell? ⟨gb957, 1, none⟩ = some (.int .i64 t955) ∧ w'.cell? ⟨gb961, 0, none⟩ = some (.int .i64 t958) ∧ w'.cell? ⟨gb961, 1, none⟩ = some (.int .i64 t959) ∧ w'.cell? ⟨gb967, 0, none⟩ = some (.int .i64 t964) ∧ w'.cell? ⟨gb967, 1, none⟩ = some (.int .i64 t965) ∧ w'.cell? ⟨gb971, 0, none⟩ = some (.int .i64 t968) ∧ w'.cell? ⟨gb971, 1, none⟩ = some (.int .i64 t969) ∧ w'.cell? ⟨gb974, 0, none⟩ = some (.int .i64 t972) ∧ w'.cell? ⟨gb974, 1, none⟩ = some (.int .i64 t973)) (ds := []) (bs 26 0) (by kernel_rfl) rfl (by kernel_rfl) ⟨(blk_cell BK957.out 0).trans rfl, (blk_cell BK957.out 1).trans rfl, (blk_cell BK961.out 0).trans rfl, (blk_cell BK961.out 1).trans rfl, (blk_cell BK967.out 0).trans rfl, (blk_cell BK967.out 1).trans rfl, (blk_cell BK971.out 0).trans rfl, (blk_cell BK971.out 1).trans rfl, (blk_cell BK974.out 0).trans rfl, (blk_cell BK974.out 1).trans rfl⟩ (fun hHeld => ?_); refine with_tabW laws_FnDegrees.tab28 laws_FnDegrees.bits28 (fun HT_ HW_ => ?_)
                       generalize w169.drew = w170 at HO_8 HO953 BK911 BK915 BK919 BK934 BK938 BK943 BK957 BK961 BK967 BK971 BK974 HB hHeld ⊢
                       refine ta10_ HT_ HW_ 0 188 (bs 26 1) hHeld ?_
                       refine ta10_ HT_ HW_ 1 189 (bs 26 3) hHeld ?_
                       refine pu_ HT_ 2 190 (bs 26 7) ?_
                       refine pu_ HT_ 3 191 (bs 26 15) ?_
                       refine pu_ HT_ 4 192 (bs 26 31) ?_
                       refine pu_ HT_ 5 193 (bs 26 63) ?_
                       refine pu_ HT_ 6 194 (bs 26 127) ?_
                       refine pu_ HT_ 7 195 (bs 26 255) ?_
                       refine pu_ HT_ 8 196 (bs 26 511) ?_
                       refine ta10_ HT_ HW_ 9 197 (bs 26 1023) hHeld ?_
                       refine ta10_ HT_ HW_ 10 198 (bs 26 2047) hHeld ?_
                       refine pu_ HT_ 11 199 (bs 26 4095) ?_
                       refine pu_ HT_ 12 200 (bs 26 8191) ?_
                       refine pu_ HT_ 13 201 (bs 26 16383) ?_
                       refine pu_ HT_ 14 202 (bs 26 32767) ?_
                       refine pu_ HT_ 15 203 (bs 26 65535) ?_
                       refine pu_ HT_ 16 204 (bs 26 131071) ?_
                       refine pu_ HT_ 17 205 (bs 26 262143) ?_
                       refine pu_ HT_ 18 206 (bs 26 524287) ?_
                       refine ta10_ HT_ HW_ 19 207 (bs 26 1048575) hHeld ?_
                       refine ta10_ HT_ HW_ 21 209 (bs 26 3145727) hHeld ?_
                       refine on_ HT_ 20 208 (bs 26 4194303) (fun K hK => ?_)
                       refine goes_ Tryd.func20 (by kernel_rfl) rfl #[.agg #[.int .i64 t972, .int .i64 t973]] (by rfl) rfl rfl mp_ ?_
                       with_reducible refine (impl_FormatAnf.calls k1 t972 t973 t975 _ A109.out).mono ?_
                       rintro e w171 ⟨rfl, hb⟩
                       refine ⟨_, rfl, ?_⟩
                       replace HO_8 := Aside0.mk (Kd.R_below (rv_ HO_8) hb)
                       replace HO953 := Aside0.mk (Kd.R_below (rv_ HO953) hb)
                       replace BK911 := kb_ BK911 hb
                       replace BK915 := kb_ BK915 hb
                       replace BK919 := kb_ BK919 hb
                       replace BK934 := kb_ BK934 hb
                       replace BK938 := kb_ BK938 hb
                       replace BK943 := kb_ BK943 hb
                       replace BK957 := kb_ BK957 hb
                       replace BK961 := kb_ BK961 hb
                       replace BK967 := kb_ BK967 hb
                       replace BK971 := kb_ BK971 hb
                       replace BK974 := kb_ BK974 hb
                       replace HB := Aside0.mk (below_step (by repeat (first | (with_reducible first | exact HB.out | apply below_alloc | apply pw_below_drewN | apply below_drew1 | refine below_set ?_ GE911.out | refine below_set ?_ GE915.out | refine below_set ?_ GE919.out | refine below_set ?_ GE934.out | refine below_set ?_ GE938.out | refine below_set ?_ GE943.out | refine below_set ?_ GE957.out | refine below_set ?_ GE961.out | refine below_set ?_ GE967.out | refine below_set ?_ GE971.out | refine below_set ?_ GE974.out) | exact HB.out)) hb)
                       (try clear hb)
                       (try clear hb2)
                       (try clear hk)
                       (try clear hi)
                       refine hK.out _ _ ⟨(blk_cell BK957.out 0).trans rfl, (blk_cell BK957.out 1).trans rfl, (blk_cell BK961.out 0).trans rfl, (blk_cell BK961.out 1).trans rfl, (blk_cell BK967.out 0).trans rfl, (blk_cell BK967.out 1).trans rfl, (blk_cell BK971.out 0).trans rfl, (blk_cell BK971.out 1).trans rfl, (blk_cell BK974.out 0).trans rfl, (blk_cell BK974.out 1).trans rfl⟩ (fun hHeld => ?_)
                       clear hK K
                       refine no_ 208 ?_
                       refine on_ HT_ 22 210 (bs 26 8388607) (fun K hK => ?_)
                       refine goes_ Tryd.func21 (by kernel_rfl) rfl #[.agg #[.int .i64 t972, .int .i64 t973]] (by rfl) rfl rfl mp_ ?_
                       with_reducible refine (spec_FormatAnf.calls k1 t972 t973 t976 _ A110.out).mono ?_
                       rintro e w172 ⟨rfl, hb⟩
                       refine ⟨_, rfl, ?_⟩
                       replace HO_8 := Aside0.mk (Kd.R_below (rv_ HO_8) hb)
                       replace HO953 := Aside0.mk (Kd.R_below (rv_ HO953) hb)
                       replace BK911 := kb_ BK911 hb
                       replace BK915 := kb_ BK915 hb
                       replace BK919 := kb_ BK919 hb
                       replace BK934 := kb_ BK934 hb
                       replace BK938 := kb_ BK938 hb
                       replace BK943 := kb_ BK943 hb
                       replace BK957 := kb_ BK957 hb
                       replace BK961 := kb_ BK961 hb
                       replace BK967 := kb_ BK967 hb
                       replace BK971 := kb_ BK971 hb
                       replace BK974 := kb_ BK974 hb
                       replace HB := Aside0.mk (below_step (by repeat (first | (with_reducible first | exact HB.out | apply below_alloc | apply pw_below_drewN | apply below_drew1 | refine below_set ?_ GE911.out | refine below_set ?_ GE915.out | refine below_set ?_ GE919.out | refine below_set ?_ GE934.out | refine below_set ?_ GE938.out | refine below_set ?_ GE943.out | refine below_set ?_ GE957.out | refine below_set ?_ GE961.out | refine below_set ?_ GE967.out | refine below_set ?_ GE971.out | refine below_set ?_ GE974.out) | exact HB.out)) hb)
                       (try clear hb)
                       (try clear hb2)
                       (try clear hk)
                       (try clear hi)
                       refine hK.out _ _ ⟨(blk_cell BK957.out 0).trans rfl, (blk_cell BK957.out 1).trans rfl, (blk_cell BK961.out 0).trans rfl, (blk_cell BK961.out 1).trans rfl, (blk_cell BK967.out 0).trans rfl, (blk_cell BK967.out 1).trans rfl, (blk_cell BK971.out 0).trans rfl, (blk_cell BK971.out 1).trans rfl, (blk_cell BK974.out 0).trans rfl, (blk_cell BK974.out 1).trans rfl⟩ (fun hHeld => ?_)
                       clear hK K
                       refine no_ 210 ?_
                       refine pu_ HT_ 23 211 (bs 26 16777215) ?_
                       refine pu_ HT_ 24 212 (bs 26 33554431) ?_
                       refine pu_ HT_ 25 2 (bs 26 67108863) ?_
                       refine done_ (done_of HT_.out (by kernel_rfl)) ?_
                       try go_wp2
                       go_ret
                       exact ⟨er_, by repeat (first | (with_reducible first | exact HB.out | apply below_alloc | apply pw_below_drewN | apply below_drew1 | refine below_set ?_ GE911.out | refine below_set ?_ GE915.out | refine below_set ?_ GE919.out | refine below_set ?_ GE934.out | refine below_set ?_ GE938.out | refine below_set ?_ GE943.out | refine below_set ?_ GE957.out | refine below_set ?_ GE961.out | refine below_set ?_ GE967.out | refine below_set ?_ GE971.out | refine below_set ?_ GE974.out) | exact HB.out)⟩
                      ·rw [if_neg c108] at H
                       exact absurd H (by simp)
                     ·rw [if_neg c107] at H
                      exact absurd H (by simp)
                    ·rw [if_neg c106] at H
                     exact absurd H (by simp)
                   ·rw [if_neg c105] at H
                    exact absurd H (by simp)
             ·rw [if_neg c30] at H
              exact absurd H (by simp)
           ·replace c27 := Bool.eq_false_iff.mpr c27
            subst c27
            rw [if_neg (show ¬ (false = true) by decide)] at H
            exact absurd H (by simp)
         ·replace c25 := Bool.eq_false_iff.mpr c25
          subst c25
          rw [if_neg (show ¬ (false = true) by decide)] at H
          exact absurd H (by simp)
       ·replace c19 := Bool.eq_false_iff.mpr c19
        subst c19
        rw [if_neg (show ¬ (false = true) by decide)] at H
        replace H := Option.bind_eq_some_iff.mp H
        obtain ⟨t977, A1730, H⟩ := H
        have A173 := Aside0.mk A1730
        clear A1730
        replace H := Option.bind_eq_some_iff.mp H
        obtain ⟨⟨t980, t981, t982⟩, A1740, H⟩ := H
        dsimp only at H
        have A174 := Aside0.mk A1740
        clear A1740
        replace H := Option.bind_eq_some_iff.mp H
        obtain ⟨⟨t984, t985, t986⟩, A1750, H⟩ := H
        dsimp only at H
        have A175 := Aside0.mk A1750
        clear A1750
        replace H := Option.bind_eq_some_iff.mp H
        obtain ⟨⟨t988, t989⟩, A1760, H⟩ := H
        dsimp only at H
        have A176 := Aside0.mk A1760
        clear A1760
        replace H := Option.bind_eq_some_iff.mp H
        obtain ⟨⟨t990, t991, t992⟩, A1770, H⟩ := H
        dsimp only at H
        have A177 := Aside0.mk A1770
        clear A1770
        replace H := Option.bind_eq_some_iff.mp H
        obtain ⟨⟨t994, t995, t996⟩, A1780, H⟩ := H
        dsimp only at H
        have A178 := Aside0.mk A1780
        clear A1780
        replace H := Option.bind_eq_some_iff.mp H
        obtain ⟨⟨t998, t999⟩, A1790, H⟩ := H
        dsimp only at H
        have A179 := Aside0.mk A1790
        clear A1790
        by_cases c180 : (t980 == t984 && (t981 == t985)) = true
        ·rw [if_pos c180] at H
         have c180b0 : (t980 == t984 && (t981 == t985)) = true := c180
         have c180e_ : t980 = t984 ∧ t981 = t985 := by simpa using c180b0
         have c180e0 : (t980 = t984) = True := eq_true c180e_.1
         have c180e1 : (t981 = t985) = True := eq_true c180e_.2
         clear c180e_
         (try (have c180b1 : decide (t980 = t984 && (t981 == t985)) = true := by simpa using c180))
         (try (have c180b2 : (t980 == t984 && (t981 == t985)) = true := by simpa using c180))
         clear c180
         by_cases c181 : (t982 == t986) = true
         ·rw [if_pos c181] at H
          have c181b0 : (t982 == t986) = true := c181
          (try (have c181b1 : decide (t982 = t986) = true := by simpa using c181))
          (try (have c181b2 : (t982 == t986) = true := by simpa using c181))
          clear c181
          by_cases c182 : (t990 == t994 && (t991 == t995)) = true
          ·rw [if_pos c182] at H
           have c182b0 : (t990 == t994 && (t991 == t995)) = true := c182
           have c182e_ : t990 = t994 ∧ t991 = t995 := by simpa using c182b0
           have c182e0 : (t990 = t994) = True := eq_true c182e_.1
           have c182e1 : (t991 = t995) = True := eq_true c182e_.2
           clear c182e_
           (try (have c182b1 : decide (t990 = t994 && (t991 == t995)) = true := by simpa using c182))
           (try (have c182b2 : (t990 == t994 && (t991 == t995)) = true := by simpa using c182))
           clear c182
           by_cases c183 : (t992 == t996) = true
           ·rw [if_pos c183] at H
            have c183b0 : (t992 == t996) = true := c183
            (try (have c183b1 : decide (t992 = t996) = true := by simpa using c183))
            (try (have c183b2 : (t992 == t996) = true := by simpa using c183))
            clear c183
            replace H := Option.bind_eq_some_iff.mp H
            obtain ⟨t1001, A1840, H⟩ := H
            have A184 := Aside0.mk A1840
            clear A1840
            replace H := Option.bind_eq_some_iff.mp H
            obtain ⟨t1002, A1850, H⟩ := H
            have A185 := Aside0.mk A1850
            clear A1850
            obtain rfl := Option.some.inj H
            go_enter Tryd.func4, Tryd.ntmps4
            try go_wp2_with (first | ((with_reducible refine gate_callee (f := 8) rfl ?_); refine gl_ 30 Tryd.func8 #[.slice A0 l0.length c0] rfl mp_ ?_; (with_reducible refine (laws_big.calls _ _ l0 false _ ?side1 ?side2 A2.out).mono ?_); (case side1 => exact cv_ HR0.out); (case side2 => exact HC0.out); rintro e w' ⟨rfl, ⟨nd, rfl⟩⟩; refine ⟨_, rfl, ?_⟩) | ((with_reducible refine gate_callee (f := 9) rfl ?_); refine gl_ 32 Tryd.func9 #[.slice A0 l0.length c0] rfl mp_ ?_; (with_reducible refine (spec_DrawAnfOf.calls k _ _ l0 t909 t910 _ ?side1 ?side2 A4.out).mono ?_); (case side1 => exact cv_ HR0.out); (case side2 => exact HC0.out); rintro e w186 ⟨rfl, hb⟩; refine ⟨_, rfl, ?_⟩; replace HB := Aside0.mk (below_step (bv_ HB) hb); (try clear hb); (try clear hb2); (try clear hk); (try clear hi)) | ((with_reducible refine gate_dst (N := 3) rfl ?_); refine bx_ 3 #[.int .i64 0, .int .i64 0] 23 ?_; intro gb911 hg w187 hbox hb; have BK911 := Aside0.mk (hbox); have GW911 := gw_ hg (below_size (bv_ HB)); have GE911 := GW911; replace HB := Aside0.mk (below_step (bv_ HB) hb); clear hb hbox hg; obtain ⟨hcz188_0, hcz188_1, hfz188_0, hfz188_1⟩ := c2_ BK911) | ((with_reducible refine gate_callee (f := 10) rfl ?_); refine gl_ 35 Tryd.func10 #[.agg #[.int .i64 t909, .int .i64 t910]] rfl mp_ ?_; (with_reducible refine (impl_AnfOf.calls t909 t910 t912 t913 false _ A5.out).mono ?_); rintro e w189 ⟨rfl, hb⟩; refine ⟨_, rfl, ?_⟩; replace BK911 := Aside0.mk (blk_below (g := gb911) (o := .cells #[.int .i64 t909, .int .i64 t910] 23 (0, 0)) (by (with_reducible repeat (first | refine blk_drewN ?_ _ | refine blk_drew ?_ | refine blk_alloc ?_ _)); refine blk_put (cs := #[.int .i64 t909, .int .i64 0]) ?_ 1 _ rfl; (with_reducible repeat (first | refine blk_drewN ?_ _ | refine blk_drew ?_ | refine blk_alloc ?_ _)); refine blk_put (cs := #[.int .i64 0, .int .i64 0]) ?_ 0 _ rfl; (with_reducible repeat (first | refine blk_drewN ?_ _ | refine blk_drew ?_ | refine blk_alloc ?_ _)); exact BK911.out) hb); replace HB := Aside0.mk (below_step (bv1_ HB GE911) hb); (try clear hb); (try clear hb2); (try clear hk); (try clear hi)) | ((with_reducible refine gate_dst (N := 4) rfl ?_); refine bx_ 4 #[.int .i64 0, .int .i64 0] 23 ?_; intro gb915 hg w190 hbox hb; have BK915 := Aside0.mk (hbox); have GW915 := gw_ hg (below_size (bv1_ HB GE911)); have GE915 := GW915; replace HB := Aside0.mk (below_step (bv1_ HB GE911) hb); have NB911_915 := nb_ hg (blk_lt (g := gb911) (o := .cells #[.int .i64 t909, .int .i64 t910] 23 (0, 0)) (kv_ BK911)); have NB915_911 := nc_ hg (blk_lt (g := gb911) (o := .cells #[.int .i64 t909, .int .i64 t910] 23 (0, 0)) (kv_ BK911)); replace BK911 := kb_ BK911 hb; clear hb hbox hg; have hnb191 := NB915_911.out; have hnc191 := NB911_915.out; obtain ⟨hcz192_0, hcz192_1, hfz192_0, hfz192_1⟩ := c2_ BK915; obtain ⟨hcz193_0, hcz193_1, hfz193_0, hfz193_1⟩ := c2_ BK911) | ((with_reducible refine gate_callee (f := 11) rfl ?_); refine gl_ 40 Tryd.func11 #[.agg #[.int .i64 t909, .int .i64 t910]] rfl mp_ ?_; (with_reducible refine (spec_AnfOf.calls k t909 t910 t916 t917 t918 _ A6.out).mono ?_); rintro e w194 ⟨rfl, hb⟩; refine ⟨_, rfl, ?_⟩; replace BK911 := Aside0.mk (blk_below (g := gb911) (o := .cells #[.int .i64 t909, .int .i64 t910] 23 (0, 0)) (by (with_reducible repeat (first | refine blk_drewN ?_ _ | refine blk_drew ?_ | refine blk_alloc ?_ _)); refine blk_far ?_ NB911_915.out _; (with_reducible repeat (first | refine blk_drewN ?_ _ | refine blk_drew ?_ | refine blk_alloc ?_ _)); refine blk_far ?_ NB911_915.out _; (with_reducible repeat (first | refine blk_drewN ?_ _ | refine blk_drew ?_ | refine blk_alloc ?_ _)); exact BK911.out) hb); replace BK915 := Aside0.mk (blk_below (g := gb915) (o := .cells #[.int .i64 t912, .int .i64 t913] 23 (0, 0)) (by (with_reducible repeat (first | refine blk_drewN ?_ _ | refine blk_drew ?_ | refine blk_alloc ?_ _)); refine blk_put (cs := #[.int .i64 t912, .int .i64 0]) ?_ 1 _ rfl; (with_reducible repeat (first | refine blk_drewN ?_ _ | refine blk_drew ?_ | refine blk_alloc ?_ _)); refine blk_put (cs := #[.int .i64 0, .int .i64 0]) ?_ 0 _ rfl; (with_reducible repeat (first | refine blk_drewN ?_ _ | refine blk_drew ?_ | refine blk_alloc ?_ _)); exact BK915.out) hb); replace HB := Aside0.mk (below_step (bv2_ HB GE911 GE915) hb); (try clear hb); (try clear hb2); (try clear hk); (try clear hi)) | ((with_reducible refine gate_dst (N := 6) rfl ?_); refine bx_ 6 #[.int .i64 0, .int .i64 0] 23 ?_; intro gb919 hg w195 hbox hb; have BK919 := Aside0.mk (hbox); have GW919 := gw_ hg (below_size (bv2_ HB GE911 GE915)); have GE919 := GW919; replace HB := Aside0.mk (below_step (bv2_ HB GE911 GE915) hb); have NB911_919 := nb_ hg (blk_lt (g := gb911) (o := .cells #[.int .i64 t909, .int .i64 t910] 23 (0, 0)) (kv_ BK911)); have NB919_911 := nc_ hg (blk_lt (g := gb911) (o := .cells #[.int .i64 t909, .int .i64 t910] 23 (0, 0)) (kv_ BK911)); replace BK911 := kb_ BK911 hb; have NB915_919 := nb_ hg (blk_lt (g := gb915) (o := .cells #[.int .i64 t912, .int .i64 t913] 23 (0, 0)) (kv_ BK915)); have NB919_915 := nc_ hg (blk_lt (g := gb915) (o := .cells #[.int .i64 t912, .int .i64 t913] 23 (0, 0)) (kv_ BK915)); replace BK915 := kb_ BK915 hb; clear hb hbox hg; have hnb196 := NB919_911.out; have hnc196 := NB911_919.out; have hnb197 := NB919_915.out; have hnc197 := NB915_919.out; obtain ⟨hcz198_0, hcz198_1, hfz198_0, hfz198_1⟩ := c2_ BK919; obtain ⟨hcz199_0, hcz199_1, hfz199_0, hfz199_1⟩ := c2_ BK911) | ((with_reducible refine gate_callee (f := 12) rfl ?_); refine gl_ 44 Tryd.func12 #[.agg #[.int .i64 t909, .int .i64 t910]] rfl mp_ ?_; (with_reducible refine (impl_RealCoefficients.calls k t909 t910 t920 _ A7.out).mono ?_); rintro e w200 ⟨v921, rfl, ho0, hb⟩; refine ⟨_, rfl, ?_⟩; have HO922 := Aside0.mk (Kd.R_lower ho0 (below_size (bv3_ HB GE911 GE915 GE919))); replace BK911 := Aside0.mk (blk_below (g := gb911) (o := .cells #[.int .i64 t909, .int .i64 t910] 23 (0, 0)) (by (with_reducible repeat (first | refine blk_drewN ?_ _ | refine blk_drew ?_ | refine blk_alloc ?_ _)); refine blk_far ?_ NB911_919.out _; (with_reducible repeat (first | refine blk_drewN ?_ _ | refine blk_drew ?_ | refine blk_alloc ?_ _)); refine blk_far ?_ NB911_919.out _; (with_reducible repeat (first | refine blk_drewN ?_ _ | refine blk_drew ?_ | refine blk_alloc ?_ _)); exact BK911.out) hb); replace BK915 := Aside0.mk (blk_below (g := gb915) (o := .cells #[.int .i64 t912, .int .i64 t913] 23 (0, 0)) (by (with_reducible repeat (first | refine blk_drewN ?_ _ | refine blk_drew ?_ | refine blk_alloc ?_ _)); refine blk_far ?_ NB915_919.out _; (with_reducible repeat (first | refine blk_drewN ?_ _ | refine blk_drew ?_ | refine blk_alloc ?_ _)); refine blk_far ?_ NB915_919.out _; (with_reducible repeat (first | refine blk_drewN ?_ _ | refine blk_drew ?_ | refine blk_alloc ?_ _)); exact BK915.out) hb); replace BK919 := Aside0.mk (blk_below (g := gb919) (o := .cells #[.int .i64 t916, .int .i64 t917] 23 (0, 0)) (by (with_reducible repeat (first | refine blk_drewN ?_ _ | refine blk_drew ?_ | refine blk_alloc ?_ _)); refine blk_put (cs := #[.int .i64 t916, .int .i64 0]) ?_ 1 _ rfl; (with_reducible repeat (first | refine blk_drewN ?_ _ | refine blk_drew ?_ | refine blk_alloc ?_ _)); refine blk_put (cs := #[.int .i64 0, .int .i64 0]) ?_ 0 _ rfl; (with_reducible repeat (first | refine blk_drewN ?_ _ | refine blk_drew ?_ | refine blk_alloc ?_ _)); exact BK919.out) hb); replace HB := Aside0.mk (below_step (bv3_ HB GE911 GE915 GE919) hb); (try clear hb); (try clear hb2); (try clear hk); (try clear hi); (try clear ho0)))
            replace HO922 := Aside0.mk (Kd.R_drew HO922.out)
            replace BK911 := Aside0.mk (blk_drew BK911.out)
            replace BK915 := Aside0.mk (blk_drew BK915.out)
            replace BK919 := Aside0.mk (blk_drew BK919.out)
            replace HB := Aside0.mk (below_drew1 HB.out)
            (try clear hcz188_0); (try clear hcz188_1); (try clear hfz188_0); (try clear hfz188_1); (try clear hnb191); (try clear hnc191); (try clear hcz192_0); (try clear hcz192_1); (try clear hfz192_0); (try clear hfz192_1); (try clear hcz193_0); (try clear hcz193_1)
            (try clear hfz193_0); (try clear hfz193_1); (try clear hnb196); (try clear hnc196); (try clear hnb197); (try clear hnc197); (try clear hcz198_0); (try clear hcz198_1); (try clear hfz198_0); (try clear hfz198_1); (try clear hcz199_0); (try clear hcz199_1)
            (try clear hfz199_0); (try clear hfz199_1)
            refine start_ (n := 29) (S := fun w' => w'.cell? ⟨gb915, 0, none⟩ = some (.int .i64 t912) ∧ w'.cell? ⟨gb915, 1, none⟩ = some (.int .i64 t913) ∧ w'.cell? ⟨gb919, 0, none⟩ = some (.int .i64 t916) ∧ w'.cell? ⟨gb919, 1, none⟩ = some (.int .i64 t917) ∧ w'.cell? ⟨gb911, 0, none⟩ = some (.int .i64 t909) ∧ w'.cell? ⟨gb911, 1, none⟩ = some (.int .i64 t910)) (ds := []) (bs 29 0) (by kernel_rfl) rfl (by kernel_rfl) ⟨(blk_cell BK915.out 0).trans rfl, (blk_cell BK915.out 1).trans rfl, (blk_cell BK919.out 0).trans rfl, (blk_cell BK919.out 1).trans rfl, (blk_cell BK911.out 0).trans rfl, (blk_cell BK911.out 1).trans rfl⟩ (fun hHeld => ?_); refine with_tabW laws_FnDegrees.tab7 laws_FnDegrees.bits7 (fun HT_ HW_ => ?_)
            generalize w200.drew = w201 at HO922 BK911 BK915 BK919 HB hHeld ⊢
            refine ta6_ HT_ HW_ 0 45 (bs 29 1) hHeld ?_
            refine ta6_ HT_ HW_ 1 46 (bs 29 3) hHeld ?_
            refine pu_ HT_ 2 47 (bs 29 7) ?_
            refine pu_ HT_ 3 48 (bs 29 15) ?_
            refine pu_ HT_ 4 49 (bs 29 31) ?_
            refine pu_ HT_ 5 50 (bs 29 63) ?_
            refine pu_ HT_ 6 51 (bs 29 127) ?_
            refine pu_ HT_ 7 52 (bs 29 255) ?_
            refine pu_ HT_ 8 53 (bs 29 511) ?_
            refine pu_ HT_ 9 54 (bs 29 1023) ?_
            refine ta6_ HT_ HW_ 10 55 (bs 29 2047) hHeld ?_
            refine on_ HT_ 11 56 (bs 29 4095) (fun K hK => ?_)
            refine goes_ Tryd.func14 (by kernel_rfl) rfl #[.agg #[.int .i64 t909, .int .i64 t910]] (by rfl) rfl rfl mp_ ?_
            with_reducible refine (spec_RealCoefficients.calls k t909 t910 t923 _ A10.out).mono ?_
            rintro e w202 ⟨v924, rfl, ho0, hb⟩
            refine ⟨_, rfl, ?_⟩
            have HO925 := Aside0.mk (Kd.R_lower (Kd.R_new' ho0 (Kd.R_lt (rv_ HO922))) (below_size (bv3_ HB GE911 GE915 GE919)))
            replace HO922 := Aside0.mk (Kd.R_elder' (rv_ HO922) (Kd.R_base ho0) hb)
            replace BK911 := kb_ BK911 hb
            replace BK915 := kb_ BK915 hb
            replace BK919 := kb_ BK919 hb
            replace HB := Aside0.mk (below_step (bv3_ HB GE911 GE915 GE919) hb)
            (try clear hb)
            (try clear hb2)
            (try clear hk)
            (try clear hi)
            (try clear ho0)
            obtain ⟨Ao203, co203, eo203⟩ := Kd.R_slice HO922.out
            (first | subst eo203 | (injection eo203 with f1_ f2_ f3_; have f4_ := f1_.symm; have f5_ := f3_.symm; clear f1_ f2_ f3_; subst f4_; subst f5_))
            obtain ⟨Ao204, co204, eo204⟩ := Kd.R_slice HO925.out
            (first | subst eo204 | (injection eo204 with f1_ f2_ f3_; have f4_ := f1_.symm; have f5_ := f3_.symm; clear f1_ f2_ f3_; subst f4_; subst f5_))
            refine hK.out _ _ ⟨(blk_cell BK915.out 0).trans rfl, (blk_cell BK915.out 1).trans rfl, (blk_cell BK919.out 0).trans rfl, (blk_cell BK919.out 1).trans rfl, (blk_cell BK911.out 0).trans rfl, (blk_cell BK911.out 1).trans rfl⟩ (fun hHeld => ?_)
            clear hK K
            refine no_ 56 ?_
            refine on_ HT_ 12 57 (bs 29 8191) (fun K hK => ?_)
            refine goes_ Tryd.func13 (by kernel_rfl) rfl #[.slice Ao203 t920.length co203, .slice Ao204 t923.length co204] (by rfl) rfl rfl mp_ ?_
            with_reducible refine (laws_sameInts.calls k _ _ t920 _ _ t923 true _ ?side1 ?side2 ?side3 ?side4 A11.out).mono ?_
            (case side1 => repeat (first | exact (Kd.R_reads' HO922.out).2.2 | (with_reducible refine Kd.C_alloc ?_ _) | (with_reducible refine Kd.C_drewN ?_ _) | (with_reducible refine Kd.C_drew ?_)))
            (case side2 => exact (Kd.R_reads' HO922.out).2.1)
            (case side3 => repeat (first | exact (Kd.R_reads' HO925.out).2.2 | (with_reducible refine Kd.C_alloc ?_ _) | (with_reducible refine Kd.C_drewN ?_ _) | (with_reducible refine Kd.C_drew ?_)))
            (case side4 => exact (Kd.R_reads' HO925.out).2.1)
            rintro e w' ⟨rfl, ⟨nd, rfl⟩⟩
            refine ⟨_, rfl, ?_⟩
            refine hK.out _ _ ⟨(blk_cell BK915.out 0).trans rfl, (blk_cell BK915.out 1).trans rfl, (blk_cell BK919.out 0).trans rfl, (blk_cell BK919.out 1).trans rfl, (blk_cell BK911.out 0).trans rfl, (blk_cell BK911.out 1).trans rfl⟩ (fun hHeld => ?_)
            clear hK K
            refine no_ 57 ?_
            refine pu_ HT_ 13 58 (bs 29 16383) ?_
            refine pu_ HT_ 14 59 (bs 29 32767) ?_
            refine pu_ HT_ 15 60 (bs 29 65535) ?_
            refine ta6_ HT_ HW_ 16 61 (bs 29 131071) hHeld ?_
            refine ta6_ HT_ HW_ 18 63 (bs 29 393215) hHeld ?_
            refine on_ HT_ 17 62 (bs 29 524287) (fun K hK => ?_)
            refine goes_ Tryd.func15 (by kernel_rfl) rfl #[.agg #[.int .i64 t909, .int .i64 t910]] (by rfl) rfl rfl mp_ ?_
            with_reducible refine (impl_DegreeMod2.calls t909 t910 t927 _ A13.out).mono ?_
            rintro e w205 ⟨rfl, hb⟩
            refine ⟨_, rfl, ?_⟩
            replace HO922 := Aside0.mk (Kd.R_below (rv_ HO922) hb)
            replace HO925 := Aside0.mk (Kd.R_below (rv_ HO925) hb)
            replace BK911 := kb_ BK911 hb
            replace BK915 := kb_ BK915 hb
            replace BK919 := kb_ BK919 hb
            replace HB := Aside0.mk (below_step (bv3_ HB GE911 GE915 GE919) hb)
            (try clear hb)
            (try clear hb2)
            (try clear hk)
            (try clear hi)
            refine hK.out _ _ ⟨(blk_cell BK915.out 0).trans rfl, (blk_cell BK915.out 1).trans rfl, (blk_cell BK919.out 0).trans rfl, (blk_cell BK919.out 1).trans rfl, (blk_cell BK911.out 0).trans rfl, (blk_cell BK911.out 1).trans rfl⟩ (fun hHeld => ?_)
            clear hK K
            refine no_ 62 ?_
            refine on_ HT_ 19 64 (bs 29 1048575) (fun K hK => ?_)
            refine goes_ Tryd.func16 (by kernel_rfl) rfl #[.agg #[.int .i64 t909, .int .i64 t910]] (by rfl) rfl rfl mp_ ?_
            with_reducible refine (spec_DegreeMod2.calls k t909 t910 t928 _ A14.out).mono ?_
            rintro e w206 ⟨rfl, hb⟩
            refine ⟨_, rfl, ?_⟩
            replace HO922 := Aside0.mk (Kd.R_below (rv_ HO922) hb)
            replace HO925 := Aside0.mk (Kd.R_below (rv_ HO925) hb)
            replace BK911 := kb_ BK911 hb
            replace BK915 := kb_ BK915 hb
            replace BK919 := kb_ BK919 hb
            replace HB := Aside0.mk (below_step (bv3_ HB GE911 GE915 GE919) hb)
            (try clear hb)
            (try clear hb2)
            (try clear hk)
            (try clear hi)
            refine hK.out _ _ ⟨(blk_cell BK915.out 0).trans rfl, (blk_cell BK915.out 1).trans rfl, (blk_cell BK919.out 0).trans rfl, (blk_cell BK919.out 1).trans rfl, (blk_cell BK911.out 0).trans rfl, (blk_cell BK911.out 1).trans rfl⟩ (fun hHeld => ?_)
            clear hK K
            refine no_ 64 ?_
            refine pu_ HT_ 20 65 (bs 29 2097151) ?_
            refine pu_ HT_ 21 66 (bs 29 4194303) ?_
            refine pu_ HT_ 22 67 (bs 29 8388607) ?_
            refine ta6_ HT_ HW_ 23 68 (bs 29 16777215) hHeld ?_
            refine ta6_ HT_ HW_ 25 70 (bs 29 50331647) hHeld ?_
            refine on_ HT_ 24 69 (bs 29 67108863) (fun K hK => ?_)
            refine goes_ Tryd.func17 (by kernel_rfl) rfl #[.agg #[.int .i64 t909, .int .i64 t910]] (by rfl) rfl rfl mp_ ?_
            with_reducible refine (impl_RealDegree.calls k t909 t910 t929 _ A16.out).mono ?_
            rintro e w207 ⟨rfl, hb⟩
            refine ⟨_, rfl, ?_⟩
            replace HO922 := Aside0.mk (Kd.R_below (rv_ HO922) hb)
            replace HO925 := Aside0.mk (Kd.R_below (rv_ HO925) hb)
            replace BK911 := kb_ BK911 hb
            replace BK915 := kb_ BK915 hb
            replace BK919 := kb_ BK919 hb
            replace HB := Aside0.mk (below_step (bv3_ HB GE911 GE915 GE919) hb)
            (try clear hb)
            (try clear hb2)
            (try clear hk)
            (try clear hi)
            refine hK.out _ _ ⟨(blk_cell BK915.out 0).trans rfl, (blk_cell BK915.out 1).trans rfl, (blk_cell BK919.out 0).trans rfl, (blk_cell BK919.out 1).trans rfl, (blk_cell BK911.out 0).trans rfl, (blk_cell BK911.out 1).trans rfl⟩ (fun hHeld => ?_)
            clear hK K
            refine no_ 69 ?_
            refine on_ HT_ 26 71 (bs 29 134217727) (fun K hK => ?_)
            refine goes_ Tryd.func18 (by kernel_rfl) rfl #[.agg #[.int .i64 t909, .int .i64 t910]] (by rfl) rfl rfl mp_ ?_
            with_reducible refine (spec_RealDegree.calls k t909 t910 t930 _ A17.out).mono ?_
            rintro e w208 ⟨rfl, hb⟩
            refine ⟨_, rfl, ?_⟩
            replace HO922 := Aside0.mk (Kd.R_below (rv_ HO922) hb)
            replace HO925 := Aside0.mk (Kd.R_below (rv_ HO925) hb)
            replace BK911 := kb_ BK911 hb
            replace BK915 := kb_ BK915 hb
            replace BK919 := kb_ BK919 hb
            replace HB := Aside0.mk (below_step (bv3_ HB GE911 GE915 GE919) hb)
            (try clear hb)
            (try clear hb2)
            (try clear hk)
            (try clear hi)
            refine hK.out _ _ ⟨(blk_cell BK915.out 0).trans rfl, (blk_cell BK915.out 1).trans rfl, (blk_cell BK919.out 0).trans rfl, (blk_cell BK919.out 1).trans rfl, (blk_cell BK911.out 0).trans rfl, (blk_cell BK911.out 1).trans rfl⟩ (fun hHeld => ?_)
            clear hK K
            refine no_ 71 ?_
            refine pu_ HT_ 27 72 (bs 29 268435455) ?_
            refine pu_ HT_ 28 73 (bs 29 536870911) ?_
            refine done_ (done_of HT_.out (by kernel_rfl)) ?_
            try go_wp2_with (first | ((with_reducible refine gate_callee (f := 24) rfl ?_); refine gl_ 158 Tryd.func24 #[.slice A0 l0.length c0] rfl mp_ ?_; (with_reducible refine (spec_DrawTableOfCoefficients.calls k _ _ l0 t977 _ ?side1 ?side2 A173.out).mono ?_); (case side1 => exact cv_ (Kd.C_below HR0.out HB.out)); (case side2 => exact HC0.out); rintro e w209 ⟨v978, rfl, ho0, hb⟩; refine ⟨_, rfl, ?_⟩; have n0_ := Aside0.mk (Kd.R_elder' (rv_ HO922) (Kd.R_base ho0) hb); have n1_ := Aside0.mk (Kd.R_elder' (rv_ HO925) (Kd.R_base ho0) hb); have n2_ := Aside0.mk (Kd.R_lower (Kd.R_new' (Kd.R_new' ho0 (Kd.R_lt (rv_ HO922))) (Kd.R_lt (rv_ HO925))) (below_size (bv3_ HB GE911 GE915 GE919))); have n3_ := kb_ BK911 hb; have n4_ := kb_ BK915 hb; have n5_ := kb_ BK919 hb; have n6_ := Aside0.mk (below_step (bv3_ HB GE911 GE915 GE919) hb); clear HO922; clear HO925; clear BK911; clear BK915; clear BK919; clear HB; have HO922 := n0_; have HO925 := n1_; have HO979 := n2_; have BK911 := n3_; have BK915 := n4_; have BK919 := n5_; have HB := n6_; clear n0_ n1_ n2_ n3_ n4_ n5_ n6_; (try clear hb); (try clear hb2); (try clear hk); (try clear hi); (try clear ho0); obtain ⟨Ao210, co210, eo210⟩ := Kd.R_slice HO979.out; subst eo210) | ((with_reducible refine gate_callee (f := 19) rfl ?_); refine gl_ 161 Tryd.func19 #[.slice Ao210 t977.length co210] rfl mp_ ?_; (with_reducible refine (impl_TableOfCoefficients.calls k _ _ t977 t980 t981 t982 _ ?side1 ?side2 A174.out).mono ?_); (case side1 => repeat (first | exact (Kd.R_reads' HO979.out).2.2 | (with_reducible refine Kd.C_alloc ?_ _) | (with_reducible refine Kd.C_drewN ?_ _) | (with_reducible refine Kd.C_drew ?_))); (case side2 => exact (Kd.R_reads' HO979.out).2.1); rintro e w211 ⟨rfl, hb⟩; refine ⟨_, rfl, ?_⟩; have n0_ := Aside0.mk (Kd.R_below (rv_ HO922) hb); have n1_ := Aside0.mk (Kd.R_below (rv_ HO925) hb); have n2_ := Aside0.mk (Kd.R_below (rv_ HO979) hb); have n3_ := kb_ BK911 hb; have n4_ := kb_ BK915 hb; have n5_ := kb_ BK919 hb; have n6_ := Aside0.mk (below_step (bv3_ HB GE911 GE915 GE919) hb); clear HO922; clear HO925; clear HO979; clear BK911; clear BK915; clear BK919; clear HB; have HO922 := n0_; have HO925 := n1_; have HO979 := n2_; have BK911 := n3_; have BK915 := n4_; have BK919 := n5_; have HB := n6_; clear n0_ n1_ n2_ n3_ n4_ n5_ n6_; (try clear hb); (try clear hb2); (try clear hk); (try clear hi)) | ((with_reducible refine gate_dst (N := 18) rfl ?_); refine bx_ 18 #[.int .i64 0, .int .i64 0] 23 ?_; intro gb983 hg w212 hbox hb; have n0_ := Aside0.mk (Kd.R_below (rv_ HO922) hb); have n1_ := Aside0.mk (Kd.R_below (rv_ HO925) hb); have n2_ := Aside0.mk (Kd.R_below (rv_ HO979) hb); have n3_ := kb_ BK911 hb; have n4_ := kb_ BK915 hb; have n5_ := kb_ BK919 hb; have n6_ := Aside0.mk (below_step (bv3_ HB GE911 GE915 GE919) hb); have n7_ := Aside0.mk (hbox); have n8_ := gw_ hg (below_size (bv3_ HB GE911 GE915 GE919)); have n9_ := gw_ hg (below_size (bv3_ HB GE911 GE915 GE919)); have n10_ := nb_ hg (blk_lt (g := gb911) (o := .cells #[.int .i64 t909, .int .i64 t910] 23 (0, 0)) (kv_ BK911)); have n11_ := nc_ hg (blk_lt (g := gb911) (o := .cells #[.int .i64 t909, .int .i64 t910] 23 (0, 0)) (kv_ BK911)); have n12_ := nb_ hg (blk_lt (g := gb915) (o := .cells #[.int .i64 t912, .int .i64 t913] 23 (0, 0)) (kv_ BK915)); have n13_ := nc_ hg (blk_lt (g := gb915) (o := .cells #[.int .i64 t912, .int .i64 t913] 23 (0, 0)) (kv_ BK915)); have n14_ := nb_ hg (blk_lt (g := gb919) (o := .cells #[.int .i64 t916, .int .i64 t917] 23 (0, 0)) (kv_ BK919)); have n15_ := nc_ hg (blk_lt (g := gb919) (o := .cells #[.int .i64 t916, .int .i64 t917] 23 (0, 0)) (kv_ BK919)); clear HO922; clear HO925; clear HO979; clear BK911; clear BK915; clear BK919; clear HB; have HO922 := n0_; have HO925 := n1_; have HO979 := n2_; have BK911 := n3_; have BK915 := n4_; have BK919 := n5_; have HB := n6_; have BK983 := n7_; have GW983 := n8_; have GE983 := n9_; have NB911_983 := n10_; have NB983_911 := n11_; have NB915_983 := n12_; have NB983_915 := n13_; have NB919_983 := n14_; have NB983_919 := n15_; clear n0_ n1_ n2_ n3_ n4_ n5_ n6_ n7_ n8_ n9_ n10_ n11_ n12_ n13_ n14_ n15_; clear hb hbox hg; have hnb213 := NB983_911.out; have hnc213 := NB911_983.out; have hnb214 := NB983_915.out; have hnc214 := NB915_983.out; have hnb215 := NB983_919.out; have hnc215 := NB919_983.out; have hcz216_0 : w212.cell? ⟨gb983, 0, none⟩ = some (.int .i64 0) := (blk_cell BK983.out 0).trans rfl; have hcz216_1 : w212.cell? ⟨gb983, 1, none⟩ = some (.int .i64 0) := (blk_cell BK983.out 1).trans rfl; have hfz216_0 := blk_frozen BK983.out 0; have hfz216_1 := blk_frozen BK983.out 1) | ((with_reducible refine gate_callee (f := 25) rfl ?_); refine gl_ 166 Tryd.func25 #[.slice Ao210 t977.length co210] rfl mp_ ?_; (with_reducible refine (spec_TableOfCoefficients.calls k _ _ t977 t984 t985 t986 _ ?side1 ?side2 A175.out).mono ?_); (case side1 => refine (Kd.R_reads' (e := 3) (base := w.heap.size) (ok := fun k_ => ((True ∧ some k_ ≠ (.slice Ao203 t920.length co203 : Value).ownBlock) ∧ some k_ ≠ (.slice Ao204 t923.length co204 : Value).ownBlock)) (n := t977.length) (c := co210) ?_).2.2; exact (by (with_reducible repeat (first | apply Kd.R_alloc | apply Kd.R_drewN | apply Kd.R_drew)); exact (Kd.R_mono (Kd.R_far (p := ⟨gb983, 1, none⟩) (Kd.R_far (p := ⟨gb983, 0, none⟩) (Kd.R_types HO979.out BK983.out (by decide)) (fun _ hk => hk.2) (.int .i64 t980)) (fun _ hk => hk.2) (.int .i64 t981)) (fun _ h_ => h_.1)))); (case side2 => exact (Kd.R_reads' HO979.out).2.1); rintro e w217 ⟨rfl, hb⟩; refine ⟨_, rfl, ?_⟩; have n0_ := Aside0.mk (Kd.R_below (by (with_reducible repeat (first | apply Kd.R_alloc | apply Kd.R_drewN | apply Kd.R_drew)); exact (Kd.R_mono (Kd.R_far (p := ⟨gb983, 1, none⟩) (Kd.R_far (p := ⟨gb983, 0, none⟩) (Kd.R_types HO922.out BK983.out (by decide)) (fun _ hk => hk.2) (.int .i64 t980)) (fun _ hk => hk.2) (.int .i64 t981)) (fun _ h_ => h_.1))) hb); have n1_ := Aside0.mk (Kd.R_below (by (with_reducible repeat (first | apply Kd.R_alloc | apply Kd.R_drewN | apply Kd.R_drew)); exact (Kd.R_mono (Kd.R_far (p := ⟨gb983, 1, none⟩) (Kd.R_far (p := ⟨gb983, 0, none⟩) (Kd.R_types HO925.out BK983.out (by decide)) (fun _ hk => hk.2) (.int .i64 t980)) (fun _ hk => hk.2) (.int .i64 t981)) (fun _ h_ => h_.1))) hb); have n2_ := Aside0.mk (Kd.R_below (by (with_reducible repeat (first | apply Kd.R_alloc | apply Kd.R_drewN | apply Kd.R_drew)); exact (Kd.R_mono (Kd.R_far (p := ⟨gb983, 1, none⟩) (Kd.R_far (p := ⟨gb983, 0, none⟩) (Kd.R_types HO979.out BK983.out (by decide)) (fun _ hk => hk.2) (.int .i64 t980)) (fun _ hk => hk.2) (.int .i64 t981)) (fun _ h_ => h_.1))) hb); have n3_ := Aside0.mk (blk_below (g := gb911) (o := .cells #[.int .i64 t909, .int .i64 t910] 23 (0, 0)) (by (with_reducible repeat (first | refine blk_drewN ?_ _ | refine blk_drew ?_ | refine blk_alloc ?_ _)); refine blk_far ?_ NB911_983.out _; (with_reducible repeat (first | refine blk_drewN ?_ _ | refine blk_drew ?_ | refine blk_alloc ?_ _)); refine blk_far ?_ NB911_983.out _; (with_reducible repeat (first | refine blk_drewN ?_ _ | refine blk_drew ?_ | refine blk_alloc ?_ _)); exact BK911.out) hb); have n4_ := Aside0.mk (blk_below (g := gb915) (o := .cells #[.int .i64 t912, .int .i64 t913] 23 (0, 0)) (by (with_reducible repeat (first | refine blk_drewN ?_ _ | refine blk_drew ?_ | refine blk_alloc ?_ _)); refine blk_far ?_ NB915_983.out _; (with_reducible repeat (first | refine blk_drewN ?_ _ | refine blk_drew ?_ | refine blk_alloc ?_ _)); refine blk_far ?_ NB915_983.out _; (with_reducible repeat (first | refine blk_drewN ?_ _ | refine blk_drew ?_ | refine blk_alloc ?_ _)); exact BK915.out) hb); have n5_ := Aside0.mk (blk_below (g := gb919) (o := .cells #[.int .i64 t916, .int .i64 t917] 23 (0, 0)) (by (with_reducible repeat (first | refine blk_drewN ?_ _ | refine blk_drew ?_ | refine blk_alloc ?_ _)); refine blk_far ?_ NB919_983.out _; (with_reducible repeat (first | refine blk_drewN ?_ _ | refine blk_drew ?_ | refine blk_alloc ?_ _)); refine blk_far ?_ NB919_983.out _; (with_reducible repeat (first | refine blk_drewN ?_ _ | refine blk_drew ?_ | refine blk_alloc ?_ _)); exact BK919.out) hb); have n6_ := Aside0.mk (blk_below (g := gb983) (o := .cells #[.int .i64 t980, .int .i64 t981] 23 (0, 0)) (by (with_reducible repeat (first | refine blk_drewN ?_ _ | refine blk_drew ?_ | refine blk_alloc ?_ _)); refine blk_put (cs := #[.int .i64 t980, .int .i64 0]) ?_ 1 _ rfl; (with_reducible repeat (first | refine blk_drewN ?_ _ | refine blk_drew ?_ | refine blk_alloc ?_ _)); refine blk_put (cs := #[.int .i64 0, .int .i64 0]) ?_ 0 _ rfl; (with_reducible repeat (first | refine blk_drewN ?_ _ | refine blk_drew ?_ | refine blk_alloc ?_ _)); exact BK983.out) hb); have n7_ := Aside0.mk (below_step (bv4_ HB GE911 GE915 GE919 GE983) hb); clear HO922; clear HO925; clear HO979; clear BK911; clear BK915; clear BK919; clear BK983; clear HB; have HO922 := n0_; have HO925 := n1_; have HO979 := n2_; have BK911 := n3_; have BK915 := n4_; have BK919 := n5_; have BK983 := n6_; have HB := n7_; clear n0_ n1_ n2_ n3_ n4_ n5_ n6_ n7_; (try clear hb); (try clear hb2); (try clear hk); (try clear hi)) | ((with_reducible refine gate_dst (N := 20) rfl ?_); refine bx_ 20 #[.int .i64 0, .int .i64 0] 23 ?_; intro gb987 hg w218 hbox hb; have n0_ := Aside0.mk (Kd.R_below (rv_ HO922) hb); have n1_ := Aside0.mk (Kd.R_below (rv_ HO925) hb); have n2_ := Aside0.mk (Kd.R_below (rv_ HO979) hb); have n3_ := kb_ BK911 hb; have n4_ := kb_ BK915 hb; have n5_ := kb_ BK919 hb; have n6_ := kb_ BK983 hb; have n7_ := Aside0.mk (below_step (bv4_ HB GE911 GE915 GE919 GE983) hb); have n8_ := Aside0.mk (hbox); have n9_ := gw_ hg (below_size (bv4_ HB GE911 GE915 GE919 GE983)); have n10_ := gw_ hg (below_size (bv4_ HB GE911 GE915 GE919 GE983)); have n11_ := nb_ hg (blk_lt (g := gb911) (o := .cells #[.int .i64 t909, .int .i64 t910] 23 (0, 0)) (kv_ BK911)); have n12_ := nc_ hg (blk_lt (g := gb911) (o := .cells #[.int .i64 t909, .int .i64 t910] 23 (0, 0)) (kv_ BK911)); have n13_ := nb_ hg (blk_lt (g := gb915) (o := .cells #[.int .i64 t912, .int .i64 t913] 23 (0, 0)) (kv_ BK915)); have n14_ := nc_ hg (blk_lt (g := gb915) (o := .cells #[.int .i64 t912, .int .i64 t913] 23 (0, 0)) (kv_ BK915)); have n15_ := nb_ hg (blk_lt (g := gb919) (o := .cells #[.int .i64 t916, .int .i64 t917] 23 (0, 0)) (kv_ BK919)); have n16_ := nc_ hg (blk_lt (g := gb919) (o := .cells #[.int .i64 t916, .int .i64 t917] 23 (0, 0)) (kv_ BK919)); have n17_ := nb_ hg (blk_lt (g := gb983) (o := .cells #[.int .i64 t980, .int .i64 t981] 23 (0, 0)) (kv_ BK983)); have n18_ := nc_ hg (blk_lt (g := gb983) (o := .cells #[.int .i64 t980, .int .i64 t981] 23 (0, 0)) (kv_ BK983)); clear HO922; clear HO925; clear HO979; clear BK911; clear BK915; clear BK919; clear BK983; clear HB; have HO922 := n0_; have HO925 := n1_; have HO979 := n2_; have BK911 := n3_; have BK915 := n4_; have BK919 := n5_; have BK983 := n6_; have HB := n7_; have BK987 := n8_; have GW987 := n9_; have GE987 := n10_; have NB911_987 := n11_; have NB987_911 := n12_; have NB915_987 := n13_; have NB987_915 := n14_; have NB919_987 := n15_; have NB987_919 := n16_; have NB983_987 := n17_; have NB987_983 := n18_; clear n0_ n1_ n2_ n3_ n4_ n5_ n6_ n7_ n8_ n9_ n10_ n11_ n12_ n13_ n14_ n15_ n16_ n17_ n18_; clear hb hbox hg; have hnb219 := NB987_911.out; have hnc219 := NB911_987.out; have hnb220 := NB987_915.out; have hnc220 := NB915_987.out; have hnb221 := NB987_919.out; have hnc221 := NB919_987.out; have hnb222 := NB987_983.out; have hnc222 := NB983_987.out; have hcz223_0 : w218.cell? ⟨gb987, 0, none⟩ = some (.int .i64 0) := (blk_cell BK987.out 0).trans rfl; have hcz223_1 : w218.cell? ⟨gb987, 1, none⟩ = some (.int .i64 0) := (blk_cell BK987.out 1).trans rfl; have hfz223_0 := blk_frozen BK987.out 0; have hfz223_1 := blk_frozen BK987.out 1) | ((with_reducible refine gate_callee (f := 26) rfl ?_); refine gl_ 171 Tryd.func26 #[.slice A0 l0.length c0] rfl mp_ ?_; (with_reducible refine (spec_DrawParseAnf.calls k _ _ l0 t988 t989 _ ?side1 ?side2 A176.out).mono ?_); (case side1 => exact Kd.C_below HR0.out (bv5_ HB GE911 GE915 GE919 GE983 GE987)); (case side2 => exact HC0.out); rintro e w224 ⟨rfl, hb⟩; refine ⟨_, rfl, ?_⟩; have n0_ := Aside0.mk (Kd.R_below (by (with_reducible repeat (first | apply Kd.R_alloc | apply Kd.R_drewN | apply Kd.R_drew)); exact (Kd.R_mono (Kd.R_far (p := ⟨gb987, 1, none⟩) (Kd.R_far (p := ⟨gb987, 0, none⟩) (Kd.R_types HO922.out BK987.out (by decide)) (fun _ hk => hk.2) (.int .i64 t984)) (fun _ hk => hk.2) (.int .i64 t985)) (fun _ h_ => h_.1))) hb); have n1_ := Aside0.mk (Kd.R_below (by (with_reducible repeat (first | apply Kd.R_alloc | apply Kd.R_drewN | apply Kd.R_drew)); exact (Kd.R_mono (Kd.R_far (p := ⟨gb987, 1, none⟩) (Kd.R_far (p := ⟨gb987, 0, none⟩) (Kd.R_types HO925.out BK987.out (by decide)) (fun _ hk => hk.2) (.int .i64 t984)) (fun _ hk => hk.2) (.int .i64 t985)) (fun _ h_ => h_.1))) hb); have n2_ := Aside0.mk (Kd.R_below (by (with_reducible repeat (first | apply Kd.R_alloc | apply Kd.R_drewN | apply Kd.R_drew)); exact (Kd.R_mono (Kd.R_far (p := ⟨gb987, 1, none⟩) (Kd.R_far (p := ⟨gb987, 0, none⟩) (Kd.R_types HO979.out BK987.out (by decide)) (fun _ hk => hk.2) (.int .i64 t984)) (fun _ hk => hk.2) (.int .i64 t985)) (fun _ h_ => h_.1))) hb); have n3_ := Aside0.mk (blk_below (g := gb911) (o := .cells #[.int .i64 t909, .int .i64 t910] 23 (0, 0)) (by (with_reducible repeat (first | refine blk_drewN ?_ _ | refine blk_drew ?_ | refine blk_alloc ?_ _)); refine blk_far ?_ NB911_987.out _; (with_reducible repeat (first | refine blk_drewN ?_ _ | refine blk_drew ?_ | refine blk_alloc ?_ _)); refine blk_far ?_ NB911_987.out _; (with_reducible repeat (first | refine blk_drewN ?_ _ | refine blk_drew ?_ | refine blk_alloc ?_ _)); exact BK911.out) hb); have n4_ := Aside0.mk (blk_below (g := gb915) (o := .cells #[.int .i64 t912, .int .i64 t913] 23 (0, 0)) (by (with_reducible repeat (first | refine blk_drewN ?_ _ | refine blk_drew ?_ | refine blk_alloc ?_ _)); refine blk_far ?_ NB915_987.out _; (with_reducible repeat (first | refine blk_drewN ?_ _ | refine blk_drew ?_ | refine blk_alloc ?_ _)); refine blk_far ?_ NB915_987.out _; (with_reducible repeat (first | refine blk_drewN ?_ _ | refine blk_drew ?_ | refine blk_alloc ?_ _)); exact BK915.out) hb); have n5_ := Aside0.mk (blk_below (g := gb919) (o := .cells #[.int .i64 t916, .int .i64 t917] 23 (0, 0)) (by (with_reducible repeat (first | refine blk_drewN ?_ _ | refine blk_drew ?_ | refine blk_alloc ?_ _)); refine blk_far ?_ NB919_987.out _; (with_reducible repeat (first | refine blk_drewN ?_ _ | refine blk_drew ?_ | refine blk_alloc ?_ _)); refine blk_far ?_ NB919_987.out _; (with_reducible repeat (first | refine blk_drewN ?_ _ | refine blk_drew ?_ | refine blk_alloc ?_ _)); exact BK919.out) hb); have n6_ := Aside0.mk (blk_below (g := gb983) (o := .cells #[.int .i64 t980, .int .i64 t981] 23 (0, 0)) (by (with_reducible repeat (first | refine blk_drewN ?_ _ | refine blk_drew ?_ | refine blk_alloc ?_ _)); refine blk_far ?_ NB983_987.out _; (with_reducible repeat (first | refine blk_drewN ?_ _ | refine blk_drew ?_ | refine blk_alloc ?_ _)); refine blk_far ?_ NB983_987.out _; (with_reducible repeat (first | refine blk_drewN ?_ _ | refine blk_drew ?_ | refine blk_alloc ?_ _)); exact BK983.out) hb); have n7_ := Aside0.mk (blk_below (g := gb987) (o := .cells #[.int .i64 t984, .int .i64 t985] 23 (0, 0)) (by (with_reducible repeat (first | refine blk_drewN ?_ _ | refine blk_drew ?_ | refine blk_alloc ?_ _)); refine blk_put (cs := #[.int .i64 t984, .int .i64 0]) ?_ 1 _ rfl; (with_reducible repeat (first | refine blk_drewN ?_ _ | refine blk_drew ?_ | refine blk_alloc ?_ _)); refine blk_put (cs := #[.int .i64 0, .int .i64 0]) ?_ 0 _ rfl; (with_reducible repeat (first | refine blk_drewN ?_ _ | refine blk_drew ?_ | refine blk_alloc ?_ _)); exact BK987.out) hb); have n8_ := Aside0.mk (below_step (bv5_ HB GE911 GE915 GE919 GE983 GE987) hb); clear HO922; clear HO925; clear HO979; clear BK911; clear BK915; clear BK919; clear BK983; clear BK987; clear HB; have HO922 := n0_; have HO925 := n1_; have HO979 := n2_; have BK911 := n3_; have BK915 := n4_; have BK919 := n5_; have BK983 := n6_; have BK987 := n7_; have HB := n8_; clear n0_ n1_ n2_ n3_ n4_ n5_ n6_ n7_ n8_; (try clear hb); (try clear hb2); (try clear hk); (try clear hi)) | ((with_reducible refine gate_callee (f := 6) rfl ?_); refine gl_ 177 Tryd.func6 #[.int .i64 t988, .string t989] rfl mp_ ?_; (with_reducible refine (impl_ParseAnf.calls k t988 t989 t990 t991 t992 _ A177.out).mono ?_); rintro e w225 ⟨rfl, hb⟩; refine ⟨_, rfl, ?_⟩; have n0_ := Aside0.mk (Kd.R_below (rv_ HO922) hb); have n1_ := Aside0.mk (Kd.R_below (rv_ HO925) hb); have n2_ := Aside0.mk (Kd.R_below (rv_ HO979) hb); have n3_ := kb_ BK911 hb; have n4_ := kb_ BK915 hb; have n5_ := kb_ BK919 hb; have n6_ := kb_ BK983 hb; have n7_ := kb_ BK987 hb; have n8_ := Aside0.mk (below_step (bv5_ HB GE911 GE915 GE919 GE983 GE987) hb); clear HO922; clear HO925; clear HO979; clear BK911; clear BK915; clear BK919; clear BK983; clear BK987; clear HB; have HO922 := n0_; have HO925 := n1_; have HO979 := n2_; have BK911 := n3_; have BK915 := n4_; have BK919 := n5_; have BK983 := n6_; have BK987 := n7_; have HB := n8_; clear n0_ n1_ n2_ n3_ n4_ n5_ n6_ n7_ n8_; (try clear hb); (try clear hb2); (try clear hk); (try clear hi)) | ((with_reducible refine gate_dst (N := 24) rfl ?_); refine bx_ 24 #[.int .i64 0, .int .i64 0] 23 ?_; intro gb993 hg w226 hbox hb; have n0_ := Aside0.mk (Kd.R_below (rv_ HO922) hb); have n1_ := Aside0.mk (Kd.R_below (rv_ HO925) hb); have n2_ := Aside0.mk (Kd.R_below (rv_ HO979) hb); have n3_ := kb_ BK911 hb; have n4_ := kb_ BK915 hb; have n5_ := kb_ BK919 hb; have n6_ := kb_ BK983 hb; have n7_ := kb_ BK987 hb; have n8_ := Aside0.mk (below_step (bv5_ HB GE911 GE915 GE919 GE983 GE987) hb); have n9_ := Aside0.mk (hbox); have n10_ := gw_ hg (below_size (bv5_ HB GE911 GE915 GE919 GE983 GE987)); have n11_ := gw_ hg (below_size (bv5_ HB GE911 GE915 GE919 GE983 GE987)); have n12_ := nb_ hg (blk_lt (g := gb911) (o := .cells #[.int .i64 t909, .int .i64 t910] 23 (0, 0)) (kv_ BK911)); have n13_ := nc_ hg (blk_lt (g := gb911) (o := .cells #[.int .i64 t909, .int .i64 t910] 23 (0, 0)) (kv_ BK911)); have n14_ := nb_ hg (blk_lt (g := gb915) (o := .cells #[.int .i64 t912, .int .i64 t913] 23 (0, 0)) (kv_ BK915)); have n15_ := nc_ hg (blk_lt (g := gb915) (o := .cells #[.int .i64 t912, .int .i64 t913] 23 (0, 0)) (kv_ BK915)); have n16_ := nb_ hg (blk_lt (g := gb919) (o := .cells #[.int .i64 t916, .int .i64 t917] 23 (0, 0)) (kv_ BK919)); have n17_ := nc_ hg (blk_lt (g := gb919) (o := .cells #[.int .i64 t916, .int .i64 t917] 23 (0, 0)) (kv_ BK919)); have n18_ := nb_ hg (blk_lt (g := gb983) (o := .cells #[.int .i64 t980, .int .i64 t981] 23 (0, 0)) (kv_ BK983)); have n19_ := nc_ hg (blk_lt (g := gb983) (o := .cells #[.int .i64 t980, .int .i64 t981] 23 (0, 0)) (kv_ BK983)); have n20_ := nb_ hg (blk_lt (g := gb987) (o := .cells #[.int .i64 t984, .int .i64 t985] 23 (0, 0)) (kv_ BK987)); have n21_ := nc_ hg (blk_lt (g := gb987) (o := .cells #[.int .i64 t984, .int .i64 t985] 23 (0, 0)) (kv_ BK987)); clear HO922; clear HO925; clear HO979; clear BK911; clear BK915; clear BK919; clear BK983; clear BK987; clear HB; have HO922 := n0_; have HO925 := n1_; have HO979 := n2_; have BK911 := n3_; have BK915 := n4_; have BK919 := n5_; have BK983 := n6_; have BK987 := n7_; have HB := n8_; have BK993 := n9_; have GW993 := n10_; have GE993 := n11_; have NB911_993 := n12_; have NB993_911 := n13_; have NB915_993 := n14_; have NB993_915 := n15_; have NB919_993 := n16_; have NB993_919 := n17_; have NB983_993 := n18_; have NB993_983 := n19_; have NB987_993 := n20_; have NB993_987 := n21_; clear n0_ n1_ n2_ n3_ n4_ n5_ n6_ n7_ n8_ n9_ n10_ n11_ n12_ n13_ n14_ n15_ n16_ n17_ n18_ n19_ n20_ n21_; clear hb hbox hg; have hnb227 := NB993_911.out; have hnc227 := NB911_993.out; have hnb228 := NB993_915.out; have hnc228 := NB915_993.out; have hnb229 := NB993_919.out; have hnc229 := NB919_993.out; have hnb230 := NB993_983.out; have hnc230 := NB983_993.out; have hnb231 := NB993_987.out; have hnc231 := NB987_993.out; have hcz232_0 : w226.cell? ⟨gb993, 0, none⟩ = some (.int .i64 0) := (blk_cell BK993.out 0).trans rfl; have hcz232_1 : w226.cell? ⟨gb993, 1, none⟩ = some (.int .i64 0) := (blk_cell BK993.out 1).trans rfl; have hfz232_0 := blk_frozen BK993.out 0; have hfz232_1 := blk_frozen BK993.out 1) | ((with_reducible refine gate_callee (f := 5) rfl ?_); refine gl_ 183 Tryd.func5 #[.int .i64 t988, .string t989] rfl mp_ ?_; (with_reducible refine (spec_ParseAnf.calls k t988 t989 t994 t995 t996 _ A178.out).mono ?_); rintro e w233 ⟨rfl, hb⟩; refine ⟨_, rfl, ?_⟩; have n0_ := Aside0.mk (Kd.R_below (by (with_reducible repeat (first | apply Kd.R_alloc | apply Kd.R_drewN | apply Kd.R_drew)); exact (Kd.R_mono (Kd.R_far (p := ⟨gb993, 1, none⟩) (Kd.R_far (p := ⟨gb993, 0, none⟩) (Kd.R_types HO922.out BK993.out (by decide)) (fun _ hk => hk.2) (.int .i64 t990)) (fun _ hk => hk.2) (.int .i64 t991)) (fun _ h_ => h_.1))) hb); have n1_ := Aside0.mk (Kd.R_below (by (with_reducible repeat (first | apply Kd.R_alloc | apply Kd.R_drewN | apply Kd.R_drew)); exact (Kd.R_mono (Kd.R_far (p := ⟨gb993, 1, none⟩) (Kd.R_far (p := ⟨gb993, 0, none⟩) (Kd.R_types HO925.out BK993.out (by decide)) (fun _ hk => hk.2) (.int .i64 t990)) (fun _ hk => hk.2) (.int .i64 t991)) (fun _ h_ => h_.1))) hb); have n2_ := Aside0.mk (Kd.R_below (by (with_reducible repeat (first | apply Kd.R_alloc | apply Kd.R_drewN | apply Kd.R_drew)); exact (Kd.R_mono (Kd.R_far (p := ⟨gb993, 1, none⟩) (Kd.R_far (p := ⟨gb993, 0, none⟩) (Kd.R_types HO979.out BK993.out (by decide)) (fun _ hk => hk.2) (.int .i64 t990)) (fun _ hk => hk.2) (.int .i64 t991)) (fun _ h_ => h_.1))) hb); have n3_ := Aside0.mk (blk_below (g := gb911) (o := .cells #[.int .i64 t909, .int .i64 t910] 23 (0, 0)) (by (with_reducible repeat (first | refine blk_drewN ?_ _ | refine blk_drew ?_ | refine blk_alloc ?_ _)); refine blk_far ?_ NB911_993.out _; (with_reducible repeat (first | refine blk_drewN ?_ _ | refine blk_drew ?_ | refine blk_alloc ?_ _)); refine blk_far ?_ NB911_993.out _; (with_reducible repeat (first | refine blk_drewN ?_ _ | refine blk_drew ?_ | refine blk_alloc ?_ _)); exact BK911.out) hb); have n4_ := Aside0.mk (blk_below (g := gb915) (o := .cells #[.int .i64 t912, .int .i64 t913] 23 (0, 0)) (by (with_reducible repeat (first | refine blk_drewN ?_ _ | refine blk_drew ?_ | refine blk_alloc ?_ _)); refine blk_far ?_ NB915_993.out _; (with_reducible repeat (first | refine blk_drewN ?_ _ | refine blk_drew ?_ | refine blk_alloc ?_ _)); refine blk_far ?_ NB915_993.out _; (with_reducible repeat (first | refine blk_drewN ?_ _ | refine blk_drew ?_ | refine blk_alloc ?_ _)); exact BK915.out) hb); have n5_ := Aside0.mk (blk_below (g := gb919) (o := .cells #[.int .i64 t916, .int .i64 t917] 23 (0, 0)) (by (with_reducible repeat (first | refine blk_drewN ?_ _ | refine blk_drew ?_ | refine blk_alloc ?_ _)); refine blk_far ?_ NB919_993.out _; (with_reducible repeat (first | refine blk_drewN ?_ _ | refine blk_drew ?_ | refine blk_alloc ?_ _)); refine blk_far ?_ NB919_993.out _; (with_reducible repeat (first | refine blk_drewN ?_ _ | refine blk_drew ?_ | refine blk_alloc ?_ _)); exact BK919.out) hb); have n6_ := Aside0.mk (blk_below (g := gb983) (o := .cells #[.int .i64 t980, .int .i64 t981] 23 (0, 0)) (by (with_reducible repeat (first | refine blk_drewN ?_ _ | refine blk_drew ?_ | refine blk_alloc ?_ _)); refine blk_far ?_ NB983_993.out _; (with_reducible repeat (first | refine blk_drewN ?_ _ | refine blk_drew ?_ | refine blk_alloc ?_ _)); refine blk_far ?_ NB983_993.out _; (with_reducible repeat (first | refine blk_drewN ?_ _ | refine blk_drew ?_ | refine blk_alloc ?_ _)); exact BK983.out) hb); have n7_ := Aside0.mk (blk_below (g := gb987) (o := .cells #[.int .i64 t984, .int .i64 t985] 23 (0, 0)) (by (with_reducible repeat (first | refine blk_drewN ?_ _ | refine blk_drew ?_ | refine blk_alloc ?_ _)); refine blk_far ?_ NB987_993.out _; (with_reducible repeat (first | refine blk_drewN ?_ _ | refine blk_drew ?_ | refine blk_alloc ?_ _)); refine blk_far ?_ NB987_993.out _; (with_reducible repeat (first | refine blk_drewN ?_ _ | refine blk_drew ?_ | refine blk_alloc ?_ _)); exact BK987.out) hb); have n8_ := Aside0.mk (blk_below (g := gb993) (o := .cells #[.int .i64 t990, .int .i64 t991] 23 (0, 0)) (by (with_reducible repeat (first | refine blk_drewN ?_ _ | refine blk_drew ?_ | refine blk_alloc ?_ _)); refine blk_put (cs := #[.int .i64 t990, .int .i64 0]) ?_ 1 _ rfl; (with_reducible repeat (first | refine blk_drewN ?_ _ | refine blk_drew ?_ | refine blk_alloc ?_ _)); refine blk_put (cs := #[.int .i64 0, .int .i64 0]) ?_ 0 _ rfl; (with_reducible repeat (first | refine blk_drewN ?_ _ | refine blk_drew ?_ | refine blk_alloc ?_ _)); exact BK993.out) hb); have n9_ := Aside0.mk (below_step (bv6_ HB GE911 GE915 GE919 GE983 GE987 GE993) hb); clear HO922; clear HO925; clear HO979; clear BK911; clear BK915; clear BK919; clear BK983; clear BK987; clear BK993; clear HB; have HO922 := n0_; have HO925 := n1_; have HO979 := n2_; have BK911 := n3_; have BK915 := n4_; have BK919 := n5_; have BK983 := n6_; have BK987 := n7_; have BK993 := n8_; have HB := n9_; clear n0_ n1_ n2_ n3_ n4_ n5_ n6_ n7_ n8_ n9_; (try clear hb); (try clear hb2); (try clear hk); (try clear hi)) | ((with_reducible refine gate_dst (N := 26) rfl ?_); refine bx_ 26 #[.int .i64 0, .int .i64 0] 23 ?_; intro gb997 hg w234 hbox hb; have n0_ := Aside0.mk (Kd.R_below (rv_ HO922) hb); have n1_ := Aside0.mk (Kd.R_below (rv_ HO925) hb); have n2_ := Aside0.mk (Kd.R_below (rv_ HO979) hb); have n3_ := kb_ BK911 hb; have n4_ := kb_ BK915 hb; have n5_ := kb_ BK919 hb; have n6_ := kb_ BK983 hb; have n7_ := kb_ BK987 hb; have n8_ := kb_ BK993 hb; have n9_ := Aside0.mk (below_step (bv6_ HB GE911 GE915 GE919 GE983 GE987 GE993) hb); have n10_ := Aside0.mk (hbox); have n11_ := gw_ hg (below_size (bv6_ HB GE911 GE915 GE919 GE983 GE987 GE993)); have n12_ := gw_ hg (below_size (bv6_ HB GE911 GE915 GE919 GE983 GE987 GE993)); have n13_ := nb_ hg (blk_lt (g := gb911) (o := .cells #[.int .i64 t909, .int .i64 t910] 23 (0, 0)) (kv_ BK911)); have n14_ := nc_ hg (blk_lt (g := gb911) (o := .cells #[.int .i64 t909, .int .i64 t910] 23 (0, 0)) (kv_ BK911)); have n15_ := nb_ hg (blk_lt (g := gb915) (o := .cells #[.int .i64 t912, .int .i64 t913] 23 (0, 0)) (kv_ BK915)); have n16_ := nc_ hg (blk_lt (g := gb915) (o := .cells #[.int .i64 t912, .int .i64 t913] 23 (0, 0)) (kv_ BK915)); have n17_ := nb_ hg (blk_lt (g := gb919) (o := .cells #[.int .i64 t916, .int .i64 t917] 23 (0, 0)) (kv_ BK919)); have n18_ := nc_ hg (blk_lt (g := gb919) (o := .cells #[.int .i64 t916, .int .i64 t917] 23 (0, 0)) (kv_ BK919)); have n19_ := nb_ hg (blk_lt (g := gb983) (o := .cells #[.int .i64 t980, .int .i64 t981] 23 (0, 0)) (kv_ BK983)); have n20_ := nc_ hg (blk_lt (g := gb983) (o := .cells #[.int .i64 t980, .int .i64 t981] 23 (0, 0)) (kv_ BK983)); have n21_ := nb_ hg (blk_lt (g := gb987) (o := .cells #[.int .i64 t984, .int .i64 t985] 23 (0, 0)) (kv_ BK987)); have n22_ := nc_ hg (blk_lt (g := gb987) (o := .cells #[.int .i64 t984, .int .i64 t985] 23 (0, 0)) (kv_ BK987)); have n23_ := nb_ hg (blk_lt (g := gb993) (o := .cells #[.int .i64 t990, .int .i64 t991] 23 (0, 0)) (kv_ BK993)); have n24_ := nc_ hg (blk_lt (g := gb993) (o := .cells #[.int .i64 t990, .int .i64 t991] 23 (0, 0)) (kv_ BK993)); clear HO922; clear HO925; clear HO979; clear BK911; clear BK915; clear BK919; clear BK983; clear BK987; clear BK993; clear HB; have HO922 := n0_; have HO925 := n1_; have HO979 := n2_; have BK911 := n3_; have BK915 := n4_; have BK919 := n5_; have BK983 := n6_; have BK987 := n7_; have BK993 := n8_; have HB := n9_; have BK997 := n10_; have GW997 := n11_; have GE997 := n12_; have NB911_997 := n13_; have NB997_911 := n14_; have NB915_997 := n15_; have NB997_915 := n16_; have NB919_997 := n17_; have NB997_919 := n18_; have NB983_997 := n19_; have NB997_983 := n20_; have NB987_997 := n21_; have NB997_987 := n22_; have NB993_997 := n23_; have NB997_993 := n24_; clear n0_ n1_ n2_ n3_ n4_ n5_ n6_ n7_ n8_ n9_ n10_ n11_ n12_ n13_ n14_ n15_ n16_ n17_ n18_ n19_ n20_ n21_ n22_ n23_ n24_; clear hb hbox hg; have hnb235 := NB997_911.out; have hnc235 := NB911_997.out; have hnb236 := NB997_915.out; have hnc236 := NB915_997.out; have hnb237 := NB997_919.out; have hnc237 := NB919_997.out; have hnb238 := NB997_983.out; have hnc238 := NB983_997.out; have hnb239 := NB997_987.out; have hnc239 := NB987_997.out; have hnb240 := NB997_993.out; have hnc240 := NB993_997.out; have hcz241_0 : w234.cell? ⟨gb997, 0, none⟩ = some (.int .i64 0) := (blk_cell BK997.out 0).trans rfl; have hcz241_1 : w234.cell? ⟨gb997, 1, none⟩ = some (.int .i64 0) := (blk_cell BK997.out 1).trans rfl; have hfz241_0 := blk_frozen BK997.out 0; have hfz241_1 := blk_frozen BK997.out 1) | ((with_reducible refine gate_callee (f := 27) rfl ?_); refine gl_ 187 Tryd.func27 #[.slice A0 l0.length c0] rfl mp_ ?_; (with_reducible refine (spec_DrawFormatAnf.calls k _ _ l0 t998 t999 _ ?side1 ?side2 A179.out).mono ?_); (case side1 => exact Kd.C_below HR0.out (bv7_ HB GE911 GE915 GE919 GE983 GE987 GE993 GE997)); (case side2 => exact HC0.out); rintro e w242 ⟨rfl, hb⟩; refine ⟨_, rfl, ?_⟩; have n0_ := Aside0.mk (Kd.R_below (by (with_reducible repeat (first | apply Kd.R_alloc | apply Kd.R_drewN | apply Kd.R_drew)); exact (Kd.R_mono (Kd.R_far (p := ⟨gb997, 1, none⟩) (Kd.R_far (p := ⟨gb997, 0, none⟩) (Kd.R_types HO922.out BK997.out (by decide)) (fun _ hk => hk.2) (.int .i64 t994)) (fun _ hk => hk.2) (.int .i64 t995)) (fun _ h_ => h_.1))) hb); have n1_ := Aside0.mk (Kd.R_below (by (with_reducible repeat (first | apply Kd.R_alloc | apply Kd.R_drewN | apply Kd.R_drew)); exact (Kd.R_mono (Kd.R_far (p := ⟨gb997, 1, none⟩) (Kd.R_far (p := ⟨gb997, 0, none⟩) (Kd.R_types HO925.out BK997.out (by decide)) (fun _ hk => hk.2) (.int .i64 t994)) (fun _ hk => hk.2) (.int .i64 t995)) (fun _ h_ => h_.1))) hb); have n2_ := Aside0.mk (Kd.R_below (by (with_reducible repeat (first | apply Kd.R_alloc | apply Kd.R_drewN | apply Kd.R_drew)); exact (Kd.R_mono (Kd.R_far (p := ⟨gb997, 1, none⟩) (Kd.R_far (p := ⟨gb997, 0, none⟩) (Kd.R_types HO979.out BK997.out (by decide)) (fun _ hk => hk.2) (.int .i64 t994)) (fun _ hk => hk.2) (.int .i64 t995)) (fun _ h_ => h_.1))) hb); have n3_ := Aside0.mk (blk_below (g := gb911) (o := .cells #[.int .i64 t909, .int .i64 t910] 23 (0, 0)) (by (with_reducible repeat (first | refine blk_drewN ?_ _ | refine blk_drew ?_ | refine blk_alloc ?_ _)); refine blk_far ?_ NB911_997.out _; (with_reducible repeat (first | refine blk_drewN ?_ _ | refine blk_drew ?_ | refine blk_alloc ?_ _)); refine blk_far ?_ NB911_997.out _; (with_reducible repeat (first | refine blk_drewN ?_ _ | refine blk_drew ?_ | refine blk_alloc ?_ _)); exact BK911.out) hb); have n4_ := Aside0.mk (blk_below (g := gb915) (o := .cells #[.int .i64 t912, .int .i64 t913] 23 (0, 0)) (by (with_reducible repeat (first | refine blk_drewN ?_ _ | refine blk_drew ?_ | refine blk_alloc ?_ _)); refine blk_far ?_ NB915_997.out _; (with_reducible repeat (first | refine blk_drewN ?_ _ | refine blk_drew ?_ | refine blk_alloc ?_ _)); refine blk_far ?_ NB915_997.out _; (with_reducible repeat (first | refine blk_drewN ?_ _ | refine blk_drew ?_ | refine blk_alloc ?_ _)); exact BK915.out) hb); have n5_ := Aside0.mk (blk_below (g := gb919) (o := .cells #[.int .i64 t916, .int .i64 t917] 23 (0, 0)) (by (with_reducible repeat (first | refine blk_drewN ?_ _ | refine blk_drew ?_ | refine blk_alloc ?_ _)); refine blk_far ?_ NB919_997.out _; (with_reducible repeat (first | refine blk_drewN ?_ _ | refine blk_drew ?_ | refine blk_alloc ?_ _)); refine blk_far ?_ NB919_997.out _; (with_reducible repeat (first | refine blk_drewN ?_ _ | refine blk_drew ?_ | refine blk_alloc ?_ _)); exact BK919.out) hb); have n6_ := Aside0.mk (blk_below (g := gb983) (o := .cells #[.int .i64 t980, .int .i64 t981] 23 (0, 0)) (by (with_reducible repeat (first | refine blk_drewN ?_ _ | refine blk_drew ?_ | refine blk_alloc ?_ _)); refine blk_far ?_ NB983_997.out _; (with_reducible repeat (first | refine blk_drewN ?_ _ | refine blk_drew ?_ | refine blk_alloc ?_ _)); refine blk_far ?_ NB983_997.out _; (with_reducible repeat (first | refine blk_drewN ?_ _ | refine blk_drew ?_ | refine blk_alloc ?_ _)); exact BK983.out) hb); have n7_ := Aside0.mk (blk_below (g := gb987) (o := .cells #[.int .i64 t984, .int .i64 t985] 23 (0, 0)) (by (with_reducible repeat (first | refine blk_drewN ?_ _ | refine blk_drew ?_ | refine blk_alloc ?_ _)); refine blk_far ?_ NB987_997.out _; (with_reducible repeat (first | refine blk_drewN ?_ _ | refine blk_drew ?_ | refine blk_alloc ?_ _)); refine blk_far ?_ NB987_997.out _; (with_reducible repeat (first | refine blk_drewN ?_ _ | refine blk_drew ?_ | refine blk_alloc ?_ _)); exact BK987.out) hb); have n8_ := Aside0.mk (blk_below (g := gb993) (o := .cells #[.int .i64 t990, .int .i64 t991] 23 (0, 0)) (by (with_reducible repeat (first | refine blk_drewN ?_ _ | refine blk_drew ?_ | refine blk_alloc ?_ _)); refine blk_far ?_ NB993_997.out _; (with_reducible repeat (first | refine blk_drewN ?_ _ | refine blk_drew ?_ | refine blk_alloc ?_ _)); refine blk_far ?_ NB993_997.out _; (with_reducible repeat (first | refine blk_drewN ?_ _ | refine blk_drew ?_ | refine blk_alloc ?_ _)); exact BK993.out) hb); have n9_ := Aside0.mk (blk_below (g := gb997) (o := .cells #[.int .i64 t994, .int .i64 t995] 23 (0, 0)) (by (with_reducible repeat (first | refine blk_drewN ?_ _ | refine blk_drew ?_ | refine blk_alloc ?_ _)); refine blk_put (cs := #[.int .i64 t994, .int .i64 0]) ?_ 1 _ rfl; (with_reducible repeat (first | refine blk_drewN ?_ _ | refine blk_drew ?_ | refine blk_alloc ?_ _)); refine blk_put (cs := #[.int .i64 0, .int .i64 0]) ?_ 0 _ rfl; (with_reducible repeat (first | refine blk_drewN ?_ _ | refine blk_drew ?_ | refine blk_alloc ?_ _)); exact BK997.out) hb); have n10_ := Aside0.mk (below_step (bv7_ HB GE911 GE915 GE919 GE983 GE987 GE993 GE997) hb); clear HO922; clear HO925; clear HO979; clear BK911; clear BK915; clear BK919; clear BK983; clear BK987; clear BK993; clear BK997; clear HB; have HO922 := n0_; have HO925 := n1_; have HO979 := n2_; have BK911 := n3_; have BK915 := n4_; have BK919 := n5_; have BK983 := n6_; have BK987 := n7_; have BK993 := n8_; have BK997 := n9_; have HB := n10_; clear n0_ n1_ n2_ n3_ n4_ n5_ n6_ n7_ n8_ n9_ n10_; (try clear hb); (try clear hb2); (try clear hk); (try clear hi)) | ((with_reducible refine gate_dst (N := 28) rfl ?_); refine bx_ 28 #[.int .i64 0, .int .i64 0] 23 ?_; intro gb1000 hg w243 hbox hb; have n0_ := Aside0.mk (Kd.R_below (rv_ HO922) hb); have n1_ := Aside0.mk (Kd.R_below (rv_ HO925) hb); have n2_ := Aside0.mk (Kd.R_below (rv_ HO979) hb); have n3_ := kb_ BK911 hb; have n4_ := kb_ BK915 hb; have n5_ := kb_ BK919 hb; have n6_ := kb_ BK983 hb; have n7_ := kb_ BK987 hb; have n8_ := kb_ BK993 hb; have n9_ := kb_ BK997 hb; have n10_ := Aside0.mk (below_step (bv7_ HB GE911 GE915 GE919 GE983 GE987 GE993 GE997) hb); have n11_ := Aside0.mk (hbox); have n12_ := gw_ hg (below_size (bv7_ HB GE911 GE915 GE919 GE983 GE987 GE993 GE997)); have n13_ := gw_ hg (below_size (bv7_ HB GE911 GE915 GE919 GE983 GE987 GE993 GE997)); have n14_ := nb_ hg (blk_lt (g := gb911) (o := .cells #[.int .i64 t909, .int .i64 t910] 23 (0, 0)) (kv_ BK911)); have n15_ := nc_ hg (blk_lt (g := gb911) (o := .cells #[.int .i64 t909, .int .i64 t910] 23 (0, 0)) (kv_ BK911)); have n16_ := nb_ hg (blk_lt (g := gb915) (o := .cells #[.int .i64 t912, .int .i64 t913] 23 (0, 0)) (kv_ BK915)); have n17_ := nc_ hg (blk_lt (g := gb915) (o := .cells #[.int .i64 t912, .int .i64 t913] 23 (0, 0)) (kv_ BK915)); have n18_ := nb_ hg (blk_lt (g := gb919) (o := .cells #[.int .i64 t916, .int .i64 t917] 23 (0, 0)) (kv_ BK919)); have n19_ := nc_ hg (blk_lt (g := gb919) (o := .cells #[.int .i64 t916, .int .i64 t917] 23 (0, 0)) (kv_ BK919)); have n20_ := nb_ hg (blk_lt (g := gb983) (o := .cells #[.int .i64 t980, .int .i64 t981] 23 (0, 0)) (kv_ BK983)); have n21_ := nc_ hg (blk_lt (g := gb983) (o := .cells #[.int .i64 t980, .int .i64 t981] 23 (0, 0)) (kv_ BK983)); have n22_ := nb_ hg (blk_lt (g := gb987) (o := .cells #[.int .i64 t984, .int .i64 t985] 23 (0, 0)) (kv_ BK987)); have n23_ := nc_ hg (blk_lt (g := gb987) (o := .cells #[.int .i64 t984, .int .i64 t985] 23 (0, 0)) (kv_ BK987)); have n24_ := nb_ hg (blk_lt (g := gb993) (o := .cells #[.int .i64 t990, .int .i64 t991] 23 (0, 0)) (kv_ BK993)); have n25_ := nc_ hg (blk_lt (g := gb993) (o := .cells #[.int .i64 t990, .int .i64 t991] 23 (0, 0)) (kv_ BK993)); have n26_ := nb_ hg (blk_lt (g := gb997) (o := .cells #[.int .i64 t994, .int .i64 t995] 23 (0, 0)) (kv_ BK997)); have n27_ := nc_ hg (blk_lt (g := gb997) (o := .cells #[.int .i64 t994, .int .i64 t995] 23 (0, 0)) (kv_ BK997)); clear HO922; clear HO925; clear HO979; clear BK911; clear BK915; clear BK919; clear BK983; clear BK987; clear BK993; clear BK997; clear HB; have HO922 := n0_; have HO925 := n1_; have HO979 := n2_; have BK911 := n3_; have BK915 := n4_; have BK919 := n5_; have BK983 := n6_; have BK987 := n7_; have BK993 := n8_; have BK997 := n9_; have HB := n10_; have BK1000 := n11_; have GW1000 := n12_; have GE1000 := n13_; have NB911_1000 := n14_; have NB1000_911 := n15_; have NB915_1000 := n16_; have NB1000_915 := n17_; have NB919_1000 := n18_; have NB1000_919 := n19_; have NB983_1000 := n20_; have NB1000_983 := n21_; have NB987_1000 := n22_; have NB1000_987 := n23_; have NB993_1000 := n24_; have NB1000_993 := n25_; have NB997_1000 := n26_; have NB1000_997 := n27_; clear n0_ n1_ n2_ n3_ n4_ n5_ n6_ n7_ n8_ n9_ n10_ n11_ n12_ n13_ n14_ n15_ n16_ n17_ n18_ n19_ n20_ n21_ n22_ n23_ n24_ n25_ n26_ n27_; clear hb hbox hg; have hnb244 := NB1000_911.out; have hnc244 := NB911_1000.out; have hnb245 := NB1000_915.out; have hnc245 := NB915_1000.out; have hnb246 := NB1000_919.out; have hnc246 := NB919_1000.out; have hnb247 := NB1000_983.out; have hnc247 := NB983_1000.out; have hnb248 := NB1000_987.out; have hnc248 := NB987_1000.out; have hnb249 := NB1000_993.out; have hnc249 := NB993_1000.out; have hnb250 := NB1000_997.out; have hnc250 := NB997_1000.out; have hcz251_0 : w243.cell? ⟨gb1000, 0, none⟩ = some (.int .i64 0) := (blk_cell BK1000.out 0).trans rfl; have hcz251_1 : w243.cell? ⟨gb1000, 1, none⟩ = some (.int .i64 0) := (blk_cell BK1000.out 1).trans rfl; have hfz251_0 := blk_frozen BK1000.out 0; have hfz251_1 := blk_frozen BK1000.out 1))
            have n0_ : Aside0 (Kd.R (Kd.int .i64) 3 ((w243.setCell ⟨gb1000, 0, none⟩ (.int .i64 t998)).setCell ⟨gb1000, 1, none⟩ (.int .i64 t999)) w.heap.size (fun k_ => some k_ ≠ (.slice Ao204 t923.length co204 : Value).ownBlock ∧ some k_ ≠ (.slice Ao210 t977.length co210 : Value).ownBlock) (.slice Ao203 t920.length co203) t920) := ⟨by (with_reducible repeat (first | apply Kd.R_alloc | apply Kd.R_drewN | apply Kd.R_drew)); exact Kd.R_mono (Kd.R_far (p := ⟨gb1000, 1, none⟩) (Kd.R_far (p := ⟨gb1000, 0, none⟩) (Kd.R_types HO922.out BK1000.out (by decide)) (fun _ hk => hk.2) (.int .i64 t998)) (fun _ hk => hk.2) (.int .i64 t999)) (fun _ hk => ⟨hk.1.1.2, hk.1.2⟩)⟩
            have n1_ : Aside0 (Kd.R (Kd.int .i64) 3 ((w243.setCell ⟨gb1000, 0, none⟩ (.int .i64 t998)).setCell ⟨gb1000, 1, none⟩ (.int .i64 t999)) w.heap.size (fun k_ => some k_ ≠ (.slice Ao203 t920.length co203 : Value).ownBlock ∧ some k_ ≠ (.slice Ao210 t977.length co210 : Value).ownBlock) (.slice Ao204 t923.length co204) t923) := ⟨by (with_reducible repeat (first | apply Kd.R_alloc | apply Kd.R_drewN | apply Kd.R_drew)); exact Kd.R_mono (Kd.R_far (p := ⟨gb1000, 1, none⟩) (Kd.R_far (p := ⟨gb1000, 0, none⟩) (Kd.R_types HO925.out BK1000.out (by decide)) (fun _ hk => hk.2) (.int .i64 t998)) (fun _ hk => hk.2) (.int .i64 t999)) (fun _ hk => ⟨hk.1.1.2, hk.1.2⟩)⟩
            have n2_ : Aside0 (Kd.R (Kd.int .i64) 3 ((w243.setCell ⟨gb1000, 0, none⟩ (.int .i64 t998)).setCell ⟨gb1000, 1, none⟩ (.int .i64 t999)) w.heap.size (fun k_ => some k_ ≠ (.slice Ao203 t920.length co203 : Value).ownBlock ∧ some k_ ≠ (.slice Ao204 t923.length co204 : Value).ownBlock) (.slice Ao210 t977.length co210) t977) := ⟨by (with_reducible repeat (first | apply Kd.R_alloc | apply Kd.R_drewN | apply Kd.R_drew)); exact Kd.R_mono (Kd.R_far (p := ⟨gb1000, 1, none⟩) (Kd.R_far (p := ⟨gb1000, 0, none⟩) (Kd.R_types HO979.out BK1000.out (by decide)) (fun _ hk => hk.2) (.int .i64 t998)) (fun _ hk => hk.2) (.int .i64 t999)) (fun _ hk => ⟨hk.1.1.2, hk.1.2⟩)⟩
            have n3_ : Aside0 (((w243.setCell ⟨gb1000, 0, none⟩ (.int .i64 t998)).setCell ⟨gb1000, 1, none⟩ (.int .i64 t999)).heap[gb911]? = some (.cells #[.int .i64 t909, .int .i64 t910] 23 (0, 0))) := ⟨by (with_reducible repeat (first | refine blk_drewN ?_ _ | refine blk_drew ?_ | refine blk_alloc ?_ _)); refine blk_far ?_ NB911_1000.out _; (with_reducible repeat (first | refine blk_drewN ?_ _ | refine blk_drew ?_ | refine blk_alloc ?_ _)); refine blk_far ?_ NB911_1000.out _; (with_reducible repeat (first | refine blk_drewN ?_ _ | refine blk_drew ?_ | refine blk_alloc ?_ _)); exact BK911.out⟩
            have n4_ : Aside0 (((w243.setCell ⟨gb1000, 0, none⟩ (.int .i64 t998)).setCell ⟨gb1000, 1, none⟩ (.int .i64 t999)).heap[gb915]? = some (.cells #[.int .i64 t912, .int .i64 t913] 23 (0, 0))) := ⟨by (with_reducible repeat (first | refine blk_drewN ?_ _ | refine blk_drew ?_ | refine blk_alloc ?_ _)); refine blk_far ?_ NB915_1000.out _; (with_reducible repeat (first | refine blk_drewN ?_ _ | refine blk_drew ?_ | refine blk_alloc ?_ _)); refine blk_far ?_ NB915_1000.out _; (with_reducible repeat (first | refine blk_drewN ?_ _ | refine blk_drew ?_ | refine blk_alloc ?_ _)); exact BK915.out⟩
            have n5_ : Aside0 (((w243.setCell ⟨gb1000, 0, none⟩ (.int .i64 t998)).setCell ⟨gb1000, 1, none⟩ (.int .i64 t999)).heap[gb919]? = some (.cells #[.int .i64 t916, .int .i64 t917] 23 (0, 0))) := ⟨by (with_reducible repeat (first | refine blk_drewN ?_ _ | refine blk_drew ?_ | refine blk_alloc ?_ _)); refine blk_far ?_ NB919_1000.out _; (with_reducible repeat (first | refine blk_drewN ?_ _ | refine blk_drew ?_ | refine blk_alloc ?_ _)); refine blk_far ?_ NB919_1000.out _; (with_reducible repeat (first | refine blk_drewN ?_ _ | refine blk_drew ?_ | refine blk_alloc ?_ _)); exact BK919.out⟩
            have n6_ : Aside0 (((w243.setCell ⟨gb1000, 0, none⟩ (.int .i64 t998)).setCell ⟨gb1000, 1, none⟩ (.int .i64 t999)).heap[gb983]? = some (.cells #[.int .i64 t980, .int .i64 t981] 23 (0, 0))) := ⟨by (with_reducible repeat (first | refine blk_drewN ?_ _ | refine blk_drew ?_ | refine blk_alloc ?_ _)); refine blk_far ?_ NB983_1000.out _; (with_reducible repeat (first | refine blk_drewN ?_ _ | refine blk_drew ?_ | refine blk_alloc ?_ _)); refine blk_far ?_ NB983_1000.out _; (with_reducible repeat (first | refine blk_drewN ?_ _ | refine blk_drew ?_ | refine blk_alloc ?_ _)); exact BK983.out⟩
            have n7_ : Aside0 (((w243.setCell ⟨gb1000, 0, none⟩ (.int .i64 t998)).setCell ⟨gb1000, 1, none⟩ (.int .i64 t999)).heap[gb987]? = some (.cells #[.int .i64 t984, .int .i64 t985] 23 (0, 0))) := ⟨by (with_reducible repeat (first | refine blk_drewN ?_ _ | refine blk_drew ?_ | refine blk_alloc ?_ _)); refine blk_far ?_ NB987_1000.out _; (with_reducible repeat (first | refine blk_drewN ?_ _ | refine blk_drew ?_ | refine blk_alloc ?_ _)); refine blk_far ?_ NB987_1000.out _; (with_reducible repeat (first | refine blk_drewN ?_ _ | refine blk_drew ?_ | refine blk_alloc ?_ _)); exact BK987.out⟩
            have n8_ : Aside0 (((w243.setCell ⟨gb1000, 0, none⟩ (.int .i64 t998)).setCell ⟨gb1000, 1, none⟩ (.int .i64 t999)).heap[gb993]? = some (.cells #[.int .i64 t990, .int .i64 t991] 23 (0, 0))) := ⟨by (with_reducible repeat (first | refine blk_drewN ?_ _ | refine blk_drew ?_ | refine blk_alloc ?_ _)); refine blk_far ?_ NB993_1000.out _; (with_reducible repeat (first | refine blk_drewN ?_ _ | refine blk_drew ?_ | refine blk_alloc ?_ _)); refine blk_far ?_ NB993_1000.out _; (with_reducible repeat (first | refine blk_drewN ?_ _ | refine blk_drew ?_ | refine blk_alloc ?_ _)); exact BK993.out⟩
            have n9_ : Aside0 (((w243.setCell ⟨gb1000, 0, none⟩ (.int .i64 t998)).setCell ⟨gb1000, 1, none⟩ (.int .i64 t999)).heap[gb997]? = some (.cells #[.int .i64 t994, .int .i64 t995] 23 (0, 0))) := ⟨by (with_reducible repeat (first | refine blk_drewN ?_ _ | refine blk_drew ?_ | refine blk_alloc ?_ _)); refine blk_far ?_ NB997_1000.out _; (with_reducible repeat (first | refine blk_drewN ?_ _ | refine blk_drew ?_ | refine blk_alloc ?_ _)); refine blk_far ?_ NB997_1000.out _; (with_reducible repeat (first | refine blk_drewN ?_ _ | refine blk_drew ?_ | refine blk_alloc ?_ _)); exact BK997.out⟩
            have n10_ : Aside0 (((w243.setCell ⟨gb1000, 0, none⟩ (.int .i64 t998)).setCell ⟨gb1000, 1, none⟩ (.int .i64 t999)).heap[gb1000]? = some (.cells #[.int .i64 t998, .int .i64 t999] 23 (0, 0))) := ⟨by (with_reducible repeat (first | refine blk_drewN ?_ _ | refine blk_drew ?_ | refine blk_alloc ?_ _)); refine blk_put (cs := #[.int .i64 t998, .int .i64 0]) ?_ 1 _ rfl; (with_reducible repeat (first | refine blk_drewN ?_ _ | refine blk_drew ?_ | refine blk_alloc ?_ _)); refine blk_put (cs := #[.int .i64 0, .int .i64 0]) ?_ 0 _ rfl; (with_reducible repeat (first | refine blk_drewN ?_ _ | refine blk_drew ?_ | refine blk_alloc ?_ _)); exact BK1000.out⟩
            have n11_ : Aside0 (Below w.heap.size w ((w243.setCell ⟨gb1000, 0, none⟩ (.int .i64 t998)).setCell ⟨gb1000, 1, none⟩ (.int .i64 t999))) := ⟨bv8_ HB GE911 GE915 GE919 GE983 GE987 GE993 GE997 GE1000⟩
            (try clear HO922)
            (try clear HO925)
            (try clear HO979)
            (try clear BK911)
            (try clear BK915)
            (try clear BK919)
            (try clear BK983)
            (try clear BK987)
            (try clear BK993)
            (try clear BK997)
            (try clear BK1000)
            (try clear HB)
            generalize ((w243.setCell ⟨gb1000, 0, none⟩ (.int .i64 t998)).setCell ⟨gb1000, 1, none⟩ (.int .i64 t999)) = w252 at n0_ n1_ n2_ n3_ n4_ n5_ n6_ n7_ n8_ n9_ n10_ n11_ ⊢
            have HO922 := n0_
            have HO925 := n1_
            have HO979 := n2_
            have BK911 := n3_
            have BK915 := n4_
            have BK919 := n5_
            have BK983 := n6_
            have BK987 := n7_
            have BK993 := n8_
            have BK997 := n9_
            have BK1000 := n10_
            have HB := n11_
            clear n0_ n1_ n2_ n3_ n4_ n5_ n6_ n7_ n8_ n9_ n10_ n11_
            replace HO922 := Aside0.mk (Kd.R_drew HO922.out)
            replace HO925 := Aside0.mk (Kd.R_drew HO925.out)
            replace HO979 := Aside0.mk (Kd.R_drew HO979.out)
            replace BK911 := Aside0.mk (blk_drew BK911.out)
            replace BK915 := Aside0.mk (blk_drew BK915.out)
            replace BK919 := Aside0.mk (blk_drew BK919.out)
            replace BK983 := Aside0.mk (blk_drew BK983.out)
            replace BK987 := Aside0.mk (blk_drew BK987.out)
            replace BK993 := Aside0.mk (blk_drew BK993.out)
            replace BK997 := Aside0.mk (blk_drew BK997.out)
            replace BK1000 := Aside0.mk (blk_drew BK1000.out)
            replace HB := Aside0.mk (below_drew1 HB.out)
            (try clear hcz188_0); (try clear hcz188_1); (try clear hfz188_0); (try clear hfz188_1); (try clear hnb191); (try clear hnc191); (try clear hcz192_0); (try clear hcz192_1); (try clear hfz192_0); (try clear hfz192_1); (try clear hcz193_0); (try clear hcz193_1)
            (try clear hfz193_0); (try clear hfz193_1); (try clear hnb196); (try clear hnc196); (try clear hnb197); (try clear hnc197); (try clear hcz198_0); (try clear hcz198_1); (try clear hfz198_0); (try clear hfz198_1); (try clear hcz199_0); (try clear hcz199_1)
            (try clear hfz199_0); (try clear hfz199_1); (try clear hnb213); (try clear hnc213); (try clear hnb214); (try clear hnc214); (try clear hnb215); (try clear hnc215); (try clear hcz216_0); (try clear hcz216_1); (try clear hfz216_0); (try clear hfz216_1)
            (try clear hnb219); (try clear hnc219); (try clear hnb220); (try clear hnc220); (try clear hnb221); (try clear hnc221); (try clear hnb222); (try clear hnc222); (try clear hcz223_0); (try clear hcz223_1); (try clear hfz223_0); (try clear hfz223_1)
            (try clear hnb227); (try clear hnc227); (try clear hnb228); (try clear hnc228); (try clear hnb229); (try clear hnc229); (try clear hnb230); (try clear hnc230); (try clear hnb231); (try clear hnc231); (try clear hcz232_0); (try clear hcz232_1)
            (try clear hfz232_0); (try clear hfz232_1); (try clear hnb235); (try clear hnc235); (try clear hnb236); (try clear hnc236); (try clear hnb237); (try clear hnc237); (try clear hnb238); (try clear hnc238); (try clear hnb239); (try clear hnc239)
            (try clear hnb240); (try clear hnc240); (try clear hcz241_0); (try clear hcz241_1); (try clear hfz241_0); (try clear hfz241_1); (try clear hnb244); (try clear hnc244); (try clear hnb245); (try clear hnc245); (try clear hnb246); (try clear hnc246)
            (try clear hnb247); (try clear hnc247); (try clear hnb248); (try clear hnc248); (try clear hnb249); (try clear hnc249); (try clear hnb250); (try clear hnc250); (try clear hcz251_0); (try clear hcz251_1); (try clear hfz251_0); (try clear hfz251_1)
            refine start_ (n := 26) (S := fun w' => w'.cell? ⟨gb983, 0, none⟩ = some (.int .i64 t980) ∧ w'.cell? ⟨gb983, 1, none⟩ = some (.int .i64 t981) ∧ w'.cell? ⟨gb987, 0, none⟩ = some (.int .i64 t984) ∧ w'.cell? ⟨gb987, 1, none⟩ = some (.int .i64 t985) ∧ w'.cell? ⟨gb993, 0, none⟩ = some (.int .i64 t990) ∧ w'.cell? ⟨gb993, 1, none⟩ = some (.int .i64 t991) ∧ w'.cell? ⟨gb997, 0, none⟩ = some (.int .i64 t994) ∧ w'.cell? ⟨gb997, 1, none⟩ = some (.int .i64 t995) ∧ w'.cell? ⟨gb1000, 0, none⟩ = some (.int .i64 t998) ∧ w'.cell? ⟨gb1000, 1, none⟩ = some (.int .i64 t999)) (ds := []) (bs 26 0) (by kernel_rfl) rfl (by kernel_rfl) ⟨(blk_cell BK983.out 0).trans rfl, (blk_cell BK983.out 1).trans rfl, (blk_cell BK987.out 0).trans rfl, (blk_cell BK987.out 1).trans rfl, (blk_cell BK993.out 0).trans rfl, (blk_cell BK993.out 1).trans rfl, (blk_cell BK997.out 0).trans rfl, (blk_cell BK997.out 1).trans rfl, (blk_cell BK1000.out 0).trans rfl, (blk_cell BK1000.out 1).trans rfl⟩ (fun hHeld => ?_); refine with_tabW laws_FnDegrees.tab28 laws_FnDegrees.bits28 (fun HT_ HW_ => ?_)
            generalize w252.drew = w253 at HO922 HO925 HO979 BK911 BK915 BK919 BK983 BK987 BK993 BK997 BK1000 HB hHeld ⊢
            refine ta10_ HT_ HW_ 0 188 (bs 26 1) hHeld ?_
            refine ta10_ HT_ HW_ 1 189 (bs 26 3) hHeld ?_
            refine pu_ HT_ 2 190 (bs 26 7) ?_
            refine pu_ HT_ 3 191 (bs 26 15) ?_
            refine pu_ HT_ 4 192 (bs 26 31) ?_
            refine pu_ HT_ 5 193 (bs 26 63) ?_
            refine pu_ HT_ 6 194 (bs 26 127) ?_
            refine pu_ HT_ 7 195 (bs 26 255) ?_
            refine pu_ HT_ 8 196 (bs 26 511) ?_
            refine ta10_ HT_ HW_ 9 197 (bs 26 1023) hHeld ?_
            refine ta10_ HT_ HW_ 10 198 (bs 26 2047) hHeld ?_
            refine pu_ HT_ 11 199 (bs 26 4095) ?_
            refine pu_ HT_ 12 200 (bs 26 8191) ?_
            refine pu_ HT_ 13 201 (bs 26 16383) ?_
            refine pu_ HT_ 14 202 (bs 26 32767) ?_
            refine pu_ HT_ 15 203 (bs 26 65535) ?_
            refine pu_ HT_ 16 204 (bs 26 131071) ?_
            refine pu_ HT_ 17 205 (bs 26 262143) ?_
            refine pu_ HT_ 18 206 (bs 26 524287) ?_
            refine ta10_ HT_ HW_ 19 207 (bs 26 1048575) hHeld ?_
            refine ta10_ HT_ HW_ 21 209 (bs 26 3145727) hHeld ?_
            refine on_ HT_ 20 208 (bs 26 4194303) (fun K hK => ?_)
            refine goes_ Tryd.func20 (by kernel_rfl) rfl #[.agg #[.int .i64 t998, .int .i64 t999]] (by rfl) rfl rfl mp_ ?_
            with_reducible refine (impl_FormatAnf.calls k t998 t999 t1001 _ A184.out).mono ?_
            rintro e w254 ⟨rfl, hb⟩
            refine ⟨_, rfl, ?_⟩
            replace HO922 := Aside0.mk (Kd.R_below (rv_ HO922) hb)
            replace HO925 := Aside0.mk (Kd.R_below (rv_ HO925) hb)
            replace HO979 := Aside0.mk (Kd.R_below (rv_ HO979) hb)
            replace BK911 := kb_ BK911 hb
            replace BK915 := kb_ BK915 hb
            replace BK919 := kb_ BK919 hb
            replace BK983 := kb_ BK983 hb
            replace BK987 := kb_ BK987 hb
            replace BK993 := kb_ BK993 hb
            replace BK997 := kb_ BK997 hb
            replace BK1000 := kb_ BK1000 hb
            replace HB := Aside0.mk (below_step (bv8_ HB GE911 GE915 GE919 GE983 GE987 GE993 GE997 GE1000) hb)
            (try clear hb)
            (try clear hb2)
            (try clear hk)
            (try clear hi)
            refine hK.out _ _ ⟨(blk_cell BK983.out 0).trans rfl, (blk_cell BK983.out 1).trans rfl, (blk_cell BK987.out 0).trans rfl, (blk_cell BK987.out 1).trans rfl, (blk_cell BK993.out 0).trans rfl, (blk_cell BK993.out 1).trans rfl, (blk_cell BK997.out 0).trans rfl, (blk_cell BK997.out 1).trans rfl, (blk_cell BK1000.out 0).trans rfl, (blk_cell BK1000.out 1).trans rfl⟩ (fun hHeld => ?_)
            clear hK K
            refine no_ 208 ?_
            refine on_ HT_ 22 210 (bs 26 8388607) (fun K hK => ?_)
            refine goes_ Tryd.func21 (by kernel_rfl) rfl #[.agg #[.int .i64 t998, .int .i64 t999]] (by rfl) rfl rfl mp_ ?_
            with_reducible refine (spec_FormatAnf.calls k t998 t999 t1002 _ A185.out).mono ?_
            rintro e w255 ⟨rfl, hb⟩
            refine ⟨_, rfl, ?_⟩
            replace HO922 := Aside0.mk (Kd.R_below (rv_ HO922) hb)
            replace HO925 := Aside0.mk (Kd.R_below (rv_ HO925) hb)
            replace HO979 := Aside0.mk (Kd.R_below (rv_ HO979) hb)
            replace BK911 := kb_ BK911 hb
            replace BK915 := kb_ BK915 hb
            replace BK919 := kb_ BK919 hb
            replace BK983 := kb_ BK983 hb
            replace BK987 := kb_ BK987 hb
            replace BK993 := kb_ BK993 hb
            replace BK997 := kb_ BK997 hb
            replace BK1000 := kb_ BK1000 hb
            replace HB := Aside0.mk (below_step (bv8_ HB GE911 GE915 GE919 GE983 GE987 GE993 GE997 GE1000) hb)
            (try clear hb)
            (try clear hb2)
            (try clear hk)
            (try clear hi)
            refine hK.out _ _ ⟨(blk_cell BK983.out 0).trans rfl, (blk_cell BK983.out 1).trans rfl, (blk_cell BK987.out 0).trans rfl, (blk_cell BK987.out 1).trans rfl, (blk_cell BK993.out 0).trans rfl, (blk_cell BK993.out 1).trans rfl, (blk_cell BK997.out 0).trans rfl, (blk_cell BK997.out 1).trans rfl, (blk_cell BK1000.out 0).trans rfl, (blk_cell BK1000.out 1).trans rfl⟩ (fun hHeld => ?_)
            clear hK K
            refine no_ 210 ?_
            refine pu_ HT_ 23 211 (bs 26 16777215) ?_
            refine pu_ HT_ 24 212 (bs 26 33554431) ?_
            refine pu_ HT_ 25 2 (bs 26 67108863) ?_
            refine done_ (done_of HT_.out (by kernel_rfl)) ?_
            try go_wp2
            go_ret
            exact ⟨er_, bv8_ HB GE911 GE915 GE919 GE983 GE987 GE993 GE997 GE1000⟩
           ·rw [if_neg c183] at H
            exact absurd H (by simp)
          ·rw [if_neg c182] at H
           exact absurd H (by simp)
         ·rw [if_neg c181] at H
          exact absurd H (by simp)
        ·rw [if_neg c180] at H
         exact absurd H (by simp)
      ·rw [if_neg c18] at H
       exact absurd H (by simp)
     ·rw [if_neg c15] at H
      exact absurd H (by simp)
    ·replace c12 := Bool.eq_false_iff.mpr c12
     subst c12
     rw [if_neg (show ¬ (false = true) by decide)] at H
     exact absurd H (by simp)

end Go.Proofs.YteljkpglgjjnlaaDoor.P
