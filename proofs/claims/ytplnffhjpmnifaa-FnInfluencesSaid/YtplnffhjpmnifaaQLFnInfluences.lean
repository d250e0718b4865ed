-- Out of the translation, by this session's program over the printer's; Lean checks it.
import Derived.Test.YtplnffhjpmnifaaSh
import Derived.Test.YtplnffhjpmnifaaQ0
import Derived.Test.YtplnffhjpmnifaaQ2
import Derived.Test.YtplnffhjpmnifaaQ3
import Derived.Test.YtplnffhjpmnifaaQ4
import Derived.Test.YtplnffhjpmnifaaQ5
import Derived.Test.YtplnffhjpmnifaaQ6
import Derived.Test.YtplnffhjpmnifaaQ7
import Derived.Test.YtplnffhjpmnifaaQ8
import Derived.Test.YtplnffhjpmnifaaQ9
namespace Go.Proofs.Ytplnffhjpmnifaa.P
open Go.RowKit Go.Proofs.YtplnffhjpmnifaaW.PrintWords Go.Proofs.YtplnffhjpmnifaaW.PrintLast Go.Proofs.YtplnffhjpmnifaaW.PrintMore
attribute [local go_sem] max2_int min2_int max_two min_two max_three min_three max_four min_four
set_option linter.unusedVariables false
set_option linter.unusedSimpArgs false

/-! ### laws_FnInfluences: function 3 -/
mutual
def laws_FnInfluences.l0 : Nat → List Int → Int → List Int → List Int → Int → Int → Int → Int → Int → Option (Bool)
 | 0, _, _, _, _, _, _, _, _, _ => none
 | k + 1, x0, x4, x5, x6, x7, x8, x9, x821000, x821001 => if x9 < x821000 then ((impl_InfluenceOf.f k x821000 x821001 x9).bind fun t841 => ((impl_DependsOn.f x821000 x821001 x9).bind fun t842 => (if ((decide (t841 > 0)) != t842) = true then (none) else ((impl_MostInfluential.f k x821000 x821001).bind fun t843 => ((impl_InfluenceOf.f k x821000 x821001 t843).bind fun t844 => (if t841 > t844 then (none) else (laws_FnInfluences.l0 k x0 x4 x5 x6 (wrap64 (x7 + t841)) x8 (wrap64 (x9 + 1)) x821000 x821001))))))) else (laws_FnInfluences.l1 k x0 x4 x5 x6 x7 x8 0 x821000 x821001)
def laws_FnInfluences.l1 : Nat → List Int → Int → List Int → List Int → Int → Int → Int → Int → Int → Option (Bool)
 | 0, _, _, _, _, _, _, _, _, _ => none
 | k + 1, x0, x4, x5, x6, x7, x8, x11, x821000, x821001 => if x11 < (x5.length : Int) then (if 0 ≤ x11 then (laws_FnInfluences.l1 k x0 x4 x5 x6 x7 (wrap64 (x8 + (wrap64 (x11 * (rd x5 x11))))) (wrap64 (x11 + 1)) x821000 x821001) else (none)) else (if x7 = x4 then (if 0 ≤ x821000 then (if x8 = (shl .i64 x4 x821000) then ((laws_total.f k x6).bind fun t846 => ((impl_VarianceOf.f x821000 x821001).bind fun t847 => (if t846 = t847 then (if x821000 > 0 then (if 1 < (x6.length : Int) then (if (wrap64 (2 * (rd x6 1))) = x4 then ((impl_VarianceOf.f x821000 x821001).bind fun t849 => (if (wrap64 (4 * t849)) > (shl .i64 x4 x821000) then (none) else ((spec_DrawInfluenceOf.f k x0).bind fun bt850 => ((spec_DrawMostInfluential.f k x0).bind fun bt854 => ((spec_DrawVarianceOf.f k x0).bind fun bt857 => ((impl_InfluenceOf.f k bt850.1 bt850.2.1 bt850.2.2).bind fun t860 => ((spec_InfluenceOf.f k bt850.1 bt850.2.1 bt850.2.2).bind fun t861 => (if t860 = t861 then ((impl_MostInfluential.f k bt854.1 bt854.2).bind fun t862 => ((spec_MostInfluential.f k bt854.1 bt854.2).bind fun t863 => (if t862 = t863 then ((impl_VarianceOf.f bt857.1 bt857.2).bind fun t864 => ((spec_VarianceOf.f k bt857.1 bt857.2).bind fun t865 => (some (t864 == t865)))) else (none)))) else (none))))))))) else (none)) else (none)) else ((impl_VarianceOf.f x821000 x821001).bind fun t866 => (if (wrap64 (4 * t866)) > (shl .i64 x4 x821000) then (none) else ((spec_DrawInfluenceOf.f k x0).bind fun bt867 => ((spec_DrawMostInfluential.f k x0).bind fun bt871 => ((spec_DrawVarianceOf.f k x0).bind fun bt874 => ((impl_InfluenceOf.f k bt867.1 bt867.2.1 bt867.2.2).bind fun t877 => ((spec_InfluenceOf.f k bt867.1 bt867.2.1 bt867.2.2).bind fun t878 => (if t877 = t878 then ((impl_MostInfluential.f k bt871.1 bt871.2).bind fun t879 => ((spec_MostInfluential.f k bt871.1 bt871.2).bind fun t880 => (if t879 = t880 then ((impl_VarianceOf.f bt874.1 bt874.2).bind fun t881 => ((spec_VarianceOf.f k bt874.1 bt874.2).bind fun t882 => (some (t881 == t882)))) else (none)))) else (none)))))))))) else (none)))) else (none)) else (none)) else (none))
end
def laws_FnInfluences.f (k : Nat) (l0 : List Int) : Option (Bool) := (laws_big.f l0).bind fun t817 => (if t817 = true then (some true) else ((spec_DrawTotalInfluence.f k l0).bind fun bt818 => ((impl_TotalInfluence.f k bt818.1 bt818.2).bind fun t821 => ((impl_EnergyByLevel.f k bt818.1 bt818.2).bind fun t822 => ((impl_PairsAtDistance.f k bt818.1 bt818.2).bind fun t825 => ((spec_TotalInfluence.f k bt818.1 bt818.2).bind fun t828 => (if t821 = t828 then ((spec_EnergyByLevel.f k bt818.1 bt818.2).bind fun t829 => ((laws_sameInts.f k t822 t829).bind fun t832 => (if t832 = true then ((spec_PairsAtDistance.f k bt818.1 bt818.2).bind fun t833 => ((laws_sameInts.f k t825 t833).bind fun t836 => (if t836 = true then ((impl_VarianceOf.f bt818.1 bt818.2).bind fun t837 => ((spec_VarianceOf.f k bt818.1 bt818.2).bind fun t838 => (if t837 = t838 then ((impl_MostInfluential.f k bt818.1 bt818.2).bind fun t839 => ((spec_MostInfluential.f k bt818.1 bt818.2).bind fun t840 => (if t839 = t840 then (if t821 ≥ 0 then (laws_FnInfluences.l0 k l0 t821 t822 t825 0 0 0 bt818.1 bt818.2) else ((spec_DrawInfluenceOf.f k l0).bind fun bt883 => ((spec_DrawMostInfluential.f k l0).bind fun bt887 => ((spec_DrawVarianceOf.f k l0).bind fun bt890 => ((impl_InfluenceOf.f k bt883.1 bt883.2.1 bt883.2.2).bind fun t893 => ((spec_InfluenceOf.f k bt883.1 bt883.2.1 bt883.2.2).bind fun t894 => (if t893 = t894 then ((impl_MostInfluential.f k bt887.1 bt887.2).bind fun t895 => ((spec_MostInfluential.f k bt887.1 bt887.2).bind fun t896 => (if t895 = t896 then ((impl_VarianceOf.f bt890.1 bt890.2).bind fun t897 => ((spec_VarianceOf.f k bt890.1 bt890.2).bind fun t898 => (some (t897 == t898)))) else (none)))) else (none)))))))) else (none)))) else (none)))) else (none)))) else (none)))) else (none))))))))
theorem laws_FnInfluences.mono_l : ∀ k, (∀ y0 y1 y2 y3 y4 y5 y6 y7 y8, LeO (laws_FnInfluences.l0 k y0 y1 y2 y3 y4 y5 y6 y7 y8) (laws_FnInfluences.l0 (k + 1) y0 y1 y2 y3 y4 y5 y6 y7 y8)) ∧ (∀ y0 y1 y2 y3 y4 y5 y6 y7 y8, LeO (laws_FnInfluences.l1 k y0 y1 y2 y3 y4 y5 y6 y7 y8) (laws_FnInfluences.l1 (k + 1) y0 y1 y2 y3 y4 y5 y6 y7 y8))
 | 0 => ⟨fun _ _ _ _ _ _ _ _ _ r h => by simp [laws_FnInfluences.l0] at h, fun _ _ _ _ _ _ _ _ _ r h => by simp [laws_FnInfluences.l1] at h⟩
 | k + 1 => by
  obtain ⟨ih0, ih1⟩ := laws_FnInfluences.mono_l k
  refine ⟨?_, ?_⟩
  ·intro y0 y1 y2 y3 y4 y5 y6 y7 y8
   unfold laws_FnInfluences.l0
   repeat' first
   | (with_reducible exact ih0 _ _ _ _ _ _ _ _ _)
   | (with_reducible exact ih1 _ _ _ _ _ _ _ _ _)
   | (with_reducible exact impl_EnergyByLevel.mono _ _ _)
   | (with_reducible exact impl_InfluenceOf.mono _ _ _ _)
   | (with_reducible exact impl_MostInfluential.mono _ _ _)
   | (with_reducible exact impl_PairsAtDistance.mono _ _ _)
   | (with_reducible exact impl_TotalInfluence.mono _ _ _)
   | (with_reducible exact laws_sameInts.mono _ _ _)
   | (with_reducible exact laws_total.mono _ _)
   | (with_reducible exact spec_DrawInfluenceOf.mono _ _)
   | (with_reducible exact spec_DrawMostInfluential.mono _ _)
   | (with_reducible exact spec_DrawTotalInfluence.mono _ _)
   | (with_reducible exact spec_DrawVarianceOf.mono _ _)
   | (with_reducible exact spec_EnergyByLevel.mono _ _ _)
   | (with_reducible exact spec_InfluenceOf.mono _ _ _ _)
   | (with_reducible exact spec_MostInfluential.mono _ _ _)
   | (with_reducible exact spec_PairsAtDistance.mono _ _ _)
   | (with_reducible exact spec_TotalInfluence.mono _ _ _)
   | (with_reducible exact spec_VarianceOf.mono _ _ _)
   | (with_reducible exact LeO.refl _)
   | (with_reducible exact LeO.none _)
   | (with_reducible refine LeO.ite ?_ ?_)
   | (with_reducible refine LeO.bind ?_ (fun _ => ?_))
   | exact ih0 _ _ _ _ _ _ _ _ _
   | exact ih1 _ _ _ _ _ _ _ _ _
   | exact impl_EnergyByLevel.mono _ _ _
   | exact impl_InfluenceOf.mono _ _ _ _
   | exact impl_MostInfluential.mono _ _ _
   | exact impl_PairsAtDistance.mono _ _ _
   | exact impl_TotalInfluence.mono _ _ _
   | exact laws_sameInts.mono _ _ _
   | exact laws_total.mono _ _
   | exact spec_DrawInfluenceOf.mono _ _
   | exact spec_DrawMostInfluential.mono _ _
   | exact spec_DrawTotalInfluence.mono _ _
   | exact spec_DrawVarianceOf.mono _ _
   | exact spec_EnergyByLevel.mono _ _ _
   | exact spec_InfluenceOf.mono _ _ _ _
   | exact spec_MostInfluential.mono _ _ _
   | exact spec_PairsAtDistance.mono _ _ _
   | exact spec_TotalInfluence.mono _ _ _
   | exact spec_VarianceOf.mono _ _ _
   | exact LeO.none _
   | refine LeO.ite ?_ ?_
   | refine LeO.bind ?_ (fun _ => ?_)
  ·intro y0 y1 y2 y3 y4 y5 y6 y7 y8
   unfold laws_FnInfluences.l1
   repeat' first
   | (with_reducible exact ih0 _ _ _ _ _ _ _ _ _)
   | (with_reducible exact ih1 _ _ _ _ _ _ _ _ _)
   | (with_reducible exact impl_EnergyByLevel.mono _ _ _)
   | (with_reducible exact impl_InfluenceOf.mono _ _ _ _)
   | (with_reducible exact impl_MostInfluential.mono _ _ _)
   | (with_reducible exact impl_PairsAtDistance.mono _ _ _)
   | (with_reducible exact impl_TotalInfluence.mono _ _ _)
   | (with_reducible exact laws_sameInts.mono _ _ _)
   | (with_reducible exact laws_total.mono _ _)
   | (with_reducible exact spec_DrawInfluenceOf.mono _ _)
   | (with_reducible exact spec_DrawMostInfluential.mono _ _)
   | (with_reducible exact spec_DrawTotalInfluence.mono _ _)
   | (with_reducible exact spec_DrawVarianceOf.mono _ _)
   | (with_reducible exact spec_EnergyByLevel.mono _ _ _)
   | (with_reducible exact spec_InfluenceOf.mono _ _ _ _)
   | (with_reducible exact spec_MostInfluential.mono _ _ _)
   | (with_reducible exact spec_PairsAtDistance.mono _ _ _)
   | (with_reducible exact spec_TotalInfluence.mono _ _ _)
   | (with_reducible exact spec_VarianceOf.mono _ _ _)
   | (with_reducible exact LeO.refl _)
   | (with_reducible exact LeO.none _)
   | (with_reducible refine LeO.ite ?_ ?_)
   | (with_reducible refine LeO.bind ?_ (fun _ => ?_))
   | exact ih0 _ _ _ _ _ _ _ _ _
   | exact ih1 _ _ _ _ _ _ _ _ _
   | exact impl_EnergyByLevel.mono _ _ _
   | exact impl_InfluenceOf.mono _ _ _ _
   | exact impl_MostInfluential.mono _ _ _
   | exact impl_PairsAtDistance.mono _ _ _
   | exact impl_TotalInfluence.mono _ _ _
   | exact laws_sameInts.mono _ _ _
   | exact laws_total.mono _ _
   | exact spec_DrawInfluenceOf.mono _ _
   | exact spec_DrawMostInfluential.mono _ _
   | exact spec_DrawTotalInfluence.mono _ _
   | exact spec_DrawVarianceOf.mono _ _
   | exact spec_EnergyByLevel.mono _ _ _
   | exact spec_InfluenceOf.mono _ _ _ _
   | exact spec_MostInfluential.mono _ _ _
   | exact spec_PairsAtDistance.mono _ _ _
   | exact spec_TotalInfluence.mono _ _ _
   | exact spec_VarianceOf.mono _ _ _
   | exact LeO.none _
   | refine LeO.ite ?_ ?_
   | refine LeO.bind ?_ (fun _ => ?_)
theorem laws_FnInfluences.mono : ∀ a0 k, LeO (laws_FnInfluences.f k a0) (laws_FnInfluences.f (k + 1) a0) := by
 intro a0 k
 obtain ⟨ih0, ih1⟩ := laws_FnInfluences.mono_l k
 unfold laws_FnInfluences.f
 repeat' first
   | (with_reducible exact ih0 _ _ _ _ _ _ _ _ _)
   | (with_reducible exact ih1 _ _ _ _ _ _ _ _ _)
   | (with_reducible exact impl_EnergyByLevel.mono _ _ _)
   | (with_reducible exact impl_InfluenceOf.mono _ _ _ _)
   | (with_reducible exact impl_MostInfluential.mono _ _ _)
   | (with_reducible exact impl_PairsAtDistance.mono _ _ _)
   | (with_reducible exact impl_TotalInfluence.mono _ _ _)
   | (with_reducible exact laws_sameInts.mono _ _ _)
   | (with_reducible exact laws_total.mono _ _)
   | (with_reducible exact spec_DrawInfluenceOf.mono _ _)
   | (with_reducible exact spec_DrawMostInfluential.mono _ _)
   | (with_reducible exact spec_DrawTotalInfluence.mono _ _)
   | (with_reducible exact spec_DrawVarianceOf.mono _ _)
   | (with_reducible exact spec_EnergyByLevel.mono _ _ _)
   | (with_reducible exact spec_InfluenceOf.mono _ _ _ _)
   | (with_reducible exact spec_MostInfluential.mono _ _ _)
   | (with_reducible exact spec_PairsAtDistance.mono _ _ _)
   | (with_reducible exact spec_TotalInfluence.mono _ _ _)
   | (with_reducible exact spec_VarianceOf.mono _ _ _)
   | (with_reducible exact LeO.refl _)
   | (with_reducible exact LeO.none _)
   | (with_reducible refine LeO.ite ?_ ?_)
   | (with_reducible refine LeO.bind ?_ (fun _ => ?_))
   | exact ih0 _ _ _ _ _ _ _ _ _
   | exact ih1 _ _ _ _ _ _ _ _ _
   | exact impl_EnergyByLevel.mono _ _ _
   | exact impl_InfluenceOf.mono _ _ _ _
   | exact impl_MostInfluential.mono _ _ _
   | exact impl_PairsAtDistance.mono _ _ _
   | exact impl_TotalInfluence.mono _ _ _
   | exact laws_sameInts.mono _ _ _
   | exact laws_total.mono _ _
   | exact spec_DrawInfluenceOf.mono _ _
   | exact spec_DrawMostInfluential.mono _ _
   | exact spec_DrawTotalInfluence.mono _ _
   | exact spec_DrawVarianceOf.mono _ _
   | exact spec_EnergyByLevel.mono _ _ _
   | exact spec_InfluenceOf.mono _ _ _ _
   | exact spec_MostInfluential.mono _ _ _
   | exact spec_PairsAtDistance.mono _ _ _
   | exact spec_TotalInfluence.mono _ _ _
   | exact spec_VarianceOf.mono _ _ _
   | exact LeO.none _
   | refine LeO.ite ?_ ?_
   | refine LeO.bind ?_ (fun _ => ?_)
def laws_FnInfluences.T7 : Bool × List (List Nat × List Nat) := (true, [([], []), ([], []), ([1], [1]), ([0, 2], [0, 2]), ([3, 2], [3]), ([4], [4]), ([4], [4]), ([6, 4, 4], [4, 6]), ([5, 7, 7, 4], [4, 5, 7]), ([8, 4], [4, 8]), ([4, 9], [4, 9]), ([10, 8], [10]), ([11], [11]), ([11], [11]), ([13, 11, 11], [11, 13]), ([12, 14, 14, 11], [11, 12, 14]), ([15, 11], [11, 15]), ([11, 16], [11, 16]), ([17, 15], [17]), ([18], [18]), ([19, 18, 18], [18, 19]), ([18], [18]), ([21, 20, 18], [18, 21]), ([20, 22, 18], [18, 20, 22]), ([18, 23], [18, 23]), ([24, 22], [24]), ([25], [25]), ([26, 25, 25], [25, 26]), ([25], [25]), ([28, 27, 25], [25, 28]), ([27, 29, 25], [25, 27, 29]), ([25, 30], [25, 30])])
def laws_FnInfluences.B7 : List Nat := [0, 0, 2, 7, 15, 31, 31, 95, 255, 511, 1023, 2047, 4095, 4095, 12287, 32767, 65535, 131071, 262143, 524287, 1048575, 524287, 4194303, 8388607, 16777215, 33554431, 67108863, 134217727, 67108863, 536870911, 1073741823, 2147483647]
theorem laws_FnInfluences.tab7 : rtab .any (opsOf Try.f3 7) = laws_FnInfluences.T7 := by kernel_rfl
theorem laws_FnInfluences.bits7 : waitsOk laws_FnInfluences.T7.2 laws_FnInfluences.B7 = true := by kernel_rfl
def laws_FnInfluences.T16 : Bool × List (List Nat × List Nat) := (true, [([], []), ([0], [0]), ([], []), ([], []), ([2, 3], [2, 3]), ([1, 4], [1, 4]), ([5, 4], [5]), ([6], [6]), ([6], [6]), ([6], [6]), ([9, 6, 6], [6, 9]), ([8, 10, 10, 6], [6, 8, 10]), ([7, 11, 6], [6, 7, 11]), ([6, 12], [6, 12])])
def laws_FnInfluences.B16 : List Nat := [0, 1, 0, 0, 12, 31, 63, 127, 127, 127, 639, 1919, 4095, 8191]
theorem laws_FnInfluences.tab16 : rtab .any (opsOf Try.f3 16) = laws_FnInfluences.T16 := by kernel_rfl
theorem laws_FnInfluences.bits16 : waitsOk laws_FnInfluences.T16.2 laws_FnInfluences.B16 = true := by kernel_rfl
def laws_FnInfluences.T23 : Bool × List (List Nat × List Nat) := (true, [([], []), ([], []), ([0, 1], [0, 1]), ([2], [2]), ([3], [3]), ([3], [3]), ([3], [3]), ([6, 3], [3, 6]), ([5, 7, 3], [3, 5, 7]), ([4, 8, 3], [3, 4, 8]), ([3, 9], [3, 9]), ([10, 3], [10]), ([11], [11]), ([12, 11, 11], [11, 12]), ([11], [11]), ([14, 13, 11], [11, 14]), ([13, 15, 11], [11, 13, 15]), ([11, 16], [11, 16]), ([17, 15], [17]), ([18], [18]), ([19, 18], [18, 19]), ([20, 18], [18, 20]), ([21, 18, 18], [18, 21]), ([22], [22]), ([23, 22], [22, 23]), ([24, 22], [22, 24]), ([25, 22], [22, 25]), ([22], [22]), ([26, 27, 22], [22, 26, 27]), ([22, 28, 18], [18, 22, 28]), ([18, 29], [18, 29]), ([30, 22], [30]), ([31], [31]), ([32, 31, 31], [31, 32]), ([33, 31], [31, 33]), ([31], [31]), ([31], [31]), ([36, 31], [31, 36]), ([35, 37, 31], [31, 35, 37]), ([34, 38, 31], [31, 34, 38]), ([31, 39], [31, 39])])
def laws_FnInfluences.B23 : List Nat := [0, 0, 3, 7, 15, 15, 15, 79, 239, 511, 1023, 2047, 4095, 8191, 4095, 32767, 65535, 131071, 262143, 524287, 1048575, 2097151, 4194303, 8388607, 16777215, 33554431, 67108863, 8388607, 268435455, 536870911, 1073741823, 2147483647, 4294967295, 8589934591, 17179869183, 4294967295, 4294967295, 73014444031, 244813135871, 549755813887, 1099511627775]
theorem laws_FnInfluences.tab23 : rtab .any (opsOf Try.f3 23) = laws_FnInfluences.T23 := by kernel_rfl
theorem laws_FnInfluences.bits23 : waitsOk laws_FnInfluences.T23.2 laws_FnInfluences.B23 = true := by kernel_rfl
def laws_FnInfluences.T28 : Bool × List (List Nat × List Nat) := (true, [([], []), ([], []), ([0, 1], [0, 1]), ([], []), ([], []), ([3, 4, 2], [3, 4]), ([2, 5], [2, 5]), ([6, 5], [6]), ([7], [7]), ([8, 7, 7], [7, 8]), ([7], [7]), ([10, 9, 7], [7, 10]), ([9, 11, 7], [7, 9, 11]), ([7, 12], [7, 12]), ([13, 11], [13]), ([14], [14]), ([15, 14, 14], [14, 15]), ([14], [14]), ([17, 16, 14], [14, 17]), ([16, 18, 14], [14, 16, 18]), ([14, 19], [14, 19]), ([20, 18, 0, 1, 2, 3, 4, 5, 6, 7, 8, 9, 10, 11, 12, 13, 14, 15, 16, 17, 18, 19, 20], [20])])
def laws_FnInfluences.B28 : List Nat := [0, 0, 3, 0, 0, 31, 63, 127, 255, 511, 255, 2047, 4095, 8191, 16383, 32767, 65535, 32767, 262143, 524287, 1048575, 2097151]
theorem laws_FnInfluences.tab28 : rtab .any (opsOf Try.f3 28) = laws_FnInfluences.T28 := by kernel_rfl
theorem laws_FnInfluences.bits28 : waitsOk laws_FnInfluences.T28.2 laws_FnInfluences.B28 = true := by kernel_rfl
set_option maxHeartbeats 8000000 in
set_option maxRecDepth 100000 in
theorem laws_FnInfluences.calls (k : Nat) (A0 : Option Addr) (c0 : Nat) (l0 : List Int) (r : Bool) (w : World) (hr0 : Kd.C (Kd.int .u8) w A0 l0.length l0) (hc0 : l0.length ≤ c0) (h : laws_FnInfluences.f k l0 = some r) :
  Calls Try.prog 3 #[.slice A0 l0.length c0] w fun e w' => e = .returned (.bool r) ∧ Below w.heap.size w w' := by
 have hu25 := Try.underlying25
 have HR0 := Aside0.mk hr0
 have HC0 := Aside0.mk hc0
 clear hr0 hc0
 have HB := Aside0.mk (Below.refl w.heap.size w)
 have H : ((laws_big.f l0).bind fun t817 => (if t817 = true then (some true) else ((spec_DrawTotalInfluence.f k l0).bind fun bt818 => ((impl_TotalInfluence.f k bt818.1 bt818.2).bind fun t821 => ((impl_EnergyByLevel.f k bt818.1 bt818.2).bind fun t822 => ((impl_PairsAtDistance.f k bt818.1 bt818.2).bind fun t825 => ((spec_TotalInfluence.f k bt818.1 bt818.2).bind fun t828 => (if t821 = t828 then ((spec_EnergyByLevel.f k bt818.1 bt818.2).bind fun t829 => ((laws_sameInts.f k t822 t829).bind fun t832 => (if t832 = true then ((spec_PairsAtDistance.f k bt818.1 bt818.2).bind fun t833 => ((laws_sameInts.f k t825 t833).bind fun t836 => (if t836 = true then ((impl_VarianceOf.f bt818.1 bt818.2).bind fun t837 => ((spec_VarianceOf.f k bt818.1 bt818.2).bind fun t838 => (if t837 = t838 then ((impl_MostInfluential.f k bt818.1 bt818.2).bind fun t839 => ((spec_MostInfluential.f k bt818.1 bt818.2).bind fun t840 => (if t839 = t840 then (if t821 ≥ 0 then (laws_FnInfluences.l0 k l0 t821 t822 t825 0 0 0 bt818.1 bt818.2) else ((spec_DrawInfluenceOf.f k l0).bind fun bt883 => ((spec_DrawMostInfluential.f k l0).bind fun bt887 => ((spec_DrawVarianceOf.f k l0).bind fun bt890 => ((impl_InfluenceOf.f k bt883.1 bt883.2.1 bt883.2.2).bind fun t893 => ((spec_InfluenceOf.f k bt883.1 bt883.2.1 bt883.2.2).bind fun t894 => (if t893 = t894 then ((impl_MostInfluential.f k bt887.1 bt887.2).bind fun t895 => ((spec_MostInfluential.f k bt887.1 bt887.2).bind fun t896 => (if t895 = t896 then ((impl_VarianceOf.f bt890.1 bt890.2).bind fun t897 => ((spec_VarianceOf.f k bt890.1 bt890.2).bind fun t898 => (some (t897 == t898)))) else (none)))) else (none)))))))) else (none)))) else (none)))) else (none)))) else (none)))) else (none))))))))) = some r := h
 clear h
 replace H := Option.bind_eq_some_iff.mp H
 obtain ⟨t817, A20, H⟩ := H
 have A2 := Aside0.mk A20
 clear A20
 by_cases c3 : t817 = true
 ·subst c3
  have H1 : (some true) = some r := by rw [if_pos rfl] at H; exact H
  clear H
  have H := H1
  clear H1
  obtain rfl := Option.some.inj H
  go_enter Try.func3, Try.ntmps3
  go_wp2_with (first | ((with_reducible refine gate_callee (f := 5) rfl ?_); refine gl_ 17 Try.func5 #[.slice A0 l0.length c0] rfl mp_ ?_; (with_reducible refine (laws_big.calls _ _ l0 true _ ?side1 ?side2 A2.out).mono ?_); (case side1 => exact cv_ HR0.out); (case side2 => exact HC0.out); rintro e w' ⟨rfl, ⟨nd, rfl⟩⟩; refine ⟨_, rfl, ?_⟩))
  go_ret
  exact ⟨by first | rfl | (simp [errW_none, errW_some] <;> rfl) | (simp [*, errW_none, errW_some] <;> rfl), bv_ HB⟩
 ·replace c3 := Bool.eq_false_iff.mpr c3
  subst c3
  have H1 : ((spec_DrawTotalInfluence.f k l0).bind fun bt818 => ((impl_TotalInfluence.f k bt818.1 bt818.2).bind fun t821 => ((impl_EnergyByLevel.f k bt818.1 bt818.2).bind fun t822 => ((impl_PairsAtDistance.f k bt818.1 bt818.2).bind fun t825 => ((spec_TotalInfluence.f k bt818.1 bt818.2).bind fun t828 => (if t821 = t828 then ((spec_EnergyByLevel.f k bt818.1 bt818.2).bind fun t829 => ((laws_sameInts.f k t822 t829).bind fun t832 => (if t832 = true then ((spec_PairsAtDistance.f k bt818.1 bt818.2).bind fun t833 => ((laws_sameInts.f k t825 t833).bind fun t836 => (if t836 = true then ((impl_VarianceOf.f bt818.1 bt818.2).bind fun t837 => ((spec_VarianceOf.f k bt818.1 bt818.2).bind fun t838 => (if t837 = t838 then ((impl_MostInfluential.f k bt818.1 bt818.2).bind fun t839 => ((spec_MostInfluential.f k bt818.1 bt818.2).bind fun t840 => (if t839 = t840 then (if t821 ≥ 0 then (laws_FnInfluences.l0 k l0 t821 t822 t825 0 0 0 bt818.1 bt818.2) else ((spec_DrawInfluenceOf.f k l0).bind fun bt883 => ((spec_DrawMostInfluential.f k l0).bind fun bt887 => ((spec_DrawVarianceOf.f k l0).bind fun bt890 => ((impl_InfluenceOf.f k bt883.1 bt883.2.1 bt883.2.2).bind fun t893 => ((spec_InfluenceOf.f k bt883.1 bt883.2.1 bt883.2.2).bind fun t894 => (if t893 = t894 then ((impl_MostInfluential.f k bt887.1 bt887.2).bind fun t895 => ((spec_MostInfluential.f k bt887.1 bt887.2).bind fun t896 => (if t895 = t896 then ((impl_VarianceOf.f bt890.1 bt890.2).bind fun t897 => ((spec_VarianceOf.f k bt890.1 bt890.2).bind fun t898 => (some (t897 == t898)))) else (none)))) else (none)))))))) else (none)))) else (none)))) else (none)))) else (none)))) else (none))))))) = some r := by rw [if_neg (show ¬ (false = true) by decide)] at H; exact H
  clear H
  have H := H1
  clear H1
  replace H := Option.bind_eq_some_iff.mp H
  obtain ⟨⟨t818, t819⟩, A40, H⟩ := H
  replace H : ((impl_TotalInfluence.f k t818 t819).bind fun t821 => ((impl_EnergyByLevel.f k t818 t819).bind fun t822 => ((impl_PairsAtDistance.f k t818 t819).bind fun t825 => ((spec_TotalInfluence.f k t818 t819).bind fun t828 => (if t821 = t828 then ((spec_EnergyByLevel.f k t818 t819).bind fun t829 => ((laws_sameInts.f k t822 t829).bind fun t832 => (if t832 = true then ((spec_PairsAtDistance.f k t818 t819).bind fun t833 => ((laws_sameInts.f k t825 t833).bind fun t836 => (if t836 = true then ((impl_VarianceOf.f t818 t819).bind fun t837 => ((spec_VarianceOf.f k t818 t819).bind fun t838 => (if t837 = t838 then ((impl_MostInfluential.f k t818 t819).bind fun t839 => ((spec_MostInfluential.f k t818 t819).bind fun t840 => (if t839 = t840 then (if t821 ≥ 0 then (laws_FnInfluences.l0 k l0 t821 t822 t825 0 0 0 t818 t819) else ((spec_DrawInfluenceOf.f k l0).bind fun bt883 => ((spec_DrawMostInfluential.f k l0).bind fun bt887 => ((spec_DrawVarianceOf.f k l0).bind fun bt890 => ((impl_InfluenceOf.f k bt883.1 bt883.2.1 bt883.2.2).bind fun t893 => ((spec_InfluenceOf.f k bt883.1 bt883.2.1 bt883.2.2).bind fun t894 => (if t893 = t894 then ((impl_MostInfluential.f k bt887.1 bt887.2).bind fun t895 => ((spec_MostInfluential.f k bt887.1 bt887.2).bind fun t896 => (if t895 = t896 then ((impl_VarianceOf.f bt890.1 bt890.2).bind fun t897 => ((spec_VarianceOf.f k bt890.1 bt890.2).bind fun t898 => (some (t897 == t898)))) else (none)))) else (none)))))))) else (none)))) else (none)))) else (none)))) else (none)))) else (none)))))) = some r := H
  have A4 := Aside0.mk A40
  clear A40
  replace H := Option.bind_eq_some_iff.mp H
  obtain ⟨t821, A50, H⟩ := H
  have A5 := Aside0.mk A50
  clear A50
  replace H := Option.bind_eq_some_iff.mp H
  obtain ⟨t822, A60, H⟩ := H
  have A6 := Aside0.mk A60
  clear A60
  replace H := Option.bind_eq_some_iff.mp H
  obtain ⟨t825, A70, H⟩ := H
  have A7 := Aside0.mk A70
  clear A70
  replace H := Option.bind_eq_some_iff.mp H
  obtain ⟨t828, A80, H⟩ := H
  have A8 := Aside0.mk A80
  clear A80
  by_cases c9 : t821 = t828
  ·rw [if_pos c9] at H
   have c9b0 : (t821 == t828) = true := beq_iff_eq.mpr c9
   have c9b1 : (t821 != t828) = false := bne_eq_false_iff_eq.mpr c9
   clear c9
   replace H := Option.bind_eq_some_iff.mp H
   obtain ⟨t829, A100, H⟩ := H
   have A10 := Aside0.mk A100
   clear A100
   replace H := Option.bind_eq_some_iff.mp H
   obtain ⟨t832, A110, H⟩ := H
   have A11 := Aside0.mk A110
   clear A110
   by_cases c12 : t832 = true
   ·subst c12
    have H1 : ((spec_PairsAtDistance.f k t818 t819).bind fun t833 => ((laws_sameInts.f k t825 t833).bind fun t836 => (if t836 = true then ((impl_VarianceOf.f t818 t819).bind fun t837 => ((spec_VarianceOf.f k t818 t819).bind fun t838 => (if t837 = t838 then ((impl_MostInfluential.f k t818 t819).bind fun t839 => ((spec_MostInfluential.f k t818 t819).bind fun t840 => (if t839 = t840 then (if t821 ≥ 0 then (laws_FnInfluences.l0 k l0 t821 t822 t825 0 0 0 t818 t819) else ((spec_DrawInfluenceOf.f k l0).bind fun bt883 => ((spec_DrawMostInfluential.f k l0).bind fun bt887 => ((spec_DrawVarianceOf.f k l0).bind fun bt890 => ((impl_InfluenceOf.f k bt883.1 bt883.2.1 bt883.2.2).bind fun t893 => ((spec_InfluenceOf.f k bt883.1 bt883.2.1 bt883.2.2).bind fun t894 => (if t893 = t894 then ((impl_MostInfluential.f k bt887.1 bt887.2).bind fun t895 => ((spec_MostInfluential.f k bt887.1 bt887.2).bind fun t896 => (if t895 = t896 then ((impl_VarianceOf.f bt890.1 bt890.2).bind fun t897 => ((spec_VarianceOf.f k bt890.1 bt890.2).bind fun t898 => (some (t897 == t898)))) else (none)))) else (none)))))))) else (none)))) else (none)))) else (none)))) = some r := by rw [if_pos rfl] at H; exact H
    clear H
    have H := H1
    clear H1
    replace H := Option.bind_eq_some_iff.mp H
    obtain ⟨t833, A130, H⟩ := H
    have A13 := Aside0.mk A130
    clear A130
    replace H := Option.bind_eq_some_iff.mp H
    obtain ⟨t836, A140, H⟩ := H
    have A14 := Aside0.mk A140
    clear A140
    by_cases c15 : t836 = true
    ·subst c15
     have H1 : ((impl_VarianceOf.f t818 t819).bind fun t837 => ((spec_VarianceOf.f k t818 t819).bind fun t838 => (if t837 = t838 then ((impl_MostInfluential.f k t818 t819).bind fun t839 => ((spec_MostInfluential.f k t818 t819).bind fun t840 => (if t839 = t840 then (if t821 ≥ 0 then (laws_FnInfluences.l0 k l0 t821 t822 t825 0 0 0 t818 t819) else ((spec_DrawInfluenceOf.f k l0).bind fun bt883 => ((spec_DrawMostInfluential.f k l0).bind fun bt887 => ((spec_DrawVarianceOf.f k l0).bind fun bt890 => ((impl_InfluenceOf.f k bt883.1 bt883.2.1 bt883.2.2).bind fun t893 => ((spec_InfluenceOf.f k bt883.1 bt883.2.1 bt883.2.2).bind fun t894 => (if t893 = t894 then ((impl_MostInfluential.f k bt887.1 bt887.2).bind fun t895 => ((spec_MostInfluential.f k bt887.1 bt887.2).bind fun t896 => (if t895 = t896 then ((impl_VarianceOf.f bt890.1 bt890.2).bind fun t897 => ((spec_VarianceOf.f k bt890.1 bt890.2).bind fun t898 => (some (t897 == t898)))) else (none)))) else (none)))))))) else (none)))) else (none)))) = some r := by rw [if_pos rfl] at H; exact H
     clear H
     have H := H1
     clear H1
     replace H := Option.bind_eq_some_iff.mp H
     obtain ⟨t837, A160, H⟩ := H
     have A16 := Aside0.mk A160
     clear A160
     replace H := Option.bind_eq_some_iff.mp H
     obtain ⟨t838, A170, H⟩ := H
     have A17 := Aside0.mk A170
     clear A170
     by_cases c18 : t837 = t838
     ·rw [if_pos c18] at H
      have c18b0 : (t837 == t838) = true := beq_iff_eq.mpr c18
      have c18b1 : (t837 != t838) = false := bne_eq_false_iff_eq.mpr c18
      clear c18
      replace H := Option.bind_eq_some_iff.mp H
      obtain ⟨t839, A190, H⟩ := H
      have A19 := Aside0.mk A190
      clear A190
      replace H := Option.bind_eq_some_iff.mp H
      obtain ⟨t840, A200, H⟩ := H
      have A20 := Aside0.mk A200
      clear A200
      by_cases c21 : t839 = t840
      ·rw [if_pos c21] at H
       have c21b0 : (t839 == t840) = true := beq_iff_eq.mpr c21
       have c21b1 : (t839 != t840) = false := bne_eq_false_iff_eq.mpr c21
       clear c21
       by_cases c22 : t821 ≥ 0
       ·rw [if_pos c22] at H
        have c22b0 : decide (0 ≤ t821) = true := decide_eq_true c22
        clear c22
        have H' := Aside0.mk H
        clear H
        go_enter Try.func3, Try.ntmps3
        try go_wp2_with (first | ((with_reducible refine gate_callee (f := 5) rfl ?_); refine gl_ 17 Try.func5 #[.slice A0 l0.length c0] rfl mp_ ?_; (with_reducible refine (laws_big.calls _ _ l0 false _ ?side1 ?side2 A2.out).mono ?_); (case side1 => exact cv_ HR0.out); (case side2 => exact HC0.out); rintro e w' ⟨rfl, ⟨nd, rfl⟩⟩; refine ⟨_, rfl, ?_⟩) | ((with_reducible refine gate_callee (f := 6) rfl ?_); refine gl_ 19 Try.func6 #[.slice A0 l0.length c0] rfl mp_ ?_; (with_reducible refine (spec_DrawTotalInfluence.calls k _ _ l0 t818 t819 _ ?side1 ?side2 A4.out).mono ?_); (case side1 => exact cv_ HR0.out); (case side2 => exact HC0.out); rintro e w23 ⟨rfl, hb⟩; refine ⟨_, rfl, ?_⟩; replace HB := Aside0.mk (below_step (bv_ HB) hb); (try clear hb); (try clear hb2); (try clear hk); (try clear hi)) | ((with_reducible refine gate_dst (N := 3) rfl ?_); refine bx_ 3 #[.int .i64 0, .int .i64 0] 25 ?_; intro gb820 hg w24 hbox hb; have BK820 := Aside0.mk (hbox); have GW820 := gw_ hg (below_size (bv_ HB)); have GE820 := GW820; replace HB := Aside0.mk (below_step (bv_ HB) hb); clear hb hbox hg; obtain ⟨hcz25_0, hcz25_1, hfz25_0, hfz25_1⟩ := c2_ BK820) | ((with_reducible refine gate_callee (f := 7) rfl ?_); refine gl_ 21 Try.func7 #[.agg #[.int .i64 t818, .int .i64 t819]] rfl mp_ ?_; (with_reducible refine (impl_TotalInfluence.calls k t818 t819 t821 _ A5.out).mono ?_); rintro e w26 ⟨rfl, hb⟩; refine ⟨_, rfl, ?_⟩; replace BK820 := Aside0.mk (blk_below (g := gb820) (o := .cells #[.int .i64 t818, .int .i64 t819] 25 (0, 0)) (by (with_reducible repeat (first | refine blk_drewN ?_ _ | refine blk_drew ?_ | refine blk_alloc ?_ _)); refine blk_put (cs := #[.int .i64 t818, .int .i64 0]) ?_ 1 _ rfl; (with_reducible repeat (first | refine blk_drewN ?_ _ | refine blk_drew ?_ | refine blk_alloc ?_ _)); refine blk_put (cs := #[.int .i64 0, .int .i64 0]) ?_ 0 _ rfl; (with_reducible repeat (first | refine blk_drewN ?_ _ | refine blk_drew ?_ | refine blk_alloc ?_ _)); exact BK820.out) hb); replace HB := Aside0.mk (below_step (bv1_ HB GE820) hb); (try clear hb); (try clear hb2); (try clear hk); (try clear hi); obtain ⟨hcz27_0, hcz27_1, hfz27_0, hfz27_1⟩ := c2_ BK820) | ((with_reducible refine gate_callee (f := 8) rfl ?_); refine gl_ 23 Try.func8 #[.agg #[.int .i64 t818, .int .i64 t819]] rfl mp_ ?_; (with_reducible refine (impl_EnergyByLevel.calls k t818 t819 t822 _ A6.out).mono ?_); rintro e w28 ⟨v823, rfl, ho0, hb⟩; refine ⟨_, rfl, ?_⟩; have HO824 := Aside0.mk (Kd.R_lower ho0 (below_size (bv1_ HB GE820))); replace BK820 := Aside0.mk (blk_below (g := gb820) (o := .cells #[.int .i64 t818, .int .i64 t819] 25 (0, 0)) (kv_ BK820) hb); replace HB := Aside0.mk (below_step (bv1_ HB GE820) hb); (try clear hb); (try clear hb2); (try clear hk); (try clear hi); (try clear ho0); obtain ⟨hcz29_0, hcz29_1, hfz29_0, hfz29_1⟩ := c2_ BK820) | ((with_reducible refine gate_callee (f := 9) rfl ?_); refine gl_ 25 Try.func9 #[.agg #[.int .i64 t818, .int .i64 t819]] rfl mp_ ?_; (with_reducible refine (impl_PairsAtDistance.calls k t818 t819 t825 _ A7.out).mono ?_); rintro e w30 ⟨v826, rfl, ho0, hb⟩; refine ⟨_, rfl, ?_⟩; have HO827 := Aside0.mk (Kd.R_lower (Kd.R_new' ho0 (Kd.R_lt (rv_ HO824))) (below_size (bv1_ HB GE820))); replace HO824 := Aside0.mk (Kd.R_elder' (rv_ HO824) (Kd.R_base ho0) hb); replace BK820 := Aside0.mk (blk_below (g := gb820) (o := .cells #[.int .i64 t818, .int .i64 t819] 25 (0, 0)) (kv_ BK820) hb); replace HB := Aside0.mk (below_step (bv1_ HB GE820) hb); (try clear hb); (try clear hb2); (try clear hk); (try clear hi); (try clear ho0)))
        replace HO824 := Aside0.mk (Kd.R_drew HO824.out)
        replace HO827 := Aside0.mk (Kd.R_drew HO827.out)
        replace BK820 := Aside0.mk (blk_drew BK820.out)
        replace HB := Aside0.mk (below_drew1 HB.out)
        refine start_ (n := 32) (S := fun w' => w'.cell? ⟨gb820, 0, none⟩ = some (.int .i64 t818) ∧ w'.cell? ⟨gb820, 1, none⟩ = some (.int .i64 t819)) (ds := []) (bs 32 0) (by kernel_rfl) rfl (by kernel_rfl) ⟨(blk_cell BK820.out 0).trans rfl, (blk_cell BK820.out 1).trans rfl⟩ (fun hHeld => ?_); refine with_tabW laws_FnInfluences.tab7 laws_FnInfluences.bits7 (fun HT_ HW_ => ?_)
        generalize w30.drew = w31 at HO824 HO827 BK820 HB hHeld ⊢
        refine pu_ HT_ 0 26 (bs 32 1) ?_
        refine ta2_ HT_ HW_ 1 27 (bs 32 3) hHeld ?_
        refine on_ HT_ 2 28 (bs 32 7) (fun K hK => ?_)
        refine goes_ Try.func10 (by kernel_rfl) rfl #[.agg #[.int .i64 t818, .int .i64 t819]] (by rfl) rfl rfl mp_ ?_
        with_reducible refine (spec_TotalInfluence.calls k t818 t819 t828 _ A8.out).mono ?_
        rintro e w32 ⟨rfl, hb⟩
        refine ⟨_, rfl, ?_⟩
        replace HO824 := Aside0.mk (Kd.R_below (rv_ HO824) hb)
        replace HO827 := Aside0.mk (Kd.R_below (rv_ HO827) hb)
        replace BK820 := Aside0.mk (blk_below (g := gb820) (o := .cells #[.int .i64 t818, .int .i64 t819] 25 (0, 0)) (kv_ BK820) hb)
        replace HB := Aside0.mk (below_step (bv1_ HB GE820) hb)
        (try clear hb)
        (try clear hb2)
        (try clear hk)
        (try clear hi)
        refine hK.out _ _ ⟨(blk_cell BK820.out 0).trans rfl, (blk_cell BK820.out 1).trans rfl⟩ (fun hHeld => ?_)
        clear hK K
        refine no_ 28 ?_
        refine pu_ HT_ 3 29 (bs 32 15) ?_
        refine pu_ HT_ 4 30 (bs 32 31) ?_
        refine pu_ HT_ 5 31 (bs 32 63) ?_
        refine ta2_ HT_ HW_ 6 32 (bs 32 127) hHeld ?_
        refine on_ HT_ 7 33 (bs 32 255) (fun K hK => ?_)
        refine goes_ Try.func12 (by kernel_rfl) rfl #[.agg #[.int .i64 t818, .int .i64 t819]] (by rfl) rfl rfl mp_ ?_
        with_reducible refine (spec_EnergyByLevel.calls k t818 t819 t829 _ A10.out).mono ?_
        rintro e w33 ⟨v830, rfl, ho0, hb⟩
        refine ⟨_, rfl, ?_⟩
        have HO831 := Aside0.mk (Kd.R_lower (Kd.R_new' (Kd.R_new' ho0 (Kd.R_lt (rv_ HO824))) (Kd.R_lt (rv_ HO827))) (below_size (bv1_ HB GE820)))
        replace HO824 := Aside0.mk (Kd.R_elder' (rv_ HO824) (Kd.R_base ho0) hb)
        replace HO827 := Aside0.mk (Kd.R_elder' (rv_ HO827) (Kd.R_base ho0) hb)
        replace BK820 := Aside0.mk (blk_below (g := gb820) (o := .cells #[.int .i64 t818, .int .i64 t819] 25 (0, 0)) (kv_ BK820) hb)
        replace HB := Aside0.mk (below_step (bv1_ HB GE820) hb)
        (try clear hb)
        (try clear hb2)
        (try clear hk)
        (try clear hi)
        (try clear ho0)
        obtain ⟨Ao34, co34, eo34⟩ := Kd.R_slice HO824.out
        (first | subst eo34 | (injection eo34 with f1_ f2_ f3_; have f4_ := f1_.symm; have f5_ := f3_.symm; clear f1_ f2_ f3_; subst f4_; subst f5_))
        obtain ⟨Ao35, co35, eo35⟩ := Kd.R_slice HO831.out
        (first | subst eo35 | (injection eo35 with f1_ f2_ f3_; have f4_ := f1_.symm; have f5_ := f3_.symm; clear f1_ f2_ f3_; subst f4_; subst f5_))
        refine hK.out _ _ ⟨(blk_cell BK820.out 0).trans rfl, (blk_cell BK820.out 1).trans rfl⟩ (fun hHeld => ?_)
        clear hK K
        refine no_ 33 ?_
        refine on_ HT_ 8 34 (bs 32 511) (fun K hK => ?_)
        refine goes_ Try.func11 (by kernel_rfl) rfl #[.slice Ao34 t822.length co34, .slice Ao35 t829.length co35] (by rfl) rfl rfl mp_ ?_
        with_reducible refine (laws_sameInts.calls k _ _ t822 _ _ t829 true _ ?side1 ?side2 ?side3 ?side4 A11.out).mono ?_
        (case side1 => repeat (first | exact (Kd.R_reads' HO824.out).2.2 | (with_reducible refine Kd.C_alloc ?_ _) | (with_reducible refine Kd.C_drewN ?_ _) | (with_reducible refine Kd.C_drew ?_)))
        (case side2 => exact (Kd.R_reads' HO824.out).2.1)
        (case side3 => repeat (first | exact (Kd.R_reads' HO831.out).2.2 | (with_reducible refine Kd.C_alloc ?_ _) | (with_reducible refine Kd.C_drewN ?_ _) | (with_reducible refine Kd.C_drew ?_)))
        (case side4 => exact (Kd.R_reads' HO831.out).2.1)
        rintro e w' ⟨rfl, ⟨nd, rfl⟩⟩
        refine ⟨_, rfl, ?_⟩
        refine hK.out _ _ ⟨(blk_cell BK820.out 0).trans rfl, (blk_cell BK820.out 1).trans rfl⟩ (fun hHeld => ?_)
        clear hK K
        refine no_ 34 ?_
        refine pu_ HT_ 9 35 (bs 32 1023) ?_
        refine pu_ HT_ 10 36 (bs 32 2047) ?_
        refine pu_ HT_ 11 37 (bs 32 4095) ?_
        refine pu_ HT_ 12 38 (bs 32 8191) ?_
        refine ta2_ HT_ HW_ 13 39 (bs 32 16383) hHeld ?_
        refine on_ HT_ 14 40 (bs 32 32767) (fun K hK => ?_)
        refine goes_ Try.func13 (by kernel_rfl) rfl #[.agg #[.int .i64 t818, .int .i64 t819]] (by rfl) rfl rfl mp_ ?_
        with_reducible refine (spec_PairsAtDistance.calls k t818 t819 t833 _ A13.out).mono ?_
        rintro e w36 ⟨v834, rfl, ho0, hb⟩
        refine ⟨_, rfl, ?_⟩
        have HO835 := Aside0.mk (Kd.R_lower (Kd.R_new' (Kd.R_new' (Kd.R_new' ho0 (Kd.R_lt (rv_ HO824))) (Kd.R_lt (rv_ HO827))) (Kd.R_lt (rv_ HO831))) (below_size (bv1_ HB GE820)))
        replace HO824 := Aside0.mk (Kd.R_elder' (rv_ HO824) (Kd.R_base ho0) hb)
        replace HO827 := Aside0.mk (Kd.R_elder' (rv_ HO827) (Kd.R_base ho0) hb)
        replace HO831 := Aside0.mk (Kd.R_elder' (rv_ HO831) (Kd.R_base ho0) hb)
        replace BK820 := Aside0.mk (blk_below (g := gb820) (o := .cells #[.int .i64 t818, .int .i64 t819] 25 (0, 0)) (kv_ BK820) hb)
        replace HB := Aside0.mk (below_step (bv1_ HB GE820) hb)
        (try clear hb)
        (try clear hb2)
        (try clear hk)
        (try clear hi)
        (try clear ho0)
        obtain ⟨Ao37, co37, eo37⟩ := Kd.R_slice HO827.out
        (first | subst eo37 | (injection eo37 with f1_ f2_ f3_; have f4_ := f1_.symm; have f5_ := f3_.symm; clear f1_ f2_ f3_; subst f4_; subst f5_))
        obtain ⟨Ao38, co38, eo38⟩ := Kd.R_slice HO835.out
        (first | subst eo38 | (injection eo38 with f1_ f2_ f3_; have f4_ := f1_.symm; have f5_ := f3_.symm; clear f1_ f2_ f3_; subst f4_; subst f5_))
        refine hK.out _ _ ⟨(blk_cell BK820.out 0).trans rfl, (blk_cell BK820.out 1).trans rfl⟩ (fun hHeld => ?_)
        clear hK K
        refine no_ 40 ?_
        refine on_ HT_ 15 41 (bs 32 65535) (fun K hK => ?_)
        refine goes_ Try.func11 (by kernel_rfl) rfl #[.slice Ao37 t825.length co37, .slice Ao38 t833.length co38] (by rfl) rfl rfl mp_ ?_
        with_reducible refine (laws_sameInts.calls k _ _ t825 _ _ t833 true _ ?side1 ?side2 ?side3 ?side4 A14.out).mono ?_
        (case side1 => repeat (first | exact (Kd.R_reads' HO827.out).2.2 | (with_reducible refine Kd.C_alloc ?_ _) | (with_reducible refine Kd.C_drewN ?_ _) | (with_reducible refine Kd.C_drew ?_)))
        (case side2 => exact (Kd.R_reads' HO827.out).2.1)
        (case side3 => repeat (first | exact (Kd.R_reads' HO835.out).2.2 | (with_reducible refine Kd.C_alloc ?_ _) | (with_reducible refine Kd.C_drewN ?_ _) | (with_reducible refine Kd.C_drew ?_)))
        (case side4 => exact (Kd.R_reads' HO835.out).2.1)
        rintro e w' ⟨rfl, ⟨nd, rfl⟩⟩
        refine ⟨_, rfl, ?_⟩
        refine hK.out _ _ ⟨(blk_cell BK820.out 0).trans rfl, (blk_cell BK820.out 1).trans rfl⟩ (fun hHeld => ?_)
        clear hK K
        refine no_ 41 ?_
        refine pu_ HT_ 16 42 (bs 32 131071) ?_
        refine pu_ HT_ 17 43 (bs 32 262143) ?_
        refine pu_ HT_ 18 44 (bs 32 524287) ?_
        refine ta2_ HT_ HW_ 19 45 (bs 32 1048575) hHeld ?_
        refine ta2_ HT_ HW_ 21 47 (bs 32 3145727) hHeld ?_
        refine on_ HT_ 20 46 (bs 32 4194303) (fun K hK => ?_)
        refine goes_ Try.func14 (by kernel_rfl) rfl #[.agg #[.int .i64 t818, .int .i64 t819]] (by rfl) rfl rfl mp_ ?_
        with_reducible refine (impl_VarianceOf.calls t818 t819 t837 _ A16.out).mono ?_
        rintro e w39 ⟨rfl, hb⟩
        refine ⟨_, rfl, ?_⟩
        replace HO824 := Aside0.mk (Kd.R_below (rv_ HO824) hb)
        replace HO827 := Aside0.mk (Kd.R_below (rv_ HO827) hb)
        replace HO831 := Aside0.mk (Kd.R_below (rv_ HO831) hb)
        replace HO835 := Aside0.mk (Kd.R_below (rv_ HO835) hb)
        replace BK820 := Aside0.mk (blk_below (g := gb820) (o := .cells #[.int .i64 t818, .int .i64 t819] 25 (0, 0)) (kv_ BK820) hb)
        replace HB := Aside0.mk (below_step (bv1_ HB GE820) hb)
        (try clear hb)
        (try clear hb2)
        (try clear hk)
        (try clear hi)
        refine hK.out _ _ ⟨(blk_cell BK820.out 0).trans rfl, (blk_cell BK820.out 1).trans rfl⟩ (fun hHeld => ?_)
        clear hK K
        refine no_ 46 ?_
        refine on_ HT_ 22 48 (bs 32 8388607) (fun K hK => ?_)
        refine goes_ Try.func15 (by kernel_rfl) rfl #[.agg #[.int .i64 t818, .int .i64 t819]] (by rfl) rfl rfl mp_ ?_
        with_reducible refine (spec_VarianceOf.calls k t818 t819 t838 _ A17.out).mono ?_
        rintro e w40 ⟨rfl, hb⟩
        refine ⟨_, rfl, ?_⟩
        replace HO824 := Aside0.mk (Kd.R_below (rv_ HO824) hb)
        replace HO827 := Aside0.mk (Kd.R_below (rv_ HO827) hb)
        replace HO831 := Aside0.mk (Kd.R_below (rv_ HO831) hb)
        replace HO835 := Aside0.mk (Kd.R_below (rv_ HO835) hb)
        replace BK820 := Aside0.mk (blk_below (g := gb820) (o := .cells #[.int .i64 t818, .int .i64 t819] 25 (0, 0)) (kv_ BK820) hb)
        replace HB := Aside0.mk (below_step (bv1_ HB GE820) hb)
        (try clear hb)
        (try clear hb2)
        (try clear hk)
        (try clear hi)
        refine hK.out _ _ ⟨(blk_cell BK820.out 0).trans rfl, (blk_cell BK820.out 1).trans rfl⟩ (fun hHeld => ?_)
        clear hK K
        refine no_ 48 ?_
        refine pu_ HT_ 23 49 (bs 32 16777215) ?_
        refine pu_ HT_ 24 50 (bs 32 33554431) ?_
        refine pu_ HT_ 25 51 (bs 32 67108863) ?_
        refine ta2_ HT_ HW_ 26 52 (bs 32 134217727) hHeld ?_
        refine ta2_ HT_ HW_ 28 54 (bs 32 402653183) hHeld ?_
        refine on_ HT_ 27 53 (bs 32 536870911) (fun K hK => ?_)
        refine goes_ Try.func16 (by kernel_rfl) rfl #[.agg #[.int .i64 t818, .int .i64 t819]] (by rfl) rfl rfl mp_ ?_
        with_reducible refine (impl_MostInfluential.calls k t818 t819 t839 _ A19.out).mono ?_
        rintro e w41 ⟨rfl, hb⟩
        refine ⟨_, rfl, ?_⟩
        replace HO824 := Aside0.mk (Kd.R_below (rv_ HO824) hb)
        replace HO827 := Aside0.mk (Kd.R_below (rv_ HO827) hb)
        replace HO831 := Aside0.mk (Kd.R_below (rv_ HO831) hb)
        replace HO835 := Aside0.mk (Kd.R_below (rv_ HO835) hb)
        replace BK820 := Aside0.mk (blk_below (g := gb820) (o := .cells #[.int .i64 t818, .int .i64 t819] 25 (0, 0)) (kv_ BK820) hb)
        replace HB := Aside0.mk (below_step (bv1_ HB GE820) hb)
        (try clear hb)
        (try clear hb2)
        (try clear hk)
        (try clear hi)
        refine hK.out _ _ ⟨(blk_cell BK820.out 0).trans rfl, (blk_cell BK820.out 1).trans rfl⟩ (fun hHeld => ?_)
        clear hK K
        refine no_ 53 ?_
        refine on_ HT_ 29 55 (bs 32 1073741823) (fun K hK => ?_)
        refine goes_ Try.func17 (by kernel_rfl) rfl #[.agg #[.int .i64 t818, .int .i64 t819]] (by rfl) rfl rfl mp_ ?_
        with_reducible refine (spec_MostInfluential.calls k t818 t819 t840 _ A20.out).mono ?_
        rintro e w42 ⟨rfl, hb⟩
        refine ⟨_, rfl, ?_⟩
        replace HO824 := Aside0.mk (Kd.R_below (rv_ HO824) hb)
        replace HO827 := Aside0.mk (Kd.R_below (rv_ HO827) hb)
        replace HO831 := Aside0.mk (Kd.R_below (rv_ HO831) hb)
        replace HO835 := Aside0.mk (Kd.R_below (rv_ HO835) hb)
        replace BK820 := Aside0.mk (blk_below (g := gb820) (o := .cells #[.int .i64 t818, .int .i64 t819] 25 (0, 0)) (kv_ BK820) hb)
        replace HB := Aside0.mk (below_step (bv1_ HB GE820) hb)
        (try clear hb)
        (try clear hb2)
        (try clear hk)
        (try clear hi)
        refine hK.out _ _ ⟨(blk_cell BK820.out 0).trans rfl, (blk_cell BK820.out 1).trans rfl⟩ (fun hHeld => ?_)
        clear hK K
        refine no_ 55 ?_
        refine pu_ HT_ 30 56 (bs 32 2147483647) ?_
        refine pu_ HT_ 31 57 (bs 32 4294967295) ?_
        refine done_ (done_of HT_.out (by kernel_rfl)) ?_
        try go_wp2
        go_loopg [7, 9] k (fun kq v7 v9 w' => ∃ (x7_1 : Int) (x9_1 : Int), v7 = .int .i64 x7_1 ∧ v9 = .int .i64 x9_1 ∧ Aside0 (laws_FnInfluences.l0 kq l0 t821 t822 t825 x7_1 0 x9_1 t818 t819 = some r) ∧ Aside0 (kq ≤ k) ∧ Aside0 (Kd.R (Kd.int .i64) 3 w' w.heap.size (fun k_ => some k_ ≠ ((.slice Ao37 t825.length co37) : Value).ownBlock) (.slice Ao34 t822.length co34) t822) ∧ Aside0 (Kd.R (Kd.int .i64) 3 w' w.heap.size (fun k_ => some k_ ≠ ((.slice Ao34 t822.length co34) : Value).ownBlock) (.slice Ao37 t825.length co37) t825) ∧ Aside0 (w'.heap[gb820]? = some (.cells #[.int .i64 t818, .int .i64 t819] 25 (0, 0))) ∧ Aside0 (Below w.heap.size w w'))
        case atStart => exact ⟨(0), (0), (by first | rfl | (simp; done) | (simp [*]; done)), (by first | rfl | (simp; done) | (simp [*]; done)), H', ⟨Nat.le_refl _⟩, ⟨by (with_reducible repeat (first | apply Kd.R_alloc | apply Kd.R_drewN | apply Kd.R_drew)); exact Kd.R_mono HO824.out (fun _ hk => hk.1.1.2)⟩, ⟨by (with_reducible repeat (first | apply Kd.R_alloc | apply Kd.R_drewN | apply Kd.R_drew)); exact Kd.R_mono HO827.out (fun _ hk => hk.1.1.2)⟩, ⟨by (with_reducible repeat (first | refine blk_drewN ?_ _ | refine blk_drew ?_ | refine blk_alloc ?_ _)); exact BK820.out⟩, ⟨bv1_ HB GE820⟩⟩
        case round =>
         clear H'
         try clear c1
         try clear c2
         try clear p2
         try clear c3
         try clear c5
         try clear c6
         try clear c7
         try clear c8
         try clear c9
         try clear c9b0
         try clear c9b1
         try clear c10
         try clear c11
         try clear c12
         try clear c13
         try clear c14
         try clear c15
         try clear c16
         try clear c17
         try clear c18
         try clear c18b0
         try clear c18b1
         try clear c21
         try clear c21b0
         try clear c21b1
         try clear c22
         try clear c22b0
         try clear hcz25_0
         try clear hcz25_1
         try clear hcz27_0
         try clear hcz27_1
         try clear hcz29_0
         try clear hcz29_1
         try clear hfz25_0
         try clear hfz25_1
         try clear hfz27_0
         try clear hfz27_1
         try clear hfz29_0
         try clear hfz29_1
         obtain ⟨x7_1, x9_1, rfl, rfl, HA, HK1, HO_5, HO_6, BK820, HB⟩ := hrel
         cases gk with
         | zero => exact absurd HA.out (by simp [laws_FnInfluences.l0])
         | succ k1 =>
          have H := HA.out
          clear HA
          simp only [laws_FnInfluences.l0] at H
          by_cases c43 : x9_1 < t818
          ·rw [if_pos c43] at H
           have c43b0 : decide (x9_1 < t818) = true := decide_eq_true c43
           clear c43
           replace H := Option.bind_eq_some_iff.mp H
           obtain ⟨t841, A440, H⟩ := H
           have A44 := Aside0.mk A440
           clear A440
           replace H := Option.bind_eq_some_iff.mp H
           obtain ⟨t842, A450, H⟩ := H
           have A45 := Aside0.mk A450
           clear A450
           by_cases c46 : ((decide (t841 > 0)) != t842) = true
           ·rw [if_pos c46] at H
            exact absurd H (by simp)
           ·rw [if_neg c46] at H
            have c46b0 : ((decide (t841 > 0)) != t842) = false := by simpa using c46
            (try (have c46b1 : decide ((decide (t841 > 0)) = t842) = true := by simpa using c46))
            (try (have c46b2 : ((decide (t841 > 0)) == t842) = true := by simpa using c46))
            clear c46
            replace H := Option.bind_eq_some_iff.mp H
            obtain ⟨t843, A470, H⟩ := H
            have A47 := Aside0.mk A470
            clear A470
            replace H := Option.bind_eq_some_iff.mp H
            obtain ⟨t844, A480, H⟩ := H
            have A48 := Aside0.mk A480
            clear A480
            by_cases c49 : t841 > t844
            ·rw [if_pos c49] at H
             exact absurd H (by simp)
            ·rw [if_neg c49] at H
             have c49b0 : decide (t844 < t841) = false := decide_eq_false c49
             clear c49
             have H' := Aside0.mk H
             clear H
             obtain ⟨hcz50_0, hcz50_1, hfz50_0, hfz50_1⟩ := c2_ BK820
             try go_wp2_with (first | ((with_reducible refine gate_callee (f := 18) rfl ?_); refine gl_ 68 Try.func18 #[.agg #[.int .i64 t818, .int .i64 t819], .int .i64 x9_1] rfl mp_ ?_; (with_reducible refine (impl_InfluenceOf.calls k1 t818 t819 x9_1 t841 _ A44.out).mono ?_); rintro e w51 ⟨rfl, hb⟩; refine ⟨_, rfl, ?_⟩; have n0_ := Aside0.mk (Kd.R_below (rv_ HO_5) hb); have n1_ := Aside0.mk (Kd.R_below (rv_ HO_6) hb); have n2_ := Aside0.mk (blk_below (g := gb820) (o := .cells #[.int .i64 t818, .int .i64 t819] 25 (0, 0)) (kv_ BK820) hb); have n3_ := Aside0.mk (below_step (bv1_ HB GE820) hb); clear HO_5; clear HO_6; clear BK820; clear HB; have HO_5 := n0_; have HO_6 := n1_; have BK820 := n2_; have HB := n3_; clear n0_ n1_ n2_ n3_; (try clear hb); (try clear hb2); (try clear hk); (try clear hi)))
             replace HO_5 := Aside0.mk (Kd.R_drew HO_5.out)
             replace HO_6 := Aside0.mk (Kd.R_drew HO_6.out)
             replace BK820 := Aside0.mk (blk_drew BK820.out)
             replace HB := Aside0.mk (below_drew1 HB.out)
             refine start_ (n := 14) (S := fun w' => w'.cell? ⟨gb820, 0, none⟩ = some (.int .i64 t818) ∧ w'.cell? ⟨gb820, 1, none⟩ = some (.int .i64 t819)) (ds := []) (bs 14 0) (by kernel_rfl) rfl (by kernel_rfl) ⟨(blk_cell BK820.out 0).trans rfl, (blk_cell BK820.out 1).trans rfl⟩ (fun hHeld => ?_); refine with_tabW laws_FnInfluences.tab16 laws_FnInfluences.bits16 (fun HT_ HW_ => ?_)
             generalize w51.drew = w52 at HO_5 HO_6 BK820 HB hHeld ⊢
             refine pu_ HT_ 0 69 (bs 14 1) ?_
             refine pu_ HT_ 1 70 (bs 14 3) ?_
             refine pu_ HT_ 3 72 (bs 14 11) ?_
             refine ta2_ HT_ HW_ 2 71 (bs 14 15) hHeld ?_
             refine on_ HT_ 4 73 (bs 14 31) (fun K hK => ?_)
             refine goes_ Try.func19 (by kernel_rfl) rfl #[.agg #[.int .i64 t818, .int .i64 t819], .int .i64 x9_1] (by rfl) rfl rfl mp_ ?_
             with_reducible refine (impl_DependsOn.calls t818 t819 x9_1 t842 _ A45.out).mono ?_
             rintro e w53 ⟨rfl, hb⟩
             refine ⟨_, rfl, ?_⟩
             replace HO_5 := Aside0.mk (Kd.R_below (rv_ HO_5) hb)
             replace HO_6 := Aside0.mk (Kd.R_below (rv_ HO_6) hb)
             replace BK820 := Aside0.mk (blk_below (g := gb820) (o := .cells #[.int .i64 t818, .int .i64 t819] 25 (0, 0)) (kv_ BK820) hb)
             replace HB := Aside0.mk (below_step (bv1_ HB GE820) hb)
             (try clear hb)
             (try clear hb2)
             (try clear hk)
             (try clear hi)
             refine hK.out _ _ ⟨(blk_cell BK820.out 0).trans rfl, (blk_cell BK820.out 1).trans rfl⟩ (fun hHeld => ?_)
             clear hK K
             refine no_ 73 ?_
             refine pu_ HT_ 5 74 (bs 14 63) ?_
             refine pu_ HT_ 6 75 (bs 14 127) ?_
             refine pu_ HT_ 7 76 (bs 14 255) ?_
             refine ta2_ HT_ HW_ 8 77 (bs 14 511) hHeld ?_
             refine ta2_ HT_ HW_ 9 78 (bs 14 1023) hHeld ?_
             refine on_ HT_ 10 79 (bs 14 2047) (fun K hK => ?_)
             refine goes_ Try.func16 (by kernel_rfl) rfl #[.agg #[.int .i64 t818, .int .i64 t819]] (by rfl) rfl rfl mp_ ?_
             with_reducible refine (impl_MostInfluential.calls k1 t818 t819 t843 _ A47.out).mono ?_
             rintro e w54 ⟨rfl, hb⟩
             refine ⟨_, rfl, ?_⟩
             replace HO_5 := Aside0.mk (Kd.R_below (rv_ HO_5) hb)
             replace HO_6 := Aside0.mk (Kd.R_below (rv_ HO_6) hb)
             replace BK820 := Aside0.mk (blk_below (g := gb820) (o := .cells #[.int .i64 t818, .int .i64 t819] 25 (0, 0)) (kv_ BK820) hb)
             replace HB := Aside0.mk (below_step (bv1_ HB GE820) hb)
             (try clear hb)
             (try clear hb2)
             (try clear hk)
             (try clear hi)
             refine hK.out _ _ ⟨(blk_cell BK820.out 0).trans rfl, (blk_cell BK820.out 1).trans rfl⟩ (fun hHeld => ?_)
             clear hK K
             refine no_ 79 ?_
             refine on_ HT_ 11 80 (bs 14 4095) (fun K hK => ?_)
             refine goes_ Try.func18 (by kernel_rfl) rfl #[.agg #[.int .i64 t818, .int .i64 t819], .int .i64 t843] (by rfl) rfl rfl mp_ ?_
             with_reducible refine (impl_InfluenceOf.calls k1 t818 t819 t843 t844 _ A48.out).mono ?_
             rintro e w55 ⟨rfl, hb⟩
             refine ⟨_, rfl, ?_⟩
             replace HO_5 := Aside0.mk (Kd.R_below (rv_ HO_5) hb)
             replace HO_6 := Aside0.mk (Kd.R_below (rv_ HO_6) hb)
             replace BK820 := Aside0.mk (blk_below (g := gb820) (o := .cells #[.int .i64 t818, .int .i64 t819] 25 (0, 0)) (kv_ BK820) hb)
             replace HB := Aside0.mk (below_step (bv1_ HB GE820) hb)
             (try clear hb)
             (try clear hb2)
             (try clear hk)
             (try clear hi)
             refine hK.out _ _ ⟨(blk_cell BK820.out 0).trans rfl, (blk_cell BK820.out 1).trans rfl⟩ (fun hHeld => ?_)
             clear hK K
             refine no_ 80 ?_
             refine pu_ HT_ 12 81 (bs 14 8191) ?_
             refine pu_ HT_ 13 82 (bs 14 16383) ?_
             refine done_ (done_of HT_.out (by kernel_rfl)) ?_
             try go_wp2
             go_roundg k1
             case measure => have := HK1.out; omega
             case rel => exact ⟨(wrap64 (x7_1 + t841)), (wrap64 (x9_1 + 1)), (by first | rfl | (simp; done) | (simp [*]; done)), (by first | rfl | (simp; done) | (simp [*]; done)), H', ⟨by have := HK1.out; omega⟩, ⟨by (with_reducible repeat (first | apply Kd.R_alloc | apply Kd.R_drewN | apply Kd.R_drew)); exact HO_5.out⟩, ⟨by (with_reducible repeat (first | apply Kd.R_alloc | apply Kd.R_drewN | apply Kd.R_drew)); exact HO_6.out⟩, ⟨by (with_reducible repeat (first | refine blk_drewN ?_ _ | refine blk_drew ?_ | refine blk_alloc ?_ _)); exact BK820.out⟩, ⟨bv1_ HB GE820⟩⟩
          ·rw [if_neg c43] at H
           have c43b0 : decide (x9_1 < t818) = false := decide_eq_false c43
           clear c43
           have H' := Aside0.mk H
           clear H
           obtain ⟨hcz56_0, hcz56_1, hfz56_0, hfz56_1⟩ := c2_ BK820
           go_wp2
           go_loopg [8, 11] k1 (fun kq v8 v11 w' => ∃ (x8_2 : Int) (x11_2 : Int), v8 = .int .i64 x8_2 ∧ v11 = .int .i64 x11_2 ∧ Aside0 (laws_FnInfluences.l1 kq l0 t821 t822 t825 x7_1 x8_2 x11_2 t818 t819 = some r) ∧ Aside0 (kq ≤ k1) ∧ Aside0 (Kd.R (Kd.int .i64) 3 w' w.heap.size (fun k_ => some k_ ≠ ((.slice Ao37 t825.length co37) : Value).ownBlock) (.slice Ao34 t822.length co34) t822) ∧ Aside0 (Kd.R (Kd.int .i64) 3 w' w.heap.size (fun k_ => some k_ ≠ ((.slice Ao34 t822.length co34) : Value).ownBlock) (.slice Ao37 t825.length co37) t825) ∧ Aside0 (w'.heap[gb820]? = some (.cells #[.int .i64 t818, .int .i64 t819] 25 (0, 0))) ∧ Aside0 (Below w.heap.size w w'))
           case atStart => exact ⟨(0), (0), (by first | rfl | (simp; done) | (simp [*]; done)), (by first | rfl | (simp; done) | (simp [*]; done)), H', ⟨Nat.le_refl _⟩, ⟨by (with_reducible repeat (first | apply Kd.R_alloc | apply Kd.R_drewN | apply Kd.R_drew)); exact HO_5.out⟩, ⟨by (with_reducible repeat (first | apply Kd.R_alloc | apply Kd.R_drewN | apply Kd.R_drew)); exact HO_6.out⟩, ⟨by (with_reducible repeat (first | refine blk_drewN ?_ _ | refine blk_drew ?_ | refine blk_alloc ?_ _)); exact BK820.out⟩, ⟨bv1_ HB GE820⟩⟩
           case round =>
            clear H'
            try clear c1
            try clear c2
            try clear p2
            try clear c3
            try clear c4
            try clear c5
            try clear c6
            try clear p6
            try clear c7
            try clear c8
            try clear c9
            try clear c9b0
            try clear c9b1
            try clear c10
            try clear c11
            try clear c12
            try clear c13
            try clear c14
            try clear c15
            try clear c16
            try clear c17
            try clear c18
            try clear c18b0
            try clear c18b1
            try clear c19
            try clear c21
            try clear c21b0
            try clear c21b1
            try clear c22
            try clear c22b0
            try clear c43
            try clear c43b0
            try clear c46
            try clear c46b0
            try clear c46b1
            try clear c46b2
            try clear c49
            try clear c49b0
            try clear hcz25_0
            try clear hcz25_1
            try clear hcz27_0
            try clear hcz27_1
            try clear hcz29_0
            try clear hcz29_1
            try clear hcz50_0
            try clear hcz50_1
            try clear hcz56_0
            try clear hcz56_1
            try clear hfz25_0
            try clear hfz25_1
            try clear hfz27_0
            try clear hfz27_1
            try clear hfz29_0
            try clear hfz29_1
            try clear hfz50_0
            try clear hfz50_1
            try clear hfz56_0
            try clear hfz56_1
            try clear p2
            obtain ⟨x8_2, x11_2, rfl, rfl, HA, HK2, HO_5, HO_6, BK820, HB⟩ := hrel
            cases gk with
            | zero => exact absurd HA.out (by simp [laws_FnInfluences.l1])
            | succ k2 =>
             have H := HA.out
             clear HA
             simp only [laws_FnInfluences.l1] at H
             by_cases c57 : x11_2 < (t822.length : Int)
             ·rw [if_pos c57] at H
              have c57b0 : decide (x11_2 < (t822.length : Int)) = true := decide_eq_true c57
              clear c57
              by_cases c58 : 0 ≤ x11_2
              ·rw [if_pos c58] at H
               have c58b0 : decide (0 ≤ x11_2) = true := decide_eq_true c58
               clear c58
               have H' := Aside0.mk H
               clear H
               have p845 : 0 ≤ (x11_2 : Int) := of_decide_eq_true (by first | (with_reducible assumption) | assumption)
               have q845 : x11_2 < (t822.length : Int) := of_decide_eq_true (by first | (with_reducible assumption) | assumption)
               obtain ⟨ad845, e845, hx845_0⟩ := Kd.at_int (Kd.R_reads' HO_5.out).2.2 x11_2 p845 q845
               cases e845
               replace p845 := eq_true p845
               replace q845 := eq_true q845
               go_wp2
               go_roundg k2
               case measure => have := HK1.out; have := HK2.out; omega
               case rel => exact ⟨(wrap64 (x8_2 + (wrap64 (x11_2 * (rd t822 x11_2))))), (wrap64 (x11_2 + 1)), (by first | rfl | (simp; done) | (simp [*]; done)), (by first | rfl | (simp; done) | (simp [*]; done)), H', ⟨by have := HK1.out; have := HK2.out; omega⟩, ⟨by (with_reducible repeat (first | apply Kd.R_alloc | apply Kd.R_drewN | apply Kd.R_drew)); exact HO_5.out⟩, ⟨by (with_reducible repeat (first | apply Kd.R_alloc | apply Kd.R_drewN | apply Kd.R_drew)); exact HO_6.out⟩, ⟨by (with_reducible repeat (first | refine blk_drewN ?_ _ | refine blk_drew ?_ | refine blk_alloc ?_ _)); exact BK820.out⟩, ⟨bv1_ HB GE820⟩⟩
              ·rw [if_neg c58] at H
               exact absurd H (by simp)
             ·rw [if_neg c57] at H
              have c57b0 : decide (x11_2 < (t822.length : Int)) = false := decide_eq_false c57
              clear c57
              by_cases c59 : x7_1 = t821
              ·rw [if_pos c59] at H
               have c59b0 : (x7_1 == t821) = true := beq_iff_eq.mpr c59
               have c59b1 : (x7_1 != t821) = false := bne_eq_false_iff_eq.mpr c59
               clear c59
               by_cases c60 : 0 ≤ t818
               ·rw [if_pos c60] at H
                have c60b0 := eq_true c60
                have c60b1 : decide (0 ≤ t818) = true := decide_eq_true c60
                clear c60
                obtain ⟨ji61, hji61⟩ : ∃ j_ : Int, (shl .i64 t821 t818) = j_ := ⟨_, rfl⟩
                replace H : (if x8_2 = (ji61) then ((laws_total.f k2 t825).bind fun t846 => ((impl_VarianceOf.f t818 t819).bind fun t847 => (if t846 = t847 then (if t818 > 0 then (if 1 < (t825.length : Int) then (if (wrap64 (2 * (rd t825 1))) = t821 then ((impl_VarianceOf.f t818 t819).bind fun t849 => (if (wrap64 (4 * t849)) > (ji61) then (none) else ((spec_DrawInfluenceOf.f k2 l0).bind fun bt850 => ((spec_DrawMostInfluential.f k2 l0).bind fun bt854 => ((spec_DrawVarianceOf.f k2 l0).bind fun bt857 => ((impl_InfluenceOf.f k2 bt850.1 bt850.2.1 bt850.2.2).bind fun t860 => ((spec_InfluenceOf.f k2 bt850.1 bt850.2.1 bt850.2.2).bind fun t861 => (if t860 = t861 then ((impl_MostInfluential.f k2 bt854.1 bt854.2).bind fun t862 => ((spec_MostInfluential.f k2 bt854.1 bt854.2).bind fun t863 => (if t862 = t863 then ((impl_VarianceOf.f bt857.1 bt857.2).bind fun t864 => ((spec_VarianceOf.f k2 bt857.1 bt857.2).bind fun t865 => (some (t864 == t865)))) else (none)))) else (none))))))))) else (none)) else (none)) else ((impl_VarianceOf.f t818 t819).bind fun t866 => (if (wrap64 (4 * t866)) > (ji61) then (none) else ((spec_DrawInfluenceOf.f k2 l0).bind fun bt867 => ((spec_DrawMostInfluential.f k2 l0).bind fun bt871 => ((spec_DrawVarianceOf.f k2 l0).bind fun bt874 => ((impl_InfluenceOf.f k2 bt867.1 bt867.2.1 bt867.2.2).bind fun t877 => ((spec_InfluenceOf.f k2 bt867.1 bt867.2.1 bt867.2.2).bind fun t878 => (if t877 = t878 then ((impl_MostInfluential.f k2 bt871.1 bt871.2).bind fun t879 => ((spec_MostInfluential.f k2 bt871.1 bt871.2).bind fun t880 => (if t879 = t880 then ((impl_VarianceOf.f bt874.1 bt874.2).bind fun t881 => ((spec_VarianceOf.f k2 bt874.1 bt874.2).bind fun t882 => (some (t881 == t882)))) else (none)))) else (none)))))))))) else (none)))) else (none)) = some r := by first | (rw [hji61] at H; exact H) | (simp only [hji61] at H ⊢; exact H)
                have hji61_ : (IntKind.i64.wrap (t821 * 2 ^ min t818.toNat 64)) = ji61 := hji61
                have hji61z : t818 ≤ 64 → (IntKind.i64.wrap (t821 * 2 ^ t818.toNat)) = ji61 := shl_small hji61
                have hji61y : (wrap64 (t821 * 2 ^ min t818.toNat 64)) = ji61 := (i64_w _).symm.trans hji61_
                have hji61x : t818 ≤ 64 → (wrap64 (t821 * 2 ^ t818.toNat)) = ji61 := fun h_ => (i64_w _).symm.trans (hji61z h_)
                by_cases c62 : x8_2 = (ji61)
                ·rw [if_pos c62] at H
                 have c62b0 : (x8_2 == (ji61)) = true := beq_iff_eq.mpr c62
                 have c62b1 : (x8_2 != (ji61)) = false := bne_eq_false_iff_eq.mpr c62
                 clear c62
                 replace H := Option.bind_eq_some_iff.mp H
                 obtain ⟨t846, A630, H⟩ := H
                 have A63 := Aside0.mk A630
                 clear A630
                 replace H := Option.bind_eq_some_iff.mp H
                 obtain ⟨t847, A640, H⟩ := H
                 have A64 := Aside0.mk A640
                 clear A640
                 by_cases c65 : t846 = t847
                 ·rw [if_pos c65] at H
                  have c65b0 : (t846 == t847) = true := beq_iff_eq.mpr c65
                  have c65b1 : (t846 != t847) = false := bne_eq_false_iff_eq.mpr c65
                  clear c65
                  by_cases c66 : t818 > 0
                  ·rw [if_pos c66] at H
                   have c66b0 : decide (0 < t818) = true := decide_eq_true c66
                   clear c66
                   by_cases c67 : 1 < (t825.length : Int)
                   ·rw [if_pos c67] at H
                    have c67b0 : decide (1 < (t825.length : Int)) = true := decide_eq_true c67
                    have c67b1 : decide (1 < t825.length) = true := decide_eq_true (by omega)
                    clear c67
                    by_cases c68 : (wrap64 (2 * (rd t825 1))) = t821
                    ·rw [if_pos c68] at H
                     have c68b0 : ((wrap64 (2 * (rd t825 1))) == t821) = true := beq_iff_eq.mpr c68
                     have c68b1 : ((wrap64 (2 * (rd t825 1))) != t821) = false := bne_eq_false_iff_eq.mpr c68
                     clear c68
                     replace H := Option.bind_eq_some_iff.mp H
                     obtain ⟨t849, A690, H⟩ := H
                     have A69 := Aside0.mk A690
                     clear A690
                     have c70b0 := eq_true (of_decide_eq_true (by first | (with_reducible assumption) | assumption) : 0 ≤ t818)
                     by_cases c72 : (wrap64 (4 * t849)) > (ji61)
                     ·rw [if_pos c72] at H
                      exact absurd H (by simp)
                     ·rw [if_neg c72] at H
                      have c72b0 : decide ((ji61) < (wrap64 (4 * t849))) = false := decide_eq_false c72
                      clear c72
                      replace H := Option.bind_eq_some_iff.mp H
                      obtain ⟨⟨t850, t851, t852⟩, A730, H⟩ := H
                      replace H : ((spec_DrawMostInfluential.f k2 l0).bind fun bt854 => ((spec_DrawVarianceOf.f k2 l0).bind fun bt857 => ((impl_InfluenceOf.f k2 t850 t851 t852).bind fun t860 => ((spec_InfluenceOf.f k2 t850 t851 t852).bind fun t861 => (if t860 = t861 then ((impl_MostInfluential.f k2 bt854.1 bt854.2).bind fun t862 => ((spec_MostInfluential.f k2 bt854.1 bt854.2).bind fun t863 => (if t862 = t863 then ((impl_VarianceOf.f bt857.1 bt857.2).bind fun t864 => ((spec_VarianceOf.f k2 bt857.1 bt857.2).bind fun t865 => (some (t864 == t865)))) else (none)))) else (none)))))) = some r := H
                      have A73 := Aside0.mk A730
                      clear A730
                      replace H := Option.bind_eq_some_iff.mp H
                      obtain ⟨⟨t854, t855⟩, A740, H⟩ := H
                      replace H : ((spec_DrawVarianceOf.f k2 l0).bind fun bt857 => ((impl_InfluenceOf.f k2 t850 t851 t852).bind fun t860 => ((spec_InfluenceOf.f k2 t850 t851 t852).bind fun t861 => (if t860 = t861 then ((impl_MostInfluential.f k2 t854 t855).bind fun t862 => ((spec_MostInfluential.f k2 t854 t855).bind fun t863 => (if t862 = t863 then ((impl_VarianceOf.f bt857.1 bt857.2).bind fun t864 => ((spec_VarianceOf.f k2 bt857.1 bt857.2).bind fun t865 => (some (t864 == t865)))) else (none)))) else (none))))) = some r := H
                      have A74 := Aside0.mk A740
                      clear A740
                      replace H := Option.bind_eq_some_iff.mp H
                      obtain ⟨⟨t857, t858⟩, A750, H⟩ := H
                      replace H : ((impl_InfluenceOf.f k2 t850 t851 t852).bind fun t860 => ((spec_InfluenceOf.f k2 t850 t851 t852).bind fun t861 => (if t860 = t861 then ((impl_MostInfluential.f k2 t854 t855).bind fun t862 => ((spec_MostInfluential.f k2 t854 t855).bind fun t863 => (if t862 = t863 then ((impl_VarianceOf.f t857 t858).bind fun t864 => ((spec_VarianceOf.f k2 t857 t858).bind fun t865 => (some (t864 == t865)))) else (none)))) else (none)))) = some r := H
                      have A75 := Aside0.mk A750
                      clear A750
                      replace H := Option.bind_eq_some_iff.mp H
                      obtain ⟨t860, A760, H⟩ := H
                      have A76 := Aside0.mk A760
                      clear A760
                      replace H := Option.bind_eq_some_iff.mp H
                      obtain ⟨t861, A770, H⟩ := H
                      have A77 := Aside0.mk A770
                      clear A770
                      by_cases c78 : t860 = t861
                      ·rw [if_pos c78] at H
                       have c78b0 : (t860 == t861) = true := beq_iff_eq.mpr c78
                       have c78b1 : (t860 != t861) = false := bne_eq_false_iff_eq.mpr c78
                       clear c78
                       replace H := Option.bind_eq_some_iff.mp H
                       obtain ⟨t862, A790, H⟩ := H
                       have A79 := Aside0.mk A790
                       clear A790
                       replace H := Option.bind_eq_some_iff.mp H
                       obtain ⟨t863, A800, H⟩ := H
                       have A80 := Aside0.mk A800
                       clear A800
                       by_cases c81 : t862 = t863
                       ·rw [if_pos c81] at H
                        have c81b0 : (t862 == t863) = true := beq_iff_eq.mpr c81
                        have c81b1 : (t862 != t863) = false := bne_eq_false_iff_eq.mpr c81
                        clear c81
                        replace H := Option.bind_eq_some_iff.mp H
                        obtain ⟨t864, A820, H⟩ := H
                        have A82 := Aside0.mk A820
                        clear A820
                        replace H := Option.bind_eq_some_iff.mp H
                        obtain ⟨t865, A830, H⟩ := H
                        have A83 := Aside0.mk A830
                        clear A830
                        obtain rfl := Option.some.inj H
                        try go_wp2
                        replace HO_5 := Aside0.mk (Kd.R_drew HO_5.out)
                        replace HO_6 := Aside0.mk (Kd.R_drew HO_6.out)
                        replace BK820 := Aside0.mk (blk_drew BK820.out)
                        replace HB := Aside0.mk (below_drew1 HB.out)
                        have p848 : 0 ≤ (1 : Int) := (by omega)
                        have q848 : 1 < (t825.length : Int) := of_decide_eq_true (by first | (with_reducible assumption) | assumption)
                        obtain ⟨ad848, e848, hx848_0⟩ := Kd.at_int (Kd.R_reads' HO_6.out).2.2 1 p848 q848
                        cases e848
                        (try simp only [show (1 : Int).toNat = 1 from rfl, Nat.reduceMul, Nat.reduceEqDiff, Go.Addr.add, ↓reduceIte] at hx848_0)
                        have qi848 : (1 < t825.length) = True := eq_true (by omega)
                        (try rw [show ((1 : Int)).toNat = 1 from rfl] at hx848_0)
                        replace p848 := eq_true p848
                        replace q848 := eq_true q848
                        refine start_ (n := 41) (S := fun w' => w'.cell? ⟨gb820, 0, none⟩ = some (.int .i64 t818) ∧ w'.cell? ⟨gb820, 1, none⟩ = some (.int .i64 t819) ∧ w'.cell? ⟨ad848.block, ad848.off + 1, none⟩ = some (.int .i64 (rd t825 1))) (ds := []) (bs 41 0) (by kernel_rfl) rfl (by kernel_rfl) ⟨(blk_cell BK820.out 0).trans rfl, (blk_cell BK820.out 1).trans rfl, hx848_0⟩ (fun hHeld => ?_); refine with_tabW laws_FnInfluences.tab23 laws_FnInfluences.bits23 (fun HT_ HW_ => ?_)
                        generalize wr.drew = w84 at HO_5 HO_6 BK820 HB hx848_0 hHeld ⊢
                        refine pu_ HT_ 0 100 (bs 41 1) ?_
                        refine pu_ HT_ 1 101 (bs 41 3) ?_
                        refine pu_ HT_ 2 102 (bs 41 7) ?_
                        refine pu_ HT_ 3 103 (bs 41 15) ?_
                        refine pu_ HT_ 4 104 (bs 41 31) ?_
                        refine pu_ HT_ 5 105 (bs 41 63) ?_
                        refine pu_ HT_ 6 106 (bs 41 127) ?_
                        refine ta3_ HT_ HW_ 7 107 (bs 41 255) hHeld ?_
                        refine pu_ HT_ 8 108 (bs 41 511) ?_
                        refine pu_ HT_ 9 109 (bs 41 1023) ?_
                        refine pu_ HT_ 10 110 (bs 41 2047) ?_
                        refine pu_ HT_ 11 111 (bs 41 4095) ?_
                        refine pu_ HT_ 12 112 (bs 41 8191) ?_
                        refine ta3_ HT_ HW_ 14 114 (bs 41 24575) hHeld ?_
                        refine on_ HT_ 13 113 (bs 41 32767) (fun K hK => ?_)
                        refine goes_ Try.func20 (by kernel_rfl) rfl #[.slice (some ad848) t825.length co37] (by rfl) rfl rfl mp_ ?_
                        with_reducible refine (laws_total.calls k2 _ _ t825 t846 _ ?side1 ?side2 A63.out).mono ?_
                        (case side1 => repeat (first | exact (Kd.R_reads' HO_6.out).2.2 | (with_reducible refine Kd.C_alloc ?_ _) | (with_reducible refine Kd.C_drewN ?_ _) | (with_reducible refine Kd.C_drew ?_)))
                        (case side2 => exact (Kd.R_reads' HO_6.out).2.1)
                        rintro e w' ⟨rfl, ⟨nd, rfl⟩⟩
                        refine ⟨_, rfl, ?_⟩
                        refine hK.out _ _ ⟨(blk_cell BK820.out 0).trans rfl, (blk_cell BK820.out 1).trans rfl, hHeld.2.2⟩ (fun hHeld => ?_)
                        clear hK K
                        refine no_ 113 ?_
                        refine on_ HT_ 15 115 (bs 41 65535) (fun K hK => ?_)
                        refine goes_ Try.func14 (by kernel_rfl) rfl #[.agg #[.int .i64 t818, .int .i64 t819]] (by rfl) rfl rfl mp_ ?_
                        with_reducible refine (impl_VarianceOf.calls t818 t819 t847 _ A64.out).mono ?_
                        rintro e w85 ⟨rfl, hb⟩
                        have HS2_ := (hb.cell (World.block_lt_of_cell? _ _ (hHeld.2.2))).trans (hHeld.2.2)
                        refine ⟨_, rfl, ?_⟩
                        replace HO_5 := Aside0.mk (Kd.R_below (rv_ HO_5) hb)
                        replace HO_6 := Aside0.mk (Kd.R_below (rv_ HO_6) hb)
                        replace BK820 := Aside0.mk (blk_below (g := gb820) (o := .cells #[.int .i64 t818, .int .i64 t819] 25 (0, 0)) (kv_ BK820) hb)
                        replace HB := Aside0.mk (below_step (bv1_ HB GE820) hb)
                        (try clear hb)
                        (try clear hb2)
                        (try clear hk)
                        (try clear hi)
                        refine hK.out _ _ ⟨(blk_cell BK820.out 0).trans rfl, (blk_cell BK820.out 1).trans rfl, HS2_⟩ (fun hHeld => ?_)
                        clear hK K
                        refine no_ 115 ?_
                        refine pu_ HT_ 16 116 (bs 41 131071) ?_
                        refine pu_ HT_ 17 117 (bs 41 262143) ?_
                        refine pu_ HT_ 18 118 (bs 41 524287) ?_
                        refine pu_ HT_ 19 119 (bs 41 1048575) ?_
                        refine ta3_ HT_ HW_ 20 120 (bs 41 2097151) hHeld ?_
                        refine pu_ HT_ 21 121 (bs 41 4194303) ?_
                        refine pu_ HT_ 22 122 (bs 41 8388607) ?_
                        refine pu_ HT_ 23 123 (bs 41 16777215) ?_
                        refine pu_ HT_ 24 124 (bs 41 33554431) ?_
                        refine pu_ HT_ 27 127 (bs 41 167772159) ?_
                        refine ta3_ HT_ HW_ 25 125 (bs 41 201326591) hHeld ?_
                        refine pu_ HT_ 26 126 (bs 41 268435455) ?_
                        refine pu_ HT_ 28 128 (bs 41 536870911) ?_
                        refine pu_ HT_ 29 129 (bs 41 1073741823) ?_
                        refine pu_ HT_ 30 130 (bs 41 2147483647) ?_
                        refine pu_ HT_ 31 131 (bs 41 4294967295) ?_
                        refine pu_ HT_ 35 135 (bs 41 38654705663) ?_
                        refine pu_ HT_ 36 136 (bs 41 107374182399) ?_
                        refine ta3_ HT_ HW_ 32 132 (bs 41 111669149695) hHeld ?_
                        refine ta3_ HT_ HW_ 37 137 (bs 41 249108103167) hHeld ?_
                        refine pu_ HT_ 38 138 (bs 41 523986010111) ?_
                        refine on_ HT_ 33 133 (bs 41 532575944703) (fun K hK => ?_)
                        refine goes_ Try.func14 (by kernel_rfl) rfl #[.agg #[.int .i64 t818, .int .i64 t819]] (by rfl) rfl rfl mp_ ?_
                        with_reducible refine (impl_VarianceOf.calls t818 t819 t849 _ A69.out).mono ?_
                        rintro e w86 ⟨rfl, hb⟩
                        have HS2_ := (hb.cell (World.block_lt_of_cell? _ _ (hHeld.2.2))).trans (hHeld.2.2)
                        refine ⟨_, rfl, ?_⟩
                        replace HO_5 := Aside0.mk (Kd.R_below (rv_ HO_5) hb)
                        replace HO_6 := Aside0.mk (Kd.R_below (rv_ HO_6) hb)
                        replace BK820 := Aside0.mk (blk_below (g := gb820) (o := .cells #[.int .i64 t818, .int .i64 t819] 25 (0, 0)) (kv_ BK820) hb)
                        replace HB := Aside0.mk (below_step (bv1_ HB GE820) hb)
                        (try clear hb)
                        (try clear hb2)
                        (try clear hk)
                        (try clear hi)
                        refine hK.out _ _ ⟨(blk_cell BK820.out 0).trans rfl, (blk_cell BK820.out 1).trans rfl, HS2_⟩ (fun hHeld => ?_)
                        clear hK K
                        refine no_ 133 ?_
                        refine pu_ HT_ 34 134 (bs 41 549755813887) ?_
                        refine pu_ HT_ 39 139 (bs 41 1099511627775) ?_
                        refine pu_ HT_ 40 140 (bs 41 2199023255551) ?_
                        refine done_ (done_of HT_.out (by kernel_rfl)) ?_
                        try go_wp2_with (first | ((with_reducible refine gate_callee (f := 21) rfl ?_); refine gl_ 143 Try.func21 #[.slice A0 l0.length c0] rfl mp_ ?_; (with_reducible refine (spec_DrawInfluenceOf.calls k2 _ _ l0 t850 t851 t852 _ ?side1 ?side2 A73.out).mono ?_); (case side1 => exact cv_ (Kd.C_below HR0.out HB.out)); (case side2 => exact HC0.out); rintro e w87 ⟨rfl, hb⟩; refine ⟨_, rfl, ?_⟩; have n0_ := Aside0.mk (Kd.R_below (rv_ HO_5) hb); have n1_ := Aside0.mk (Kd.R_below (rv_ HO_6) hb); have n2_ := Aside0.mk (blk_below (g := gb820) (o := .cells #[.int .i64 t818, .int .i64 t819] 25 (0, 0)) (kv_ BK820) hb); have n3_ := Aside0.mk (below_step (bv1_ HB GE820) hb); clear HO_5; clear HO_6; clear BK820; clear HB; have HO_5 := n0_; have HO_6 := n1_; have BK820 := n2_; have HB := n3_; clear n0_ n1_ n2_ n3_; (try clear hb); (try clear hb2); (try clear hk); (try clear hi)) | ((with_reducible refine gate_dst (N := 12) rfl ?_); refine bx_ 12 #[.int .i64 0, .int .i64 0] 25 ?_; intro gb853 hg w88 hbox hb; have n0_ := Aside0.mk (Kd.R_below (rv_ HO_5) hb); have n1_ := Aside0.mk (Kd.R_below (rv_ HO_6) hb); have n2_ := Aside0.mk (blk_below (g := gb820) (o := .cells #[.int .i64 t818, .int .i64 t819] 25 (0, 0)) (kv_ BK820) hb); have n3_ := Aside0.mk (below_step (bv1_ HB GE820) hb); have n4_ := Aside0.mk (hbox); have n5_ := gw_ hg (below_size (bv1_ HB GE820)); have n6_ := gw_ hg (below_size (bv1_ HB GE820)); have n7_ := nb_ hg (blk_lt (g := gb820) (o := .cells #[.int .i64 t818, .int .i64 t819] 25 (0, 0)) (kv_ BK820)); have n8_ := nc_ hg (blk_lt (g := gb820) (o := .cells #[.int .i64 t818, .int .i64 t819] 25 (0, 0)) (kv_ BK820)); clear HO_5; clear HO_6; clear BK820; clear HB; have HO_5 := n0_; have HO_6 := n1_; have BK820 := n2_; have HB := n3_; have BK853 := n4_; have GW853 := n5_; have GE853 := n6_; have NB820_853 := n7_; have NB853_820 := n8_; clear n0_ n1_ n2_ n3_ n4_ n5_ n6_ n7_ n8_; clear hb hbox hg; have hnb89 := NB853_820.out; have hnc89 := NB820_853.out; have hcz90_0 : w88.cell? ⟨gb853, 0, none⟩ = some (.int .i64 0) := (blk_cell BK853.out 0).trans rfl; have hcz90_1 : w88.cell? ⟨gb853, 1, none⟩ = some (.int .i64 0) := (blk_cell BK853.out 1).trans rfl; have hfz90_0 := blk_frozen BK853.out 0; have hfz90_1 := blk_frozen BK853.out 1) | ((with_reducible refine gate_callee (f := 22) rfl ?_); refine gl_ 147 Try.func22 #[.slice A0 l0.length c0] rfl mp_ ?_; (with_reducible refine (spec_DrawMostInfluential.calls k2 _ _ l0 t854 t855 _ ?side1 ?side2 A74.out).mono ?_); (case side1 => exact Kd.C_below HR0.out (bv2_ HB GE820 GE853)); (case side2 => exact HC0.out); rintro e w91 ⟨rfl, hb⟩; refine ⟨_, rfl, ?_⟩; have n0_ := Aside0.mk (Kd.R_below (by (with_reducible repeat (first | apply Kd.R_alloc | apply Kd.R_drewN | apply Kd.R_drew)); exact (Kd.R_mono (Kd.R_far (p := ⟨gb853, 1, none⟩) (Kd.R_far (p := ⟨gb853, 0, none⟩) (Kd.R_types HO_5.out BK853.out (by decide)) (fun _ hk => hk.2) (.int .i64 t850)) (fun _ hk => hk.2) (.int .i64 t851)) (fun _ h_ => h_.1))) hb); have n1_ := Aside0.mk (Kd.R_below (by (with_reducible repeat (first | apply Kd.R_alloc | apply Kd.R_drewN | apply Kd.R_drew)); exact (Kd.R_mono (Kd.R_far (p := ⟨gb853, 1, none⟩) (Kd.R_far (p := ⟨gb853, 0, none⟩) (Kd.R_types HO_6.out BK853.out (by decide)) (fun _ hk => hk.2) (.int .i64 t850)) (fun _ hk => hk.2) (.int .i64 t851)) (fun _ h_ => h_.1))) hb); have n2_ := Aside0.mk (blk_below (g := gb820) (o := .cells #[.int .i64 t818, .int .i64 t819] 25 (0, 0)) (by (with_reducible repeat (first | refine blk_drewN ?_ _ | refine blk_drew ?_ | refine blk_alloc ?_ _)); refine blk_far ?_ NB820_853.out _; (with_reducible repeat (first | refine blk_drewN ?_ _ | refine blk_drew ?_ | refine blk_alloc ?_ _)); refine blk_far ?_ NB820_853.out _; (with_reducible repeat (first | refine blk_drewN ?_ _ | refine blk_drew ?_ | refine blk_alloc ?_ _)); exact BK820.out) hb); have n3_ := Aside0.mk (blk_below (g := gb853) (o := .cells #[.int .i64 t850, .int .i64 t851] 25 (0, 0)) (by (with_reducible repeat (first | refine blk_drewN ?_ _ | refine blk_drew ?_ | refine blk_alloc ?_ _)); refine blk_put (cs := #[.int .i64 t850, .int .i64 0]) ?_ 1 _ rfl; (with_reducible repeat (first | refine blk_drewN ?_ _ | refine blk_drew ?_ | refine blk_alloc ?_ _)); refine blk_put (cs := #[.int .i64 0, .int .i64 0]) ?_ 0 _ rfl; (with_reducible repeat (first | refine blk_drewN ?_ _ | refine blk_drew ?_ | refine blk_alloc ?_ _)); exact BK853.out) hb); have n4_ := Aside0.mk (below_step (bv2_ HB GE820 GE853) hb); clear HO_5; clear HO_6; clear BK820; clear BK853; clear HB; have HO_5 := n0_; have HO_6 := n1_; have BK820 := n2_; have BK853 := n3_; have HB := n4_; clear n0_ n1_ n2_ n3_ n4_; (try clear hb); (try clear hb2); (try clear hk); (try clear hi)) | ((with_reducible refine gate_dst (N := 14) rfl ?_); refine bx_ 14 #[.int .i64 0, .int .i64 0] 25 ?_; intro gb856 hg w92 hbox hb; have n0_ := Aside0.mk (Kd.R_below (rv_ HO_5) hb); have n1_ := Aside0.mk (Kd.R_below (rv_ HO_6) hb); have n2_ := Aside0.mk (blk_below (g := gb820) (o := .cells #[.int .i64 t818, .int .i64 t819] 25 (0, 0)) (kv_ BK820) hb); have n3_ := Aside0.mk (blk_below (g := gb853) (o := .cells #[.int .i64 t850, .int .i64 t851] 25 (0, 0)) (kv_ BK853) hb); have n4_ := Aside0.mk (below_step (bv2_ HB GE820 GE853) hb); have n5_ := Aside0.mk (hbox); have n6_ := gw_ hg (below_size (bv2_ HB GE820 GE853)); have n7_ := gw_ hg (below_size (bv2_ HB GE820 GE853)); have n8_ := nb_ hg (blk_lt (g := gb820) (o := .cells #[.int .i64 t818, .int .i64 t819] 25 (0, 0)) (kv_ BK820)); have n9_ := nc_ hg (blk_lt (g := gb820) (o := .cells #[.int .i64 t818, .int .i64 t819] 25 (0, 0)) (kv_ BK820)); have n10_ := nb_ hg (blk_lt (g := gb853) (o := .cells #[.int .i64 t850, .int .i64 t851] 25 (0, 0)) (kv_ BK853)); have n11_ := nc_ hg (blk_lt (g := gb853) (o := .cells #[.int .i64 t850, .int .i64 t851] 25 (0, 0)) (kv_ BK853)); clear HO_5; clear HO_6; clear BK820; clear BK853; clear HB; have HO_5 := n0_; have HO_6 := n1_; have BK820 := n2_; have BK853 := n3_; have HB := n4_; have BK856 := n5_; have GW856 := n6_; have GE856 := n7_; have NB820_856 := n8_; have NB856_820 := n9_; have NB853_856 := n10_; have NB856_853 := n11_; clear n0_ n1_ n2_ n3_ n4_ n5_ n6_ n7_ n8_ n9_ n10_ n11_; clear hb hbox hg; have hnb93 := NB856_820.out; have hnc93 := NB820_856.out; have hnb94 := NB856_853.out; have hnc94 := NB853_856.out; have hcz95_0 : w92.cell? ⟨gb856, 0, none⟩ = some (.int .i64 0) := (blk_cell BK856.out 0).trans rfl; have hcz95_1 : w92.cell? ⟨gb856, 1, none⟩ = some (.int .i64 0) := (blk_cell BK856.out 1).trans rfl; have hfz95_0 := blk_frozen BK856.out 0; have hfz95_1 := blk_frozen BK856.out 1) | ((with_reducible refine gate_callee (f := 23) rfl ?_); refine gl_ 149 Try.func23 #[.slice A0 l0.length c0] rfl mp_ ?_; (with_reducible refine (spec_DrawVarianceOf.calls k2 _ _ l0 t857 t858 _ ?side1 ?side2 A75.out).mono ?_); (case side1 => exact Kd.C_below HR0.out (bv3_ HB GE820 GE853 GE856)); (case side2 => exact HC0.out); rintro e w96 ⟨rfl, hb⟩; refine ⟨_, rfl, ?_⟩; have n0_ := Aside0.mk (Kd.R_below (by (with_reducible repeat (first | apply Kd.R_alloc | apply Kd.R_drewN | apply Kd.R_drew)); exact (Kd.R_mono (Kd.R_far (p := ⟨gb856, 1, none⟩) (Kd.R_far (p := ⟨gb856, 0, none⟩) (Kd.R_types HO_5.out BK856.out (by decide)) (fun _ hk => hk.2) (.int .i64 t854)) (fun _ hk => hk.2) (.int .i64 t855)) (fun _ h_ => h_.1))) hb); have n1_ := Aside0.mk (Kd.R_below (by (with_reducible repeat (first | apply Kd.R_alloc | apply Kd.R_drewN | apply Kd.R_drew)); exact (Kd.R_mono (Kd.R_far (p := ⟨gb856, 1, none⟩) (Kd.R_far (p := ⟨gb856, 0, none⟩) (Kd.R_types HO_6.out BK856.out (by decide)) (fun _ hk => hk.2) (.int .i64 t854)) (fun _ hk => hk.2) (.int .i64 t855)) (fun _ h_ => h_.1))) hb); have n2_ := Aside0.mk (blk_below (g := gb820) (o := .cells #[.int .i64 t818, .int .i64 t819] 25 (0, 0)) (by (with_reducible repeat (first | refine blk_drewN ?_ _ | refine blk_drew ?_ | refine blk_alloc ?_ _)); refine blk_far ?_ NB820_856.out _; (with_reducible repeat (first | refine blk_drewN ?_ _ | refine blk_drew ?_ | refine blk_alloc ?_ _)); refine blk_far ?_ NB820_856.out _; (with_reducible repeat (first | refine blk_drewN ?_ _ | refine blk_drew ?_ | refine blk_alloc ?_ _)); exact BK820.out) hb); have n3_ := Aside0.mk (blk_below (g := gb853) (o := .cells #[.int .i64 t850, .int .i64 t851] 25 (0, 0)) (by (with_reducible repeat (first | refine blk_drewN ?_ _ | refine blk_drew ?_ | refine blk_alloc ?_ _)); refine blk_far ?_ NB853_856.out _; (with_reducible repeat (first | refine blk_drewN ?_ _ | refine blk_drew ?_ | refine blk_alloc ?_ _)); refine blk_far ?_ NB853_856.out _; (with_reducible repeat (first | refine blk_drewN ?_ _ | refine blk_drew ?_ | refine blk_alloc ?_ _)); exact BK853.out) hb); have n4_ := Aside0.mk (blk_below (g := gb856) (o := .cells #[.int .i64 t854, .int .i64 t855] 25 (0, 0)) (by (with_reducible repeat (first | refine blk_drewN ?_ _ | refine blk_drew ?_ | refine blk_alloc ?_ _)); refine blk_put (cs := #[.int .i64 t854, .int .i64 0]) ?_ 1 _ rfl; (with_reducible repeat (first | refine blk_drewN ?_ _ | refine blk_drew ?_ | refine blk_alloc ?_ _)); refine blk_put (cs := #[.int .i64 0, .int .i64 0]) ?_ 0 _ rfl; (with_reducible repeat (first | refine blk_drewN ?_ _ | refine blk_drew ?_ | refine blk_alloc ?_ _)); exact BK856.out) hb); have n5_ := Aside0.mk (below_step (bv3_ HB GE820 GE853 GE856) hb); clear HO_5; clear HO_6; clear BK820; clear BK853; clear BK856; clear HB; have HO_5 := n0_; have HO_6 := n1_; have BK820 := n2_; have BK853 := n3_; have BK856 := n4_; have HB := n5_; clear n0_ n1_ n2_ n3_ n4_ n5_; (try clear hb); (try clear hb2); (try clear hk); (try clear hi)) | ((with_reducible refine gate_dst (N := 15) rfl ?_); refine bx_ 15 #[.int .i64 0, .int .i64 0] 25 ?_; intro gb859 hg w97 hbox hb; have n0_ := Aside0.mk (Kd.R_below (rv_ HO_5) hb); have n1_ := Aside0.mk (Kd.R_below (rv_ HO_6) hb); have n2_ := Aside0.mk (blk_below (g := gb820) (o := .cells #[.int .i64 t818, .int .i64 t819] 25 (0, 0)) (kv_ BK820) hb); have n3_ := Aside0.mk (blk_below (g := gb853) (o := .cells #[.int .i64 t850, .int .i64 t851] 25 (0, 0)) (kv_ BK853) hb); have n4_ := Aside0.mk (blk_below (g := gb856) (o := .cells #[.int .i64 t854, .int .i64 t855] 25 (0, 0)) (kv_ BK856) hb); have n5_ := Aside0.mk (below_step (bv3_ HB GE820 GE853 GE856) hb); have n6_ := Aside0.mk (hbox); have n7_ := gw_ hg (below_size (bv3_ HB GE820 GE853 GE856)); have n8_ := gw_ hg (below_size (bv3_ HB GE820 GE853 GE856)); have n9_ := nb_ hg (blk_lt (g := gb820) (o := .cells #[.int .i64 t818, .int .i64 t819] 25 (0, 0)) (kv_ BK820)); have n10_ := nc_ hg (blk_lt (g := gb820) (o := .cells #[.int .i64 t818, .int .i64 t819] 25 (0, 0)) (kv_ BK820)); have n11_ := nb_ hg (blk_lt (g := gb853) (o := .cells #[.int .i64 t850, .int .i64 t851] 25 (0, 0)) (kv_ BK853)); have n12_ := nc_ hg (blk_lt (g := gb853) (o := .cells #[.int .i64 t850, .int .i64 t851] 25 (0, 0)) (kv_ BK853)); have n13_ := nb_ hg (blk_lt (g := gb856) (o := .cells #[.int .i64 t854, .int .i64 t855] 25 (0, 0)) (kv_ BK856)); have n14_ := nc_ hg (blk_lt (g := gb856) (o := .cells #[.int .i64 t854, .int .i64 t855] 25 (0, 0)) (kv_ BK856)); clear HO_5; clear HO_6; clear BK820; clear BK853; clear BK856; clear HB; have HO_5 := n0_; have HO_6 := n1_; have BK820 := n2_; have BK853 := n3_; have BK856 := n4_; have HB := n5_; have BK859 := n6_; have GW859 := n7_; have GE859 := n8_; have NB820_859 := n9_; have NB859_820 := n10_; have NB853_859 := n11_; have NB859_853 := n12_; have NB856_859 := n13_; have NB859_856 := n14_; clear n0_ n1_ n2_ n3_ n4_ n5_ n6_ n7_ n8_ n9_ n10_ n11_ n12_ n13_ n14_; clear hb hbox hg; have hnb98 := NB859_820.out; have hnc98 := NB820_859.out; have hnb99 := NB859_853.out; have hnc99 := NB853_859.out; have hnb100 := NB859_856.out; have hnc100 := NB856_859.out; have hcz101_0 : w97.cell? ⟨gb859, 0, none⟩ = some (.int .i64 0) := (blk_cell BK859.out 0).trans rfl; have hcz101_1 : w97.cell? ⟨gb859, 1, none⟩ = some (.int .i64 0) := (blk_cell BK859.out 1).trans rfl; have hfz101_0 := blk_frozen BK859.out 0; have hfz101_1 := blk_frozen BK859.out 1))
                        have n0_ : Aside0 (Kd.R (Kd.int .i64) 3 ((w97.setCell ⟨gb859, 0, none⟩ (.int .i64 t857)).setCell ⟨gb859, 1, none⟩ (.int .i64 t858)) w.heap.size (fun k_ => some k_ ≠ (.slice (some ad848) t825.length co37 : Value).ownBlock) (.slice Ao34 t822.length co34) t822) := ⟨by (with_reducible repeat (first | apply Kd.R_alloc | apply Kd.R_drewN | apply Kd.R_drew)); exact Kd.R_mono (Kd.R_far (p := ⟨gb859, 1, none⟩) (Kd.R_far (p := ⟨gb859, 0, none⟩) (Kd.R_types HO_5.out BK859.out (by decide)) (fun _ hk => hk.2) (.int .i64 t857)) (fun _ hk => hk.2) (.int .i64 t858)) (fun _ hk => hk.1)⟩
                        have n1_ : Aside0 (Kd.R (Kd.int .i64) 3 ((w97.setCell ⟨gb859, 0, none⟩ (.int .i64 t857)).setCell ⟨gb859, 1, none⟩ (.int .i64 t858)) w.heap.size (fun k_ => some k_ ≠ (.slice Ao34 t822.length co34 : Value).ownBlock) (.slice (some ad848) t825.length co37) t825) := ⟨by (with_reducible repeat (first | apply Kd.R_alloc | apply Kd.R_drewN | apply Kd.R_drew)); exact Kd.R_mono (Kd.R_far (p := ⟨gb859, 1, none⟩) (Kd.R_far (p := ⟨gb859, 0, none⟩) (Kd.R_types HO_6.out BK859.out (by decide)) (fun _ hk => hk.2) (.int .i64 t857)) (fun _ hk => hk.2) (.int .i64 t858)) (fun _ hk => hk.1)⟩
                        have n2_ : Aside0 (((w97.setCell ⟨gb859, 0, none⟩ (.int .i64 t857)).setCell ⟨gb859, 1, none⟩ (.int .i64 t858)).heap[gb820]? = some (.cells #[.int .i64 t818, .int .i64 t819] 25 (0, 0))) := ⟨by (with_reducible repeat (first | refine blk_drewN ?_ _ | refine blk_drew ?_ | refine blk_alloc ?_ _)); refine blk_far ?_ NB820_859.out _; (with_reducible repeat (first | refine blk_drewN ?_ _ | refine blk_drew ?_ | refine blk_alloc ?_ _)); refine blk_far ?_ NB820_859.out _; (with_reducible repeat (first | refine blk_drewN ?_ _ | refine blk_drew ?_ | refine blk_alloc ?_ _)); exact BK820.out⟩
                        have n3_ : Aside0 (((w97.setCell ⟨gb859, 0, none⟩ (.int .i64 t857)).setCell ⟨gb859, 1, none⟩ (.int .i64 t858)).heap[gb853]? = some (.cells #[.int .i64 t850, .int .i64 t851] 25 (0, 0))) := ⟨by (with_reducible repeat (first | refine blk_drewN ?_ _ | refine blk_drew ?_ | refine blk_alloc ?_ _)); refine blk_far ?_ NB853_859.out _; (with_reducible repeat (first | refine blk_drewN ?_ _ | refine blk_drew ?_ | refine blk_alloc ?_ _)); refine blk_far ?_ NB853_859.out _; (with_reducible repeat (first | refine blk_drewN ?_ _ | refine blk_drew ?_ | refine blk_alloc ?_ _)); exact BK853.out⟩
                        have n4_ : Aside0 (((w97.setCell ⟨gb859, 0, none⟩ (.int .i64 t857)).setCell ⟨gb859, 1, none⟩ (.int .i64 t858)).heap[gb856]? = some (.cells #[.int .i64 t854, .int .i64 t855] 25 (0, 0))) := ⟨by (with_reducible repeat (first | refine blk_drewN ?_ _ | refine blk_drew ?_ | refine blk_alloc ?_ _)); refine blk_far ?_ NB856_859.out _; (with_reducible repeat (first | refine blk_drewN ?_ _ | refine blk_drew ?_ | refine blk_alloc ?_ _)); refine blk_far ?_ NB856_859.out _; (with_reducible repeat (first | refine blk_drewN ?_ _ | refine blk_drew ?_ | refine blk_alloc ?_ _)); exact BK856.out⟩
                        have n5_ : Aside0 (((w97.setCell ⟨gb859, 0, none⟩ (.int .i64 t857)).setCell ⟨gb859, 1, none⟩ (.int .i64 t858)).heap[gb859]? = some (.cells #[.int .i64 t857, .int .i64 t858] 25 (0, 0))) := ⟨by (with_reducible repeat (first | refine blk_drewN ?_ _ | refine blk_drew ?_ | refine blk_alloc ?_ _)); refine blk_put (cs := #[.int .i64 t857, .int .i64 0]) ?_ 1 _ rfl; (with_reducible repeat (first | refine blk_drewN ?_ _ | refine blk_drew ?_ | refine blk_alloc ?_ _)); refine blk_put (cs := #[.int .i64 0, .int .i64 0]) ?_ 0 _ rfl; (with_reducible repeat (first | refine blk_drewN ?_ _ | refine blk_drew ?_ | refine blk_alloc ?_ _)); exact BK859.out⟩
                        have n6_ : Aside0 (Below w.heap.size w ((w97.setCell ⟨gb859, 0, none⟩ (.int .i64 t857)).setCell ⟨gb859, 1, none⟩ (.int .i64 t858))) := ⟨bv4_ HB GE820 GE853 GE856 GE859⟩
                        (try clear HO_5)
                        (try clear HO_6)
                        (try clear BK820)
                        (try clear BK853)
                        (try clear BK856)
                        (try clear BK859)
                        (try clear HB)
                        generalize ((w97.setCell ⟨gb859, 0, none⟩ (.int .i64 t857)).setCell ⟨gb859, 1, none⟩ (.int .i64 t858)) = w102 at n0_ n1_ n2_ n3_ n4_ n5_ n6_ ⊢
                        have HO_5 := n0_
                        have HO_6 := n1_
                        have BK820 := n2_
                        have BK853 := n3_
                        have BK856 := n4_
                        have BK859 := n5_
                        have HB := n6_
                        clear n0_ n1_ n2_ n3_ n4_ n5_ n6_
                        replace HO_5 := Aside0.mk (Kd.R_drew HO_5.out)
                        replace HO_6 := Aside0.mk (Kd.R_drew HO_6.out)
                        replace BK820 := Aside0.mk (blk_drew BK820.out)
                        replace BK853 := Aside0.mk (blk_drew BK853.out)
                        replace BK856 := Aside0.mk (blk_drew BK856.out)
                        replace BK859 := Aside0.mk (blk_drew BK859.out)
                        replace HB := Aside0.mk (below_drew1 HB.out)
                        refine start_ (n := 22) (S := fun w' => w'.cell? ⟨gb853, 0, none⟩ = some (.int .i64 t850) ∧ w'.cell? ⟨gb853, 1, none⟩ = some (.int .i64 t851) ∧ w'.cell? ⟨gb856, 0, none⟩ = some (.int .i64 t854) ∧ w'.cell? ⟨gb856, 1, none⟩ = some (.int .i64 t855) ∧ w'.cell? ⟨gb859, 0, none⟩ = some (.int .i64 t857) ∧ w'.cell? ⟨gb859, 1, none⟩ = some (.int .i64 t858)) (ds := []) (bs 22 0) (by kernel_rfl) rfl (by kernel_rfl) ⟨(blk_cell BK853.out 0).trans rfl, (blk_cell BK853.out 1).trans rfl, (blk_cell BK856.out 0).trans rfl, (blk_cell BK856.out 1).trans rfl, (blk_cell BK859.out 0).trans rfl, (blk_cell BK859.out 1).trans rfl⟩ (fun hHeld => ?_); refine with_tabW laws_FnInfluences.tab28 laws_FnInfluences.bits28 (fun HT_ HW_ => ?_)
                        generalize w102.drew = w103 at HO_5 HO_6 BK820 BK853 BK856 BK859 HB hHeld ⊢
                        refine pu_ HT_ 1 151 (bs 22 2) ?_
                        refine pu_ HT_ 4 154 (bs 22 18) ?_
                        refine ta6_ HT_ HW_ 0 150 (bs 22 19) hHeld ?_
                        refine ta6_ HT_ HW_ 3 153 (bs 22 27) hHeld ?_
                        refine on_ HT_ 2 152 (bs 22 31) (fun K hK => ?_)
                        refine goes_ Try.func18 (by kernel_rfl) rfl #[.agg #[.int .i64 t850, .int .i64 t851], .int .i64 t852] (by rfl) rfl rfl mp_ ?_
                        with_reducible refine (impl_InfluenceOf.calls k2 t850 t851 t852 t860 _ A76.out).mono ?_
                        rintro e w104 ⟨rfl, hb⟩
                        refine ⟨_, rfl, ?_⟩
                        replace HO_5 := Aside0.mk (Kd.R_below (rv_ HO_5) hb)
                        replace HO_6 := Aside0.mk (Kd.R_below (rv_ HO_6) hb)
                        replace BK820 := Aside0.mk (blk_below (g := gb820) (o := .cells #[.int .i64 t818, .int .i64 t819] 25 (0, 0)) (kv_ BK820) hb)
                        replace BK853 := Aside0.mk (blk_below (g := gb853) (o := .cells #[.int .i64 t850, .int .i64 t851] 25 (0, 0)) (kv_ BK853) hb)
                        replace BK856 := Aside0.mk (blk_below (g := gb856) (o := .cells #[.int .i64 t854, .int .i64 t855] 25 (0, 0)) (kv_ BK856) hb)
                        replace BK859 := Aside0.mk (blk_below (g := gb859) (o := .cells #[.int .i64 t857, .int .i64 t858] 25 (0, 0)) (kv_ BK859) hb)
                        replace HB := Aside0.mk (below_step (bv4_ HB GE820 GE853 GE856 GE859) hb)
                        (try clear hb)
                        (try clear hb2)
                        (try clear hk)
                        (try clear hi)
                        refine hK.out _ _ ⟨(blk_cell BK853.out 0).trans rfl, (blk_cell BK853.out 1).trans rfl, (blk_cell BK856.out 0).trans rfl, (blk_cell BK856.out 1).trans rfl, (blk_cell BK859.out 0).trans rfl, (blk_cell BK859.out 1).trans rfl⟩ (fun hHeld => ?_)
                        clear hK K
                        refine no_ 152 ?_
                        refine on_ HT_ 5 155 (bs 22 63) (fun K hK => ?_)
                        refine goes_ Try.func24 (by kernel_rfl) rfl #[.agg #[.int .i64 t850, .int .i64 t851], .int .i64 t852] (by rfl) rfl rfl mp_ ?_
                        with_reducible refine (spec_InfluenceOf.calls k2 t850 t851 t852 t861 _ A77.out).mono ?_
                        rintro e w105 ⟨rfl, hb⟩
                        refine ⟨_, rfl, ?_⟩
                        replace HO_5 := Aside0.mk (Kd.R_below (rv_ HO_5) hb)
                        replace HO_6 := Aside0.mk (Kd.R_below (rv_ HO_6) hb)
                        replace BK820 := Aside0.mk (blk_below (g := gb820) (o := .cells #[.int .i64 t818, .int .i64 t819] 25 (0, 0)) (kv_ BK820) hb)
                        replace BK853 := Aside0.mk (blk_below (g := gb853) (o := .cells #[.int .i64 t850, .int .i64 t851] 25 (0, 0)) (kv_ BK853) hb)
                        replace BK856 := Aside0.mk (blk_below (g := gb856) (o := .cells #[.int .i64 t854, .int .i64 t855] 25 (0, 0)) (kv_ BK856) hb)
                        replace BK859 := Aside0.mk (blk_below (g := gb859) (o := .cells #[.int .i64 t857, .int .i64 t858] 25 (0, 0)) (kv_ BK859) hb)
                        replace HB := Aside0.mk (below_step (bv4_ HB GE820 GE853 GE856 GE859) hb)
                        (try clear hb)
                        (try clear hb2)
                        (try clear hk)
                        (try clear hi)
                        refine hK.out _ _ ⟨(blk_cell BK853.out 0).trans rfl, (blk_cell BK853.out 1).trans rfl, (blk_cell BK856.out 0).trans rfl, (blk_cell BK856.out 1).trans rfl, (blk_cell BK859.out 0).trans rfl, (blk_cell BK859.out 1).trans rfl⟩ (fun hHeld => ?_)
                        clear hK K
                        refine no_ 155 ?_
                        refine pu_ HT_ 6 156 (bs 22 127) ?_
                        refine pu_ HT_ 7 157 (bs 22 255) ?_
                        refine ta6_ HT_ HW_ 8 158 (bs 22 511) hHeld ?_
                        refine ta6_ HT_ HW_ 10 160 (bs 22 1535) hHeld ?_
                        refine on_ HT_ 9 159 (bs 22 2047) (fun K hK => ?_)
                        refine goes_ Try.func16 (by kernel_rfl) rfl #[.agg #[.int .i64 t854, .int .i64 t855]] (by rfl) rfl rfl mp_ ?_
                        with_reducible refine (impl_MostInfluential.calls k2 t854 t855 t862 _ A79.out).mono ?_
                        rintro e w106 ⟨rfl, hb⟩
                        refine ⟨_, rfl, ?_⟩
                        replace HO_5 := Aside0.mk (Kd.R_below (rv_ HO_5) hb)
                        replace HO_6 := Aside0.mk (Kd.R_below (rv_ HO_6) hb)
                        replace BK820 := Aside0.mk (blk_below (g := gb820) (o := .cells #[.int .i64 t818, .int .i64 t819] 25 (0, 0)) (kv_ BK820) hb)
                        replace BK853 := Aside0.mk (blk_below (g := gb853) (o := .cells #[.int .i64 t850, .int .i64 t851] 25 (0, 0)) (kv_ BK853) hb)
                        replace BK856 := Aside0.mk (blk_below (g := gb856) (o := .cells #[.int .i64 t854, .int .i64 t855] 25 (0, 0)) (kv_ BK856) hb)
                        replace BK859 := Aside0.mk (blk_below (g := gb859) (o := .cells #[.int .i64 t857, .int .i64 t858] 25 (0, 0)) (kv_ BK859) hb)
                        replace HB := Aside0.mk (below_step (bv4_ HB GE820 GE853 GE856 GE859) hb)
                        (try clear hb)
                        (try clear hb2)
                        (try clear hk)
                        (try clear hi)
                        refine hK.out _ _ ⟨(blk_cell BK853.out 0).trans rfl, (blk_cell BK853.out 1).trans rfl, (blk_cell BK856.out 0).trans rfl, (blk_cell BK856.out 1).trans rfl, (blk_cell BK859.out 0).trans rfl, (blk_cell BK859.out 1).trans rfl⟩ (fun hHeld => ?_)
                        clear hK K
                        refine no_ 159 ?_
                        refine on_ HT_ 11 161 (bs 22 4095) (fun K hK => ?_)
                        refine goes_ Try.func17 (by kernel_rfl) rfl #[.agg #[.int .i64 t854, .int .i64 t855]] (by rfl) rfl rfl mp_ ?_
                        with_reducible refine (spec_MostInfluential.calls k2 t854 t855 t863 _ A80.out).mono ?_
                        rintro e w107 ⟨rfl, hb⟩
                        refine ⟨_, rfl, ?_⟩
                        replace HO_5 := Aside0.mk (Kd.R_below (rv_ HO_5) hb)
                        replace HO_6 := Aside0.mk (Kd.R_below (rv_ HO_6) hb)
                        replace BK820 := Aside0.mk (blk_below (g := gb820) (o := .cells #[.int .i64 t818, .int .i64 t819] 25 (0, 0)) (kv_ BK820) hb)
                        replace BK853 := Aside0.mk (blk_below (g := gb853) (o := .cells #[.int .i64 t850, .int .i64 t851] 25 (0, 0)) (kv_ BK853) hb)
                        replace BK856 := Aside0.mk (blk_below (g := gb856) (o := .cells #[.int .i64 t854, .int .i64 t855] 25 (0, 0)) (kv_ BK856) hb)
                        replace BK859 := Aside0.mk (blk_below (g := gb859) (o := .cells #[.int .i64 t857, .int .i64 t858] 25 (0, 0)) (kv_ BK859) hb)
                        replace HB := Aside0.mk (below_step (bv4_ HB GE820 GE853 GE856 GE859) hb)
                        (try clear hb)
                        (try clear hb2)
                        (try clear hk)
                        (try clear hi)
                        refine hK.out _ _ ⟨(blk_cell BK853.out 0).trans rfl, (blk_cell BK853.out 1).trans rfl, (blk_cell BK856.out 0).trans rfl, (blk_cell BK856.out 1).trans rfl, (blk_cell BK859.out 0).trans rfl, (blk_cell BK859.out 1).trans rfl⟩ (fun hHeld => ?_)
                        clear hK K
                        refine no_ 161 ?_
                        refine pu_ HT_ 12 162 (bs 22 8191) ?_
                        refine pu_ HT_ 13 163 (bs 22 16383) ?_
                        refine pu_ HT_ 14 164 (bs 22 32767) ?_
                        refine ta6_ HT_ HW_ 15 165 (bs 22 65535) hHeld ?_
                        refine ta6_ HT_ HW_ 17 167 (bs 22 196607) hHeld ?_
                        refine on_ HT_ 16 166 (bs 22 262143) (fun K hK => ?_)
                        refine goes_ Try.func14 (by kernel_rfl) rfl #[.agg #[.int .i64 t857, .int .i64 t858]] (by rfl) rfl rfl mp_ ?_
                        with_reducible refine (impl_VarianceOf.calls t857 t858 t864 _ A82.out).mono ?_
                        rintro e w108 ⟨rfl, hb⟩
                        refine ⟨_, rfl, ?_⟩
                        replace HO_5 := Aside0.mk (Kd.R_below (rv_ HO_5) hb)
                        replace HO_6 := Aside0.mk (Kd.R_below (rv_ HO_6) hb)
                        replace BK820 := Aside0.mk (blk_below (g := gb820) (o := .cells #[.int .i64 t818, .int .i64 t819] 25 (0, 0)) (kv_ BK820) hb)
                        replace BK853 := Aside0.mk (blk_below (g := gb853) (o := .cells #[.int .i64 t850, .int .i64 t851] 25 (0, 0)) (kv_ BK853) hb)
                        replace BK856 := Aside0.mk (blk_below (g := gb856) (o := .cells #[.int .i64 t854, .int .i64 t855] 25 (0, 0)) (kv_ BK856) hb)
                        replace BK859 := Aside0.mk (blk_below (g := gb859) (o := .cells #[.int .i64 t857, .int .i64 t858] 25 (0, 0)) (kv_ BK859) hb)
                        replace HB := Aside0.mk (below_step (bv4_ HB GE820 GE853 GE856 GE859) hb)
                        (try clear hb)
                        (try clear hb2)
                        (try clear hk)
                        (try clear hi)
                        refine hK.out _ _ ⟨(blk_cell BK853.out 0).trans rfl, (blk_cell BK853.out 1).trans rfl, (blk_cell BK856.out 0).trans rfl, (blk_cell BK856.out 1).trans rfl, (blk_cell BK859.out 0).trans rfl, (blk_cell BK859.out 1).trans rfl⟩ (fun hHeld => ?_)
                        clear hK K
                        refine no_ 166 ?_
                        refine on_ HT_ 18 168 (bs 22 524287) (fun K hK => ?_)
                        refine goes_ Try.func15 (by kernel_rfl) rfl #[.agg #[.int .i64 t857, .int .i64 t858]] (by rfl) rfl rfl mp_ ?_
                        with_reducible refine (spec_VarianceOf.calls k2 t857 t858 t865 _ A83.out).mono ?_
                        rintro e w109 ⟨rfl, hb⟩
                        refine ⟨_, rfl, ?_⟩
                        replace HO_5 := Aside0.mk (Kd.R_below (rv_ HO_5) hb)
                        replace HO_6 := Aside0.mk (Kd.R_below (rv_ HO_6) hb)
                        replace BK820 := Aside0.mk (blk_below (g := gb820) (o := .cells #[.int .i64 t818, .int .i64 t819] 25 (0, 0)) (kv_ BK820) hb)
                        replace BK853 := Aside0.mk (blk_below (g := gb853) (o := .cells #[.int .i64 t850, .int .i64 t851] 25 (0, 0)) (kv_ BK853) hb)
                        replace BK856 := Aside0.mk (blk_below (g := gb856) (o := .cells #[.int .i64 t854, .int .i64 t855] 25 (0, 0)) (kv_ BK856) hb)
                        replace BK859 := Aside0.mk (blk_below (g := gb859) (o := .cells #[.int .i64 t857, .int .i64 t858] 25 (0, 0)) (kv_ BK859) hb)
                        replace HB := Aside0.mk (below_step (bv4_ HB GE820 GE853 GE856 GE859) hb)
                        (try clear hb)
                        (try clear hb2)
                        (try clear hk)
                        (try clear hi)
                        refine hK.out _ _ ⟨(blk_cell BK853.out 0).trans rfl, (blk_cell BK853.out 1).trans rfl, (blk_cell BK856.out 0).trans rfl, (blk_cell BK856.out 1).trans rfl, (blk_cell BK859.out 0).trans rfl, (blk_cell BK859.out 1).trans rfl⟩ (fun hHeld => ?_)
                        clear hK K
                        refine no_ 168 ?_
                        refine pu_ HT_ 19 169 (bs 22 1048575) ?_
                        refine pu_ HT_ 20 170 (bs 22 2097151) ?_
                        refine pu_ HT_ 21 2 (bs 22 4194303) ?_
                        refine done_ (done_of HT_.out (by kernel_rfl)) ?_
                        try go_wp2
                        go_ret
                        exact ⟨by first | rfl | (simp [errW_none, errW_some] <;> rfl) | (simp only [← hji61]; first | rfl | (simp [errW_none, errW_some] <;> rfl)) | (simp [*, errW_none, errW_some] <;> rfl), bv4_ HB GE820 GE853 GE856 GE859⟩
                       ·rw [if_neg c81] at H
                        exact absurd H (by simp)
                      ·rw [if_neg c78] at H
                       exact absurd H (by simp)
                    ·rw [if_neg c68] at H
                     exact absurd H (by simp)
                   ·rw [if_neg c67] at H
                    exact absurd H (by simp)
                  ·rw [if_neg c66] at H
                   have c66b0 : decide (0 < t818) = false := decide_eq_false c66
                   clear c66
                   replace H := Option.bind_eq_some_iff.mp H
                   obtain ⟨t866, A1100, H⟩ := H
                   have A110 := Aside0.mk A1100
                   clear A1100
                   have c111b0 := eq_true (of_decide_eq_true (by first | (with_reducible assumption) | assumption) : 0 ≤ t818)
                   by_cases c113 : (wrap64 (4 * t866)) > (ji61)
                   ·rw [if_pos c113] at H
                    exact absurd H (by simp)
                   ·rw [if_neg c113] at H
                    have c113b0 : decide ((ji61) < (wrap64 (4 * t866))) = false := decide_eq_false c113
                    clear c113
                    replace H := Option.bind_eq_some_iff.mp H
                    obtain ⟨⟨t867, t868, t869⟩, A1140, H⟩ := H
                    replace H : ((spec_DrawMostInfluential.f k2 l0).bind fun bt871 => ((spec_DrawVarianceOf.f k2 l0).bind fun bt874 => ((impl_InfluenceOf.f k2 t867 t868 t869).bind fun t877 => ((spec_InfluenceOf.f k2 t867 t868 t869).bind fun t878 => (if t877 = t878 then ((impl_MostInfluential.f k2 bt871.1 bt871.2).bind fun t879 => ((spec_MostInfluential.f k2 bt871.1 bt871.2).bind fun t880 => (if t879 = t880 then ((impl_VarianceOf.f bt874.1 bt874.2).bind fun t881 => ((spec_VarianceOf.f k2 bt874.1 bt874.2).bind fun t882 => (some (t881 == t882)))) else (none)))) else (none)))))) = some r := H
                    have A114 := Aside0.mk A1140
                    clear A1140
                    replace H := Option.bind_eq_some_iff.mp H
                    obtain ⟨⟨t871, t872⟩, A1150, H⟩ := H
                    replace H : ((spec_DrawVarianceOf.f k2 l0).bind fun bt874 => ((impl_InfluenceOf.f k2 t867 t868 t869).bind fun t877 => ((spec_InfluenceOf.f k2 t867 t868 t869).bind fun t878 => (if t877 = t878 then ((impl_MostInfluential.f k2 t871 t872).bind fun t879 => ((spec_MostInfluential.f k2 t871 t872).bind fun t880 => (if t879 = t880 then ((impl_VarianceOf.f bt874.1 bt874.2).bind fun t881 => ((spec_VarianceOf.f k2 bt874.1 bt874.2).bind fun t882 => (some (t881 == t882)))) else (none)))) else (none))))) = some r := H
                    have A115 := Aside0.mk A1150
                    clear A1150
                    replace H := Option.bind_eq_some_iff.mp H
                    obtain ⟨⟨t874, t875⟩, A1160, H⟩ := H
                    replace H : ((impl_InfluenceOf.f k2 t867 t868 t869).bind fun t877 => ((spec_InfluenceOf.f k2 t867 t868 t869).bind fun t878 => (if t877 = t878 then ((impl_MostInfluential.f k2 t871 t872).bind fun t879 => ((spec_MostInfluential.f k2 t871 t872).bind fun t880 => (if t879 = t880 then ((impl_VarianceOf.f t874 t875).bind fun t881 => ((spec_VarianceOf.f k2 t874 t875).bind fun t882 => (some (t881 == t882)))) else (none)))) else (none)))) = some r := H
                    have A116 := Aside0.mk A1160
                    clear A1160
                    replace H := Option.bind_eq_some_iff.mp H
                    obtain ⟨t877, A1170, H⟩ := H
                    have A117 := Aside0.mk A1170
                    clear A1170
                    replace H := Option.bind_eq_some_iff.mp H
                    obtain ⟨t878, A1180, H⟩ := H
                    have A118 := Aside0.mk A1180
                    clear A1180
                    by_cases c119 : t877 = t878
                    ·rw [if_pos c119] at H
                     have c119b0 : (t877 == t878) = true := beq_iff_eq.mpr c119
                     have c119b1 : (t877 != t878) = false := bne_eq_false_iff_eq.mpr c119
                     clear c119
                     replace H := Option.bind_eq_some_iff.mp H
                     obtain ⟨t879, A1200, H⟩ := H
                     have A120 := Aside0.mk A1200
                     clear A1200
                     replace H := Option.bind_eq_some_iff.mp H
                     obtain ⟨t880, A1210, H⟩ := H
                     have A121 := Aside0.mk A1210
                     clear A1210
                     by_cases c122 : t879 = t880
                     ·rw [if_pos c122] at H
                      have c122b0 : (t879 == t880) = true := beq_iff_eq.mpr c122
                      have c122b1 : (t879 != t880) = false := bne_eq_false_iff_eq.mpr c122
                      clear c122
                      replace H := Option.bind_eq_some_iff.mp H
                      obtain ⟨t881, A1230, H⟩ := H
                      have A123 := Aside0.mk A1230
                      clear A1230
                      replace H := Option.bind_eq_some_iff.mp H
                      obtain ⟨t882, A1240, H⟩ := H
                      have A124 := Aside0.mk A1240
                      clear A1240
                      obtain rfl := Option.some.inj H
                      try go_wp2
                      replace HO_5 := Aside0.mk (Kd.R_drew HO_5.out)
                      replace HO_6 := Aside0.mk (Kd.R_drew HO_6.out)
                      replace BK820 := Aside0.mk (blk_drew BK820.out)
                      replace HB := Aside0.mk (below_drew1 HB.out)
                      refine start_ (n := 41) (S := fun w' => w'.cell? ⟨gb820, 0, none⟩ = some (.int .i64 t818) ∧ w'.cell? ⟨gb820, 1, none⟩ = some (.int .i64 t819)) (ds := []) (bs 41 0) (by kernel_rfl) rfl (by kernel_rfl) ⟨(blk_cell BK820.out 0).trans rfl, (blk_cell BK820.out 1).trans rfl⟩ (fun hHeld => ?_); refine with_tabW laws_FnInfluences.tab23 laws_FnInfluences.bits23 (fun HT_ HW_ => ?_)
                      generalize wr.drew = w125 at HO_5 HO_6 BK820 HB hHeld ⊢
                      refine pu_ HT_ 0 100 (bs 41 1) ?_
                      refine pu_ HT_ 1 101 (bs 41 3) ?_
                      refine pu_ HT_ 2 102 (bs 41 7) ?_
                      refine pu_ HT_ 3 103 (bs 41 15) ?_
                      refine pu_ HT_ 4 104 (bs 41 31) ?_
                      refine pu_ HT_ 5 105 (bs 41 63) ?_
                      refine pu_ HT_ 6 106 (bs 41 127) ?_
                      refine ta2_ HT_ HW_ 7 107 (bs 41 255) hHeld ?_
                      refine pu_ HT_ 8 108 (bs 41 511) ?_
                      refine pu_ HT_ 9 109 (bs 41 1023) ?_
                      refine pu_ HT_ 10 110 (bs 41 2047) ?_
                      refine pu_ HT_ 11 111 (bs 41 4095) ?_
                      refine pu_ HT_ 12 112 (bs 41 8191) ?_
                      refine ta2_ HT_ HW_ 14 114 (bs 41 24575) hHeld ?_
                      refine on_ HT_ 13 113 (bs 41 32767) (fun K hK => ?_)
                      refine goes_ Try.func20 (by kernel_rfl) rfl #[.slice Ao37 t825.length co37] (by rfl) rfl rfl mp_ ?_
                      with_reducible refine (laws_total.calls k2 _ _ t825 t846 _ ?side1 ?side2 A63.out).mono ?_
                      (case side1 => repeat (first | exact (Kd.R_reads' HO_6.out).2.2 | (with_reducible refine Kd.C_alloc ?_ _) | (with_reducible refine Kd.C_drewN ?_ _) | (with_reducible refine Kd.C_drew ?_)))
                      (case side2 => exact (Kd.R_reads' HO_6.out).2.1)
                      rintro e w' ⟨rfl, ⟨nd, rfl⟩⟩
                      refine ⟨_, rfl, ?_⟩
                      refine hK.out _ _ ⟨(blk_cell BK820.out 0).trans rfl, (blk_cell BK820.out 1).trans rfl⟩ (fun hHeld => ?_)
                      clear hK K
                      refine no_ 113 ?_
                      refine on_ HT_ 15 115 (bs 41 65535) (fun K hK => ?_)
                      refine goes_ Try.func14 (by kernel_rfl) rfl #[.agg #[.int .i64 t818, .int .i64 t819]] (by rfl) rfl rfl mp_ ?_
                      with_reducible refine (impl_VarianceOf.calls t818 t819 t847 _ A64.out).mono ?_
                      rintro e w126 ⟨rfl, hb⟩
                      refine ⟨_, rfl, ?_⟩
                      replace HO_5 := Aside0.mk (Kd.R_below (rv_ HO_5) hb)
                      replace HO_6 := Aside0.mk (Kd.R_below (rv_ HO_6) hb)
                      replace BK820 := Aside0.mk (blk_below (g := gb820) (o := .cells #[.int .i64 t818, .int .i64 t819] 25 (0, 0)) (kv_ BK820) hb)
                      replace HB := Aside0.mk (below_step (bv1_ HB GE820) hb)
                      (try clear hb)
                      (try clear hb2)
                      (try clear hk)
                      (try clear hi)
                      refine hK.out _ _ ⟨(blk_cell BK820.out 0).trans rfl, (blk_cell BK820.out 1).trans rfl⟩ (fun hHeld => ?_)
                      clear hK K
                      refine no_ 115 ?_
                      refine pu_ HT_ 16 116 (bs 41 131071) ?_
                      refine pu_ HT_ 17 117 (bs 41 262143) ?_
                      refine pu_ HT_ 18 118 (bs 41 524287) ?_
                      refine pu_ HT_ 19 119 (bs 41 1048575) ?_
                      refine ta2_ HT_ HW_ 20 120 (bs 41 2097151) hHeld ?_
                      refine pu_ HT_ 21 121 (bs 41 4194303) ?_
                      refine pu_ HT_ 22 122 (bs 41 8388607) ?_
                      refine pure_ (i := 23) (N := some 123) (v := undef) (a' := ?_) (bs 41 16777215) rfl rfl (any_of HT_.out (by kernel_rfl)) (fun _ _ _ h => h) (Or.inr ⟨by rfl, rfl⟩) ?_ ?_
                      rotate_left
                      ·simp only [Act.put, List.setIfInBounds_toArray, List.set_cons_zero, List.set_cons_succ, i64_w, i32_w]
                       rfl
                      refine pure_ (i := 24) (N := some 124) (v := undef) (a' := ?_) (bs 41 33554431) rfl rfl (any_of HT_.out (by kernel_rfl)) (fun _ _ _ h => h) (Or.inr ⟨by rfl, rfl⟩) ?_ ?_
                      rotate_left
                      ·simp only [Act.put, List.setIfInBounds_toArray, List.set_cons_zero, List.set_cons_succ, i64_w, i32_w]
                       rfl
                      refine pure_ (i := 25) (N := some 125) (v := undef) (a' := ?_) (bs 41 67108863) rfl rfl (any_of HT_.out (by kernel_rfl)) (fun _ _ _ h => h) (Or.inr ⟨by rfl, rfl⟩) ?_ ?_
                      rotate_left
                      ·simp only [Act.put, List.setIfInBounds_toArray, List.set_cons_zero, List.set_cons_succ, i64_w, i32_w]
                       rfl
                      refine pure_ (i := 26) (N := some 126) (v := undef) (a' := ?_) (bs 41 134217727) rfl rfl (any_of HT_.out (by kernel_rfl)) (fun _ _ _ h => h) (Or.inr ⟨by rfl, rfl⟩) ?_ ?_
                      rotate_left
                      ·simp only [Act.put, List.setIfInBounds_toArray, List.set_cons_zero, List.set_cons_succ, i64_w, i32_w]
                       rfl
                      refine pure_ (i := 27) (N := some 127) (v := undef) (a' := ?_) (bs 41 268435455) rfl rfl (any_of HT_.out (by kernel_rfl)) (fun _ _ _ h => h) (Or.inr ⟨by rfl, rfl⟩) ?_ ?_
                      rotate_left
                      ·simp only [Act.put, List.setIfInBounds_toArray, List.set_cons_zero, List.set_cons_succ, i64_w, i32_w]
                       rfl
                      refine pure_ (i := 28) (N := some 128) (v := undef) (a' := ?_) (bs 41 536870911) rfl rfl (any_of HT_.out (by kernel_rfl)) (fun _ _ _ h => h) (Or.inr ⟨by rfl, rfl⟩) ?_ ?_
                      rotate_left
                      ·simp only [Act.put, List.setIfInBounds_toArray, List.set_cons_zero, List.set_cons_succ, i64_w, i32_w]
                       rfl
                      refine pu_ HT_ 29 129 (bs 41 1073741823) ?_
                      refine pu_ HT_ 30 130 (bs 41 2147483647) ?_
                      refine pu_ HT_ 31 131 (bs 41 4294967295) ?_
                      refine pu_ HT_ 35 135 (bs 41 38654705663) ?_
                      refine pu_ HT_ 36 136 (bs 41 107374182399) ?_
                      refine ta2_ HT_ HW_ 32 132 (bs 41 111669149695) hHeld ?_
                      refine ta2_ HT_ HW_ 37 137 (bs 41 249108103167) hHeld ?_
                      refine pu_ HT_ 38 138 (bs 41 523986010111) ?_
                      refine on_ HT_ 33 133 (bs 41 532575944703) (fun K hK => ?_)
                      refine goes_ Try.func14 (by kernel_rfl) rfl #[.agg #[.int .i64 t818, .int .i64 t819]] (by rfl) rfl rfl mp_ ?_
                      with_reducible refine (impl_VarianceOf.calls t818 t819 t866 _ A110.out).mono ?_
                      rintro e w127 ⟨rfl, hb⟩
                      refine ⟨_, rfl, ?_⟩
                      replace HO_5 := Aside0.mk (Kd.R_below (rv_ HO_5) hb)
                      replace HO_6 := Aside0.mk (Kd.R_below (rv_ HO_6) hb)
                      replace BK820 := Aside0.mk (blk_below (g := gb820) (o := .cells #[.int .i64 t818, .int .i64 t819] 25 (0, 0)) (kv_ BK820) hb)
                      replace HB := Aside0.mk (below_step (bv1_ HB GE820) hb)
                      (try clear hb)
                      (try clear hb2)
                      (try clear hk)
                      (try clear hi)
                      refine hK.out _ _ ⟨(blk_cell BK820.out 0).trans rfl, (blk_cell BK820.out 1).trans rfl⟩ (fun hHeld => ?_)
                      clear hK K
                      refine no_ 133 ?_
                      refine pu_ HT_ 34 134 (bs 41 549755813887) ?_
                      refine pu_ HT_ 39 139 (bs 41 1099511627775) ?_
                      refine pu_ HT_ 40 140 (bs 41 2199023255551) ?_
                      refine done_ (done_of HT_.out (by kernel_rfl)) ?_
                      try go_wp2_with (first | ((with_reducible refine gate_callee (f := 21) rfl ?_); refine gl_ 143 Try.func21 #[.slice A0 l0.length c0] rfl mp_ ?_; (with_reducible refine (spec_DrawInfluenceOf.calls k2 _ _ l0 t867 t868 t869 _ ?side1 ?side2 A114.out).mono ?_); (case side1 => exact cv_ (Kd.C_below HR0.out HB.out)); (case side2 => exact HC0.out); rintro e w128 ⟨rfl, hb⟩; refine ⟨_, rfl, ?_⟩; have n0_ := Aside0.mk (Kd.R_below (rv_ HO_5) hb); have n1_ := Aside0.mk (Kd.R_below (rv_ HO_6) hb); have n2_ := Aside0.mk (blk_below (g := gb820) (o := .cells #[.int .i64 t818, .int .i64 t819] 25 (0, 0)) (kv_ BK820) hb); have n3_ := Aside0.mk (below_step (bv1_ HB GE820) hb); clear HO_5; clear HO_6; clear BK820; clear HB; have HO_5 := n0_; have HO_6 := n1_; have BK820 := n2_; have HB := n3_; clear n0_ n1_ n2_ n3_; (try clear hb); (try clear hb2); (try clear hk); (try clear hi)) | ((with_reducible refine gate_dst (N := 12) rfl ?_); refine bx_ 12 #[.int .i64 0, .int .i64 0] 25 ?_; intro gb870 hg w129 hbox hb; have n0_ := Aside0.mk (Kd.R_below (rv_ HO_5) hb); have n1_ := Aside0.mk (Kd.R_below (rv_ HO_6) hb); have n2_ := Aside0.mk (blk_below (g := gb820) (o := .cells #[.int .i64 t818, .int .i64 t819] 25 (0, 0)) (kv_ BK820) hb); have n3_ := Aside0.mk (below_step (bv1_ HB GE820) hb); have n4_ := Aside0.mk (hbox); have n5_ := gw_ hg (below_size (bv1_ HB GE820)); have n6_ := gw_ hg (below_size (bv1_ HB GE820)); have n7_ := nb_ hg (blk_lt (g := gb820) (o := .cells #[.int .i64 t818, .int .i64 t819] 25 (0, 0)) (kv_ BK820)); have n8_ := nc_ hg (blk_lt (g := gb820) (o := .cells #[.int .i64 t818, .int .i64 t819] 25 (0, 0)) (kv_ BK820)); clear HO_5; clear HO_6; clear BK820; clear HB; have HO_5 := n0_; have HO_6 := n1_; have BK820 := n2_; have HB := n3_; have BK870 := n4_; have GW870 := n5_; have GE870 := n6_; have NB820_870 := n7_; have NB870_820 := n8_; clear n0_ n1_ n2_ n3_ n4_ n5_ n6_ n7_ n8_; clear hb hbox hg; have hnb130 := NB870_820.out; have hnc130 := NB820_870.out; have hcz131_0 : w129.cell? ⟨gb870, 0, none⟩ = some (.int .i64 0) := (blk_cell BK870.out 0).trans rfl; have hcz131_1 : w129.cell? ⟨gb870, 1, none⟩ = some (.int .i64 0) := (blk_cell BK870.out 1).trans rfl; have hfz131_0 := blk_frozen BK870.out 0; have hfz131_1 := blk_frozen BK870.out 1) | ((with_reducible refine gate_callee (f := 22) rfl ?_); refine gl_ 147 Try.func22 #[.slice A0 l0.length c0] rfl mp_ ?_; (with_reducible refine (spec_DrawMostInfluential.calls k2 _ _ l0 t871 t872 _ ?side1 ?side2 A115.out).mono ?_); (case side1 => exact Kd.C_below HR0.out (bv2_ HB GE820 GE870)); (case side2 => exact HC0.out); rintro e w132 ⟨rfl, hb⟩; refine ⟨_, rfl, ?_⟩; have n0_ := Aside0.mk (Kd.R_below (by (with_reducible repeat (first | apply Kd.R_alloc | apply Kd.R_drewN | apply Kd.R_drew)); exact (Kd.R_mono (Kd.R_far (p := ⟨gb870, 1, none⟩) (Kd.R_far (p := ⟨gb870, 0, none⟩) (Kd.R_types HO_5.out BK870.out (by decide)) (fun _ hk => hk.2) (.int .i64 t867)) (fun _ hk => hk.2) (.int .i64 t868)) (fun _ h_ => h_.1))) hb); have n1_ := Aside0.mk (Kd.R_below (by (with_reducible repeat (first | apply Kd.R_alloc | apply Kd.R_drewN | apply Kd.R_drew)); exact (Kd.R_mono (Kd.R_far (p := ⟨gb870, 1, none⟩) (Kd.R_far (p := ⟨gb870, 0, none⟩) (Kd.R_types HO_6.out BK870.out (by decide)) (fun _ hk => hk.2) (.int .i64 t867)) (fun _ hk => hk.2) (.int .i64 t868)) (fun _ h_ => h_.1))) hb); have n2_ := Aside0.mk (blk_below (g := gb820) (o := .cells #[.int .i64 t818, .int .i64 t819] 25 (0, 0)) (by (with_reducible repeat (first | refine blk_drewN ?_ _ | refine blk_drew ?_ | refine blk_alloc ?_ _)); refine blk_far ?_ NB820_870.out _; (with_reducible repeat (first | refine blk_drewN ?_ _ | refine blk_drew ?_ | refine blk_alloc ?_ _)); refine blk_far ?_ NB820_870.out _; (with_reducible repeat (first | refine blk_drewN ?_ _ | refine blk_drew ?_ | refine blk_alloc ?_ _)); exact BK820.out) hb); have n3_ := Aside0.mk (blk_below (g := gb870) (o := .cells #[.int .i64 t867, .int .i64 t868] 25 (0, 0)) (by (with_reducible repeat (first | refine blk_drewN ?_ _ | refine blk_drew ?_ | refine blk_alloc ?_ _)); refine blk_put (cs := #[.int .i64 t867, .int .i64 0]) ?_ 1 _ rfl; (with_reducible repeat (first | refine blk_drewN ?_ _ | refine blk_drew ?_ | refine blk_alloc ?_ _)); refine blk_put (cs := #[.int .i64 0, .int .i64 0]) ?_ 0 _ rfl; (with_reducible repeat (first | refine blk_drewN ?_ _ | refine blk_drew ?_ | refine blk_alloc ?_ _)); exact BK870.out) hb); have n4_ := Aside0.mk (below_step (bv2_ HB GE820 GE870) hb); clear HO_5; clear HO_6; clear BK820; clear BK870; clear HB; have HO_5 := n0_; have HO_6 := n1_; have BK820 := n2_; have BK870 := n3_; have HB := n4_; clear n0_ n1_ n2_ n3_ n4_; (try clear hb); (try clear hb2); (try clear hk); (try clear hi)) | ((with_reducible refine gate_dst (N := 14) rfl ?_); refine bx_ 14 #[.int .i64 0, .int .i64 0] 25 ?_; intro gb873 hg w133 hbox hb; have n0_ := Aside0.mk (Kd.R_below (rv_ HO_5) hb); have n1_ := Aside0.mk (Kd.R_below (rv_ HO_6) hb); have n2_ := Aside0.mk (blk_below (g := gb820) (o := .cells #[.int .i64 t818, .int .i64 t819] 25 (0, 0)) (kv_ BK820) hb); have n3_ := Aside0.mk (blk_below (g := gb870) (o := .cells #[.int .i64 t867, .int .i64 t868] 25 (0, 0)) (kv_ BK870) hb); have n4_ := Aside0.mk (below_step (bv2_ HB GE820 GE870) hb); have n5_ := Aside0.mk (hbox); have n6_ := gw_ hg (below_size (bv2_ HB GE820 GE870)); have n7_ := gw_ hg (below_size (bv2_ HB GE820 GE870)); have n8_ := nb_ hg (blk_lt (g := gb820) (o := .cells #[.int .i64 t818, .int .i64 t819] 25 (0, 0)) (kv_ BK820)); have n9_ := nc_ hg (blk_lt (g := gb820) (o := .cells #[.int .i64 t818, .int .i64 t819] 25 (0, 0)) (kv_ BK820)); have n10_ := nb_ hg (blk_lt (g := gb870) (o := .cells #[.int .i64 t867, .int .i64 t868] 25 (0, 0)) (kv_ BK870)); have n11_ := nc_ hg (blk_lt (g := gb870) (o := .cells #[.int .i64 t867, .int .i64 t868] 25 (0, 0)) (kv_ BK870)); clear HO_5; clear HO_6; clear BK820; clear BK870; clear HB; have HO_5 := n0_; have HO_6 := n1_; have BK820 := n2_; have BK870 := n3_; have HB := n4_; have BK873 := n5_; have GW873 := n6_; have GE873 := n7_; have NB820_873 := n8_; have NB873_820 := n9_; have NB870_873 := n10_; have NB873_870 := n11_; clear n0_ n1_ n2_ n3_ n4_ n5_ n6_ n7_ n8_ n9_ n10_ n11_; clear hb hbox hg; have hnb134 := NB873_820.out; have hnc134 := NB820_873.out; have hnb135 := NB873_870.out; have hnc135 := NB870_873.out; have hcz136_0 : w133.cell? ⟨gb873, 0, none⟩ = some (.int .i64 0) := (blk_cell BK873.out 0).trans rfl; have hcz136_1 : w133.cell? ⟨gb873, 1, none⟩ = some (.int .i64 0) := (blk_cell BK873.out 1).trans rfl; have hfz136_0 := blk_frozen BK873.out 0; have hfz136_1 := blk_frozen BK873.out 1) | ((with_reducible refine gate_callee (f := 23) rfl ?_); refine gl_ 149 Try.func23 #[.slice A0 l0.length c0] rfl mp_ ?_; (with_reducible refine (spec_DrawVarianceOf.calls k2 _ _ l0 t874 t875 _ ?side1 ?side2 A116.out).mono ?_); (case side1 => exact Kd.C_below HR0.out (bv3_ HB GE820 GE870 GE873)); (case side2 => exact HC0.out); rintro e w137 ⟨rfl, hb⟩; refine ⟨_, rfl, ?_⟩; have n0_ := Aside0.mk (Kd.R_below (by (with_reducible repeat (first | apply Kd.R_alloc | apply Kd.R_drewN | apply Kd.R_drew)); exact (Kd.R_mono (Kd.R_far (p := ⟨gb873, 1, none⟩) (Kd.R_far (p := ⟨gb873, 0, none⟩) (Kd.R_types HO_5.out BK873.out (by decide)) (fun _ hk => hk.2) (.int .i64 t871)) (fun _ hk => hk.2) (.int .i64 t872)) (fun _ h_ => h_.1))) hb); have n1_ := Aside0.mk (Kd.R_below (by (with_reducible repeat (first | apply Kd.R_alloc | apply Kd.R_drewN | apply Kd.R_drew)); exact (Kd.R_mono (Kd.R_far (p := ⟨gb873, 1, none⟩) (Kd.R_far (p := ⟨gb873, 0, none⟩) (Kd.R_types HO_6.out BK873.out (by decide)) (fun _ hk => hk.2) (.int .i64 t871)) (fun _ hk => hk.2) (.int .i64 t872)) (fun _ h_ => h_.1))) hb); have n2_ := Aside0.mk (blk_below (g := gb820) (o := .cells #[.int .i64 t818, .int .i64 t819] 25 (0, 0)) (by (with_reducible repeat (first | refine blk_drewN ?_ _ | refine blk_drew ?_ | refine blk_alloc ?_ _)); refine blk_far ?_ NB820_873.out _; (with_reducible repeat (first | refine blk_drewN ?_ _ | refine blk_drew ?_ | refine blk_alloc ?_ _)); refine blk_far ?_ NB820_873.out _; (with_reducible repeat (first | refine blk_drewN ?_ _ | refine blk_drew ?_ | refine blk_alloc ?_ _)); exact BK820.out) hb); have n3_ := Aside0.mk (blk_below (g := gb870) (o := .cells #[.int .i64 t867, .int .i64 t868] 25 (0, 0)) (by (with_reducible repeat (first | refine blk_drewN ?_ _ | refine blk_drew ?_ | refine blk_alloc ?_ _)); refine blk_far ?_ NB870_873.out _; (with_reducible repeat (first | refine blk_drewN ?_ _ | refine blk_drew ?_ | refine blk_alloc ?_ _)); refine blk_far ?_ NB870_873.out _; (with_reducible repeat (first | refine blk_drewN ?_ _ | refine blk_drew ?_ | refine blk_alloc ?_ _)); exact BK870.out) hb); have n4_ := Aside0.mk (blk_below (g := gb873) (o := .cells #[.int .i64 t871, .int .i64 t872] 25 (0, 0)) (by (with_reducible repeat (first | refine blk_drewN ?_ _ | refine blk_drew ?_ | refine blk_alloc ?_ _)); refine blk_put (cs := #[.int .i64 t871, .int .i64 0]) ?_ 1 _ rfl; (with_reducible repeat (first | refine blk_drewN ?_ _ | refine blk_drew ?_ | refine blk_alloc ?_ _)); refine blk_put (cs := #[.int .i64 0, .int .i64 0]) ?_ 0 _ rfl; (with_reducible repeat (first | refine blk_drewN ?_ _ | refine blk_drew ?_ | refine blk_alloc ?_ _)); exact BK873.out) hb); have n5_ := Aside0.mk (below_step (bv3_ HB GE820 GE870 GE873) hb); clear HO_5; clear HO_6; clear BK820; clear BK870; clear BK873; clear HB; have HO_5 := n0_; have HO_6 := n1_; have BK820 := n2_; have BK870 := n3_; have BK873 := n4_; have HB := n5_; clear n0_ n1_ n2_ n3_ n4_ n5_; (try clear hb); (try clear hb2); (try clear hk); (try clear hi)) | ((with_reducible refine gate_dst (N := 15) rfl ?_); refine bx_ 15 #[.int .i64 0, .int .i64 0] 25 ?_; intro gb876 hg w138 hbox hb; have n0_ := Aside0.mk (Kd.R_below (rv_ HO_5) hb); have n1_ := Aside0.mk (Kd.R_below (rv_ HO_6) hb); have n2_ := Aside0.mk (blk_below (g := gb820) (o := .cells #[.int .i64 t818, .int .i64 t819] 25 (0, 0)) (kv_ BK820) hb); have n3_ := Aside0.mk (blk_below (g := gb870) (o := .cells #[.int .i64 t867, .int .i64 t868] 25 (0, 0)) (kv_ BK870) hb); have n4_ := Aside0.mk (blk_below (g := gb873) (o := .cells #[.int .i64 t871, .int .i64 t872] 25 (0, 0)) (kv_ BK873) hb); have n5_ := Aside0.mk (below_step (bv3_ HB GE820 GE870 GE873) hb); have n6_ := Aside0.mk (hbox); have n7_ := gw_ hg (below_size (bv3_ HB GE820 GE870 GE873)); have n8_ := gw_ hg (below_size (bv3_ HB GE820 GE870 GE873)); have n9_ := nb_ hg (blk_lt (g := gb820) (o := .cells #[.int .i64 t818, .int .i64 t819] 25 (0, 0)) (kv_ BK820)); have n10_ := nc_ hg (blk_lt (g := gb820) (o := .cells #[.int .i64 t818, .int .i64 t819] 25 (0, 0)) (kv_ BK820)); have n11_ := nb_ hg (blk_lt (g := gb870) (o := .cells #[.int .i64 t867, .int .i64 t868] 25 (0, 0)) (kv_ BK870)); have n12_ := nc_ hg (blk_lt (g := gb870) (o := .cells #[.int .i64 t867, .int .i64 t868] 25 (0, 0)) (kv_ BK870)); have n13_ := nb_ hg (blk_lt (g := gb873) (o := .cells #[.int .i64 t871, .int .i64 t872] 25 (0, 0)) (kv_ BK873)); have n14_ := nc_ hg (blk_lt (g := gb873) (o := .cells #[.int .i64 t871, .int .i64 t872] 25 (0, 0)) (kv_ BK873)); clear HO_5; clear HO_6; clear BK820; clear BK870; clear BK873; clear HB; have HO_5 := n0_; have HO_6 := n1_; have BK820 := n2_; have BK870 := n3_; have BK873 := n4_; have HB := n5_; have BK876 := n6_; have GW876 := n7_; have GE876 := n8_; have NB820_876 := n9_; have NB876_820 := n10_; have NB870_876 := n11_; have NB876_870 := n12_; have NB873_876 := n13_; have NB876_873 := n14_; clear n0_ n1_ n2_ n3_ n4_ n5_ n6_ n7_ n8_ n9_ n10_ n11_ n12_ n13_ n14_; clear hb hbox hg; have hnb139 := NB876_820.out; have hnc139 := NB820_876.out; have hnb140 := NB876_870.out; have hnc140 := NB870_876.out; have hnb141 := NB876_873.out; have hnc141 := NB873_876.out; have hcz142_0 : w138.cell? ⟨gb876, 0, none⟩ = some (.int .i64 0) := (blk_cell BK876.out 0).trans rfl; have hcz142_1 : w138.cell? ⟨gb876, 1, none⟩ = some (.int .i64 0) := (blk_cell BK876.out 1).trans rfl; have hfz142_0 := blk_frozen BK876.out 0; have hfz142_1 := blk_frozen BK876.out 1))
                      have n0_ : Aside0 (Kd.R (Kd.int .i64) 3 ((w138.setCell ⟨gb876, 0, none⟩ (.int .i64 t874)).setCell ⟨gb876, 1, none⟩ (.int .i64 t875)) w.heap.size (fun k_ => some k_ ≠ (.slice Ao37 t825.length co37 : Value).ownBlock) (.slice Ao34 t822.length co34) t822) := ⟨by (with_reducible repeat (first | apply Kd.R_alloc | apply Kd.R_drewN | apply Kd.R_drew)); exact Kd.R_mono (Kd.R_far (p := ⟨gb876, 1, none⟩) (Kd.R_far (p := ⟨gb876, 0, none⟩) (Kd.R_types HO_5.out BK876.out (by decide)) (fun _ hk => hk.2) (.int .i64 t874)) (fun _ hk => hk.2) (.int .i64 t875)) (fun _ hk => hk.1)⟩
                      have n1_ : Aside0 (Kd.R (Kd.int .i64) 3 ((w138.setCell ⟨gb876, 0, none⟩ (.int .i64 t874)).setCell ⟨gb876, 1, none⟩ (.int .i64 t875)) w.heap.size (fun k_ => some k_ ≠ (.slice Ao34 t822.length co34 : Value).ownBlock) (.slice Ao37 t825.length co37) t825) := ⟨by (with_reducible repeat (first | apply Kd.R_alloc | apply Kd.R_drewN | apply Kd.R_drew)); exact Kd.R_mono (Kd.R_far (p := ⟨gb876, 1, none⟩) (Kd.R_far (p := ⟨gb876, 0, none⟩) (Kd.R_types HO_6.out BK876.out (by decide)) (fun _ hk => hk.2) (.int .i64 t874)) (fun _ hk => hk.2) (.int .i64 t875)) (fun _ hk => hk.1)⟩
                      have n2_ : Aside0 (((w138.setCell ⟨gb876, 0, none⟩ (.int .i64 t874)).setCell ⟨gb876, 1, none⟩ (.int .i64 t875)).heap[gb820]? = some (.cells #[.int .i64 t818, .int .i64 t819] 25 (0, 0))) := ⟨by (with_reducible repeat (first | refine blk_drewN ?_ _ | refine blk_drew ?_ | refine blk_alloc ?_ _)); refine blk_far ?_ NB820_876.out _; (with_reducible repeat (first | refine blk_drewN ?_ _ | refine blk_drew ?_ | refine blk_alloc ?_ _)); refine blk_far ?_ NB820_876.out _; (with_reducible repeat (first | refine blk_drewN ?_ _ | refine blk_drew ?_ | refine blk_alloc ?_ _)); exact BK820.out⟩
                      have n3_ : Aside0 (((w138.setCell ⟨gb876, 0, none⟩ (.int .i64 t874)).setCell ⟨gb876, 1, none⟩ (.int .i64 t875)).heap[gb870]? = some (.cells #[.int .i64 t867, .int .i64 t868] 25 (0, 0))) := ⟨by (with_reducible repeat (first | refine blk_drewN ?_ _ | refine blk_drew ?_ | refine blk_alloc ?_ _)); refine blk_far ?_ NB870_876.out _; (with_reducible repeat (first | refine blk_drewN ?_ _ | refine blk_drew ?_ | refine blk_alloc ?_ _)); refine blk_far ?_ NB870_876.out _; (with_reducible repeat (first | refine blk_drewN ?_ _ | refine blk_drew ?_ | refine blk_alloc ?_ _)); exact BK870.out⟩
                      have n4_ : Aside0 (((w138.setCell ⟨gb876, 0, none⟩ (.int .i64 t874)).setCell ⟨gb876, 1, none⟩ (.int .i64 t875)).heap[gb873]? = some (.cells #[.int .i64 t871, .int .i64 t872] 25 (0, 0))) := ⟨by (with_reducible repeat (first | refine blk_drewN ?_ _ | refine blk_drew ?_ | refine blk_alloc ?_ _)); refine blk_far ?_ NB873_876.out _; (with_reducible repeat (first | refine blk_drewN ?_ _ | refine blk_drew ?_ | refine blk_alloc ?_ _)); refine blk_far ?_ NB873_876.out _; (with_reducible repeat (first | refine blk_drewN ?_ _ | refine blk_drew ?_ | refine blk_alloc ?_ _)); exact BK873.out⟩
                      have n5_ : Aside0 (((w138.setCell ⟨gb876, 0, none⟩ (.int .i64 t874)).setCell ⟨gb876, 1, none⟩ (.int .i64 t875)).heap[gb876]? = some (.cells #[.int .i64 t874, .int .i64 t875] 25 (0, 0))) := ⟨by (with_reducible repeat (first | refine blk_drewN ?_ _ | refine blk_drew ?_ | refine blk_alloc ?_ _)); refine blk_put (cs := #[.int .i64 t874, .int .i64 0]) ?_ 1 _ rfl; (with_reducible repeat (first | refine blk_drewN ?_ _ | refine blk_drew ?_ | refine blk_alloc ?_ _)); refine blk_put (cs := #[.int .i64 0, .int .i64 0]) ?_ 0 _ rfl; (with_reducible repeat (first | refine blk_drewN ?_ _ | refine blk_drew ?_ | refine blk_alloc ?_ _)); exact BK876.out⟩
                      have n6_ : Aside0 (Below w.heap.size w ((w138.setCell ⟨gb876, 0, none⟩ (.int .i64 t874)).setCell ⟨gb876, 1, none⟩ (.int .i64 t875))) := ⟨bv4_ HB GE820 GE870 GE873 GE876⟩
                      (try clear HO_5)
                      (try clear HO_6)
                      (try clear BK820)
                      (try clear BK870)
                      (try clear BK873)
                      (try clear BK876)
                      (try clear HB)
                      generalize ((w138.setCell ⟨gb876, 0, none⟩ (.int .i64 t874)).setCell ⟨gb876, 1, none⟩ (.int .i64 t875)) = w143 at n0_ n1_ n2_ n3_ n4_ n5_ n6_ ⊢
                      have HO_5 := n0_
                      have HO_6 := n1_
                      have BK820 := n2_
                      have BK870 := n3_
                      have BK873 := n4_
                      have BK876 := n5_
                      have HB := n6_
                      clear n0_ n1_ n2_ n3_ n4_ n5_ n6_
                      replace HO_5 := Aside0.mk (Kd.R_drew HO_5.out)
                      replace HO_6 := Aside0.mk (Kd.R_drew HO_6.out)
                      replace BK820 := Aside0.mk (blk_drew BK820.out)
                      replace BK870 := Aside0.mk (blk_drew BK870.out)
                      replace BK873 := Aside0.mk (blk_drew BK873.out)
                      replace BK876 := Aside0.mk (blk_drew BK876.out)
                      replace HB := Aside0.mk (below_drew1 HB.out)
                      refine start_ (n := 22) (S := fun w' => w'.cell? ⟨gb870, 0, none⟩ = some (.int .i64 t867) ∧ w'.cell? ⟨gb870, 1, none⟩ = some (.int .i64 t868) ∧ w'.cell? ⟨gb873, 0, none⟩ = some (.int .i64 t871) ∧ w'.cell? ⟨gb873, 1, none⟩ = some (.int .i64 t872) ∧ w'.cell? ⟨gb876, 0, none⟩ = some (.int .i64 t874) ∧ w'.cell? ⟨gb876, 1, none⟩ = some (.int .i64 t875)) (ds := []) (bs 22 0) (by kernel_rfl) rfl (by kernel_rfl) ⟨(blk_cell BK870.out 0).trans rfl, (blk_cell BK870.out 1).trans rfl, (blk_cell BK873.out 0).trans rfl, (blk_cell BK873.out 1).trans rfl, (blk_cell BK876.out 0).trans rfl, (blk_cell BK876.out 1).trans rfl⟩ (fun hHeld => ?_); refine with_tabW laws_FnInfluences.tab28 laws_FnInfluences.bits28 (fun HT_ HW_ => ?_)
                      generalize w143.drew = w144 at HO_5 HO_6 BK820 BK870 BK873 BK876 HB hHeld ⊢
                      refine pu_ HT_ 1 151 (bs 22 2) ?_
                      refine pu_ HT_ 4 154 (bs 22 18) ?_
                      refine ta6_ HT_ HW_ 0 150 (bs 22 19) hHeld ?_
                      refine ta6_ HT_ HW_ 3 153 (bs 22 27) hHeld ?_
                      refine on_ HT_ 2 152 (bs 22 31) (fun K hK => ?_)
                      refine goes_ Try.func18 (by kernel_rfl) rfl #[.agg #[.int .i64 t867, .int .i64 t868], .int .i64 t869] (by rfl) rfl rfl mp_ ?_
                      with_reducible refine (impl_InfluenceOf.calls k2 t867 t868 t869 t877 _ A117.out).mono ?_
                      rintro e w145 ⟨rfl, hb⟩
                      refine ⟨_, rfl, ?_⟩
                      replace HO_5 := Aside0.mk (Kd.R_below (rv_ HO_5) hb)
                      replace HO_6 := Aside0.mk (Kd.R_below (rv_ HO_6) hb)
                      replace BK820 := Aside0.mk (blk_below (g := gb820) (o := .cells #[.int .i64 t818, .int .i64 t819] 25 (0, 0)) (kv_ BK820) hb)
                      replace BK870 := Aside0.mk (blk_below (g := gb870) (o := .cells #[.int .i64 t867, .int .i64 t868] 25 (0, 0)) (kv_ BK870) hb)
                      replace BK873 := Aside0.mk (blk_below (g := gb873) (o := .cells #[.int .i64 t871, .int .i64 t872] 25 (0, 0)) (kv_ BK873) hb)
                      replace BK876 := Aside0.mk (blk_below (g := gb876) (o := .cells #[.int .i64 t874, .int .i64 t875] 25 (0, 0)) (kv_ BK876) hb)
                      replace HB := Aside0.mk (below_step (bv4_ HB GE820 GE870 GE873 GE876) hb)
                      (try clear hb)
                      (try clear hb2)
                      (try clear hk)
                      (try clear hi)
                      refine hK.out _ _ ⟨(blk_cell BK870.out 0).trans rfl, (blk_cell BK870.out 1).trans rfl, (blk_cell BK873.out 0).trans rfl, (blk_cell BK873.out 1).trans rfl, (blk_cell BK876.out 0).trans rfl, (blk_cell BK876.out 1).trans rfl⟩ (fun hHeld => ?_)
                      clear hK K
                      refine no_ 152 ?_
                      refine on_ HT_ 5 155 (bs 22 63) (fun K hK => ?_)
                      refine goes_ Try.func24 (by kernel_rfl) rfl #[.agg #[.int .i64 t867, .int .i64 t868], .int .i64 t869] (by rfl) rfl rfl mp_ ?_
                      with_reducible refine (spec_InfluenceOf.calls k2 t867 t868 t869 t878 _ A118.out).mono ?_
                      rintro e w146 ⟨rfl, hb⟩
                      refine ⟨_, rfl, ?_⟩
                      replace HO_5 := Aside0.mk (Kd.R_below (rv_ HO_5) hb)
                      replace HO_6 := Aside0.mk (Kd.R_below (rv_ HO_6) hb)
                      replace BK820 := Aside0.mk (blk_below (g := gb820) (o := .cells #[.int .i64 t818, .int .i64 t819] 25 (0, 0)) (kv_ BK820) hb)
                      replace BK870 := Aside0.mk (blk_below (g := gb870) (o := .cells #[.int .i64 t867, .int .i64 t868] 25 (0, 0)) (kv_ BK870) hb)
                      replace BK873 := Aside0.mk (blk_below (g := gb873) (o := .cells #[.int .i64 t871, .int .i64 t872] 25 (0, 0)) (kv_ BK873) hb)
                      replace BK876 := Aside0.mk (blk_below (g := gb876) (o := .cells #[.int .i64 t874, .int .i64 t875] 25 (0, 0)) (kv_ BK876) hb)
                      replace HB := Aside0.mk (below_step (bv4_ HB GE820 GE870 GE873 GE876) hb)
                      (try clear hb)
                      (try clear hb2)
                      (try clear hk)
                      (try clear hi)
                      refine hK.out _ _ ⟨(blk_cell BK870.out 0).trans rfl, (blk_cell BK870.out 1).trans rfl, (blk_cell BK873.out 0).trans rfl, (blk_cell BK873.out 1).trans rfl, (blk_cell BK876.out 0).trans rfl, (blk_cell BK876.out 1).trans rfl⟩ (fun hHeld => ?_)
                      clear hK K
                      refine no_ 155 ?_
                      refine pu_ HT_ 6 156 (bs 22 127) ?_
                      refine pu_ HT_ 7 157 (bs 22 255) ?_
                      refine ta6_ HT_ HW_ 8 158 (bs 22 511) hHeld ?_
                      refine ta6_ HT_ HW_ 10 160 (bs 22 1535) hHeld ?_
                      refine on_ HT_ 9 159 (bs 22 2047) (fun K hK => ?_)
                      refine goes_ Try.func16 (by kernel_rfl) rfl #[.agg #[.int .i64 t871, .int .i64 t872]] (by rfl) rfl rfl mp_ ?_
                      with_reducible refine (impl_MostInfluential.calls k2 t871 t872 t879 _ A120.out).mono ?_
                      rintro e w147 ⟨rfl, hb⟩
                      refine ⟨_, rfl, ?_⟩
                      replace HO_5 := Aside0.mk (Kd.R_below (rv_ HO_5) hb)
                      replace HO_6 := Aside0.mk (Kd.R_below (rv_ HO_6) hb)
                      replace BK820 := Aside0.mk (blk_below (g := gb820) (o := .cells #[.int .i64 t818, .int .i64 t819] 25 (0, 0)) (kv_ BK820) hb)
                      replace BK870 := Aside0.mk (blk_below (g := gb870) (o := .cells #[.int .i64 t867, .int .i64 t868] 25 (0, 0)) (kv_ BK870) hb)
                      replace BK873 := Aside0.mk (blk_below (g := gb873) (o := .cells #[.int .i64 t871, .int .i64 t872] 25 (0, 0)) (kv_ BK873) hb)
                      replace BK876 := Aside0.mk (blk_below (g := gb876) (o := .cells #[.int .i64 t874, .int .i64 t875] 25 (0, 0)) (kv_ BK876) hb)
                      replace HB := Aside0.mk (below_step (bv4_ HB GE820 GE870 GE873 GE876) hb)
                      (try clear hb)
                      (try clear hb2)
                      (try clear hk)
                      (try clear hi)
                      refine hK.out _ _ ⟨(blk_cell BK870.out 0).trans rfl, (blk_cell BK870.out 1).trans rfl, (blk_cell BK873.out 0).trans rfl, (blk_cell BK873.out 1).trans rfl, (blk_cell BK876.out 0).trans rfl, (blk_cell BK876.out 1).trans rfl⟩ (fun hHeld => ?_)
                      clear hK K
                      refine no_ 159 ?_
                      refine on_ HT_ 11 161 (bs 22 4095) (fun K hK => ?_)
                      refine goes_ Try.func17 (by kernel_rfl) rfl #[.agg #[.int .i64 t871, .int .i64 t872]] (by rfl) rfl rfl mp_ ?_
                      with_reducible refine (spec_MostInfluential.calls k2 t871 t872 t880 _ A121.out).mono ?_
                      rintro e w148 ⟨rfl, hb⟩
                      refine ⟨_, rfl, ?_⟩
                      replace HO_5 := Aside0.mk (Kd.R_below (rv_ HO_5) hb)
                      replace HO_6 := Aside0.mk (Kd.R_below (rv_ HO_6) hb)
                      replace BK820 := Aside0.mk (blk_below (g := gb820) (o := .cells #[.int .i64 t818, .int .i64 t819] 25 (0, 0)) (kv_ BK820) hb)
                      replace BK870 := Aside0.mk (blk_below (g := gb870) (o := .cells #[.int .i64 t867, .int .i64 t868] 25 (0, 0)) (kv_ BK870) hb)
                      replace BK873 := Aside0.mk (blk_below (g := gb873) (o := .cells #[.int .i64 t871, .int .i64 t872] 25 (0, 0)) (kv_ BK873) hb)
                      replace BK876 := Aside0.mk (blk_below (g := gb876) (o := .cells #[.int .i64 t874, .int .i64 t875] 25 (0, 0)) (kv_ BK876) hb)
                      replace HB := Aside0.mk (below_step (bv4_ HB GE820 GE870 GE873 GE876) hb)
                      (try clear hb)
                      (try clear hb2)
                      (try clear hk)
                      (try clear hi)
                      refine hK.out _ _ ⟨(blk_cell BK870.out 0).trans rfl, (blk_cell BK870.out 1).trans rfl, (blk_cell BK873.out 0).trans rfl, (blk_cell BK873.out 1).trans rfl, (blk_cell BK876.out 0).trans rfl, (blk_cell BK876.out 1).trans rfl⟩ (fun hHeld => ?_)
                      clear hK K
                      refine no_ 161 ?_
                      refine pu_ HT_ 12 162 (bs 22 8191) ?_
                      refine pu_ HT_ 13 163 (bs 22 16383) ?_
                      refine pu_ HT_ 14 164 (bs 22 32767) ?_
                      refine ta6_ HT_ HW_ 15 165 (bs 22 65535) hHeld ?_
                      refine ta6_ HT_ HW_ 17 167 (bs 22 196607) hHeld ?_
                      refine on_ HT_ 16 166 (bs 22 262143) (fun K hK => ?_)
                      refine goes_ Try.func14 (by kernel_rfl) rfl #[.agg #[.int .i64 t874, .int .i64 t875]] (by rfl) rfl rfl mp_ ?_
                      with_reducible refine (impl_VarianceOf.calls t874 t875 t881 _ A123.out).mono ?_
                      rintro e w149 ⟨rfl, hb⟩
                      refine ⟨_, rfl, ?_⟩
                      replace HO_5 := Aside0.mk (Kd.R_below (rv_ HO_5) hb)
                      replace HO_6 := Aside0.mk (Kd.R_below (rv_ HO_6) hb)
                      replace BK820 := Aside0.mk (blk_below (g := gb820) (o := .cells #[.int .i64 t818, .int .i64 t819] 25 (0, 0)) (kv_ BK820) hb)
                      replace BK870 := Aside0.mk (blk_below (g := gb870) (o := .cells #[.int .i64 t867, .int .i64 t868] 25 (0, 0)) (kv_ BK870) hb)
                      replace BK873 := Aside0.mk (blk_below (g := gb873) (o := .cells #[.int .i64 t871, .int .i64 t872] 25 (0, 0)) (kv_ BK873) hb)
                      replace BK876 := Aside0.mk (blk_below (g := gb876) (o := .cells #[.int .i64 t874, .int .i64 t875] 25 (0, 0)) (kv_ BK876) hb)
                      replace HB := Aside0.mk (below_step (bv4_ HB GE820 GE870 GE873 GE876) hb)
                      (try clear hb)
                      (try clear hb2)
                      (try clear hk)
                      (try clear hi)
                      refine hK.out _ _ ⟨(blk_cell BK870.out 0).trans rfl, (blk_cell BK870.out 1).trans rfl, (blk_cell BK873.out 0).trans rfl, (blk_cell BK873.out 1).trans rfl, (blk_cell BK876.out 0).trans rfl, (blk_cell BK876.out 1).trans rfl⟩ (fun hHeld => ?_)
                      clear hK K
                      refine no_ 166 ?_
                      refine on_ HT_ 18 168 (bs 22 524287) (fun K hK => ?_)
                      refine goes_ Try.func15 (by kernel_rfl) rfl #[.agg #[.int .i64 t874, .int .i64 t875]] (by rfl) rfl rfl mp_ ?_
                      with_reducible refine (spec_VarianceOf.calls k2 t874 t875 t882 _ A124.out).mono ?_
                      rintro e w150 ⟨rfl, hb⟩
                      refine ⟨_, rfl, ?_⟩
                      replace HO_5 := Aside0.mk (Kd.R_below (rv_ HO_5) hb)
                      replace HO_6 := Aside0.mk (Kd.R_below (rv_ HO_6) hb)
                      replace BK820 := Aside0.mk (blk_below (g := gb820) (o := .cells #[.int .i64 t818, .int .i64 t819] 25 (0, 0)) (kv_ BK820) hb)
                      replace BK870 := Aside0.mk (blk_below (g := gb870) (o := .cells #[.int .i64 t867, .int .i64 t868] 25 (0, 0)) (kv_ BK870) hb)
                      replace BK873 := Aside0.mk (blk_below (g := gb873) (o := .cells #[.int .i64 t871, .int .i64 t872] 25 (0, 0)) (kv_ BK873) hb)
                      replace BK876 := Aside0.mk (blk_below (g := gb876) (o := .cells #[.int .i64 t874, .int .i64 t875] 25 (0, 0)) (kv_ BK876) hb)
                      replace HB := Aside0.mk (below_step (bv4_ HB GE820 GE870 GE873 GE876) hb)
                      (try clear hb)
                      (try clear hb2)
                      (try clear hk)
                      (try clear hi)
                      refine hK.out _ _ ⟨(blk_cell BK870.out 0).trans rfl, (blk_cell BK870.out 1).trans rfl, (blk_cell BK873.out 0).trans rfl, (blk_cell BK873.out 1).trans rfl, (blk_cell BK876.out 0).trans rfl, (blk_cell BK876.out 1).trans rfl⟩ (fun hHeld => ?_)
                      clear hK K
                      refine no_ 168 ?_
                      refine pu_ HT_ 19 169 (bs 22 1048575) ?_
                      refine pu_ HT_ 20 170 (bs 22 2097151) ?_
                      refine pu_ HT_ 21 2 (bs 22 4194303) ?_
                      refine done_ (done_of HT_.out (by kernel_rfl)) ?_
                      try go_wp2
                      go_ret
                      exact ⟨by first | rfl | (simp [errW_none, errW_some] <;> rfl) | (simp only [← hji61]; first | rfl | (simp [errW_none, errW_some] <;> rfl)) | (simp [*, errW_none, errW_some] <;> rfl), bv4_ HB GE820 GE870 GE873 GE876⟩
                     ·rw [if_neg c122] at H
                      exact absurd H (by simp)
                    ·rw [if_neg c119] at H
                     exact absurd H (by simp)
                 ·rw [if_neg c65] at H
                  exact absurd H (by simp)
                ·rw [if_neg c62] at H
                 exact absurd H (by simp)
               ·rw [if_neg c60] at H
                exact absurd H (by simp)
              ·rw [if_neg c59] at H
               exact absurd H (by simp)
       ·rw [if_neg c22] at H
        have c22b0 : decide (0 ≤ t821) = false := decide_eq_false c22
        clear c22
        replace H := Option.bind_eq_some_iff.mp H
        obtain ⟨⟨t883, t884, t885⟩, A1510, H⟩ := H
        replace H : ((spec_DrawMostInfluential.f k l0).bind fun bt887 => ((spec_DrawVarianceOf.f k l0).bind fun bt890 => ((impl_InfluenceOf.f k t883 t884 t885).bind fun t893 => ((spec_InfluenceOf.f k t883 t884 t885).bind fun t894 => (if t893 = t894 then ((impl_MostInfluential.f k bt887.1 bt887.2).bind fun t895 => ((spec_MostInfluential.f k bt887.1 bt887.2).bind fun t896 => (if t895 = t896 then ((impl_VarianceOf.f bt890.1 bt890.2).bind fun t897 => ((spec_VarianceOf.f k bt890.1 bt890.2).bind fun t898 => (some (t897 == t898)))) else (none)))) else (none)))))) = some r := H
        have A151 := Aside0.mk A1510
        clear A1510
        replace H := Option.bind_eq_some_iff.mp H
        obtain ⟨⟨t887, t888⟩, A1520, H⟩ := H
        replace H : ((spec_DrawVarianceOf.f k l0).bind fun bt890 => ((impl_InfluenceOf.f k t883 t884 t885).bind fun t893 => ((spec_InfluenceOf.f k t883 t884 t885).bind fun t894 => (if t893 = t894 then ((impl_MostInfluential.f k t887 t888).bind fun t895 => ((spec_MostInfluential.f k t887 t888).bind fun t896 => (if t895 = t896 then ((impl_VarianceOf.f bt890.1 bt890.2).bind fun t897 => ((spec_VarianceOf.f k bt890.1 bt890.2).bind fun t898 => (some (t897 == t898)))) else (none)))) else (none))))) = some r := H
        have A152 := Aside0.mk A1520
        clear A1520
        replace H := Option.bind_eq_some_iff.mp H
        obtain ⟨⟨t890, t891⟩, A1530, H⟩ := H
        replace H : ((impl_InfluenceOf.f k t883 t884 t885).bind fun t893 => ((spec_InfluenceOf.f k t883 t884 t885).bind fun t894 => (if t893 = t894 then ((impl_MostInfluential.f k t887 t888).bind fun t895 => ((spec_MostInfluential.f k t887 t888).bind fun t896 => (if t895 = t896 then ((impl_VarianceOf.f t890 t891).bind fun t897 => ((spec_VarianceOf.f k t890 t891).bind fun t898 => (some (t897 == t898)))) else (none)))) else (none)))) = some r := H
        have A153 := Aside0.mk A1530
        clear A1530
        replace H := Option.bind_eq_some_iff.mp H
        obtain ⟨t893, A1540, H⟩ := H
        have A154 := Aside0.mk A1540
        clear A1540
        replace H := Option.bind_eq_some_iff.mp H
        obtain ⟨t894, A1550, H⟩ := H
        have A155 := Aside0.mk A1550
        clear A1550
        by_cases c156 : t893 = t894
        ·rw [if_pos c156] at H
         have c156b0 : (t893 == t894) = true := beq_iff_eq.mpr c156
         have c156b1 : (t893 != t894) = false := bne_eq_false_iff_eq.mpr c156
         clear c156
         replace H := Option.bind_eq_some_iff.mp H
         obtain ⟨t895, A1570, H⟩ := H
         have A157 := Aside0.mk A1570
         clear A1570
         replace H := Option.bind_eq_some_iff.mp H
         obtain ⟨t896, A1580, H⟩ := H
         have A158 := Aside0.mk A1580
         clear A1580
         by_cases c159 : t895 = t896
         ·rw [if_pos c159] at H
          have c159b0 : (t895 == t896) = true := beq_iff_eq.mpr c159
          have c159b1 : (t895 != t896) = false := bne_eq_false_iff_eq.mpr c159
          clear c159
          replace H := Option.bind_eq_some_iff.mp H
          obtain ⟨t897, A1600, H⟩ := H
          have A160 := Aside0.mk A1600
          clear A1600
          replace H := Option.bind_eq_some_iff.mp H
          obtain ⟨t898, A1610, H⟩ := H
          have A161 := Aside0.mk A1610
          clear A1610
          obtain rfl := Option.some.inj H
          go_enter Try.func3, Try.ntmps3
          try go_wp2_with (first | ((with_reducible refine gate_callee (f := 5) rfl ?_); refine gl_ 17 Try.func5 #[.slice A0 l0.length c0] rfl mp_ ?_; (with_reducible refine (laws_big.calls _ _ l0 false _ ?side1 ?side2 A2.out).mono ?_); (case side1 => exact cv_ HR0.out); (case side2 => exact HC0.out); rintro e w' ⟨rfl, ⟨nd, rfl⟩⟩; refine ⟨_, rfl, ?_⟩) | ((with_reducible refine gate_callee (f := 6) rfl ?_); refine gl_ 19 Try.func6 #[.slice A0 l0.length c0] rfl mp_ ?_; (with_reducible refine (spec_DrawTotalInfluence.calls k _ _ l0 t818 t819 _ ?side1 ?side2 A4.out).mono ?_); (case side1 => exact cv_ HR0.out); (case side2 => exact HC0.out); rintro e w162 ⟨rfl, hb⟩; refine ⟨_, rfl, ?_⟩; replace HB := Aside0.mk (below_step (bv_ HB) hb); (try clear hb); (try clear hb2); (try clear hk); (try clear hi)) | ((with_reducible refine gate_dst (N := 3) rfl ?_); refine bx_ 3 #[.int .i64 0, .int .i64 0] 25 ?_; intro gb820 hg w163 hbox hb; have BK820 := Aside0.mk (hbox); have GW820 := gw_ hg (below_size (bv_ HB)); have GE820 := GW820; replace HB := Aside0.mk (below_step (bv_ HB) hb); clear hb hbox hg; obtain ⟨hcz164_0, hcz164_1, hfz164_0, hfz164_1⟩ := c2_ BK820) | ((with_reducible refine gate_callee (f := 7) rfl ?_); refine gl_ 21 Try.func7 #[.agg #[.int .i64 t818, .int .i64 t819]] rfl mp_ ?_; (with_reducible refine (impl_TotalInfluence.calls k t818 t819 t821 _ A5.out).mono ?_); rintro e w165 ⟨rfl, hb⟩; refine ⟨_, rfl, ?_⟩; replace BK820 := Aside0.mk (blk_below (g := gb820) (o := .cells #[.int .i64 t818, .int .i64 t819] 25 (0, 0)) (by (with_reducible repeat (first | refine blk_drewN ?_ _ | refine blk_drew ?_ | refine blk_alloc ?_ _)); refine blk_put (cs := #[.int .i64 t818, .int .i64 0]) ?_ 1 _ rfl; (with_reducible repeat (first | refine blk_drewN ?_ _ | refine blk_drew ?_ | refine blk_alloc ?_ _)); refine blk_put (cs := #[.int .i64 0, .int .i64 0]) ?_ 0 _ rfl; (with_reducible repeat (first | refine blk_drewN ?_ _ | refine blk_drew ?_ | refine blk_alloc ?_ _)); exact BK820.out) hb); replace HB := Aside0.mk (below_step (bv1_ HB GE820) hb); (try clear hb); (try clear hb2); (try clear hk); (try clear hi); obtain ⟨hcz166_0, hcz166_1, hfz166_0, hfz166_1⟩ := c2_ BK820) | ((with_reducible refine gate_callee (f := 8) rfl ?_); refine gl_ 23 Try.func8 #[.agg #[.int .i64 t818, .int .i64 t819]] rfl mp_ ?_; (with_reducible refine (impl_EnergyByLevel.calls k t818 t819 t822 _ A6.out).mono ?_); rintro e w167 ⟨v823, rfl, ho0, hb⟩; refine ⟨_, rfl, ?_⟩; have HO824 := Aside0.mk (Kd.R_lower ho0 (below_size (bv1_ HB GE820))); replace BK820 := Aside0.mk (blk_below (g := gb820) (o := .cells #[.int .i64 t818, .int .i64 t819] 25 (0, 0)) (kv_ BK820) hb); replace HB := Aside0.mk (below_step (bv1_ HB GE820) hb); (try clear hb); (try clear hb2); (try clear hk); (try clear hi); (try clear ho0); obtain ⟨hcz168_0, hcz168_1, hfz168_0, hfz168_1⟩ := c2_ BK820) | ((with_reducible refine gate_callee (f := 9) rfl ?_); refine gl_ 25 Try.func9 #[.agg #[.int .i64 t818, .int .i64 t819]] rfl mp_ ?_; (with_reducible refine (impl_PairsAtDistance.calls k t818 t819 t825 _ A7.out).mono ?_); rintro e w169 ⟨v826, rfl, ho0, hb⟩; refine ⟨_, rfl, ?_⟩; have HO827 := Aside0.mk (Kd.R_lower (Kd.R_new' ho0 (Kd.R_lt (rv_ HO824))) (below_size (bv1_ HB GE820))); replace HO824 := Aside0.mk (Kd.R_elder' (rv_ HO824) (Kd.R_base ho0) hb); replace BK820 := Aside0.mk (blk_below (g := gb820) (o := .cells #[.int .i64 t818, .int .i64 t819] 25 (0, 0)) (kv_ BK820) hb); replace HB := Aside0.mk (below_step (bv1_ HB GE820) hb); (try clear hb); (try clear hb2); (try clear hk); (try clear hi); (try clear ho0)))
          replace HO824 := Aside0.mk (Kd.R_drew HO824.out)
          replace HO827 := Aside0.mk (Kd.R_drew HO827.out)
          replace BK820 := Aside0.mk (blk_drew BK820.out)
          replace HB := Aside0.mk (below_drew1 HB.out)
          refine start_ (n := 32) (S := fun w' => w'.cell? ⟨gb820, 0, none⟩ = some (.int .i64 t818) ∧ w'.cell? ⟨gb820, 1, none⟩ = some (.int .i64 t819)) (ds := []) (bs 32 0) (by kernel_rfl) rfl (by kernel_rfl) ⟨(blk_cell BK820.out 0).trans rfl, (blk_cell BK820.out 1).trans rfl⟩ (fun hHeld => ?_); refine with_tabW laws_FnInfluences.tab7 laws_FnInfluences.bits7 (fun HT_ HW_ => ?_)
          generalize w169.drew = w170 at HO824 HO827 BK820 HB hHeld ⊢
          refine pu_ HT_ 0 26 (bs 32 1) ?_
          refine ta2_ HT_ HW_ 1 27 (bs 32 3) hHeld ?_
          refine on_ HT_ 2 28 (bs 32 7) (fun K hK => ?_)
          refine goes_ Try.func10 (by kernel_rfl) rfl #[.agg #[.int .i64 t818, .int .i64 t819]] (by rfl) rfl rfl mp_ ?_
          with_reducible refine (spec_TotalInfluence.calls k t818 t819 t828 _ A8.out).mono ?_
          rintro e w171 ⟨rfl, hb⟩
          refine ⟨_, rfl, ?_⟩
          replace HO824 := Aside0.mk (Kd.R_below (rv_ HO824) hb)
          replace HO827 := Aside0.mk (Kd.R_below (rv_ HO827) hb)
          replace BK820 := Aside0.mk (blk_below (g := gb820) (o := .cells #[.int .i64 t818, .int .i64 t819] 25 (0, 0)) (kv_ BK820) hb)
          replace HB := Aside0.mk (below_step (bv1_ HB GE820) hb)
          (try clear hb)
          (try clear hb2)
          (try clear hk)
          (try clear hi)
          refine hK.out _ _ ⟨(blk_cell BK820.out 0).trans rfl, (blk_cell BK820.out 1).trans rfl⟩ (fun hHeld => ?_)
          clear hK K
          refine no_ 28 ?_
          refine pu_ HT_ 3 29 (bs 32 15) ?_
          refine pu_ HT_ 4 30 (bs 32 31) ?_
          refine pu_ HT_ 5 31 (bs 32 63) ?_
          refine ta2_ HT_ HW_ 6 32 (bs 32 127) hHeld ?_
          refine on_ HT_ 7 33 (bs 32 255) (fun K hK => ?_)
          refine goes_ Try.func12 (by kernel_rfl) rfl #[.agg #[.int .i64 t818, .int .i64 t819]] (by rfl) rfl rfl mp_ ?_
          with_reducible refine (spec_EnergyByLevel.calls k t818 t819 t829 _ A10.out).mono ?_
          rintro e w172 ⟨v830, rfl, ho0, hb⟩
          refine ⟨_, rfl, ?_⟩
          have HO831 := Aside0.mk (Kd.R_lower (Kd.R_new' (Kd.R_new' ho0 (Kd.R_lt (rv_ HO824))) (Kd.R_lt (rv_ HO827))) (below_size (bv1_ HB GE820)))
          replace HO824 := Aside0.mk (Kd.R_elder' (rv_ HO824) (Kd.R_base ho0) hb)
          replace HO827 := Aside0.mk (Kd.R_elder' (rv_ HO827) (Kd.R_base ho0) hb)
          replace BK820 := Aside0.mk (blk_below (g := gb820) (o := .cells #[.int .i64 t818, .int .i64 t819] 25 (0, 0)) (kv_ BK820) hb)
          replace HB := Aside0.mk (below_step (bv1_ HB GE820) hb)
          (try clear hb)
          (try clear hb2)
          (try clear hk)
          (try clear hi)
          (try clear ho0)
          obtain ⟨Ao173, co173, eo173⟩ := Kd.R_slice HO824.out
          (first | subst eo173 | (injection eo173 with f1_ f2_ f3_; have f4_ := f1_.symm; have f5_ := f3_.symm; clear f1_ f2_ f3_; subst f4_; subst f5_))
          obtain ⟨Ao174, co174, eo174⟩ := Kd.R_slice HO831.out
          (first | subst eo174 | (injection eo174 with f1_ f2_ f3_; have f4_ := f1_.symm; have f5_ := f3_.symm; clear f1_ f2_ f3_; subst f4_; subst f5_))
          refine hK.out _ _ ⟨(blk_cell BK820.out 0).trans rfl, (blk_cell BK820.out 1).trans rfl⟩ (fun hHeld => ?_)
          clear hK K
          refine no_ 33 ?_
          refine on_ HT_ 8 34 (bs 32 511) (fun K hK => ?_)
          refine goes_ Try.func11 (by kernel_rfl) rfl #[.slice Ao173 t822.length co173, .slice Ao174 t829.length co174] (by rfl) rfl rfl mp_ ?_
          with_reducible refine (laws_sameInts.calls k _ _ t822 _ _ t829 true _ ?side1 ?side2 ?side3 ?side4 A11.out).mono ?_
          (case side1 => repeat (first | exact (Kd.R_reads' HO824.out).2.2 | (with_reducible refine Kd.C_alloc ?_ _) | (with_reducible refine Kd.C_drewN ?_ _) | (with_reducible refine Kd.C_drew ?_)))
          (case side2 => exact (Kd.R_reads' HO824.out).2.1)
          (case side3 => repeat (first | exact (Kd.R_reads' HO831.out).2.2 | (with_reducible refine Kd.C_alloc ?_ _) | (with_reducible refine Kd.C_drewN ?_ _) | (with_reducible refine Kd.C_drew ?_)))
          (case side4 => exact (Kd.R_reads' HO831.out).2.1)
          rintro e w' ⟨rfl, ⟨nd, rfl⟩⟩
          refine ⟨_, rfl, ?_⟩
          refine hK.out _ _ ⟨(blk_cell BK820.out 0).trans rfl, (blk_cell BK820.out 1).trans rfl⟩ (fun hHeld => ?_)
          clear hK K
          refine no_ 34 ?_
          refine pu_ HT_ 9 35 (bs 32 1023) ?_
          refine pu_ HT_ 10 36 (bs 32 2047) ?_
          refine pu_ HT_ 11 37 (bs 32 4095) ?_
          refine pu_ HT_ 12 38 (bs 32 8191) ?_
          refine ta2_ HT_ HW_ 13 39 (bs 32 16383) hHeld ?_
          refine on_ HT_ 14 40 (bs 32 32767) (fun K hK => ?_)
          refine goes_ Try.func13 (by kernel_rfl) rfl #[.agg #[.int .i64 t818, .int .i64 t819]] (by rfl) rfl rfl mp_ ?_
          with_reducible refine (spec_PairsAtDistance.calls k t818 t819 t833 _ A13.out).mono ?_
          rintro e w175 ⟨v834, rfl, ho0, hb⟩
          refine ⟨_, rfl, ?_⟩
          have HO835 := Aside0.mk (Kd.R_lower (Kd.R_new' (Kd.R_new' (Kd.R_new' ho0 (Kd.R_lt (rv_ HO824))) (Kd.R_lt (rv_ HO827))) (Kd.R_lt (rv_ HO831))) (below_size (bv1_ HB GE820)))
          replace HO824 := Aside0.mk (Kd.R_elder' (rv_ HO824) (Kd.R_base ho0) hb)
          replace HO827 := Aside0.mk (Kd.R_elder' (rv_ HO827) (Kd.R_base ho0) hb)
          replace HO831 := Aside0.mk (Kd.R_elder' (rv_ HO831) (Kd.R_base ho0) hb)
          replace BK820 := Aside0.mk (blk_below (g := gb820) (o := .cells #[.int .i64 t818, .int .i64 t819] 25 (0, 0)) (kv_ BK820) hb)
          replace HB := Aside0.mk (below_step (bv1_ HB GE820) hb)
          (try clear hb)
          (try clear hb2)
          (try clear hk)
          (try clear hi)
          (try clear ho0)
          obtain ⟨Ao176, co176, eo176⟩ := Kd.R_slice HO827.out
          (first | subst eo176 | (injection eo176 with f1_ f2_ f3_; have f4_ := f1_.symm; have f5_ := f3_.symm; clear f1_ f2_ f3_; subst f4_; subst f5_))
          obtain ⟨Ao177, co177, eo177⟩ := Kd.R_slice HO835.out
          (first | subst eo177 | (injection eo177 with f1_ f2_ f3_; have f4_ := f1_.symm; have f5_ := f3_.symm; clear f1_ f2_ f3_; subst f4_; subst f5_))
          refine hK.out _ _ ⟨(blk_cell BK820.out 0).trans rfl, (blk_cell BK820.out 1).trans rfl⟩ (fun hHeld => ?_)
          clear hK K
          refine no_ 40 ?_
          refine on_ HT_ 15 41 (bs 32 65535) (fun K hK => ?_)
          refine goes_ Try.func11 (by kernel_rfl) rfl #[.slice Ao176 t825.length co176, .slice Ao177 t833.length co177] (by rfl) rfl rfl mp_ ?_
          with_reducible refine (laws_sameInts.calls k _ _ t825 _ _ t833 true _ ?side1 ?side2 ?side3 ?side4 A14.out).mono ?_
          (case side1 => repeat (first | exact (Kd.R_reads' HO827.out).2.2 | (with_reducible refine Kd.C_alloc ?_ _) | (with_reducible refine Kd.C_drewN ?_ _) | (with_reducible refine Kd.C_drew ?_)))
          (case side2 => exact (Kd.R_reads' HO827.out).2.1)
          (case side3 => repeat (first | exact (Kd.R_reads' HO835.out).2.2 | (with_reducible refine Kd.C_alloc ?_ _) | (with_reducible refine Kd.C_drewN ?_ _) | (with_reducible refine Kd.C_drew ?_)))
          (case side4 => exact (Kd.R_reads' HO835.out).2.1)
          rintro e w' ⟨rfl, ⟨nd, rfl⟩⟩
          refine ⟨_, rfl, ?_⟩
          refine hK.out _ _ ⟨(blk_cell BK820.out 0).trans rfl, (blk_cell BK820.out 1).trans rfl⟩ (fun hHeld => ?_)
          clear hK K
          refine no_ 41 ?_
          refine pu_ HT_ 16 42 (bs 32 131071) ?_
          refine pu_ HT_ 17 43 (bs 32 262143) ?_
          refine pu_ HT_ 18 44 (bs 32 524287) ?_
          refine ta2_ HT_ HW_ 19 45 (bs 32 1048575) hHeld ?_
          refine ta2_ HT_ HW_ 21 47 (bs 32 3145727) hHeld ?_
          refine on_ HT_ 20 46 (bs 32 4194303) (fun K hK => ?_)
          refine goes_ Try.func14 (by kernel_rfl) rfl #[.agg #[.int .i64 t818, .int .i64 t819]] (by rfl) rfl rfl mp_ ?_
          with_reducible refine (impl_VarianceOf.calls t818 t819 t837 _ A16.out).mono ?_
          rintro e w178 ⟨rfl, hb⟩
          refine ⟨_, rfl, ?_⟩
          replace HO824 := Aside0.mk (Kd.R_below (rv_ HO824) hb)
          replace HO827 := Aside0.mk (Kd.R_below (rv_ HO827) hb)
          replace HO831 := Aside0.mk (Kd.R_below (rv_ HO831) hb)
          replace HO835 := Aside0.mk (Kd.R_below (rv_ HO835) hb)
          replace BK820 := Aside0.mk (blk_below (g := gb820) (o := .cells #[.int .i64 t818, .int .i64 t819] 25 (0, 0)) (kv_ BK820) hb)
          replace HB := Aside0.mk (below_step (bv1_ HB GE820) hb)
          (try clear hb)
          (try clear hb2)
          (try clear hk)
          (try clear hi)
          refine hK.out _ _ ⟨(blk_cell BK820.out 0).trans rfl, (blk_cell BK820.out 1).trans rfl⟩ (fun hHeld => ?_)
          clear hK K
          refine no_ 46 ?_
          refine on_ HT_ 22 48 (bs 32 8388607) (fun K hK => ?_)
          refine goes_ Try.func15 (by kernel_rfl) rfl #[.agg #[.int .i64 t818, .int .i64 t819]] (by rfl) rfl rfl mp_ ?_
          with_reducible refine (spec_VarianceOf.calls k t818 t819 t838 _ A17.out).mono ?_
          rintro e w179 ⟨rfl, hb⟩
          refine ⟨_, rfl, ?_⟩
          replace HO824 := Aside0.mk (Kd.R_below (rv_ HO824) hb)
          replace HO827 := Aside0.mk (Kd.R_below (rv_ HO827) hb)
          replace HO831 := Aside0.mk (Kd.R_below (rv_ HO831) hb)
          replace HO835 := Aside0.mk (Kd.R_below (rv_ HO835) hb)
          replace BK820 := Aside0.mk (blk_below (g := gb820) (o := .cells #[.int .i64 t818, .int .i64 t819] 25 (0, 0)) (kv_ BK820) hb)
          replace HB := Aside0.mk (below_step (bv1_ HB GE820) hb)
          (try clear hb)
          (try clear hb2)
          (try clear hk)
          (try clear hi)
          refine hK.out _ _ ⟨(blk_cell BK820.out 0).trans rfl, (blk_cell BK820.out 1).trans rfl⟩ (fun hHeld => ?_)
          clear hK K
          refine no_ 48 ?_
          refine pu_ HT_ 23 49 (bs 32 16777215) ?_
          refine pu_ HT_ 24 50 (bs 32 33554431) ?_
          refine pu_ HT_ 25 51 (bs 32 67108863) ?_
          refine ta2_ HT_ HW_ 26 52 (bs 32 134217727) hHeld ?_
          refine ta2_ HT_ HW_ 28 54 (bs 32 402653183) hHeld ?_
          refine on_ HT_ 27 53 (bs 32 536870911) (fun K hK => ?_)
          refine goes_ Try.func16 (by kernel_rfl) rfl #[.agg #[.int .i64 t818, .int .i64 t819]] (by rfl) rfl rfl mp_ ?_
          with_reducible refine (impl_MostInfluential.calls k t818 t819 t839 _ A19.out).mono ?_
          rintro e w180 ⟨rfl, hb⟩
          refine ⟨_, rfl, ?_⟩
          replace HO824 := Aside0.mk (Kd.R_below (rv_ HO824) hb)
          replace HO827 := Aside0.mk (Kd.R_below (rv_ HO827) hb)
          replace HO831 := Aside0.mk (Kd.R_below (rv_ HO831) hb)
          replace HO835 := Aside0.mk (Kd.R_below (rv_ HO835) hb)
          replace BK820 := Aside0.mk (blk_below (g := gb820) (o := .cells #[.int .i64 t818, .int .i64 t819] 25 (0, 0)) (kv_ BK820) hb)
          replace HB := Aside0.mk (below_step (bv1_ HB GE820) hb)
          (try clear hb)
          (try clear hb2)
          (try clear hk)
          (try clear hi)
          refine hK.out _ _ ⟨(blk_cell BK820.out 0).trans rfl, (blk_cell BK820.out 1).trans rfl⟩ (fun hHeld => ?_)
          clear hK K
          refine no_ 53 ?_
          refine on_ HT_ 29 55 (bs 32 1073741823) (fun K hK => ?_)
          refine goes_ Try.func17 (by kernel_rfl) rfl #[.agg #[.int .i64 t818, .int .i64 t819]] (by rfl) rfl rfl mp_ ?_
          with_reducible refine (spec_MostInfluential.calls k t818 t819 t840 _ A20.out).mono ?_
          rintro e w181 ⟨rfl, hb⟩
          refine ⟨_, rfl, ?_⟩
          replace HO824 := Aside0.mk (Kd.R_below (rv_ HO824) hb)
          replace HO827 := Aside0.mk (Kd.R_below (rv_ HO827) hb)
          replace HO831 := Aside0.mk (Kd.R_below (rv_ HO831) hb)
          replace HO835 := Aside0.mk (Kd.R_below (rv_ HO835) hb)
          replace BK820 := Aside0.mk (blk_below (g := gb820) (o := .cells #[.int .i64 t818, .int .i64 t819] 25 (0, 0)) (kv_ BK820) hb)
          replace HB := Aside0.mk (below_step (bv1_ HB GE820) hb)
          (try clear hb)
          (try clear hb2)
          (try clear hk)
          (try clear hi)
          refine hK.out _ _ ⟨(blk_cell BK820.out 0).trans rfl, (blk_cell BK820.out 1).trans rfl⟩ (fun hHeld => ?_)
          clear hK K
          refine no_ 55 ?_
          refine pu_ HT_ 30 56 (bs 32 2147483647) ?_
          refine pu_ HT_ 31 57 (bs 32 4294967295) ?_
          refine done_ (done_of HT_.out (by kernel_rfl)) ?_
          try go_wp2_with (first | ((with_reducible refine gate_callee (f := 21) rfl ?_); refine gl_ 143 Try.func21 #[.slice A0 l0.length c0] rfl mp_ ?_; (with_reducible refine (spec_DrawInfluenceOf.calls k _ _ l0 t883 t884 t885 _ ?side1 ?side2 A151.out).mono ?_); (case side1 => exact cv_ (Kd.C_below HR0.out HB.out)); (case side2 => exact HC0.out); rintro e w182 ⟨rfl, hb⟩; refine ⟨_, rfl, ?_⟩; have n0_ := Aside0.mk (Kd.R_below (rv_ HO824) hb); have n1_ := Aside0.mk (Kd.R_below (rv_ HO827) hb); have n2_ := Aside0.mk (Kd.R_below (rv_ HO831) hb); have n3_ := Aside0.mk (Kd.R_below (rv_ HO835) hb); have n4_ := Aside0.mk (blk_below (g := gb820) (o := .cells #[.int .i64 t818, .int .i64 t819] 25 (0, 0)) (kv_ BK820) hb); have n5_ := Aside0.mk (below_step (bv1_ HB GE820) hb); clear HO824; clear HO827; clear HO831; clear HO835; clear BK820; clear HB; have HO824 := n0_; have HO827 := n1_; have HO831 := n2_; have HO835 := n3_; have BK820 := n4_; have HB := n5_; clear n0_ n1_ n2_ n3_ n4_ n5_; (try clear hb); (try clear hb2); (try clear hk); (try clear hi)) | ((with_reducible refine gate_dst (N := 12) rfl ?_); refine bx_ 12 #[.int .i64 0, .int .i64 0] 25 ?_; intro gb886 hg w183 hbox hb; have n0_ := Aside0.mk (Kd.R_below (rv_ HO824) hb); have n1_ := Aside0.mk (Kd.R_below (rv_ HO827) hb); have n2_ := Aside0.mk (Kd.R_below (rv_ HO831) hb); have n3_ := Aside0.mk (Kd.R_below (rv_ HO835) hb); have n4_ := Aside0.mk (blk_below (g := gb820) (o := .cells #[.int .i64 t818, .int .i64 t819] 25 (0, 0)) (kv_ BK820) hb); have n5_ := Aside0.mk (below_step (bv1_ HB GE820) hb); have n6_ := Aside0.mk (hbox); have n7_ := gw_ hg (below_size (bv1_ HB GE820)); have n8_ := gw_ hg (below_size (bv1_ HB GE820)); have n9_ := nb_ hg (blk_lt (g := gb820) (o := .cells #[.int .i64 t818, .int .i64 t819] 25 (0, 0)) (kv_ BK820)); have n10_ := nc_ hg (blk_lt (g := gb820) (o := .cells #[.int .i64 t818, .int .i64 t819] 25 (0, 0)) (kv_ BK820)); clear HO824; clear HO827; clear HO831; clear HO835; clear BK820; clear HB; have HO824 := n0_; have HO827 := n1_; have HO831 := n2_; have HO835 := n3_; have BK820 := n4_; have HB := n5_; have BK886 := n6_; have GW886 := n7_; have GE886 := n8_; have NB820_886 := n9_; have NB886_820 := n10_; clear n0_ n1_ n2_ n3_ n4_ n5_ n6_ n7_ n8_ n9_ n10_; clear hb hbox hg; have hnb184 := NB886_820.out; have hnc184 := NB820_886.out; have hcz185_0 : w183.cell? ⟨gb886, 0, none⟩ = some (.int .i64 0) := (blk_cell BK886.out 0).trans rfl; have hcz185_1 : w183.cell? ⟨gb886, 1, none⟩ = some (.int .i64 0) := (blk_cell BK886.out 1).trans rfl; have hfz185_0 := blk_frozen BK886.out 0; have hfz185_1 := blk_frozen BK886.out 1) | ((with_reducible refine gate_callee (f := 22) rfl ?_); refine gl_ 147 Try.func22 #[.slice A0 l0.length c0] rfl mp_ ?_; (with_reducible refine (spec_DrawMostInfluential.calls k _ _ l0 t887 t888 _ ?side1 ?side2 A152.out).mono ?_); (case side1 => exact Kd.C_below HR0.out (bv2_ HB GE820 GE886)); (case side2 => exact HC0.out); rintro e w186 ⟨rfl, hb⟩; refine ⟨_, rfl, ?_⟩; have n0_ := Aside0.mk (Kd.R_below (by (with_reducible repeat (first | apply Kd.R_alloc | apply Kd.R_drewN | apply Kd.R_drew)); exact (Kd.R_mono (Kd.R_far (p := ⟨gb886, 1, none⟩) (Kd.R_far (p := ⟨gb886, 0, none⟩) (Kd.R_types HO824.out BK886.out (by decide)) (fun _ hk => hk.2) (.int .i64 t883)) (fun _ hk => hk.2) (.int .i64 t884)) (fun _ h_ => h_.1))) hb); have n1_ := Aside0.mk (Kd.R_below (by (with_reducible repeat (first | apply Kd.R_alloc | apply Kd.R_drewN | apply Kd.R_drew)); exact (Kd.R_mono (Kd.R_far (p := ⟨gb886, 1, none⟩) (Kd.R_far (p := ⟨gb886, 0, none⟩) (Kd.R_types HO827.out BK886.out (by decide)) (fun _ hk => hk.2) (.int .i64 t883)) (fun _ hk => hk.2) (.int .i64 t884)) (fun _ h_ => h_.1))) hb); have n2_ := Aside0.mk (Kd.R_below (by (with_reducible repeat (first | apply Kd.R_alloc | apply Kd.R_drewN | apply Kd.R_drew)); exact (Kd.R_mono (Kd.R_far (p := ⟨gb886, 1, none⟩) (Kd.R_far (p := ⟨gb886, 0, none⟩) (Kd.R_types HO831.out BK886.out (by decide)) (fun _ hk => hk.2) (.int .i64 t883)) (fun _ hk => hk.2) (.int .i64 t884)) (fun _ h_ => h_.1))) hb); have n3_ := Aside0.mk (Kd.R_below (by (with_reducible repeat (first | apply Kd.R_alloc | apply Kd.R_drewN | apply Kd.R_drew)); exact (Kd.R_mono (Kd.R_far (p := ⟨gb886, 1, none⟩) (Kd.R_far (p := ⟨gb886, 0, none⟩) (Kd.R_types HO835.out BK886.out (by decide)) (fun _ hk => hk.2) (.int .i64 t883)) (fun _ hk => hk.2) (.int .i64 t884)) (fun _ h_ => h_.1))) hb); have n4_ := Aside0.mk (blk_below (g := gb820) (o := .cells #[.int .i64 t818, .int .i64 t819] 25 (0, 0)) (by (with_reducible repeat (first | refine blk_drewN ?_ _ | refine blk_drew ?_ | refine blk_alloc ?_ _)); refine blk_far ?_ NB820_886.out _; (with_reducible repeat (first | refine blk_drewN ?_ _ | refine blk_drew ?_ | refine blk_alloc ?_ _)); refine blk_far ?_ NB820_886.out _; (with_reducible repeat (first | refine blk_drewN ?_ _ | refine blk_drew ?_ | refine blk_alloc ?_ _)); exact BK820.out) hb); have n5_ := Aside0.mk (blk_below (g := gb886) (o := .cells #[.int .i64 t883, .int .i64 t884] 25 (0, 0)) (by (with_reducible repeat (first | refine blk_drewN ?_ _ | refine blk_drew ?_ | refine blk_alloc ?_ _)); refine blk_put (cs := #[.int .i64 t883, .int .i64 0]) ?_ 1 _ rfl; (with_reducible repeat (first | refine blk_drewN ?_ _ | refine blk_drew ?_ | refine blk_alloc ?_ _)); refine blk_put (cs := #[.int .i64 0, .int .i64 0]) ?_ 0 _ rfl; (with_reducible repeat (first | refine blk_drewN ?_ _ | refine blk_drew ?_ | refine blk_alloc ?_ _)); exact BK886.out) hb); have n6_ := Aside0.mk (below_step (bv2_ HB GE820 GE886) hb); clear HO824; clear HO827; clear HO831; clear HO835; clear BK820; clear BK886; clear HB; have HO824 := n0_; have HO827 := n1_; have HO831 := n2_; have HO835 := n3_; have BK820 := n4_; have BK886 := n5_; have HB := n6_; clear n0_ n1_ n2_ n3_ n4_ n5_ n6_; (try clear hb); (try clear hb2); (try clear hk); (try clear hi)) | ((with_reducible refine gate_dst (N := 14) rfl ?_); refine bx_ 14 #[.int .i64 0, .int .i64 0] 25 ?_; intro gb889 hg w187 hbox hb; have n0_ := Aside0.mk (Kd.R_below (rv_ HO824) hb); have n1_ := Aside0.mk (Kd.R_below (rv_ HO827) hb); have n2_ := Aside0.mk (Kd.R_below (rv_ HO831) hb); have n3_ := Aside0.mk (Kd.R_below (rv_ HO835) hb); have n4_ := Aside0.mk (blk_below (g := gb820) (o := .cells #[.int .i64 t818, .int .i64 t819] 25 (0, 0)) (kv_ BK820) hb); have n5_ := Aside0.mk (blk_below (g := gb886) (o := .cells #[.int .i64 t883, .int .i64 t884] 25 (0, 0)) (kv_ BK886) hb); have n6_ := Aside0.mk (below_step (bv2_ HB GE820 GE886) hb); have n7_ := Aside0.mk (hbox); have n8_ := gw_ hg (below_size (bv2_ HB GE820 GE886)); have n9_ := gw_ hg (below_size (bv2_ HB GE820 GE886)); have n10_ := nb_ hg (blk_lt (g := gb820) (o := .cells #[.int .i64 t818, .int .i64 t819] 25 (0, 0)) (kv_ BK820)); have n11_ := nc_ hg (blk_lt (g := gb820) (o := .cells #[.int .i64 t818, .int .i64 t819] 25 (0, 0)) (kv_ BK820)); have n12_ := nb_ hg (blk_lt (g := gb886) (o := .cells #[.int .i64 t883, .int .i64 t884] 25 (0, 0)) (kv_ BK886)); have n13_ := nc_ hg (blk_lt (g := gb886) (o := .cells #[.int .i64 t883, .int .i64 t884] 25 (0, 0)) (kv_ BK886)); clear HO824; clear HO827; clear HO831; clear HO835; clear BK820; clear BK886; clear HB; have HO824 := n0_; have HO827 := n1_; have HO831 := n2_; have HO835 := n3_; have BK820 := n4_; have BK886 := n5_; have HB := n6_; have BK889 := n7_; have GW889 := n8_; have GE889 := n9_; have NB820_889 := n10_; have NB889_820 := n11_; have NB886_889 := n12_; have NB889_886 := n13_; clear n0_ n1_ n2_ n3_ n4_ n5_ n6_ n7_ n8_ n9_ n10_ n11_ n12_ n13_; clear hb hbox hg; have hnb188 := NB889_820.out; have hnc188 := NB820_889.out; have hnb189 := NB889_886.out; have hnc189 := NB886_889.out; have hcz190_0 : w187.cell? ⟨gb889, 0, none⟩ = some (.int .i64 0) := (blk_cell BK889.out 0).trans rfl; have hcz190_1 : w187.cell? ⟨gb889, 1, none⟩ = some (.int .i64 0) := (blk_cell BK889.out 1).trans rfl; have hfz190_0 := blk_frozen BK889.out 0; have hfz190_1 := blk_frozen BK889.out 1) | ((with_reducible refine gate_callee (f := 23) rfl ?_); refine gl_ 149 Try.func23 #[.slice A0 l0.length c0] rfl mp_ ?_; (with_reducible refine (spec_DrawVarianceOf.calls k _ _ l0 t890 t891 _ ?side1 ?side2 A153.out).mono ?_); (case side1 => exact Kd.C_below HR0.out (bv3_ HB GE820 GE886 GE889)); (case side2 => exact HC0.out); rintro e w191 ⟨rfl, hb⟩; refine ⟨_, rfl, ?_⟩; have n0_ := Aside0.mk (Kd.R_below (by (with_reducible repeat (first | apply Kd.R_alloc | apply Kd.R_drewN | apply Kd.R_drew)); exact (Kd.R_mono (Kd.R_far (p := ⟨gb889, 1, none⟩) (Kd.R_far (p := ⟨gb889, 0, none⟩) (Kd.R_types HO824.out BK889.out (by decide)) (fun _ hk => hk.2) (.int .i64 t887)) (fun _ hk => hk.2) (.int .i64 t888)) (fun _ h_ => h_.1))) hb); have n1_ := Aside0.mk (Kd.R_below (by (with_reducible repeat (first | apply Kd.R_alloc | apply Kd.R_drewN | apply Kd.R_drew)); exact (Kd.R_mono (Kd.R_far (p := ⟨gb889, 1, none⟩) (Kd.R_far (p := ⟨gb889, 0, none⟩) (Kd.R_types HO827.out BK889.out (by decide)) (fun _ hk => hk.2) (.int .i64 t887)) (fun _ hk => hk.2) (.int .i64 t888)) (fun _ h_ => h_.1))) hb); have n2_ := Aside0.mk (Kd.R_below (by (with_reducible repeat (first | apply Kd.R_alloc | apply Kd.R_drewN | apply Kd.R_drew)); exact (Kd.R_mono (Kd.R_far (p := ⟨gb889, 1, none⟩) (Kd.R_far (p := ⟨gb889, 0, none⟩) (Kd.R_types HO831.out BK889.out (by decide)) (fun _ hk => hk.2) (.int .i64 t887)) (fun _ hk => hk.2) (.int .i64 t888)) (fun _ h_ => h_.1))) hb); have n3_ := Aside0.mk (Kd.R_below (by (with_reducible repeat (first | apply Kd.R_alloc | apply Kd.R_drewN | apply Kd.R_drew)); exact (Kd.R_mono (Kd.R_far (p := ⟨gb889, 1, none⟩) (Kd.R_far (p := ⟨gb889, 0, none⟩) (Kd.R_types HO835.out BK889.out (by decide)) (fun _ hk => hk.2) (.int .i64 t887)) (fun _ hk => hk.2) (.int .i64 t888)) (fun _ h_ => h_.1))) hb); have n4_ := Aside0.mk (blk_below (g := gb820) (o := .cells #[.int .i64 t818, .int .i64 t819] 25 (0, 0)) (by (with_reducible repeat (first | refine blk_drewN ?_ _ | refine blk_drew ?_ | refine blk_alloc ?_ _)); refine blk_far ?_ NB820_889.out _; (with_reducible repeat (first | refine blk_drewN ?_ _ | refine blk_drew ?_ | refine blk_alloc ?_ _)); refine blk_far ?_ NB820_889.out _; (with_reducible repeat (first | refine blk_drewN ?_ _ | refine blk_drew ?_ | refine blk_alloc ?_ _)); exact BK820.out) hb); have n5_ := Aside0.mk (blk_below (g := gb886) (o := .cells #[.int .i64 t883, .int .i64 t884] 25 (0, 0)) (by (with_reducible repeat (first | refine blk_drewN ?_ _ | refine blk_drew ?_ | refine blk_alloc ?_ _)); refine blk_far ?_ NB886_889.out _; (with_reducible repeat (first | refine blk_drewN ?_ _ | refine blk_drew ?_ | refine blk_alloc ?_ _)); refine blk_far ?_ NB886_889.out _; (with_reducible repeat (first | refine blk_drewN ?_ _ | refine blk_drew ?_ | refine blk_alloc ?_ _)); exact BK886.out) hb); have n6_ := Aside0.mk (blk_below (g := gb889) (o := .cells #[.int .i64 t887, .int .i64 t888] 25 (0, 0)) (by (with_reducible repeat (first | refine blk_drewN ?_ _ | refine blk_drew ?_ | refine blk_alloc ?_ _)); refine blk_put (cs := #[.int .i64 t887, .int .i64 0]) ?_ 1 _ rfl; (with_reducible repeat (first | refine blk_drewN ?_ _ | refine blk_drew ?_ | refine blk_alloc ?_ _)); refine blk_put (cs := #[.int .i64 0, .int .i64 0]) ?_ 0 _ rfl; (with_reducible repeat (first | refine blk_drewN ?_ _ | refine blk_drew ?_ | refine blk_alloc ?_ _)); exact BK889.out) hb); have n7_ := Aside0.mk (below_step (bv3_ HB GE820 GE886 GE889) hb); clear HO824; clear HO827; clear HO831; clear HO835; clear BK820; clear BK886; clear BK889; clear HB; have HO824 := n0_; have HO827 := n1_; have HO831 := n2_; have HO835 := n3_; have BK820 := n4_; have BK886 := n5_; have BK889 := n6_; have HB := n7_; clear n0_ n1_ n2_ n3_ n4_ n5_ n6_ n7_; (try clear hb); (try clear hb2); (try clear hk); (try clear hi)) | ((with_reducible refine gate_dst (N := 15) rfl ?_); refine bx_ 15 #[.int .i64 0, .int .i64 0] 25 ?_; intro gb892 hg w192 hbox hb; have n0_ := Aside0.mk (Kd.R_below (rv_ HO824) hb); have n1_ := Aside0.mk (Kd.R_below (rv_ HO827) hb); have n2_ := Aside0.mk (Kd.R_below (rv_ HO831) hb); have n3_ := Aside0.mk (Kd.R_below (rv_ HO835) hb); have n4_ := Aside0.mk (blk_below (g := gb820) (o := .cells #[.int .i64 t818, .int .i64 t819] 25 (0, 0)) (kv_ BK820) hb); have n5_ := Aside0.mk (blk_below (g := gb886) (o := .cells #[.int .i64 t883, .int .i64 t884] 25 (0, 0)) (kv_ BK886) hb); have n6_ := Aside0.mk (blk_below (g := gb889) (o := .cells #[.int .i64 t887, .int .i64 t888] 25 (0, 0)) (kv_ BK889) hb); have n7_ := Aside0.mk (below_step (bv3_ HB GE820 GE886 GE889) hb); have n8_ := Aside0.mk (hbox); have n9_ := gw_ hg (below_size (bv3_ HB GE820 GE886 GE889)); have n10_ := gw_ hg (below_size (bv3_ HB GE820 GE886 GE889)); have n11_ := nb_ hg (blk_lt (g := gb820) (o := .cells #[.int .i64 t818, .int .i64 t819] 25 (0, 0)) (kv_ BK820)); have n12_ := nc_ hg (blk_lt (g := gb820) (o := .cells #[.int .i64 t818, .int .i64 t819] 25 (0, 0)) (kv_ BK820)); have n13_ := nb_ hg (blk_lt (g := gb886) (o := .cells #[.int .i64 t883, .int .i64 t884] 25 (0, 0)) (kv_ BK886)); have n14_ := nc_ hg (blk_lt (g := gb886) (o := .cells #[.int .i64 t883, .int .i64 t884] 25 (0, 0)) (kv_ BK886)); have n15_ := nb_ hg (blk_lt (g := gb889) (o := .cells #[.int .i64 t887, .int .i64 t888] 25 (0, 0)) (kv_ BK889)); have n16_ := nc_ hg (blk_lt (g := gb889) (o := .cells #[.int .i64 t887, .int .i64 t888] 25 (0, 0)) (kv_ BK889)); clear HO824; clear HO827; clear HO831; clear HO835; clear BK820; clear BK886; clear BK889; clear HB; have HO824 := n0_; have HO827 := n1_; have HO831 := n2_; have HO835 := n3_; have BK820 := n4_; have BK886 := n5_; have BK889 := n6_; have HB := n7_; have BK892 := n8_; have GW892 := n9_; have GE892 := n10_; have NB820_892 := n11_; have NB892_820 := n12_; have NB886_892 := n13_; have NB892_886 := n14_; have NB889_892 := n15_; have NB892_889 := n16_; clear n0_ n1_ n2_ n3_ n4_ n5_ n6_ n7_ n8_ n9_ n10_ n11_ n12_ n13_ n14_ n15_ n16_; clear hb hbox hg; have hnb193 := NB892_820.out; have hnc193 := NB820_892.out; have hnb194 := NB892_886.out; have hnc194 := NB886_892.out; have hnb195 := NB892_889.out; have hnc195 := NB889_892.out; have hcz196_0 : w192.cell? ⟨gb892, 0, none⟩ = some (.int .i64 0) := (blk_cell BK892.out 0).trans rfl; have hcz196_1 : w192.cell? ⟨gb892, 1, none⟩ = some (.int .i64 0) := (blk_cell BK892.out 1).trans rfl; have hfz196_0 := blk_frozen BK892.out 0; have hfz196_1 := blk_frozen BK892.out 1))
          have n0_ : Aside0 (Kd.R (Kd.int .i64) 3 ((w192.setCell ⟨gb892, 0, none⟩ (.int .i64 t890)).setCell ⟨gb892, 1, none⟩ (.int .i64 t891)) w.heap.size (fun k_ => some k_ ≠ (.slice Ao176 t825.length co176 : Value).ownBlock ∧ some k_ ≠ (.slice Ao174 t829.length co174 : Value).ownBlock ∧ some k_ ≠ (.slice Ao177 t833.length co177 : Value).ownBlock) (.slice Ao173 t822.length co173) t822) := ⟨by (with_reducible repeat (first | apply Kd.R_alloc | apply Kd.R_drewN | apply Kd.R_drew)); exact Kd.R_mono (Kd.R_far (p := ⟨gb892, 1, none⟩) (Kd.R_far (p := ⟨gb892, 0, none⟩) (Kd.R_types HO824.out BK892.out (by decide)) (fun _ hk => hk.2) (.int .i64 t890)) (fun _ hk => hk.2) (.int .i64 t891)) (fun _ hk => ⟨hk.1.1.1.2, ⟨hk.1.1.2, hk.1.2⟩⟩)⟩
          have n1_ : Aside0 (Kd.R (Kd.int .i64) 3 ((w192.setCell ⟨gb892, 0, none⟩ (.int .i64 t890)).setCell ⟨gb892, 1, none⟩ (.int .i64 t891)) w.heap.size (fun k_ => some k_ ≠ (.slice Ao173 t822.length co173 : Value).ownBlock ∧ some k_ ≠ (.slice Ao174 t829.length co174 : Value).ownBlock ∧ some k_ ≠ (.slice Ao177 t833.length co177 : Value).ownBlock) (.slice Ao176 t825.length co176) t825) := ⟨by (with_reducible repeat (first | apply Kd.R_alloc | apply Kd.R_drewN | apply Kd.R_drew)); exact Kd.R_mono (Kd.R_far (p := ⟨gb892, 1, none⟩) (Kd.R_far (p := ⟨gb892, 0, none⟩) (Kd.R_types HO827.out BK892.out (by decide)) (fun _ hk => hk.2) (.int .i64 t890)) (fun _ hk => hk.2) (.int .i64 t891)) (fun _ hk => ⟨hk.1.1.1.2, ⟨hk.1.1.2, hk.1.2⟩⟩)⟩
          have n2_ : Aside0 (Kd.R (Kd.int .i64) 3 ((w192.setCell ⟨gb892, 0, none⟩ (.int .i64 t890)).setCell ⟨gb892, 1, none⟩ (.int .i64 t891)) w.heap.size (fun k_ => some k_ ≠ (.slice Ao173 t822.length co173 : Value).ownBlock ∧ some k_ ≠ (.slice Ao176 t825.length co176 : Value).ownBlock ∧ some k_ ≠ (.slice Ao177 t833.length co177 : Value).ownBlock) (.slice Ao174 t829.length co174) t829) := ⟨by (with_reducible repeat (first | apply Kd.R_alloc | apply Kd.R_drewN | apply Kd.R_drew)); exact Kd.R_mono (Kd.R_far (p := ⟨gb892, 1, none⟩) (Kd.R_far (p := ⟨gb892, 0, none⟩) (Kd.R_types HO831.out BK892.out (by decide)) (fun _ hk => hk.2) (.int .i64 t890)) (fun _ hk => hk.2) (.int .i64 t891)) (fun _ hk => ⟨hk.1.1.1.2, ⟨hk.1.1.2, hk.1.2⟩⟩)⟩
          have n3_ : Aside0 (Kd.R (Kd.int .i64) 3 ((w192.setCell ⟨gb892, 0, none⟩ (.int .i64 t890)).setCell ⟨gb892, 1, none⟩ (.int .i64 t891)) w.heap.size (fun k_ => some k_ ≠ (.slice Ao173 t822.length co173 : Value).ownBlock ∧ some k_ ≠ (.slice Ao176 t825.length co176 : Value).ownBlock ∧ some k_ ≠ (.slice Ao174 t829.length co174 : Value).ownBlock) (.slice Ao177 t833.length co177) t833) := ⟨by (with_reducible repeat (first | apply Kd.R_alloc | apply Kd.R_drewN | apply Kd.R_drew)); exact Kd.R_mono (Kd.R_far (p := ⟨gb892, 1, none⟩) (Kd.R_far (p := ⟨gb892, 0, none⟩) (Kd.R_types HO835.out BK892.out (by decide)) (fun _ hk => hk.2) (.int .i64 t890)) (fun _ hk => hk.2) (.int .i64 t891)) (fun _ hk => ⟨hk.1.1.1.2, ⟨hk.1.1.2, hk.1.2⟩⟩)⟩
          have n4_ : Aside0 (((w192.setCell ⟨gb892, 0, none⟩ (.int .i64 t890)).setCell ⟨gb892, 1, none⟩ (.int .i64 t891)).heap[gb820]? = some (.cells #[.int .i64 t818, .int .i64 t819] 25 (0, 0))) := ⟨by (with_reducible repeat (first | refine blk_drewN ?_ _ | refine blk_drew ?_ | refine blk_alloc ?_ _)); refine blk_far ?_ NB820_892.out _; (with_reducible repeat (first | refine blk_drewN ?_ _ | refine blk_drew ?_ | refine blk_alloc ?_ _)); refine blk_far ?_ NB820_892.out _; (with_reducible repeat (first | refine blk_drewN ?_ _ | refine blk_drew ?_ | refine blk_alloc ?_ _)); exact BK820.out⟩
          have n5_ : Aside0 (((w192.setCell ⟨gb892, 0, none⟩ (.int .i64 t890)).setCell ⟨gb892, 1, none⟩ (.int .i64 t891)).heap[gb886]? = some (.cells #[.int .i64 t883, .int .i64 t884] 25 (0, 0))) := ⟨by (with_reducible repeat (first | refine blk_drewN ?_ _ | refine blk_drew ?_ | refine blk_alloc ?_ _)); refine blk_far ?_ NB886_892.out _; (with_reducible repeat (first | refine blk_drewN ?_ _ | refine blk_drew ?_ | refine blk_alloc ?_ _)); refine blk_far ?_ NB886_892.out _; (with_reducible repeat (first | refine blk_drewN ?_ _ | refine blk_drew ?_ | refine blk_alloc ?_ _)); exact BK886.out⟩
          have n6_ : Aside0 (((w192.setCell ⟨gb892, 0, none⟩ (.int .i64 t890)).setCell ⟨gb892, 1, none⟩ (.int .i64 t891)).heap[gb889]? = some (.cells #[.int .i64 t887, .int .i64 t888] 25 (0, 0))) := ⟨by (with_reducible repeat (first | refine blk_drewN ?_ _ | refine blk_drew ?_ | refine blk_alloc ?_ _)); refine blk_far ?_ NB889_892.out _; (with_reducible repeat (first | refine blk_drewN ?_ _ | refine blk_drew ?_ | refine blk_alloc ?_ _)); refine blk_far ?_ NB889_892.out _; (with_reducible repeat (first | refine blk_drewN ?_ _ | refine blk_drew ?_ | refine blk_alloc ?_ _)); exact BK889.out⟩
          have n7_ : Aside0 (((w192.setCell ⟨gb892, 0, none⟩ (.int .i64 t890)).setCell ⟨gb892, 1, none⟩ (.int .i64 t891)).heap[gb892]? = some (.cells #[.int .i64 t890, .int .i64 t891] 25 (0, 0))) := ⟨by (with_reducible repeat (first | refine blk_drewN ?_ _ | refine blk_drew ?_ | refine blk_alloc ?_ _)); refine blk_put (cs := #[.int .i64 t890, .int .i64 0]) ?_ 1 _ rfl; (with_reducible repeat (first | refine blk_drewN ?_ _ | refine blk_drew ?_ | refine blk_alloc ?_ _)); refine blk_put (cs := #[.int .i64 0, .int .i64 0]) ?_ 0 _ rfl; (with_reducible repeat (first | refine blk_drewN ?_ _ | refine blk_drew ?_ | refine blk_alloc ?_ _)); exact BK892.out⟩
          have n8_ : Aside0 (Below w.heap.size w ((w192.setCell ⟨gb892, 0, none⟩ (.int .i64 t890)).setCell ⟨gb892, 1, none⟩ (.int .i64 t891))) := ⟨bv4_ HB GE820 GE886 GE889 GE892⟩
          (try clear HO824)
          (try clear HO827)
          (try clear HO831)
          (try clear HO835)
          (try clear BK820)
          (try clear BK886)
          (try clear BK889)
          (try clear BK892)
          (try clear HB)
          generalize ((w192.setCell ⟨gb892, 0, none⟩ (.int .i64 t890)).setCell ⟨gb892, 1, none⟩ (.int .i64 t891)) = w197 at n0_ n1_ n2_ n3_ n4_ n5_ n6_ n7_ n8_ ⊢
          have HO824 := n0_
          have HO827 := n1_
          have HO831 := n2_
          have HO835 := n3_
          have BK820 := n4_
          have BK886 := n5_
          have BK889 := n6_
          have BK892 := n7_
          have HB := n8_
          clear n0_ n1_ n2_ n3_ n4_ n5_ n6_ n7_ n8_
          replace HO824 := Aside0.mk (Kd.R_drew HO824.out)
          replace HO827 := Aside0.mk (Kd.R_drew HO827.out)
          replace HO831 := Aside0.mk (Kd.R_drew HO831.out)
          replace HO835 := Aside0.mk (Kd.R_drew HO835.out)
          replace BK820 := Aside0.mk (blk_drew BK820.out)
          replace BK886 := Aside0.mk (blk_drew BK886.out)
          replace BK889 := Aside0.mk (blk_drew BK889.out)
          replace BK892 := Aside0.mk (blk_drew BK892.out)
          replace HB := Aside0.mk (below_drew1 HB.out)
          refine start_ (n := 22) (S := fun w' => w'.cell? ⟨gb886, 0, none⟩ = some (.int .i64 t883) ∧ w'.cell? ⟨gb886, 1, none⟩ = some (.int .i64 t884) ∧ w'.cell? ⟨gb889, 0, none⟩ = some (.int .i64 t887) ∧ w'.cell? ⟨gb889, 1, none⟩ = some (.int .i64 t888) ∧ w'.cell? ⟨gb892, 0, none⟩ = some (.int .i64 t890) ∧ w'.cell? ⟨gb892, 1, none⟩ = some (.int .i64 t891)) (ds := []) (bs 22 0) (by kernel_rfl) rfl (by kernel_rfl) ⟨(blk_cell BK886.out 0).trans rfl, (blk_cell BK886.out 1).trans rfl, (blk_cell BK889.out 0).trans rfl, (blk_cell BK889.out 1).trans rfl, (blk_cell BK892.out 0).trans rfl, (blk_cell BK892.out 1).trans rfl⟩ (fun hHeld => ?_); refine with_tabW laws_FnInfluences.tab28 laws_FnInfluences.bits28 (fun HT_ HW_ => ?_)
          generalize w197.drew = w198 at HO824 HO827 HO831 HO835 BK820 BK886 BK889 BK892 HB hHeld ⊢
          refine pu_ HT_ 1 151 (bs 22 2) ?_
          refine pu_ HT_ 4 154 (bs 22 18) ?_
          refine ta6_ HT_ HW_ 0 150 (bs 22 19) hHeld ?_
          refine ta6_ HT_ HW_ 3 153 (bs 22 27) hHeld ?_
          refine on_ HT_ 2 152 (bs 22 31) (fun K hK => ?_)
          refine goes_ Try.func18 (by kernel_rfl) rfl #[.agg #[.int .i64 t883, .int .i64 t884], .int .i64 t885] (by rfl) rfl rfl mp_ ?_
          with_reducible refine (impl_InfluenceOf.calls k t883 t884 t885 t893 _ A154.out).mono ?_
          rintro e w199 ⟨rfl, hb⟩
          refine ⟨_, rfl, ?_⟩
          replace HO824 := Aside0.mk (Kd.R_below (rv_ HO824) hb)
          replace HO827 := Aside0.mk (Kd.R_below (rv_ HO827) hb)
          replace HO831 := Aside0.mk (Kd.R_below (rv_ HO831) hb)
          replace HO835 := Aside0.mk (Kd.R_below (rv_ HO835) hb)
          replace BK820 := Aside0.mk (blk_below (g := gb820) (o := .cells #[.int .i64 t818, .int .i64 t819] 25 (0, 0)) (kv_ BK820) hb)
          replace BK886 := Aside0.mk (blk_below (g := gb886) (o := .cells #[.int .i64 t883, .int .i64 t884] 25 (0, 0)) (kv_ BK886) hb)
          replace BK889 := Aside0.mk (blk_below (g := gb889) (o := .cells #[.int .i64 t887, .int .i64 t888] 25 (0, 0)) (kv_ BK889) hb)
          replace BK892 := Aside0.mk (blk_below (g := gb892) (o := .cells #[.int .i64 t890, .int .i64 t891] 25 (0, 0)) (kv_ BK892) hb)
          replace HB := Aside0.mk (below_step (bv4_ HB GE820 GE886 GE889 GE892) hb)
          (try clear hb)
          (try clear hb2)
          (try clear hk)
          (try clear hi)
          refine hK.out _ _ ⟨(blk_cell BK886.out 0).trans rfl, (blk_cell BK886.out 1).trans rfl, (blk_cell BK889.out 0).trans rfl, (blk_cell BK889.out 1).trans rfl, (blk_cell BK892.out 0).trans rfl, (blk_cell BK892.out 1).trans rfl⟩ (fun hHeld => ?_)
          clear hK K
          refine no_ 152 ?_
          refine on_ HT_ 5 155 (bs 22 63) (fun K hK => ?_)
          refine goes_ Try.func24 (by kernel_rfl) rfl #[.agg #[.int .i64 t883, .int .i64 t884], .int .i64 t885] (by rfl) rfl rfl mp_ ?_
          with_reducible refine (spec_InfluenceOf.calls k t883 t884 t885 t894 _ A155.out).mono ?_
          rintro e w200 ⟨rfl, hb⟩
          refine ⟨_, rfl, ?_⟩
          replace HO824 := Aside0.mk (Kd.R_below (rv_ HO824) hb)
          replace HO827 := Aside0.mk (Kd.R_below (rv_ HO827) hb)
          replace HO831 := Aside0.mk (Kd.R_below (rv_ HO831) hb)
          replace HO835 := Aside0.mk (Kd.R_below (rv_ HO835) hb)
          replace BK820 := Aside0.mk (blk_below (g := gb820) (o := .cells #[.int .i64 t818, .int .i64 t819] 25 (0, 0)) (kv_ BK820) hb)
          replace BK886 := Aside0.mk (blk_below (g := gb886) (o := .cells #[.int .i64 t883, .int .i64 t884] 25 (0, 0)) (kv_ BK886) hb)
          replace BK889 := Aside0.mk (blk_below (g := gb889) (o := .cells #[.int .i64 t887, .int .i64 t888] 25 (0, 0)) (kv_ BK889) hb)
          replace BK892 := Aside0.mk (blk_below (g := gb892) (o := .cells #[.int .i64 t890, .int .i64 t891] 25 (0, 0)) (kv_ BK892) hb)
          replace HB := Aside0.mk (below_step (bv4_ HB GE820 GE886 GE889 GE892) hb)
          (try clear hb)
          (try clear hb2)
          (try clear hk)
          (try clear hi)
          refine hK.out _ _ ⟨(blk_cell BK886.out 0).trans rfl, (blk_cell BK886.out 1).trans rfl, (blk_cell BK889.out 0).trans rfl, (blk_cell BK889.out 1).trans rfl, (blk_cell BK892.out 0).trans rfl, (blk_cell BK892.out 1).trans rfl⟩ (fun hHeld => ?_)
          clear hK K
          refine no_ 155 ?_
          refine pu_ HT_ 6 156 (bs 22 127) ?_
          refine pu_ HT_ 7 157 (bs 22 255) ?_
          refine ta6_ HT_ HW_ 8 158 (bs 22 511) hHeld ?_
          refine ta6_ HT_ HW_ 10 160 (bs 22 1535) hHeld ?_
          refine on_ HT_ 9 159 (bs 22 2047) (fun K hK => ?_)
          refine goes_ Try.func16 (by kernel_rfl) rfl #[.agg #[.int .i64 t887, .int .i64 t888]] (by rfl) rfl rfl mp_ ?_
          with_reducible refine (impl_MostInfluential.calls k t887 t888 t895 _ A157.out).mono ?_
          rintro e w201 ⟨rfl, hb⟩
          refine ⟨_, rfl, ?_⟩
          replace HO824 := Aside0.mk (Kd.R_below (rv_ HO824) hb)
          replace HO827 := Aside0.mk (Kd.R_below (rv_ HO827) hb)
          replace HO831 := Aside0.mk (Kd.R_below (rv_ HO831) hb)
          replace HO835 := Aside0.mk (Kd.R_below (rv_ HO835) hb)
          replace BK820 := Aside0.mk (blk_below (g := gb820) (o := .cells #[.int .i64 t818, .int .i64 t819] 25 (0, 0)) (kv_ BK820) hb)
          replace BK886 := Aside0.mk (blk_below (g := gb886) (o := .cells #[.int .i64 t883, .int .i64 t884] 25 (0, 0)) (kv_ BK886) hb)
          replace BK889 := Aside0.mk (blk_below (g := gb889) (o := .cells #[.int .i64 t887, .int .i64 t888] 25 (0, 0)) (kv_ BK889) hb)
          replace BK892 := Aside0.mk (blk_below (g := gb892) (o := .cells #[.int .i64 t890, .int .i64 t891] 25 (0, 0)) (kv_ BK892) hb)
          replace HB := Aside0.mk (below_step (bv4_ HB GE820 GE886 GE889 GE892) hb)
          (try clear hb)
          (try clear hb2)
          (try clear hk)
          (try clear hi)
          refine hK.out _ _ ⟨(blk_cell BK886.out 0).trans rfl, (blk_cell BK886.out 1).trans rfl, (blk_cell BK889.out 0).trans rfl, (blk_cell BK889.out 1).trans rfl, (blk_cell BK892.out 0).trans rfl, (blk_cell BK892.out 1).trans rfl⟩ (fun hHeld => ?_)
          clear hK K
          refine no_ 159 ?_
          refine on_ HT_ 11 161 (bs 22 4095) (fun K hK => ?_)
          refine goes_ Try.func17 (by kernel_rfl) rfl #[.agg #[.int .i64 t887, .int .i64 t888]] (by rfl) rfl rfl mp_ ?_
          with_reducible refine (spec_MostInfluential.calls k t887 t888 t896 _ A158.out).mono ?_
          rintro e w202 ⟨rfl, hb⟩
          refine ⟨_, rfl, ?_⟩
          replace HO824 := Aside0.mk (Kd.R_below (rv_ HO824) hb)
          replace HO827 := Aside0.mk (Kd.R_below (rv_ HO827) hb)
          replace HO831 := Aside0.mk (Kd.R_below (rv_ HO831) hb)
          replace HO835 := Aside0.mk (Kd.R_below (rv_ HO835) hb)
          replace BK820 := Aside0.mk (blk_below (g := gb820) (o := .cells #[.int .i64 t818, .int .i64 t819] 25 (0, 0)) (kv_ BK820) hb)
          replace BK886 := Aside0.mk (blk_below (g := gb886) (o := .cells #[.int .i64 t883, .int .i64 t884] 25 (0, 0)) (kv_ BK886) hb)
          replace BK889 := Aside0.mk (blk_below (g := gb889) (o := .cells #[.int .i64 t887, .int .i64 t888] 25 (0, 0)) (kv_ BK889) hb)
          replace BK892 := Aside0.mk (blk_below (g := gb892) (o := .cells #[.int .i64 t890, .int .i64 t891] 25 (0, 0)) (kv_ BK892) hb)
          replace HB := Aside0.mk (below_step (bv4_ HB GE820 GE886 GE889 GE892) hb)
          (try clear hb)
          (try clear hb2)
          (try clear hk)
          (try clear hi)
          refine hK.out _ _ ⟨(blk_cell BK886.out 0).trans rfl, (blk_cell BK886.out 1).trans rfl, (blk_cell BK889.out 0).trans rfl, (blk_cell BK889.out 1).trans rfl, (blk_cell BK892.out 0).trans rfl, (blk_cell BK892.out 1).trans rfl⟩ (fun hHeld => ?_)
          clear hK K
          refine no_ 161 ?_
          refine pu_ HT_ 12 162 (bs 22 8191) ?_
          refine pu_ HT_ 13 163 (bs 22 16383) ?_
          refine pu_ HT_ 14 164 (bs 22 32767) ?_
          refine ta6_ HT_ HW_ 15 165 (bs 22 65535) hHeld ?_
          refine ta6_ HT_ HW_ 17 167 (bs 22 196607) hHeld ?_
          refine on_ HT_ 16 166 (bs 22 262143) (fun K hK => ?_)
          refine goes_ Try.func14 (by kernel_rfl) rfl #[.agg #[.int .i64 t890, .int .i64 t891]] (by rfl) rfl rfl mp_ ?_
          with_reducible refine (impl_VarianceOf.calls t890 t891 t897 _ A160.out).mono ?_
          rintro e w203 ⟨rfl, hb⟩
          refine ⟨_, rfl, ?_⟩
          replace HO824 := Aside0.mk (Kd.R_below (rv_ HO824) hb)
          replace HO827 := Aside0.mk (Kd.R_below (rv_ HO827) hb)
          replace HO831 := Aside0.mk (Kd.R_below (rv_ HO831) hb)
          replace HO835 := Aside0.mk (Kd.R_below (rv_ HO835) hb)
          replace BK820 := Aside0.mk (blk_below (g := gb820) (o := .cells #[.int .i64 t818, .int .i64 t819] 25 (0, 0)) (kv_ BK820) hb)
          replace BK886 := Aside0.mk (blk_below (g := gb886) (o := .cells #[.int .i64 t883, .int .i64 t884] 25 (0, 0)) (kv_ BK886) hb)
          replace BK889 := Aside0.mk (blk_below (g := gb889) (o := .cells #[.int .i64 t887, .int .i64 t888] 25 (0, 0)) (kv_ BK889) hb)
          replace BK892 := Aside0.mk (blk_below (g := gb892) (o := .cells #[.int .i64 t890, .int .i64 t891] 25 (0, 0)) (kv_ BK892) hb)
          replace HB := Aside0.mk (below_step (bv4_ HB GE820 GE886 GE889 GE892) hb)
          (try clear hb)
          (try clear hb2)
          (try clear hk)
          (try clear hi)
          refine hK.out _ _ ⟨(blk_cell BK886.out 0).trans rfl, (blk_cell BK886.out 1).trans rfl, (blk_cell BK889.out 0).trans rfl, (blk_cell BK889.out 1).trans rfl, (blk_cell BK892.out 0).trans rfl, (blk_cell BK892.out 1).trans rfl⟩ (fun hHeld => ?_)
          clear hK K
          refine no_ 166 ?_
          refine on_ HT_ 18 168 (bs 22 524287) (fun K hK => ?_)
          refine goes_ Try.func15 (by kernel_rfl) rfl #[.agg #[.int .i64 t890, .int .i64 t891]] (by rfl) rfl rfl mp_ ?_
          with_reducible refine (spec_VarianceOf.calls k t890 t891 t898 _ A161.out).mono ?_
          rintro e w204 ⟨rfl, hb⟩
          refine ⟨_, rfl, ?_⟩
          replace HO824 := Aside0.mk (Kd.R_below (rv_ HO824) hb)
          replace HO827 := Aside0.mk (Kd.R_below (rv_ HO827) hb)
          replace HO831 := Aside0.mk (Kd.R_below (rv_ HO831) hb)
          replace HO835 := Aside0.mk (Kd.R_below (rv_ HO835) hb)
          replace BK820 := Aside0.mk (blk_below (g := gb820) (o := .cells #[.int .i64 t818, .int .i64 t819] 25 (0, 0)) (kv_ BK820) hb)
          replace BK886 := Aside0.mk (blk_below (g := gb886) (o := .cells #[.int .i64 t883, .int .i64 t884] 25 (0, 0)) (kv_ BK886) hb)
          replace BK889 := Aside0.mk (blk_below (g := gb889) (o := .cells #[.int .i64 t887, .int .i64 t888] 25 (0, 0)) (kv_ BK889) hb)
          replace BK892 := Aside0.mk (blk_below (g := gb892) (o := .cells #[.int .i64 t890, .int .i64 t891] 25 (0, 0)) (kv_ BK892) hb)
          replace HB := Aside0.mk (below_step (bv4_ HB GE820 GE886 GE889 GE892) hb)
          (try clear hb)
          (try clear hb2)
          (try clear hk)
          (try clear hi)
          refine hK.out _ _ ⟨(blk_cell BK886.out 0).trans rfl, (blk_cell BK886.out 1).trans rfl, (blk_cell BK889.out 0).trans rfl, (blk_cell BK889.out 1).trans rfl, (blk_cell BK892.out 0).trans rfl, (blk_cell BK892.out 1).trans rfl⟩ (fun hHeld => ?_)
          clear hK K
          refine no_ 168 ?_
          refine pu_ HT_ 19 169 (bs 22 1048575) ?_
          refine pu_ HT_ 20 170 (bs 22 2097151) ?_
          refine pu_ HT_ 21 2 (bs 22 4194303) ?_
          refine done_ (done_of HT_.out (by kernel_rfl)) ?_
          try go_wp2
          go_ret
          exact ⟨by first | rfl | (simp [errW_none, errW_some] <;> rfl) | (simp [*, errW_none, errW_some] <;> rfl), bv4_ HB GE820 GE886 GE889 GE892⟩
         ·rw [if_neg c159] at H
          exact absurd H (by simp)
        ·rw [if_neg c156] at H
         exact absurd H (by simp)
      ·rw [if_neg c21] at H
       exact absurd H (by simp)
     ·rw [if_neg c18] at H
      exact absurd H (by simp)
    ·replace c15 := Bool.eq_false_iff.mpr c15
     subst c15
     have H1 : (none) = some r := by rw [if_neg (show ¬ (false = true) by decide)] at H; exact H
     clear H
     have H := H1
     clear H1
     exact absurd H (by simp)
   ·replace c12 := Bool.eq_false_iff.mpr c12
    subst c12
    have H1 : (none) = some r := by rw [if_neg (show ¬ (false = true) by decide)] at H; exact H
    clear H
    have H := H1
    clear H1
    exact absurd H (by simp)
  ·rw [if_neg c9] at H
   exact absurd H (by simp)

/-- THE ONE PURE STATEMENT of laws_FnInfluences: yours. -/
def laws_FnInfluences.Pure : Prop := ∀ (l0 : List Int), l0.length ≤ maxLen → l0.length * 1 ≤ 140737488351232 → (∀ x ∈ l0, (Lit.int .u8 x).wf = true) → ∃ k, laws_FnInfluences.f k l0 = some true
theorem laws_FnInfluences.walk (P : laws_FnInfluences.Pure) (a0 : Option Addr) (len0 cap0 : Nat) (z0 : List Int) (w : World) (w0 : (a0 = none ∧ len0 = 0 ∧ cap0 = 0 ∧ z0 = []) ∨ ∃ x, a0 = some x ∧ len0 ≤ cap0 ∧ cap0 ≤ maxLen ∧ z0.length = cap0 ∧ (∀ i, i < z0.length → w.cell? (x.add i) = some (.int .u8 (z0.getD i 0))) ∧ ∀ n ∈ z0, (Lit.int .u8 n).wf = true) (y0 : len0 * 1 ≤ 140737488351232) :
  Calls Try.prog 3 #[.slice a0 len0 cap0] w fun e w' => e = .returned (.bool true) ∧ Below w.heap.size w w' := by
 obtain ⟨l0, rfl, hr0, hm0, hw0, hc0⟩ := ReadsInt.ofRowC w0
 obtain ⟨k, h⟩ := P l0 hm0 y0 hw0
 refine (laws_FnInfluences.calls k _ _ l0 true w (Kd.C_of_reads (d := (0 : Int)) (h1 := fun _ => rfl) hr0) hc0 h).mono ?_
 rintro e w' ⟨rfl, hd⟩
 exact ⟨rfl, hd⟩

end Go.Proofs.Ytplnffhjpmnifaa.P
