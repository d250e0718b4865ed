-- Out of the translation, by this session's program over the printer's; Lean checks it.
import Derived.Test.YteljkpglgjjnlaaSh
import Derived.Test.YteljkpglgjjnlaaQ0
import Derived.Test.YteljkpglgjjnlaaQ3
import Derived.Test.YteljkpglgjjnlaaQ6
import Derived.Test.YteljkpglgjjnlaaQ9
import Derived.Test.YteljkpglgjjnlaaQ10
import Derived.Test.YteljkpglgjjnlaaQ11
import Derived.Test.YteljkpglgjjnlaaQ13
import Derived.Test.YteljkpglgjjnlaaQ14
namespace Go.Proofs.Yteljkpglgjjnlaa.P
open Go.RowKit Go.Proofs.YteljkpglgjjnlaaW.PrintWords Go.Proofs.YteljkpglgjjnlaaW.PrintLast Go.Proofs.YteljkpglgjjnlaaW.PrintMore
attribute [local go_sem] max2_int min2_int max_two min_two max_three min_three max_four min_four
set_option linter.unusedVariables false
set_option linter.unusedSimpArgs false

/-! ### laws_FnClasses: function 4 -/
def laws_FnClasses.f (k : Nat) (l0 : List Int) : Option (Bool) := (laws_big.f l0).bind fun t1138 => (if t1138 = true then (some true) else ((spec_DrawCanonicalTable.f k l0).bind fun bt1139 => ((impl_CanonicalTable.f bt1139.1 bt1139.2).bind fun bt1142 => ((spec_CanonicalTable.f k bt1139.1 bt1139.2).bind fun bt1146 => (if (!(bt1142.1 == bt1146.1) || (!(bt1142.2.1 == bt1146.2.1))) = true then (none) else (if (bt1142.2.2 != bt1146.2.2) = true then (none) else ((impl_SymmetriesOf.f bt1139.1 bt1139.2).bind fun t1150 => ((spec_SymmetriesOf.f k bt1139.1 bt1139.2).bind fun t1151 => (if t1150 = t1151 then ((impl_ClassSize.f bt1139.1 bt1139.2).bind fun t1152 => ((spec_ClassSize.f k bt1139.1 bt1139.2).bind fun t1153 => (if t1152 = t1153 then (if bt1142.2.2 = true then ((impl_PermutationsOf.f bt1139.1).bind fun bt1154 => ((laws_at.f l0 3).bind fun t1158 => (if (bt1154.1.length : Int) = 0 then (none) else (((if 0 ≤ (Int.tmod t1158 (bt1154.1.length : Int)) then spec_PermuteTable.f k bt1139.1 bt1139.2 (rd_L2 bt1154.1 (Int.tmod t1158 (bt1154.1.length : Int))) else none)).bind fun bt1159 => ((laws_at.f l0 4).bind fun t1163 => (if 0 ≤ bt1139.1 then (if (shl .i64 1 bt1139.1) = 0 then (none) else ((spec_ShiftTable.f k bt1159.1 bt1159.2.1 (Int.tmod t1163 (shl .i64 1 bt1139.1))).bind fun bt1164 => ((spec_NotTable.f bt1164.1 bt1164.2.1).bind fun bt1168 => ((impl_CanonicalTable.f bt1164.1 bt1164.2.1).bind fun bt1172 => ((impl_CanonicalTable.f bt1168.1 bt1168.2.1).bind fun bt1176 => (if (!(bt1172.1 == bt1146.1) || (!(bt1172.2.1 == bt1146.2.1))) = true then (none) else (if (!(bt1176.1 == bt1146.1) || (!(bt1176.2.1 == bt1146.2.1))) = true then (none) else ((impl_AreAlike.f bt1139.1 bt1139.2 bt1168.1 bt1168.2.1).bind fun t1180 => (if t1180 = true then ((impl_ClassSize.f bt1139.1 bt1139.2).bind fun t1181 => ((impl_SymmetriesOf.f bt1139.1 bt1139.2).bind fun t1182 => (if (wrap64 (t1181 * t1182)) = (wrap64 ((shl .i64 2 bt1139.1) * (bt1154.1.length : Int))) then ((impl_LeastAverage.f bt1139.1 bt1139.2).bind fun t1183 => ((impl_LeastAverage.f bt1164.1 bt1164.2.1).bind fun t1184 => (if t1183 = t1184 then (if bt1146.2.1 > bt1139.2 then (none) else ((spec_DrawAreAlike.f k l0).bind fun bt1185 => ((spec_DrawCountTableClasses.f k l0).bind fun t1191 => ((spec_DrawPermutationsOf.f k l0).bind fun t1192 => ((impl_PermutationsOf.f t1192).bind fun bt1193 => ((spec_PermutationsOf.f k t1192).bind fun bt1197 => ((impl_AreAlike.f bt1185.1 bt1185.2.1 bt1185.2.2.1 bt1185.2.2.2).bind fun t1201 => ((spec_AreAlike.f k bt1185.1 bt1185.2.1 bt1185.2.2.1 bt1185.2.2.2).bind fun t1202 => (if (t1201 == t1202) = true then ((impl_CountTableClasses.f t1191).bind fun t1203 => ((spec_CountTableClasses.f k t1191).bind fun t1204 => (if t1203 = t1204 then (if (bt1193.2 == bt1197.2) = true then ((laws_sameLists.f k bt1193.1 bt1197.1).bind fun t1205 => (some t1205)) else (none)) else (none)))) else (none)))))))))) else (none)))) else (none)))) else (none)))))))))) else (none))))))) else ((spec_DrawAreAlike.f k l0).bind fun bt1206 => ((spec_DrawCountTableClasses.f k l0).bind fun t1212 => ((spec_DrawPermutationsOf.f k l0).bind fun t1213 => ((impl_PermutationsOf.f t1213).bind fun bt1214 => ((spec_PermutationsOf.f k t1213).bind fun bt1218 => ((impl_AreAlike.f bt1206.1 bt1206.2.1 bt1206.2.2.1 bt1206.2.2.2).bind fun t1222 => ((spec_AreAlike.f k bt1206.1 bt1206.2.1 bt1206.2.2.1 bt1206.2.2.2).bind fun t1223 => (if (t1222 == t1223) = true then ((impl_CountTableClasses.f t1212).bind fun t1224 => ((spec_CountTableClasses.f k t1212).bind fun t1225 => (if t1224 = t1225 then (if (bt1214.2 == bt1218.2) = true then ((laws_sameLists.f k bt1214.1 bt1218.1).bind fun t1226 => (some t1226)) else (none)) else (none)))) else (none)))))))))) else (none)))) else (none))))))))))
theorem laws_FnClasses.mono : ∀ a0 k, LeO (laws_FnClasses.f k a0) (laws_FnClasses.f (k + 1) a0) := by
 intro a0 k
 unfold laws_FnClasses.f
 repeat' first
   | (with_reducible exact laws_sameLists.mono _ _ _)
   | (with_reducible exact spec_AreAlike.mono _ _ _ _ _)
   | (with_reducible exact spec_CanonicalTable.mono _ _ _)
   | (with_reducible exact spec_ClassSize.mono _ _ _)
   | (with_reducible exact spec_CountTableClasses.mono _ _)
   | (with_reducible exact spec_DrawAreAlike.mono _ _)
   | (with_reducible exact spec_DrawCanonicalTable.mono _ _)
   | (with_reducible exact spec_DrawCountTableClasses.mono _ _)
   | (with_reducible exact spec_DrawPermutationsOf.mono _ _)
   | (with_reducible exact spec_PermutationsOf.mono _ _)
   | (with_reducible exact spec_ShiftTable.mono _ _ _ _)
   | (with_reducible exact spec_SymmetriesOf.mono _ _ _)
   | (with_reducible exact spec_PermuteTable.mono _ _ _ _)
   | (with_reducible exact LeO.refl _)
   | (with_reducible exact LeO.none _)
   | (with_reducible refine LeO.ite ?_ ?_)
   | (with_reducible refine LeO.bind ?_ (fun _ => ?_))
   | exact laws_sameLists.mono _ _ _
   | exact spec_AreAlike.mono _ _ _ _ _
   | exact spec_CanonicalTable.mono _ _ _
   | exact spec_ClassSize.mono _ _ _
   | exact spec_CountTableClasses.mono _ _
   | exact spec_DrawAreAlike.mono _ _
   | exact spec_DrawCanonicalTable.mono _ _
   | exact spec_DrawCountTableClasses.mono _ _
   | exact spec_DrawPermutationsOf.mono _ _
   | exact spec_PermutationsOf.mono _ _
   | exact spec_ShiftTable.mono _ _ _ _
   | exact spec_SymmetriesOf.mono _ _ _
   | exact LeO.none _
   | refine LeO.ite ?_ ?_
   | refine LeO.bind ?_ (fun _ => ?_)
def laws_FnClasses.T6 : Bool × List (List Nat × List Nat) := (true, [([], []), ([], []), ([0, 1], [0, 1]), ([2], [2]), ([3], [3]), ([3], [3]), ([4, 5, 3], [3, 4, 5]), ([3, 6], [3, 6]), ([7, 3], [7]), ([8], [8]), ([9, 8, 8], [8, 9]), ([8], [8]), ([11, 10, 8], [8, 11]), ([10, 12, 8], [8, 10, 12]), ([8, 13], [8, 13]), ([14, 12], [14]), ([15], [15]), ([16, 15, 15], [15, 16]), ([15], [15]), ([18, 17, 15], [15, 18]), ([17, 19, 15], [15, 17, 19]), ([15, 20], [15, 20])])
def laws_FnClasses.B6 : List Nat := [0, 0, 3, 7, 15, 15, 63, 127, 255, 511, 1023, 511, 4095, 8191, 16383, 32767, 65535, 131071, 65535, 524287, 1048575, 2097151]
theorem laws_FnClasses.tab6 : rtab .any (opsOf Try.f4 6) = laws_FnClasses.T6 := by kernel_rfl
theorem laws_FnClasses.bits6 : waitsOk laws_FnClasses.T6.2 laws_FnClasses.B6 = true := by kernel_rfl
def laws_FnClasses.T10 : Bool × List (List Nat × List Nat) := (true, [([], []), ([], []), ([], []), ([2], [2]), ([], []), ([4], [4]), ([3, 5], [3, 5]), ([1, 6], [1, 6]), ([7], [7]), ([0, 8, 3], [0, 8]), ([9], [9]), ([10], [10]), ([10], [10]), ([], []), ([13, 11, 9, 0, 1, 2, 3, 4, 5, 6, 7, 8, 9, 10, 11, 13], [11, 13]), ([12, 14, 0, 1, 2, 3, 4, 5, 6, 7, 8, 9, 10, 11, 12, 13, 14], [12])])
def laws_FnClasses.B10 : List Nat := [0, 0, 0, 4, 0, 16, 60, 126, 254, 511, 1023, 2047, 2047, 0, 12287, 32767]
theorem laws_FnClasses.tab10 : rtab .any (opsOf Try.f4 10) = laws_FnClasses.T10 := by kernel_rfl
theorem laws_FnClasses.bits10 : waitsOk laws_FnClasses.T10.2 laws_FnClasses.B10 = true := by kernel_rfl
def laws_FnClasses.T11 : Bool × List (List Nat × List Nat) := (true, [([], []), ([], []), ([1], [1]), ([], []), ([3], [3]), ([4], [4]), ([2, 5], [2, 5]), ([0, 6, 2], [0, 6]), ([7], [7]), ([8], [8]), ([8], [8]), ([], []), ([11, 9, 7, 0, 1, 2, 3, 4, 5, 6, 7, 8, 9, 11], [9, 11]), ([10, 12, 0, 1, 2, 3, 4, 5, 6, 7, 8, 9, 10, 11, 12], [10])])
def laws_FnClasses.B11 : List Nat := [0, 0, 2, 0, 8, 24, 62, 127, 255, 511, 511, 0, 3071, 8191]
theorem laws_FnClasses.tab11 : rtab .any (opsOf Try.f4 11) = laws_FnClasses.T11 := by kernel_rfl
theorem laws_FnClasses.bits11 : waitsOk laws_FnClasses.T11.2 laws_FnClasses.B11 = true := by kernel_rfl
def laws_FnClasses.T16 : Bool × List (List Nat × List Nat) := (true, [([], []), ([], []), ([0, 1], [0, 1]), ([2], [2]), ([3], [3]), ([3], [3]), ([4, 5, 3], [3, 4, 5]), ([3, 6], [3, 6]), ([7, 3], [7]), ([8], [8]), ([8], [8]), ([9, 10, 8, 8], [8, 9, 10]), ([11, 8], [8, 11]), ([8, 12], [8, 12]), ([13, 11], [13]), ([14], [14]), ([15, 14, 14], [14, 15]), ([14], [14]), ([17, 16, 14], [14, 17]), ([16, 18, 14], [14, 16, 18]), ([14], [14]), ([19, 20, 14], [14, 19, 20]), ([14, 21], [14, 21]), ([22, 18], [22]), ([23], [23]), ([24, 23, 23], [23, 24]), ([23], [23]), ([26, 25, 23], [23, 26]), ([25, 27, 23], [23, 25, 27]), ([23, 28], [23, 28]), ([29, 27], [29]), ([30], [30]), ([31, 30], [30, 31]), ([30], [30]), ([33, 30], [30, 33]), ([32, 34, 30], [30, 32, 34]), ([30, 35], [30, 35])])
def laws_FnClasses.B16 : List Nat := [0, 0, 3, 7, 15, 15, 63, 127, 255, 511, 511, 2047, 4095, 8191, 16383, 32767, 65535, 32767, 262143, 524287, 32767, 2097151, 4194303, 8388607, 16777215, 33554431, 16777215, 134217727, 268435455, 536870911, 1073741823, 2147483647, 4294967295, 2147483647, 10737418239, 34359738367, 68719476735]
theorem laws_FnClasses.tab16 : rtab .any (opsOf Try.f4 16) = laws_FnClasses.T16 := by kernel_rfl
theorem laws_FnClasses.bits16 : waitsOk laws_FnClasses.T16.2 laws_FnClasses.B16 = true := by kernel_rfl
def laws_FnClasses.T23 : Bool × List (List Nat × List Nat) := (true, [([], []), ([], []), ([0, 1], [0, 1]), ([], []), ([], []), ([3, 4, 2], [3, 4]), ([2, 5], [2, 5]), ([6, 5], [6]), ([7], [7]), ([8, 7, 7], [7, 8]), ([7], [7]), ([10, 9, 7], [7, 10]), ([9, 11, 7], [7, 9, 11]), ([7, 12], [7, 12]), ([13, 11], [13]), ([14], [14]), ([14], [14]), ([15, 16, 14], [14, 15, 16]), ([14, 17], [14, 17]), ([18, 14], [18]), ([19], [19]), ([19], [19]), ([20, 21, 19, 19], [19, 20, 21]), ([19, 22], [19, 22]), ([23, 22, 0, 1, 2, 3, 4, 5, 6, 7, 8, 9, 10, 11, 12, 13, 14, 15, 16, 17, 18, 19, 20, 21, 22, 23], [23])])
def laws_FnClasses.B23 : List Nat := [0, 0, 3, 0, 0, 31, 63, 127, 255, 511, 255, 2047, 4095, 8191, 16383, 32767, 32767, 131071, 262143, 524287, 1048575, 1048575, 4194303, 8388607, 16777215]
theorem laws_FnClasses.tab23 : rtab .any (opsOf Try.f4 23) = laws_FnClasses.T23 := by kernel_rfl
theorem laws_FnClasses.bits23 : waitsOk laws_FnClasses.T23.2 laws_FnClasses.B23 = true := by kernel_rfl
set_option maxHeartbeats 8000000 in
set_option maxRecDepth 100000 in
theorem laws_FnClasses.calls (k : Nat) (A0 : Option Addr) (c0 : Nat) (l0 : List Int) (r : Bool) (w : World) (hr0 : Kd.C (Kd.int .u8) w A0 l0.length l0) (hc0 : l0.length ≤ c0) (h : laws_FnClasses.f k l0 = some r) :
  Calls Try.prog 4 #[.slice A0 l0.length c0] w fun e w' => e = .returned (.bool r) ∧ Below w.heap.size w w' := by
 have hu25 := Try.underlying25
 have HR0 := Aside0.mk hr0
 have HC0 := Aside0.mk hc0
 clear hr0 hc0
 have HB := Aside0.mk (Below.refl w.heap.size w)
 have H : ((laws_big.f l0).bind fun t1138 => (if t1138 = true then (some true) else ((spec_DrawCanonicalTable.f k l0).bind fun bt1139 => ((impl_CanonicalTable.f bt1139.1 bt1139.2).bind fun bt1142 => ((spec_CanonicalTable.f k bt1139.1 bt1139.2).bind fun bt1146 => (if (!(bt1142.1 == bt1146.1) || (!(bt1142.2.1 == bt1146.2.1))) = true then (none) else (if (bt1142.2.2 != bt1146.2.2) = true then (none) else ((impl_SymmetriesOf.f bt1139.1 bt1139.2).bind fun t1150 => ((spec_SymmetriesOf.f k bt1139.1 bt1139.2).bind fun t1151 => (if t1150 = t1151 then ((impl_ClassSize.f bt1139.1 bt1139.2).bind fun t1152 => ((spec_ClassSize.f k bt1139.1 bt1139.2).bind fun t1153 => (if t1152 = t1153 then (if bt1142.2.2 = true then ((impl_PermutationsOf.f bt1139.1).bind fun bt1154 => ((laws_at.f l0 3).bind fun t1158 => (if (bt1154.1.length : Int) = 0 then (none) else (((if 0 ≤ (Int.tmod t1158 (bt1154.1.length : Int)) then spec_PermuteTable.f k bt1139.1 bt1139.2 (rd_L2 bt1154.1 (Int.tmod t1158 (bt1154.1.length : Int))) else none)).bind fun bt1159 => ((laws_at.f l0 4).bind fun t1163 => (if 0 ≤ bt1139.1 then (if (shl .i64 1 bt1139.1) = 0 then (none) else ((spec_ShiftTable.f k bt1159.1 bt1159.2.1 (Int.tmod t1163 (shl .i64 1 bt1139.1))).bind fun bt1164 => ((spec_NotTable.f bt1164.1 bt1164.2.1).bind fun bt1168 => ((impl_CanonicalTable.f bt1164.1 bt1164.2.1).bind fun bt1172 => ((impl_CanonicalTable.f bt1168.1 bt1168.2.1).bind fun bt1176 => (if (!(bt1172.1 == bt1146.1) || (!(bt1172.2.1 == bt1146.2.1))) = true then (none) else (if (!(bt1176.1 == bt1146.1) || (!(bt1176.2.1 == bt1146.2.1))) = true then (none) else ((impl_AreAlike.f bt1139.1 bt1139.2 bt1168.1 bt1168.2.1).bind fun t1180 => (if t1180 = true then ((impl_ClassSize.f bt1139.1 bt1139.2).bind fun t1181 => ((impl_SymmetriesOf.f bt1139.1 bt1139.2).bind fun t1182 => (if (wrap64 (t1181 * t1182)) = (wrap64 ((shl .i64 2 bt1139.1) * (bt1154.1.length : Int))) then ((impl_LeastAverage.f bt1139.1 bt1139.2).bind fun t1183 => ((impl_LeastAverage.f bt1164.1 bt1164.2.1).bind fun t1184 => (if t1183 = t1184 then (if bt1146.2.1 > bt1139.2 then (none) else ((spec_DrawAreAlike.f k l0).bind fun bt1185 => ((spec_DrawCountTableClasses.f k l0).bind fun t1191 => ((spec_DrawPermutationsOf.f k l0).bind fun t1192 => ((impl_PermutationsOf.f t1192).bind fun bt1193 => ((spec_PermutationsOf.f k t1192).bind fun bt1197 => ((impl_AreAlike.f bt1185.1 bt1185.2.1 bt1185.2.2.1 bt1185.2.2.2).bind fun t1201 => ((spec_AreAlike.f k bt1185.1 bt1185.2.1 bt1185.2.2.1 bt1185.2.2.2).bind fun t1202 => (if (t1201 == t1202) = true then ((impl_CountTableClasses.f t1191).bind fun t1203 => ((spec_CountTableClasses.f k t1191).bind fun t1204 => (if t1203 = t1204 then (if (bt1193.2 == bt1197.2) = true then ((laws_sameLists.f k bt1193.1 bt1197.1).bind fun t1205 => (some t1205)) else (none)) else (none)))) else (none)))))))))) else (none)))) else (none)))) else (none)))))))))) else (none))))))) else ((spec_DrawAreAlike.f k l0).bind fun bt1206 => ((spec_DrawCountTableClasses.f k l0).bind fun t1212 => ((spec_DrawPermutationsOf.f k l0).bind fun t1213 => ((impl_PermutationsOf.f t1213).bind fun bt1214 => ((spec_PermutationsOf.f k t1213).bind fun bt1218 => ((impl_AreAlike.f bt1206.1 bt1206.2.1 bt1206.2.2.1 bt1206.2.2.2).bind fun t1222 => ((spec_AreAlike.f k bt1206.1 bt1206.2.1 bt1206.2.2.1 bt1206.2.2.2).bind fun t1223 => (if (t1222 == t1223) = true then ((impl_CountTableClasses.f t1212).bind fun t1224 => ((spec_CountTableClasses.f k t1212).bind fun t1225 => (if t1224 = t1225 then (if (bt1214.2 == bt1218.2) = true then ((laws_sameLists.f k bt1214.1 bt1218.1).bind fun t1226 => (some t1226)) else (none)) else (none)))) else (none)))))))))) else (none)))) else (none))))))))))) = some r := h
 clear h
 replace H := Option.bind_eq_some_iff.mp H
 obtain ⟨t1138, A20, H⟩ := H
 have A2 := Aside0.mk A20
 clear A20
 by_cases c3 : t1138 = true
 ·subst c3
  rw [if_pos rfl] at H
  obtain rfl := Option.some.inj H
  go_enter Try.func4, Try.ntmps4
  go_wp2_with (first | ((with_reducible refine gate_callee (f := 8) rfl ?_); refine gl_ 30 Try.func8 #[.slice A0 l0.length c0] rfl mp_ ?_; (with_reducible refine (laws_big.calls _ _ l0 true _ ?side1 ?side2 A2.out).mono ?_); (case side1 => exact cv_ HR0.out); (case side2 => exact HC0.out); rintro e w' ⟨rfl, ⟨nd, rfl⟩⟩; refine ⟨_, rfl, ?_⟩))
  go_ret
  exact ⟨er_, bv_ HB⟩
 ·replace c3 := Bool.eq_false_iff.mpr c3
  subst c3
  rw [if_neg (show ¬ (false = true) by decide)] at H
  replace H := Option.bind_eq_some_iff.mp H
  obtain ⟨⟨t1139, t1140⟩, A40, H⟩ := H
  dsimp only at H
  have A4 := Aside0.mk A40
  clear A40
  replace H := Option.bind_eq_some_iff.mp H
  obtain ⟨⟨t1142, t1143, t1144⟩, A50, H⟩ := H
  dsimp only at H
  have A5 := Aside0.mk A50
  clear A50
  replace H := Option.bind_eq_some_iff.mp H
  obtain ⟨⟨t1146, t1147, t1148⟩, A60, H⟩ := H
  dsimp only at H
  have A6 := Aside0.mk A60
  clear A60
  by_cases c7 : (!(t1142 == t1146) || (!(t1143 == t1147))) = true
  ·rw [if_pos c7] at H
   exact absurd H (by simp)
  ·rw [if_neg c7] at H
   have c7b0 : (!(t1142 == t1146) || (!(t1143 == t1147))) = false := by simpa using c7
   have c7e_ : t1142 = t1146 ∧ t1143 = t1147 := by simpa using c7b0
   have c7e0 : (t1142 = t1146) = True := eq_true c7e_.1
   have c7e1 : (t1143 = t1147) = True := eq_true c7e_.2
   clear c7e_
   clear c7
   by_cases c8 : (t1144 != t1148) = true
   ·rw [if_pos c8] at H
    exact absurd H (by simp)
   ·rw [if_neg c8] at H
    have c8b0 : (t1144 != t1148) = false := by simpa using c8
    (try (have c8b1 : decide (t1144 = t1148) = true := by simpa using c8))
    (try (have c8b2 : (t1144 == t1148) = true := by simpa using c8))
    clear c8
    replace H := Option.bind_eq_some_iff.mp H
    obtain ⟨t1150, A90, H⟩ := H
    have A9 := Aside0.mk A90
    clear A90
    replace H := Option.bind_eq_some_iff.mp H
    obtain ⟨t1151, A100, H⟩ := H
    have A10 := Aside0.mk A100
    clear A100
    by_cases c11 : t1150 = t1151
    ·rw [if_pos c11] at H
     have c11b0 : (t1150 == t1151) = true := beq_iff_eq.mpr c11
     have c11b1 : (t1150 != t1151) = false := bne_eq_false_iff_eq.mpr c11
     clear c11
     replace H := Option.bind_eq_some_iff.mp H
     obtain ⟨t1152, A120, H⟩ := H
     have A12 := Aside0.mk A120
     clear A120
     replace H := Option.bind_eq_some_iff.mp H
     obtain ⟨t1153, A130, H⟩ := H
     have A13 := Aside0.mk A130
     clear A130
     by_cases c14 : t1152 = t1153
     ·rw [if_pos c14] at H
      have c14b0 : (t1152 == t1153) = true := beq_iff_eq.mpr c14
      have c14b1 : (t1152 != t1153) = false := bne_eq_false_iff_eq.mpr c14
      clear c14
      by_cases c15 : t1144 = true
      ·subst c15
       rw [if_pos rfl] at H
       replace H := Option.bind_eq_some_iff.mp H
       obtain ⟨⟨t1154, t1157⟩, A160, H⟩ := H
       dsimp only at H
       have A16 := Aside0.mk A160
       clear A160
       replace H := Option.bind_eq_some_iff.mp H
       obtain ⟨t1158, A170, H⟩ := H
       have A17 := Aside0.mk A170
       clear A170
       by_cases c18 : (t1154.length : Int) = 0
       ·rw [if_pos c18] at H
        exact absurd H (by simp)
       ·rw [if_neg c18] at H
        have c18b0 : ((t1154.length : Int) == 0) = false := beq_eq_false_iff_ne.mpr c18
        have c18b1 : ((t1154.length : Int) != 0) = true := bne_iff_ne.mpr c18
        have c18b2 : ¬ (t1154 = []) := fun h_ => c18 (by rw [h_]; rfl)
        replace H := Option.bind_eq_some_iff.mp H
        obtain ⟨⟨t1159, t1160, t1161⟩, A190, H⟩ := H
        dsimp only at H
        have A19 := Aside0.mk A190
        clear A190
        replace H := Option.bind_eq_some_iff.mp H
        obtain ⟨t1163, A200, H⟩ := H
        have A20 := Aside0.mk A200
        clear A200
        by_cases c21 : 0 ≤ t1139
        ·rw [if_pos c21] at H
         have c21b0 := eq_true c21
         have c21b1 : decide (0 ≤ t1139) = true := decide_eq_true c21
         clear c21
         obtain ⟨ji22, hji22⟩ : ∃ j_ : Int, (shl .i64 1 t1139) = j_ := ⟨_, rfl⟩
         replace H : (if (ji22) = 0 then (none) else ((spec_ShiftTable.f k t1159 t1160 (Int.tmod t1163 (ji22))).bind fun bt1164 => ((spec_NotTable.f bt1164.1 bt1164.2.1).bind fun bt1168 => ((impl_CanonicalTable.f bt1164.1 bt1164.2.1).bind fun bt1172 => ((impl_CanonicalTable.f bt1168.1 bt1168.2.1).bind fun bt1176 => (if (!(bt1172.1 == t1146) || (!(bt1172.2.1 == t1147))) = true then (none) else (if (!(bt1176.1 == t1146) || (!(bt1176.2.1 == t1147))) = true then (none) else ((impl_AreAlike.f t1139 t1140 bt1168.1 bt1168.2.1).bind fun t1180 => (if t1180 = true then ((impl_ClassSize.f t1139 t1140).bind fun t1181 => ((impl_SymmetriesOf.f t1139 t1140).bind fun t1182 => (if (wrap64 (t1181 * t1182)) = (wrap64 ((shl .i64 2 t1139) * (t1154.length : Int))) then ((impl_LeastAverage.f t1139 t1140).bind fun t1183 => ((impl_LeastAverage.f bt1164.1 bt1164.2.1).bind fun t1184 => (if t1183 = t1184 then (if t1147 > t1140 then (none) else ((spec_DrawAreAlike.f k l0).bind fun bt1185 => ((spec_DrawCountTableClasses.f k l0).bind fun t1191 => ((spec_DrawPermutationsOf.f k l0).bind fun t1192 => ((impl_PermutationsOf.f t1192).bind fun bt1193 => ((spec_PermutationsOf.f k t1192).bind fun bt1197 => ((impl_AreAlike.f bt1185.1 bt1185.2.1 bt1185.2.2.1 bt1185.2.2.2).bind fun t1201 => ((spec_AreAlike.f k bt1185.1 bt1185.2.1 bt1185.2.2.1 bt1185.2.2.2).bind fun t1202 => (if (t1201 == t1202) = true then ((impl_CountTableClasses.f t1191).bind fun t1203 => ((spec_CountTableClasses.f k t1191).bind fun t1204 => (if t1203 = t1204 then (if (bt1193.2 == bt1197.2) = true then ((laws_sameLists.f k bt1193.1 bt1197.1).bind fun t1205 => (some t1205)) else (none)) else (none)))) else (none)))))))))) else (none)))) else (none)))) else (none)))))))))) = some r := by first | (rw [hji22] at H; exact H) | (simp only [hji22] at H ⊢; exact H)
         (try rw [hji22] at A2)
         (try rw [hji22] at A4)
         (try rw [hji22] at A5)
         (try rw [hji22] at A6)
         (try rw [hji22] at A9)
         (try rw [hji22] at A10)
         (try rw [hji22] at A12)
         (try rw [hji22] at A13)
         (try rw [hji22] at A16)
         (try rw [hji22] at A17)
         (try rw [hji22] at A19)
         (try rw [hji22] at A20)
         have hji22_ : (IntKind.i64.wrap (1 * 2 ^ min t1139.toNat 64)) = ji22 := hji22
         have hji22z : t1139 ≤ 64 → (IntKind.i64.wrap (1 * 2 ^ t1139.toNat)) = ji22 := shl_small hji22
         have hji22u : (IntKind.i64.wrap (2 ^ min t1139.toNat 64)) = ji22 := by have h_ := hji22_; rw [Int.one_mul] at h_; exact h_
         have hji22v : t1139 ≤ 64 → (IntKind.i64.wrap (2 ^ t1139.toNat)) = ji22 := fun hle_ => by have h_ := hji22z hle_; rw [Int.one_mul] at h_; exact h_
         have hji22y : (wrap64 (1 * 2 ^ min t1139.toNat 64)) = ji22 := (i64_w _).symm.trans hji22_
         have hji22x : t1139 ≤ 64 → (wrap64 (1 * 2 ^ t1139.toNat)) = ji22 := fun h_ => (i64_w _).symm.trans (hji22z h_)
         by_cases c23 : (ji22) = 0
         ·rw [if_pos c23] at H
          exact absurd H (by simp)
         ·rw [if_neg c23] at H
          have c23b0 : ((ji22) == 0) = false := beq_eq_false_iff_ne.mpr c23
          have c23b1 : ((ji22) != 0) = true := bne_iff_ne.mpr c23
          replace H := Option.bind_eq_some_iff.mp H
          obtain ⟨⟨t1164, t1165, t1166⟩, A240, H⟩ := H
          dsimp only at H
          have A24 := Aside0.mk A240
          clear A240
          replace H := Option.bind_eq_some_iff.mp H
          obtain ⟨⟨t1168, t1169, t1170⟩, A250, H⟩ := H
          dsimp only at H
          have A25 := Aside0.mk A250
          clear A250
          replace H := Option.bind_eq_some_iff.mp H
          obtain ⟨⟨t1172, t1173, t1174⟩, A260, H⟩ := H
          dsimp only at H
          have A26 := Aside0.mk A260
          clear A260
          replace H := Option.bind_eq_some_iff.mp H
          obtain ⟨⟨t1176, t1177, t1178⟩, A270, H⟩ := H
          dsimp only at H
          have A27 := Aside0.mk A270
          clear A270
          have c28b0 := eq_true (of_decide_eq_true (by first | (with_reducible assumption) | assumption) : 0 ≤ t1139)
          obtain ⟨ji29, hji29⟩ : ∃ j_ : Int, (shl .i64 2 t1139) = j_ := ⟨_, rfl⟩
          replace H : (if (!(t1172 == t1146) || (!(t1173 == t1147))) = true then (none) else (if (!(t1176 == t1146) || (!(t1177 == t1147))) = true then (none) else ((impl_AreAlike.f t1139 t1140 t1168 t1169).bind fun t1180 => (if t1180 = true then ((impl_ClassSize.f t1139 t1140).bind fun t1181 => ((impl_SymmetriesOf.f t1139 t1140).bind fun t1182 => (if (wrap64 (t1181 * t1182)) = (wrap64 ((ji29) * (t1154.length : Int))) then ((impl_LeastAverage.f t1139 t1140).bind fun t1183 => ((impl_LeastAverage.f t1164 t1165).bind fun t1184 => (if t1183 = t1184 then (if t1147 > t1140 then (none) else ((spec_DrawAreAlike.f k l0).bind fun bt1185 => ((spec_DrawCountTableClasses.f k l0).bind fun t1191 => ((spec_DrawPermutationsOf.f k l0).bind fun t1192 => ((impl_PermutationsOf.f t1192).bind fun bt1193 => ((spec_PermutationsOf.f k t1192).bind fun bt1197 => ((impl_AreAlike.f bt1185.1 bt1185.2.1 bt1185.2.2.1 bt1185.2.2.2).bind fun t1201 => ((spec_AreAlike.f k bt1185.1 bt1185.2.1 bt1185.2.2.1 bt1185.2.2.2).bind fun t1202 => (if (t1201 == t1202) = true then ((impl_CountTableClasses.f t1191).bind fun t1203 => ((spec_CountTableClasses.f k t1191).bind fun t1204 => (if t1203 = t1204 then (if (bt1193.2 == bt1197.2) = true then ((laws_sameLists.f k bt1193.1 bt1197.1).bind fun t1205 => (some t1205)) else (none)) else (none)))) else (none)))))))))) else (none)))) else (none)))) else (none))))) = some r := by first | (rw [hji29] at H; exact H) | (simp only [hji29] at H ⊢; exact H)
          (try rw [hji29] at A2)
          (try rw [hji29] at A4)
          (try rw [hji29] at A5)
          (try rw [hji29] at A6)
          (try rw [hji29] at A9)
          (try rw [hji29] at A10)
          (try rw [hji29] at A12)
          (try rw [hji29] at A13)
          (try rw [hji29] at A16)
          (try rw [hji29] at A17)
          (try rw [hji29] at A19)
          (try rw [hji29] at A20)
          (try rw [hji29] at A24)
          (try rw [hji29] at A25)
          (try rw [hji29] at A26)
          (try rw [hji29] at A27)
          have hji29_ : (IntKind.i64.wrap (2 * 2 ^ min t1139.toNat 64)) = ji29 := hji29
          have hji29z : t1139 ≤ 64 → (IntKind.i64.wrap (2 * 2 ^ t1139.toNat)) = ji29 := shl_small hji29
          have hji29y : (wrap64 (2 * 2 ^ min t1139.toNat 64)) = ji29 := (i64_w _).symm.trans hji29_
          have hji29x : t1139 ≤ 64 → (wrap64 (2 * 2 ^ t1139.toNat)) = ji29 := fun h_ => (i64_w _).symm.trans (hji29z h_)
          by_cases c30 : (!(t1172 == t1146) || (!(t1173 == t1147))) = true
          ·rw [if_pos c30] at H
           exact absurd H (by simp)
          ·rw [if_neg c30] at H
           have c30b0 : (!(t1172 == t1146) || (!(t1173 == t1147))) = false := by simpa using c30
           have c30e_ : t1172 = t1146 ∧ t1173 = t1147 := by simpa using c30b0
           have c30e0 : (t1172 = t1146) = True := eq_true c30e_.1
           have c30e1 : (t1173 = t1147) = True := eq_true c30e_.2
           clear c30e_
           clear c30
           by_cases c31 : (!(t1176 == t1146) || (!(t1177 == t1147))) = true
           ·rw [if_pos c31] at H
            exact absurd H (by simp)
           ·rw [if_neg c31] at H
            have c31b0 : (!(t1176 == t1146) || (!(t1177 == t1147))) = false := by simpa using c31
            have c31e_ : t1176 = t1146 ∧ t1177 = t1147 := by simpa using c31b0
            have c31e0 : (t1176 = t1146) = True := eq_true c31e_.1
            have c31e1 : (t1177 = t1147) = True := eq_true c31e_.2
            clear c31e_
            clear c31
            replace H := Option.bind_eq_some_iff.mp H
            obtain ⟨t1180, A320, H⟩ := H
            have A32 := Aside0.mk A320
            clear A320
            by_cases c33 : t1180 = true
            ·subst c33
             rw [if_pos rfl] at H
             replace H := Option.bind_eq_some_iff.mp H
             obtain ⟨t1181, A340, H⟩ := H
             have A34 := Aside0.mk A340
             clear A340
             replace H := Option.bind_eq_some_iff.mp H
             obtain ⟨t1182, A350, H⟩ := H
             have A35 := Aside0.mk A350
             clear A350
             by_cases c36 : (wrap64 (t1181 * t1182)) = (wrap64 ((ji29) * (t1154.length : Int)))
             ·rw [if_pos c36] at H
              have c36b0 : ((wrap64 (t1181 * t1182)) == (wrap64 ((ji29) * (t1154.length : Int)))) = true := beq_iff_eq.mpr c36
              have c36b1 : ((wrap64 (t1181 * t1182)) != (wrap64 ((ji29) * (t1154.length : Int)))) = false := bne_eq_false_iff_eq.mpr c36
              clear c36
              replace H := Option.bind_eq_some_iff.mp H
              obtain ⟨t1183, A370, H⟩ := H
              have A37 := Aside0.mk A370
              clear A370
              replace H := Option.bind_eq_some_iff.mp H
              obtain ⟨t1184, A380, H⟩ := H
              have A38 := Aside0.mk A380
              clear A380
              by_cases c39 : t1183 = t1184
              ·rw [if_pos c39] at H
               have c39b0 : (t1183 == t1184) = true := beq_iff_eq.mpr c39
               have c39b1 : (t1183 != t1184) = false := bne_eq_false_iff_eq.mpr c39
               clear c39
               by_cases c40 : t1147 > t1140
               ·rw [if_pos c40] at H
                exact absurd H (by simp)
               ·rw [if_neg c40] at H
                have c40b0 : decide (t1140 < t1147) = false := decide_eq_false c40
                clear c40
                replace H := Option.bind_eq_some_iff.mp H
                obtain ⟨⟨t1185, t1186, t1187, t1188⟩, A410, H⟩ := H
                dsimp only at H
                have A41 := Aside0.mk A410
                clear A410
                replace H := Option.bind_eq_some_iff.mp H
                obtain ⟨t1191, A420, H⟩ := H
                have A42 := Aside0.mk A420
                clear A420
                replace H := Option.bind_eq_some_iff.mp H
                obtain ⟨t1192, A430, H⟩ := H
                have A43 := Aside0.mk A430
                clear A430
                replace H := Option.bind_eq_some_iff.mp H
                obtain ⟨⟨t1193, t1196⟩, A440, H⟩ := H
                dsimp only at H
                have A44 := Aside0.mk A440
                clear A440
                replace H := Option.bind_eq_some_iff.mp H
                obtain ⟨⟨t1197, t1200⟩, A450, H⟩ := H
                dsimp only at H
                have A45 := Aside0.mk A450
                clear A450
                replace H := Option.bind_eq_some_iff.mp H
                obtain ⟨t1201, A460, H⟩ := H
                have A46 := Aside0.mk A460
                clear A460
                replace H := Option.bind_eq_some_iff.mp H
                obtain ⟨t1202, A470, H⟩ := H
                have A47 := Aside0.mk A470
                clear A470
                by_cases c48 : (t1201 == t1202) = true
                ·rw [if_pos c48] at H
                 have c48b0 : (t1201 == t1202) = true := c48
                 (try (have c48b1 : decide (t1201 = t1202) = true := by simpa using c48))
                 (try (have c48b2 : (t1201 == t1202) = true := by simpa using c48))
                 clear c48
                 replace H := Option.bind_eq_some_iff.mp H
                 obtain ⟨t1203, A490, H⟩ := H
                 have A49 := Aside0.mk A490
                 clear A490
                 replace H := Option.bind_eq_some_iff.mp H
                 obtain ⟨t1204, A500, H⟩ := H
                 have A50 := Aside0.mk A500
                 clear A500
                 by_cases c51 : t1203 = t1204
                 ·rw [if_pos c51] at H
                  have c51b0 : (t1203 == t1204) = true := beq_iff_eq.mpr c51
                  have c51b1 : (t1203 != t1204) = false := bne_eq_false_iff_eq.mpr c51
                  clear c51
                  by_cases c52 : (t1196 == t1200) = true
                  ·rw [if_pos c52] at H
                   have c52b0 : (t1196 == t1200) = true := c52
                   (try (have c52b1 : decide (t1196 = t1200) = true := by simpa using c52))
                   (try (have c52b2 : (t1196 == t1200) = true := by simpa using c52))
                   clear c52
                   replace H := Option.bind_eq_some_iff.mp H
                   obtain ⟨t1205, A530, H⟩ := H
                   have A53 := Aside0.mk A530
                   clear A530
                   obtain rfl := Option.some.inj H
                   go_enter Try.func4, Try.ntmps4
                   try go_wp2_with (first | ((with_reducible refine gate_callee (f := 8) rfl ?_); refine gl_ 30 Try.func8 #[.slice A0 l0.length c0] rfl mp_ ?_; (with_reducible refine (laws_big.calls _ _ l0 false _ ?side1 ?side2 A2.out).mono ?_); (case side1 => exact cv_ HR0.out); (case side2 => exact HC0.out); rintro e w' ⟨rfl, ⟨nd, rfl⟩⟩; refine ⟨_, rfl, ?_⟩) | ((with_reducible refine gate_callee (f := 9) rfl ?_); refine gl_ 32 Try.func9 #[.slice A0 l0.length c0] rfl mp_ ?_; (with_reducible refine (spec_DrawCanonicalTable.calls k _ _ l0 t1139 t1140 _ ?side1 ?side2 A4.out).mono ?_); (case side1 => exact cv_ HR0.out); (case side2 => exact HC0.out); rintro e w54 ⟨rfl, hb⟩; refine ⟨_, rfl, ?_⟩; replace HB := Aside0.mk (below_step (bv_ HB) hb); (try clear hb); (try clear hb2); (try clear hk); (try clear hi)) | ((with_reducible refine gate_dst (N := 3) rfl ?_); refine bx_ 3 #[.int .i64 0, .int .i64 0] 25 ?_; intro gb1141 hg w55 hbox hb; have BK1141 := Aside0.mk (hbox); have GW1141 := gw_ hg (below_size (bv_ HB)); have GE1141 := GW1141; replace HB := Aside0.mk (below_step (bv_ HB) hb); clear hb hbox hg; obtain ⟨hcz56_0, hcz56_1, hfz56_0, hfz56_1⟩ := c2_ BK1141) | ((with_reducible refine gate_callee (f := 10) rfl ?_); refine gl_ 35 Try.func10 #[.agg #[.int .i64 t1139, .int .i64 t1140]] rfl mp_ ?_; (with_reducible refine (impl_CanonicalTable.calls t1139 t1140 t1142 t1143 true _ A5.out).mono ?_); rintro e w57 ⟨rfl, hb⟩; refine ⟨_, rfl, ?_⟩; replace BK1141 := Aside0.mk (blk_below (g := gb1141) (o := .cells #[.int .i64 t1139, .int .i64 t1140] 25 (0, 0)) (by (with_reducible repeat (first | refine blk_drewN ?_ _ | refine blk_drew ?_ | refine blk_alloc ?_ _)); refine blk_put (cs := #[.int .i64 t1139, .int .i64 0]) ?_ 1 _ rfl; (with_reducible repeat (first | refine blk_drewN ?_ _ | refine blk_drew ?_ | refine blk_alloc ?_ _)); refine blk_put (cs := #[.int .i64 0, .int .i64 0]) ?_ 0 _ rfl; (with_reducible repeat (first | refine blk_drewN ?_ _ | refine blk_drew ?_ | refine blk_alloc ?_ _)); exact BK1141.out) hb); replace HB := Aside0.mk (below_step (bv1_ HB GE1141) hb); (try clear hb); (try clear hb2); (try clear hk); (try clear hi)) | ((with_reducible refine gate_dst (N := 4) rfl ?_); refine bx_ 4 #[.int .i64 0, .int .i64 0] 25 ?_; intro gb1145 hg w58 hbox hb; have BK1145 := Aside0.mk (hbox); have GW1145 := gw_ hg (below_size (bv1_ HB GE1141)); have GE1145 := GW1145; replace HB := Aside0.mk (below_step (bv1_ HB GE1141) hb); have NB1141_1145 := nb_ hg (blk_lt (g := gb1141) (o := .cells #[.int .i64 t1139, .int .i64 t1140] 25 (0, 0)) (kv_ BK1141)); have NB1145_1141 := nc_ hg (blk_lt (g := gb1141) (o := .cells #[.int .i64 t1139, .int .i64 t1140] 25 (0, 0)) (kv_ BK1141)); replace BK1141 := kb_ BK1141 hb; clear hb hbox hg; have hnb59 := NB1145_1141.out; have hnc59 := NB1141_1145.out; obtain ⟨hcz60_0, hcz60_1, hfz60_0, hfz60_1⟩ := c2_ BK1145; obtain ⟨hcz61_0, hcz61_1, hfz61_0, hfz61_1⟩ := c2_ BK1141) | ((with_reducible refine gate_callee (f := 11) rfl ?_); refine gl_ 40 Try.func11 #[.agg #[.int .i64 t1139, .int .i64 t1140]] rfl mp_ ?_; (with_reducible refine (spec_CanonicalTable.calls k t1139 t1140 t1146 t1147 t1148 _ A6.out).mono ?_); rintro e w62 ⟨rfl, hb⟩; refine ⟨_, rfl, ?_⟩; replace BK1141 := Aside0.mk (blk_below (g := gb1141) (o := .cells #[.int .i64 t1139, .int .i64 t1140] 25 (0, 0)) (by (with_reducible repeat (first | refine blk_drewN ?_ _ | refine blk_drew ?_ | refine blk_alloc ?_ _)); refine blk_far ?_ NB1141_1145.out _; (with_reducible repeat (first | refine blk_drewN ?_ _ | refine blk_drew ?_ | refine blk_alloc ?_ _)); refine blk_far ?_ NB1141_1145.out _; (with_reducible repeat (first | refine blk_drewN ?_ _ | refine blk_drew ?_ | refine blk_alloc ?_ _)); exact BK1141.out) hb); replace BK1145 := Aside0.mk (blk_below (g := gb1145) (o := .cells #[.int .i64 t1142, .int .i64 t1143] 25 (0, 0)) (by (with_reducible repeat (first | refine blk_drewN ?_ _ | refine blk_drew ?_ | refine blk_alloc ?_ _)); refine blk_put (cs := #[.int .i64 t1142, .int .i64 0]) ?_ 1 _ rfl; (with_reducible repeat (first | refine blk_drewN ?_ _ | refine blk_drew ?_ | refine blk_alloc ?_ _)); refine blk_put (cs := #[.int .i64 0, .int .i64 0]) ?_ 0 _ rfl; (with_reducible repeat (first | refine blk_drewN ?_ _ | refine blk_drew ?_ | refine blk_alloc ?_ _)); exact BK1145.out) hb); replace HB := Aside0.mk (below_step (bv2_ HB GE1141 GE1145) hb); (try clear hb); (try clear hb2); (try clear hk); (try clear hi)) | ((with_reducible refine gate_dst (N := 6) rfl ?_); refine bx_ 6 #[.int .i64 0, .int .i64 0] 25 ?_; intro gb1149 hg w63 hbox hb; have BK1149 := Aside0.mk (hbox); have GW1149 := gw_ hg (below_size (bv2_ HB GE1141 GE1145)); have GE1149 := GW1149; replace HB := Aside0.mk (below_step (bv2_ HB GE1141 GE1145) hb); have NB1141_1149 := nb_ hg (blk_lt (g := gb1141) (o := .cells #[.int .i64 t1139, .int .i64 t1140] 25 (0, 0)) (kv_ BK1141)); have NB1149_1141 := nc_ hg (blk_lt (g := gb1141) (o := .cells #[.int .i64 t1139, .int .i64 t1140] 25 (0, 0)) (kv_ BK1141)); replace BK1141 := kb_ BK1141 hb; have NB1145_1149 := nb_ hg (blk_lt (g := gb1145) (o := .cells #[.int .i64 t1142, .int .i64 t1143] 25 (0, 0)) (kv_ BK1145)); have NB1149_1145 := nc_ hg (blk_lt (g := gb1145) (o := .cells #[.int .i64 t1142, .int .i64 t1143] 25 (0, 0)) (kv_ BK1145)); replace BK1145 := kb_ BK1145 hb; clear hb hbox hg; have hnb64 := NB1149_1141.out; have hnc64 := NB1141_1149.out; have hnb65 := NB1149_1145.out; have hnc65 := NB1145_1149.out; obtain ⟨hcz66_0, hcz66_1, hfz66_0, hfz66_1⟩ := c2_ BK1149))
                   have n0_ : Aside0 (((w63.setCell ⟨gb1149, 0, none⟩ (.int .i64 t1146)).setCell ⟨gb1149, 1, none⟩ (.int .i64 t1147)).heap[gb1141]? = some (.cells #[.int .i64 t1139, .int .i64 t1140] 25 (0, 0))) := ⟨by (with_reducible repeat (first | refine blk_drewN ?_ _ | refine blk_drew ?_ | refine blk_alloc ?_ _)); refine blk_far ?_ NB1141_1149.out _; (with_reducible repeat (first | refine blk_drewN ?_ _ | refine blk_drew ?_ | refine blk_alloc ?_ _)); refine blk_far ?_ NB1141_1149.out _; (with_reducible repeat (first | refine blk_drewN ?_ _ | refine blk_drew ?_ | refine blk_alloc ?_ _)); exact BK1141.out⟩
                   have n1_ : Aside0 (((w63.setCell ⟨gb1149, 0, none⟩ (.int .i64 t1146)).setCell ⟨gb1149, 1, none⟩ (.int .i64 t1147)).heap[gb1145]? = some (.cells #[.int .i64 t1142, .int .i64 t1143] 25 (0, 0))) := ⟨by (with_reducible repeat (first | refine blk_drewN ?_ _ | refine blk_drew ?_ | refine blk_alloc ?_ _)); refine blk_far ?_ NB1145_1149.out _; (with_reducible repeat (first | refine blk_drewN ?_ _ | refine blk_drew ?_ | refine blk_alloc ?_ _)); refine blk_far ?_ NB1145_1149.out _; (with_reducible repeat (first | refine blk_drewN ?_ _ | refine blk_drew ?_ | refine blk_alloc ?_ _)); exact BK1145.out⟩
                   have n2_ : Aside0 (((w63.setCell ⟨gb1149, 0, none⟩ (.int .i64 t1146)).setCell ⟨gb1149, 1, none⟩ (.int .i64 t1147)).heap[gb1149]? = some (.cells #[.int .i64 t1146, .int .i64 t1147] 25 (0, 0))) := ⟨by (with_reducible repeat (first | refine blk_drewN ?_ _ | refine blk_drew ?_ | refine blk_alloc ?_ _)); refine blk_put (cs := #[.int .i64 t1146, .int .i64 0]) ?_ 1 _ rfl; (with_reducible repeat (first | refine blk_drewN ?_ _ | refine blk_drew ?_ | refine blk_alloc ?_ _)); refine blk_put (cs := #[.int .i64 0, .int .i64 0]) ?_ 0 _ rfl; (with_reducible repeat (first | refine blk_drewN ?_ _ | refine blk_drew ?_ | refine blk_alloc ?_ _)); exact BK1149.out⟩
                   have n3_ : Aside0 (Below w.heap.size w ((w63.setCell ⟨gb1149, 0, none⟩ (.int .i64 t1146)).setCell ⟨gb1149, 1, none⟩ (.int .i64 t1147))) := ⟨bv3_ HB GE1141 GE1145 GE1149⟩
                   (try clear BK1141)
                   (try clear BK1145)
                   (try clear BK1149)
                   (try clear HB)
                   generalize ((w63.setCell ⟨gb1149, 0, none⟩ (.int .i64 t1146)).setCell ⟨gb1149, 1, none⟩ (.int .i64 t1147)) = w67 at n0_ n1_ n2_ n3_ ⊢
                   have BK1141 := n0_
                   have BK1145 := n1_
                   have BK1149 := n2_
                   have HB := n3_
                   clear n0_ n1_ n2_ n3_
                   replace BK1141 := Aside0.mk (blk_drew BK1141.out)
                   replace BK1145 := Aside0.mk (blk_drew BK1145.out)
                   replace BK1149 := Aside0.mk (blk_drew BK1149.out)
                   replace HB := Aside0.mk (below_drew1 HB.out)
                   (try clear hcz56_0); (try clear hcz56_1); (try clear hfz56_0); (try clear hfz56_1); (try clear hnb59); (try clear hnc59); (try clear hcz60_0); (try clear hcz60_1); (try clear hfz60_0); (try clear hfz60_1); (try clear hcz61_0); (try clear hcz61_1)
                   (try clear hfz61_0); (try clear hfz61_1); (try clear hnb64); (try clear hnc64); (try clear hnb65); (try clear hnc65); (try clear hcz66_0); (try clear hcz66_1); (try clear hfz66_0); (try clear hfz66_1)
                   refine start_ (n := 22) (S := fun w' => w'.cell? ⟨gb1145, 0, none⟩ = some (.int .i64 t1142) ∧ w'.cell? ⟨gb1145, 1, none⟩ = some (.int .i64 t1143) ∧ w'.cell? ⟨gb1149, 0, none⟩ = some (.int .i64 t1146) ∧ w'.cell? ⟨gb1149, 1, none⟩ = some (.int .i64 t1147) ∧ w'.cell? ⟨gb1141, 0, none⟩ = some (.int .i64 t1139) ∧ w'.cell? ⟨gb1141, 1, none⟩ = some (.int .i64 t1140)) (ds := []) (bs 22 0) (by kernel_rfl) rfl (by kernel_rfl) ⟨(blk_cell BK1145.out 0).trans rfl, (blk_cell BK1145.out 1).trans rfl, (blk_cell BK1149.out 0).trans rfl, (blk_cell BK1149.out 1).trans rfl, (blk_cell BK1141.out 0).trans rfl, (blk_cell BK1141.out 1).trans rfl⟩ (fun hHeld => ?_); refine with_tabW laws_FnClasses.tab6 laws_FnClasses.bits6 (fun HT_ HW_ => ?_)
                   generalize w67.drew = w68 at BK1141 BK1145 BK1149 HB hHeld ⊢
                   refine ta6_ HT_ HW_ 0 43 (bs 22 1) hHeld ?_
                   refine ta6_ HT_ HW_ 1 44 (bs 22 3) hHeld ?_
                   refine pu_ HT_ 2 45 (bs 22 7) ?_
                   refine pu_ HT_ 3 46 (bs 22 15) ?_
                   refine pu_ HT_ 4 47 (bs 22 31) ?_
                   refine pu_ HT_ 5 48 (bs 22 63) ?_
                   refine pu_ HT_ 6 49 (bs 22 127) ?_
                   refine pu_ HT_ 7 50 (bs 22 255) ?_
                   refine pu_ HT_ 8 51 (bs 22 511) ?_
                   refine ta6_ HT_ HW_ 9 52 (bs 22 1023) hHeld ?_
                   refine ta6_ HT_ HW_ 11 54 (bs 22 3071) hHeld ?_
                   refine on_ HT_ 10 53 (bs 22 4095) (fun K hK => ?_)
                   refine goes_ Try.func12 (by kernel_rfl) rfl #[.agg #[.int .i64 t1139, .int .i64 t1140]] (by rfl) rfl rfl mp_ ?_
                   with_reducible refine (impl_SymmetriesOf.calls t1139 t1140 t1150 _ A9.out).mono ?_
                   rintro e w69 ⟨rfl, hb⟩
                   refine ⟨_, rfl, ?_⟩
                   replace BK1141 := kb_ BK1141 hb
                   replace BK1145 := kb_ BK1145 hb
                   replace BK1149 := kb_ BK1149 hb
                   replace HB := Aside0.mk (below_step (bv3_ HB GE1141 GE1145 GE1149) hb)
                   (try clear hb)
                   (try clear hb2)
                   (try clear hk)
                   (try clear hi)
                   refine hK.out _ _ ⟨(blk_cell BK1145.out 0).trans rfl, (blk_cell BK1145.out 1).trans rfl, (blk_cell BK1149.out 0).trans rfl, (blk_cell BK1149.out 1).trans rfl, (blk_cell BK1141.out 0).trans rfl, (blk_cell BK1141.out 1).trans rfl⟩ (fun hHeld => ?_)
                   clear hK K
                   refine no_ 53 ?_
                   refine on_ HT_ 12 55 (bs 22 8191) (fun K hK => ?_)
                   refine goes_ Try.func13 (by kernel_rfl) rfl #[.agg #[.int .i64 t1139, .int .i64 t1140]] (by rfl) rfl rfl mp_ ?_
                   with_reducible refine (spec_SymmetriesOf.calls k t1139 t1140 t1151 _ A10.out).mono ?_
                   rintro e w70 ⟨rfl, hb⟩
                   refine ⟨_, rfl, ?_⟩
                   replace BK1141 := kb_ BK1141 hb
                   replace BK1145 := kb_ BK1145 hb
                   replace BK1149 := kb_ BK1149 hb
                   replace HB := Aside0.mk (below_step (bv3_ HB GE1141 GE1145 GE1149) hb)
                   (try clear hb)
                   (try clear hb2)
                   (try clear hk)
                   (try clear hi)
                   refine hK.out _ _ ⟨(blk_cell BK1145.out 0).trans rfl, (blk_cell BK1145.out 1).trans rfl, (blk_cell BK1149.out 0).trans rfl, (blk_cell BK1149.out 1).trans rfl, (blk_cell BK1141.out 0).trans rfl, (blk_cell BK1141.out 1).trans rfl⟩ (fun hHeld => ?_)
                   clear hK K
                   refine no_ 55 ?_
                   refine pu_ HT_ 13 56 (bs 22 16383) ?_
                   refine pu_ HT_ 14 57 (bs 22 32767) ?_
                   refine pu_ HT_ 15 58 (bs 22 65535) ?_
                   refine ta6_ HT_ HW_ 16 59 (bs 22 131071) hHeld ?_
                   refine ta6_ HT_ HW_ 18 61 (bs 22 393215) hHeld ?_
                   refine on_ HT_ 17 60 (bs 22 524287) (fun K hK => ?_)
                   refine goes_ Try.func14 (by kernel_rfl) rfl #[.agg #[.int .i64 t1139, .int .i64 t1140]] (by rfl) rfl rfl mp_ ?_
                   with_reducible refine (impl_ClassSize.calls t1139 t1140 t1152 _ A12.out).mono ?_
                   rintro e w71 ⟨rfl, hb⟩
                   refine ⟨_, rfl, ?_⟩
                   replace BK1141 := kb_ BK1141 hb
                   replace BK1145 := kb_ BK1145 hb
                   replace BK1149 := kb_ BK1149 hb
                   replace HB := Aside0.mk (below_step (bv3_ HB GE1141 GE1145 GE1149) hb)
                   (try clear hb)
                   (try clear hb2)
                   (try clear hk)
                   (try clear hi)
                   refine hK.out _ _ ⟨(blk_cell BK1145.out 0).trans rfl, (blk_cell BK1145.out 1).trans rfl, (blk_cell BK1149.out 0).trans rfl, (blk_cell BK1149.out 1).trans rfl, (blk_cell BK1141.out 0).trans rfl, (blk_cell BK1141.out 1).trans rfl⟩ (fun hHeld => ?_)
                   clear hK K
                   refine no_ 60 ?_
                   refine on_ HT_ 19 62 (bs 22 1048575) (fun K hK => ?_)
                   refine goes_ Try.func15 (by kernel_rfl) rfl #[.agg #[.int .i64 t1139, .int .i64 t1140]] (by rfl) rfl rfl mp_ ?_
                   with_reducible refine (spec_ClassSize.calls k t1139 t1140 t1153 _ A13.out).mono ?_
                   rintro e w72 ⟨rfl, hb⟩
                   refine ⟨_, rfl, ?_⟩
                   replace BK1141 := kb_ BK1141 hb
                   replace BK1145 := kb_ BK1145 hb
                   replace BK1149 := kb_ BK1149 hb
                   replace HB := Aside0.mk (below_step (bv3_ HB GE1141 GE1145 GE1149) hb)
                   (try clear hb)
                   (try clear hb2)
                   (try clear hk)
                   (try clear hi)
                   refine hK.out _ _ ⟨(blk_cell BK1145.out 0).trans rfl, (blk_cell BK1145.out 1).trans rfl, (blk_cell BK1149.out 0).trans rfl, (blk_cell BK1149.out 1).trans rfl, (blk_cell BK1141.out 0).trans rfl, (blk_cell BK1141.out 1).trans rfl⟩ (fun hHeld => ?_)
                   clear hK K
                   refine no_ 62 ?_
                   refine pu_ HT_ 20 63 (bs 22 2097151) ?_
                   refine pu_ HT_ 21 64 (bs 22 4194303) ?_
                   refine done_ (done_of HT_.out (by kernel_rfl)) ?_
                   obtain ⟨hcz73_0, hcz73_1, hfz73_0, hfz73_1⟩ := c2_ BK1141
                   try go_wp2_with (first | ((with_reducible refine gate_callee (f := 16) rfl ?_); refine gl_ 69 Try.func16 #[.int .i64 t1139] rfl mp_ ?_; (with_reducible refine (impl_PermutationsOf.calls t1139 t1154 t1157 _ A16.out).mono ?_); rintro e w74 ⟨v1155, rfl, ho0, hb⟩; refine ⟨_, rfl, ?_⟩; have n0_ := Aside0.mk (Kd.N_lower (Kd.N_mono (ok' := fun k_ => k_ ≠ gb1141 ∧ k_ ≠ gb1145 ∧ k_ ≠ gb1149) ho0 (fun k_ hk_ => ⟨(Kd.freshB (g := gb1141) (o := .cells #[.int .i64 t1139, .int .i64 t1140] 25 (0, 0)) (kv_ BK1141) k_ hk_), (Kd.freshB (g := gb1145) (o := .cells #[.int .i64 t1142, .int .i64 t1143] 25 (0, 0)) (kv_ BK1145) k_ hk_), (Kd.freshB (g := gb1149) (o := .cells #[.int .i64 t1146, .int .i64 t1147] 25 (0, 0)) (kv_ BK1149) k_ hk_)⟩)) (below_size (bv3_ HB GE1141 GE1145 GE1149))); have n1_ := kb_ BK1141 hb; have n2_ := kb_ BK1145 hb; have n3_ := kb_ BK1149 hb; have n4_ := Aside0.mk (below_step (bv3_ HB GE1141 GE1145 GE1149) hb); clear BK1141; clear BK1145; clear BK1149; clear HB; have HO1156 := n0_; have BK1141 := n1_; have BK1145 := n2_; have BK1149 := n3_; have HB := n4_; clear n0_ n1_ n2_ n3_ n4_; (try clear hb); (try clear hb2); (try clear hk); (try clear hi); (try clear ho0)))
                   replace HO1156 := Aside0.mk (Kd.N_drew HO1156.out)
                   replace BK1141 := Aside0.mk (blk_drew BK1141.out)
                   replace BK1145 := Aside0.mk (blk_drew BK1145.out)
                   replace BK1149 := Aside0.mk (blk_drew BK1149.out)
                   replace HB := Aside0.mk (below_drew1 HB.out)
                   obtain ⟨Ao76, co76, eo76⟩ := Kd.N_slice HO1156.out
                   (first | subst eo76 | (injection eo76 with f1_ f2_ f3_; have f4_ := f1_.symm; have f5_ := f3_.symm; clear f1_ f2_ f3_; subst f4_; subst f5_))
                   have hpx_ : ∃ hp_ : 0 ≤ (Int.tmod t1158 (t1154.length : Int)), spec_PermuteTable.f k t1139 t1140 (rd_L2 t1154 (Int.tmod t1158 (t1154.length : Int))) = some (t1159, t1160, t1161) := by
                    have h_ := A19.out
                    by_cases hp_ : 0 ≤ (Int.tmod t1158 (t1154.length : Int))
                    ·rw [if_pos hp_] at h_; exact ⟨hp_, h_⟩
                    ·rw [if_neg hp_] at h_; exact absurd h_ (by simp)
                   obtain ⟨hp_, ha_⟩ := hpx_
                   have AX_ := Aside0.mk ha_
                   have hlp_ : (0 : Int) < (t1154.length : Int) := by
                    by_cases e_ : (t1154.length : Int) = 0
                    ·have h2_ : ((t1154.length : Int) == 0) = false := by assumption
                     rw [beq_iff_eq.mpr e_] at h2_
                     exact Bool.noConfusion h2_
                    ·omega
                   have hq_ : (Int.tmod t1158 (t1154.length : Int)) < (t1154.length : Int) := Int.tmod_lt_of_pos _ hlp_
                   clear ha_ hlp_
                   (try clear hcz56_0); (try clear hcz56_1); (try clear hfz56_0); (try clear hfz56_1); (try clear hnb59); (try clear hnc59); (try clear hcz60_0); (try clear hcz60_1); (try clear hfz60_0); (try clear hfz60_1); (try clear hcz61_0); (try clear hcz61_1)
                   (try clear hfz61_0); (try clear hfz61_1); (try clear hnb64); (try clear hnc64); (try clear hnb65); (try clear hnc65); (try clear hcz66_0); (try clear hcz66_1); (try clear hfz66_0); (try clear hfz66_1); (try clear hcz73_0); (try clear hcz73_1)
                   (try clear hfz73_0); (try clear hfz73_1)
                   refine start_ (n := 16) (S := fun w' => True) (ds := []) (bs 16 0) (by kernel_rfl) rfl (by kernel_rfl) trivial (fun hHeld => ?_); refine with_tabW laws_FnClasses.tab10 laws_FnClasses.bits10 (fun HT_ HW_ => ?_)
                   generalize w74.drew = w75 at HO1156 BK1141 BK1145 BK1149 HB ⊢
                   clear hHeld
                   obtain ⟨ad, Ae, ce, eA_, hx_, hl_, hC_⟩ := at_L2 (Kd.N_reads' HO1156.out).2.2 (Int.tmod t1158 (t1154.length : Int)) hp_ hq_
                   have AD_ := Aside0.mk eA_
                   have AXC_ := Aside0.mk hx_
                   have AL_ := Aside0.mk hl_
                   have AC_ := Aside0.mk hC_
                   replace hp_ := eq_true hp_
                   replace hq_ := eq_true hq_
                   clear eA_ hx_ hl_ hC_
                   refine inv_at [0, 1, 2, 3, 4, 5, 6, 7, 8, 9, 10, 11, 12, 13, 14, 15] (fun a0_ b a w' => ∃ h : Nat, a = putSel a0_ b [(0, 73, .agg #[.int .i64 t1139, .int .i64 t1140]), (1, 74, .slice Ao76 t1154.length co76), (2, 75, .slice A0 l0.length c0), (3, 76, .int .i64 t1158), (4, 77, .slice Ao76 t1154.length co76), (5, 78, .int .i64 (t1154.length : Int)), (6, 79, .int .i64 (Int.tmod t1158 (t1154.length : Int))), (7, 80, .pointer (some (ad.add (Int.tmod t1158 (t1154.length : Int)).toNat))), (8, 81, .slice Ae (rd_L2 t1154 (Int.tmod t1158 (t1154.length : Int))).length ce), (9, 82, .tuple #[.agg #[.int .i64 t1159, .int .i64 t1160], .bool t1161]), (10, 72, .tuple #[.agg #[.int .i64 t1159, .int .i64 t1160], .bool t1161]), (11, 83, .agg #[.int .i64 t1159, .int .i64 t1160]), (12, 84, .bool t1161), (13, 10, .pointer (some ⟨h, 0, none⟩)), (15, 11, .bool t1161)] ∧ Below w75.heap.size w75 w' ∧ (b 13 = true → w75.heap.size ≤ h) ∧ (b 13 = true → b 14 = false → w'.heap[h]? = some (.cells #[.int .i64 0, .int .i64 0] 25 (0, 0))) ∧ (b 14 = true → w'.heap[h]? = some (.cells #[.int .i64 t1159, .int .i64 t1160] 25 (0, 0)))) HT_.out HW_.out (by kernel_rfl) (by kernel_rfl) ?_ ?_ ?_
                   ·exact ⟨0, by simp only [putSel, Bool.false_eq_true, if_false], Below.refl _ _, fun h_ => absurd h_ (by decide), fun h_ => absurd h_ (by decide), fun h_ => absurd h_ (by decide)⟩
                   ·skip
                    refine steps_cons ?_ ?_
                    ·rintro b a w' ⟨h, ha, QB, Q0, Q1, Q2⟩ hb_ hon hoff
                     refine ⟨_, rfl, fun K_ hK => ?_⟩
                     have e3 : a.tmps[3]? = some (.pointer (some ⟨gb1141, 0, none⟩)) := by rw [ha]; exact (putSel_off rfl).trans rfl
                     replace ha := Aside0.mk ha
                     have hq0_ := blk_below BK1141.out QB
                     have k0 : w'.cell? ⟨gb1141, 0, none⟩ = some (.int .i64 t1139) := (blk_cell hq0_ 0).trans rfl
                     have k1 : w'.cell? ⟨gb1141, 1, none⟩ = some (.int .i64 t1140) := (blk_cell hq0_ 1).trans rfl
                     refine value_ (w1 := w') (v := .agg #[.int .i64 t1139, .int .i64 t1140]) (by rfl) rfl ?_ ?_
                     ·go_simp
                      try rfl
                     refine hK.out _ _ ⟨h, (by rw [ha.out]; exact putSel_upk 0 hb_ rfl rfl rfl), QB, Q0, Q1, Q2⟩
                    refine steps_cons ?_ ?_
                    ·rintro b a w' ⟨h, ha, QB, Q0, Q1, Q2⟩ hb_ hon hoff
                     refine ⟨_, rfl, fun K_ hK => ?_⟩
                     have e8 : a.tmps[8]? = some (.slice Ao76 t1154.length co76) := by rw [ha]; exact (putSel_off rfl).trans rfl
                     replace ha := Aside0.mk ha
                     refine value_ (w1 := w') (v := .slice Ao76 t1154.length co76) (by rfl) rfl ?_ ?_
                     ·go_simp
                      try rfl
                     refine hK.out _ _ ⟨h, (by rw [ha.out]; exact putSel_upk 1 hb_ rfl rfl rfl), QB, Q0, Q1, Q2⟩
                    refine steps_cons ?_ ?_
                    ·rintro b a w' ⟨h, ha, QB, Q0, Q1, Q2⟩ hb_ hon hoff
                     refine ⟨_, rfl, fun K_ hK => ?_⟩
                     have e0 : a.tmps[0]? = some (.slice A0 l0.length c0) := by rw [ha]; exact (putSel_off rfl).trans rfl
                     replace ha := Aside0.mk ha
                     refine value_ (w1 := w') (v := .slice A0 l0.length c0) (by rfl) rfl ?_ ?_
                     ·go_simp
                      try rfl
                     refine hK.out _ _ ⟨h, (by rw [ha.out]; exact putSel_upk 2 hb_ rfl rfl rfl), QB, Q0, Q1, Q2⟩
                    refine steps_cons ?_ ?_
                    ·rintro b a w' ⟨h, ha, QB, Q0, Q1, Q2⟩ hb_ hon hoff
                     refine ⟨_, rfl, fun K_ hK => ?_⟩
                     have e75 : a.tmps[75]? = some (.slice A0 l0.length c0) := by rw [ha]; exact putSel_on (e := (2, 75, .slice A0 l0.length c0)) 2 rfl rfl (hon 2 (by kernel_rfl)) rfl
                     replace ha := Aside0.mk ha
                     refine goes_ Try.func18 (by kernel_rfl) rfl #[.slice A0 l0.length c0, .int .i64 3] (by rfl) rfl rfl (by go_simp) ?_
                     with_reducible refine (laws_at.calls _ _ l0 3 t1158 _ ?side1 ?side2 A17.out).mono ?_
                     (case side1 => exact Kd.C_below HR0.out (below_step HB.out QB))
                     (case side2 => exact HC0.out)
                     rintro e wa ⟨rfl, hd_⟩
                     have hba := hd_.below
                     refine ⟨_, rfl, ?_⟩
                     refine hK.out _ _ ⟨h, (by rw [ha.out]; exact putSel_upk 3 hb_ rfl rfl rfl), below_step QB hba, Q0, fun h1 h2 => blk_below (Q1 h1 h2) hba, fun h1 => blk_below (Q2 h1) hba⟩
                    refine steps_cons ?_ ?_
                    ·rintro b a w' ⟨h, ha, QB, Q0, Q1, Q2⟩ hb_ hon hoff
                     refine ⟨_, rfl, fun K_ hK => ?_⟩
                     have e8 : a.tmps[8]? = some (.slice Ao76 t1154.length co76) := by rw [ha]; exact (putSel_off rfl).trans rfl
                     replace ha := Aside0.mk ha
                     refine value_ (w1 := w') (v := .slice Ao76 t1154.length co76) (by rfl) rfl ?_ ?_
                     ·go_simp
                      try rfl
                     refine hK.out _ _ ⟨h, (by rw [ha.out]; exact putSel_upk 4 hb_ rfl rfl rfl), QB, Q0, Q1, Q2⟩
                    refine steps_cons ?_ ?_
                    ·rintro b a w' ⟨h, ha, QB, Q0, Q1, Q2⟩ hb_ hon hoff
                     refine ⟨_, rfl, fun K_ hK => ?_⟩
                     have e77 : a.tmps[77]? = some (.slice Ao76 t1154.length co76) := by rw [ha]; exact putSel_on (e := (4, 77, .slice Ao76 t1154.length co76)) 4 rfl rfl (hon 4 (by kernel_rfl)) rfl
                     replace ha := Aside0.mk ha
                     refine value_ (w1 := w') (v := .int .i64 (t1154.length : Int)) (by rfl) rfl ?_ ?_
                     ·go_simp
                      try rfl
                     refine hK.out _ _ ⟨h, (by rw [ha.out]; exact putSel_upk 5 hb_ rfl rfl rfl), QB, Q0, Q1, Q2⟩
                    refine steps_cons ?_ ?_
                    ·rintro b a w' ⟨h, ha, QB, Q0, Q1, Q2⟩ hb_ hon hoff
                     refine ⟨_, rfl, fun K_ hK => ?_⟩
                     have e76 : a.tmps[76]? = some (.int .i64 t1158) := by rw [ha]; exact putSel_on (e := (3, 76, .int .i64 t1158)) 3 rfl rfl (hon 3 (by kernel_rfl)) rfl
                     have e78 : a.tmps[78]? = some (.int .i64 (t1154.length : Int)) := by rw [ha]; exact putSel_on (e := (5, 78, .int .i64 (t1154.length : Int))) 5 rfl rfl (hon 5 (by kernel_rfl)) rfl
                     replace ha := Aside0.mk ha
                     refine value_ (w1 := w') (v := .int .i64 (Int.tmod t1158 (t1154.length : Int))) (by rfl) rfl ?_ ?_
                     ·go_simp
                      try rfl
                     refine hK.out _ _ ⟨h, (by rw [ha.out]; exact putSel_upk 6 hb_ rfl rfl rfl), QB, Q0, Q1, Q2⟩
                    refine steps_cons ?_ ?_
                    ·rintro b a w' ⟨h, ha, QB, Q0, Q1, Q2⟩ hb_ hon hoff
                     refine ⟨_, rfl, fun K_ hK => ?_⟩
                     have e74 : a.tmps[74]? = some (.slice Ao76 t1154.length co76) := by rw [ha]; exact putSel_on (e := (1, 74, .slice Ao76 t1154.length co76)) 1 rfl rfl (hon 1 (by kernel_rfl)) rfl
                     have e79 : a.tmps[79]? = some (.int .i64 (Int.tmod t1158 (t1154.length : Int))) := by rw [ha]; exact putSel_on (e := (6, 79, .int .i64 (Int.tmod t1158 (t1154.length : Int)))) 6 rfl rfl (hon 6 (by kernel_rfl)) rfl
                     replace ha := Aside0.mk ha
                     rw [AD_.out] at e74
                     refine value_ (w1 := w') (v := .pointer (some (ad.add (Int.tmod t1158 (t1154.length : Int)).toNat))) (by rfl) rfl ?_ ?_
                     ·go_simp
                      try rfl
                     refine hK.out _ _ ⟨h, (by rw [ha.out]; exact putSel_upk 7 hb_ rfl rfl rfl), QB, Q0, Q1, Q2⟩
                    refine steps_cons ?_ ?_
                    ·rintro b a w' ⟨h, ha, QB, Q0, Q1, Q2⟩ hb_ hon hoff
                     refine ⟨_, rfl, fun K_ hK => ?_⟩
                     have e80 : a.tmps[80]? = some (.pointer (some (ad.add (Int.tmod t1158 (t1154.length : Int)).toNat))) := by rw [ha]; exact putSel_on (e := (7, 80, .pointer (some (ad.add (Int.tmod t1158 (t1154.length : Int)).toNat)))) 7 rfl rfl (hon 7 (by kernel_rfl)) rfl
                     replace ha := Aside0.mk ha
                     have k0 : w'.cell? (ad.add (Int.tmod t1158 (t1154.length : Int)).toNat) = some (.slice Ae (rd_L2 t1154 (Int.tmod t1158 (t1154.length : Int))).length ce) := pw_cell_below QB AXC_.out
                     refine value_ (w1 := w') (v := .slice Ae (rd_L2 t1154 (Int.tmod t1158 (t1154.length : Int))).length ce) (by rfl) rfl ?_ ?_
                     ·go_simp
                      try rfl
                     refine hK.out _ _ ⟨h, (by rw [ha.out]; exact putSel_upk 8 hb_ rfl rfl rfl), QB, Q0, Q1, Q2⟩
                    refine steps_cons ?_ ?_
                    ·rintro b a w' ⟨h, ha, QB, Q0, Q1, Q2⟩ hb_ hon hoff
                     refine ⟨_, rfl, fun K_ hK => ?_⟩
                     have e73 : a.tmps[73]? = some (.agg #[.int .i64 t1139, .int .i64 t1140]) := by rw [ha]; exact putSel_on (e := (0, 73, .agg #[.int .i64 t1139, .int .i64 t1140])) 0 rfl rfl (hon 0 (by kernel_rfl)) rfl
                     have e81 : a.tmps[81]? = some (.slice Ae (rd_L2 t1154 (Int.tmod t1158 (t1154.length : Int))).length ce) := by rw [ha]; exact putSel_on (e := (8, 81, .slice Ae (rd_L2 t1154 (Int.tmod t1158 (t1154.length : Int))).length ce)) 8 rfl rfl (hon 8 (by kernel_rfl)) rfl
                     replace ha := Aside0.mk ha
                     refine goes_ Try.func17 (by kernel_rfl) rfl #[.agg #[.int .i64 t1139, .int .i64 t1140], .slice Ae (rd_L2 t1154 (Int.tmod t1158 (t1154.length : Int))).length ce] (by rfl) rfl rfl (by go_simp) ?_
                     with_reducible refine (spec_PermuteTable.calls k t1139 t1140 _ _ (rd_L2 t1154 (Int.tmod t1158 (t1154.length : Int))) t1159 t1160 t1161 _ ?side1 ?side2 AX_.out).mono ?_
                     (case side1 => exact Kd.C_below AC_.out QB)
                     (case side2 => exact AL_.out)
                     rintro e wa ⟨rfl, hba⟩
                     refine ⟨_, rfl, ?_⟩
                     refine hK.out _ _ ⟨h, (by rw [ha.out]; exact putSel_upk 9 hb_ rfl rfl rfl), below_step QB hba, Q0, fun h1 h2 => blk_below (Q1 h1 h2) hba, fun h1 => blk_below (Q2 h1) hba⟩
                    refine steps_cons ?_ ?_
                    ·rintro b a w' ⟨h, ha, QB, Q0, Q1, Q2⟩ hb_ hon hoff
                     refine ⟨_, rfl, fun K_ hK => ?_⟩
                     have e82 : a.tmps[82]? = some (.tuple #[.agg #[.int .i64 t1159, .int .i64 t1160], .bool t1161]) := by rw [ha]; exact putSel_on (e := (9, 82, .tuple #[.agg #[.int .i64 t1159, .int .i64 t1160], .bool t1161])) 9 rfl rfl (hon 9 (by kernel_rfl)) rfl
                     replace ha := Aside0.mk ha
                     refine value_ (w1 := w') (v := .tuple #[.agg #[.int .i64 t1159, .int .i64 t1160], .bool t1161]) (by rfl) rfl ?_ ?_
                     ·go_simp
                      try rfl
                     refine hK.out _ _ ⟨h, (by rw [ha.out]; exact putSel_upk 10 hb_ rfl rfl rfl), QB, Q0, Q1, Q2⟩
                    refine steps_cons ?_ ?_
                    ·rintro b a w' ⟨h, ha, QB, Q0, Q1, Q2⟩ hb_ hon hoff
                     refine ⟨_, rfl, fun K_ hK => ?_⟩
                     have e72 : a.tmps[72]? = some (.tuple #[.agg #[.int .i64 t1159, .int .i64 t1160], .bool t1161]) := by rw [ha]; exact putSel_on (e := (10, 72, .tuple #[.agg #[.int .i64 t1159, .int .i64 t1160], .bool t1161])) 10 rfl rfl (hon 10 (by kernel_rfl)) rfl
                     replace ha := Aside0.mk ha
                     refine value_ (w1 := w') (v := .agg #[.int .i64 t1159, .int .i64 t1160]) (by rfl) rfl ?_ ?_
                     ·go_simp
                      try rfl
                     refine hK.out _ _ ⟨h, (by rw [ha.out]; exact putSel_upk 11 hb_ rfl rfl rfl), QB, Q0, Q1, Q2⟩
                    refine steps_cons ?_ ?_
                    ·rintro b a w' ⟨h, ha, QB, Q0, Q1, Q2⟩ hb_ hon hoff
                     refine ⟨_, rfl, fun K_ hK => ?_⟩
                     have e72 : a.tmps[72]? = some (.tuple #[.agg #[.int .i64 t1159, .int .i64 t1160], .bool t1161]) := by rw [ha]; exact putSel_on (e := (10, 72, .tuple #[.agg #[.int .i64 t1159, .int .i64 t1160], .bool t1161])) 10 rfl rfl (hon 10 (by kernel_rfl)) rfl
                     replace ha := Aside0.mk ha
                     refine value_ (w1 := w') (v := .bool t1161) (by rfl) rfl ?_ ?_
                     ·go_simp
                      try rfl
                     refine hK.out _ _ ⟨h, (by rw [ha.out]; exact putSel_upk 12 hb_ rfl rfl rfl), QB, Q0, Q1, Q2⟩
                    refine steps_cons ?_ ?_
                    ·rintro b a w' ⟨h, ha, QB, Q0, Q1, Q2⟩ hb_ hon hoff
                     refine ⟨_, rfl, fun K_ hK => ?_⟩
                     replace ha := Aside0.mk ha
                     refine value_ (w1 := w'.alloc (.cells #[.int .i64 0, .int .i64 0] 25)) (v := .pointer (some ⟨w'.heap.size, 0, none⟩)) (by rfl) rfl ?_ ?_
                     ·go_simp
                      try rfl
                     have hba : Below w'.heap.size w' (w'.alloc (.cells #[.int .i64 0, .int .i64 0] 25)) := below_alloc (Below.refl _ _) _
                     refine hK.out _ _ ⟨w'.heap.size, (by rw [ha.out]; exact putSel_upk 13 hb_ rfl rfl rfl), below_step QB hba, fun _ => QB.size, fun _ _ => blk_new w' _, fun h_ => absurd ((hoff 14 (by kernel_rfl)).symm.trans h_) (by decide)⟩
                    refine steps_cons ?_ ?_
                    ·rintro b a w' ⟨h, ha, QB, Q0, Q1, Q2⟩ hb_ hon hoff
                     refine ⟨_, rfl, fun K_ hK => ?_⟩
                     have e10 : a.tmps[10]? = some (.pointer (some ⟨h, 0, none⟩)) := by rw [ha]; exact putSel_on (e := (13, 10, .pointer (some ⟨h, 0, none⟩))) 13 rfl rfl (hon 13 (by kernel_rfl)) rfl
                     have e83 : a.tmps[83]? = some (.agg #[.int .i64 t1159, .int .i64 t1160]) := by rw [ha]; exact putSel_on (e := (11, 83, .agg #[.int .i64 t1159, .int .i64 t1160])) 11 rfl rfl (hon 11 (by kernel_rfl)) rfl
                     replace ha := Aside0.mk ha
                     have hh := Q1 (hon 13 (by kernel_rfl)) hb_
                     have hz := Q0 (hon 13 (by kernel_rfl))
                     have k0 : w'.cell? ⟨h, 0, none⟩ = some (.int .i64 0) := (blk_cell hh 0).trans rfl
                     have k1 : w'.cell? ⟨h, 1, none⟩ = some (.int .i64 0) := (blk_cell hh 1).trans rfl
                     have f0 := blk_frozen hh 0
                     have f1 := blk_frozen hh 1
                     refine skip_ (w1 := (w'.setCell ⟨h, 0, none⟩ (.int .i64 t1159)).setCell ⟨h, 1, none⟩ (.int .i64 t1160)) (by rfl) rfl ?_ ?_
                     ·go_simp
                      try rfl
                     refine hK.out _ _ ⟨h, (ha.out.trans (putSel_same (by rfl)).symm), below_set (below_set QB hz) hz, Q0, fun _ h_ => absurd ((up_self b 14).symm.trans h_) (by decide), fun _ => blk_put (cs := #[.int .i64 t1159, .int .i64 0]) (blk_put (cs := #[.int .i64 0, .int .i64 0]) hh 0 (.int .i64 t1159) rfl) 1 (.int .i64 t1160) rfl⟩
                    refine steps_cons ?_ ?_
                    ·rintro b a w' ⟨h, ha, QB, Q0, Q1, Q2⟩ hb_ hon hoff
                     refine ⟨_, rfl, fun K_ hK => ?_⟩
                     have e84 : a.tmps[84]? = some (.bool t1161) := by rw [ha]; exact putSel_on (e := (12, 84, .bool t1161)) 12 rfl rfl (hon 12 (by kernel_rfl)) rfl
                     replace ha := Aside0.mk ha
                     refine value_ (w1 := w') (v := .bool t1161) (by rfl) rfl ?_ ?_
                     ·go_simp
                      try rfl
                     refine hK.out _ _ ⟨h, (by rw [ha.out]; exact putSel_upk 14 hb_ rfl rfl rfl), QB, Q0, Q1, Q2⟩
                    exact steps_nil
                   rintro b a w82 hall ⟨gb1162, ha, QB, Q0, Q1, Q2⟩
                   have hb0_ := hall 0 (by kernel_rfl)
                   have hb1_ := hall 1 (by kernel_rfl)
                   have hb2_ := hall 2 (by kernel_rfl)
                   have hb3_ := hall 3 (by kernel_rfl)
                   have hb4_ := hall 4 (by kernel_rfl)
                   have hb5_ := hall 5 (by kernel_rfl)
                   have hb6_ := hall 6 (by kernel_rfl)
                   have hb7_ := hall 7 (by kernel_rfl)
                   have hb8_ := hall 8 (by kernel_rfl)
                   have hb9_ := hall 9 (by kernel_rfl)
                   have hb10_ := hall 10 (by kernel_rfl)
                   have hb11_ := hall 11 (by kernel_rfl)
                   have hb12_ := hall 12 (by kernel_rfl)
                   have hb13_ := hall 13 (by kernel_rfl)
                   have hb14_ := hall 14 (by kernel_rfl)
                   have hb15_ := hall 15 (by kernel_rfl)
                   have hz_ := Q0 hb13_
                   have BK1162 := Aside0.mk (Q2 hb14_)
                   have GW1162 := Aside0.mk (Nat.le_trans HB.out.size hz_)
                   have GE1162 := GW1162
                   have NB1141_1162 := Aside0.mk (show gb1141 ≠ gb1162 from by have := blk_lt BK1141.out; omega)
                   have NB1162_1141 := Aside0.mk (show gb1162 ≠ gb1141 from by have := blk_lt BK1141.out; omega)
                   have NB1145_1162 := Aside0.mk (show gb1145 ≠ gb1162 from by have := blk_lt BK1145.out; omega)
                   have NB1162_1145 := Aside0.mk (show gb1162 ≠ gb1145 from by have := blk_lt BK1145.out; omega)
                   have NB1149_1162 := Aside0.mk (show gb1149 ≠ gb1162 from by have := blk_lt BK1149.out; omega)
                   have NB1162_1149 := Aside0.mk (show gb1162 ≠ gb1149 from by have := blk_lt BK1149.out; omega)
                   have n0_ := Aside0.mk (Kd.N_mono (ok' := fun k_ => k_ ≠ gb1141 ∧ k_ ≠ gb1145 ∧ k_ ≠ gb1149 ∧ k_ ≠ gb1162) (Kd.N_below (Kd.N_elderB HO1156.out gb1162 hz_) QB) (fun _ hk => ⟨hk.1.1, hk.1.2.1, hk.1.2.2, hk.2⟩))
                   have n1_ := Aside0.mk (blk_below BK1141.out QB)
                   have n2_ := Aside0.mk (blk_below BK1145.out QB)
                   have n3_ := Aside0.mk (blk_below BK1149.out QB)
                   have nb_ := Aside0.mk (below_step HB.out QB)
                   clear HO1156 BK1141 BK1145 BK1149 HB QB Q0 Q1 Q2 hz_ AD_ AXC_ AL_ AC_ AX_ hp_ hq_
                   have HO1156 := n0_
                   have BK1141 := n1_
                   have BK1145 := n2_
                   have BK1149 := n3_
                   have HB := nb_
                   clear n0_ n1_ n2_ n3_ nb_
                   subst ha
                   simp only [putSel, hb0_, hb1_, hb2_, hb3_, hb4_, hb5_, hb6_, hb7_, hb8_, hb9_, hb10_, hb11_, hb12_, hb13_, hb15_, if_true, Act.put, List.setIfInBounds_toArray, List.set_cons_zero, List.set_cons_succ]
                   clear hall hb0_ hb1_ hb2_ hb3_ hb4_ hb5_ hb6_ hb7_ hb8_ hb9_ hb10_ hb11_ hb12_ hb13_ hb14_ hb15_
                   try go_wp2
                   replace HO1156 := Aside0.mk (Kd.N_drew HO1156.out)
                   replace BK1141 := Aside0.mk (blk_drew BK1141.out)
                   replace BK1145 := Aside0.mk (blk_drew BK1145.out)
                   replace BK1149 := Aside0.mk (blk_drew BK1149.out)
                   replace BK1162 := Aside0.mk (blk_drew BK1162.out)
                   replace HB := Aside0.mk (below_drew1 HB.out)
                   (try clear hcz56_0); (try clear hcz56_1); (try clear hfz56_0); (try clear hfz56_1); (try clear hnb59); (try clear hnc59); (try clear hcz60_0); (try clear hcz60_1); (try clear hfz60_0); (try clear hfz60_1); (try clear hcz61_0); (try clear hcz61_1)
                   (try clear hfz61_0); (try clear hfz61_1); (try clear hnb64); (try clear hnc64); (try clear hnb65); (try clear hnc65); (try clear hcz66_0); (try clear hcz66_1); (try clear hfz66_0); (try clear hfz66_1); (try clear hcz73_0); (try clear hcz73_1)
                   (try clear hfz73_0); (try clear hfz73_1)
                   refine start_ (n := 14) (S := fun w' => w'.cell? ⟨gb1162, 0, none⟩ = some (.int .i64 t1159) ∧ w'.cell? ⟨gb1162, 1, none⟩ = some (.int .i64 t1160) ∧ w'.cell? ⟨gb1141, 0, none⟩ = some (.int .i64 t1139) ∧ w'.cell? ⟨gb1141, 1, none⟩ = some (.int .i64 t1140)) (ds := []) (bs 14 0) (by kernel_rfl) rfl (by kernel_rfl) ⟨(blk_cell BK1162.out 0).trans rfl, (blk_cell BK1162.out 1).trans rfl, (blk_cell BK1141.out 0).trans rfl, (blk_cell BK1141.out 1).trans rfl⟩ (fun hHeld => ?_); refine with_tabW laws_FnClasses.tab11 laws_FnClasses.bits11 (fun HT_ HW_ => ?_)
                   generalize w82.drew = w83 at HO1156 BK1141 BK1145 BK1149 BK1162 HB hHeld ⊢
                   refine pu_ HT_ 1 87 (bs 14 2) ?_
                   refine pu_ HT_ 3 89 (bs 14 10) ?_
                   refine ta4_ HT_ HW_ 0 86 (bs 14 11) hHeld ?_
                   refine ta4_ HT_ HW_ 4 90 (bs 14 27) hHeld ?_
                   refine pu_ HT_ 5 91 (bs 14 59) ?_
                   refine join_ (σ := Nat) 2 (bs 14 4095) (fun s_ => [(88, .int .i64 t1163), (93, .tuple #[.agg #[.int .i64 t1164, .int .i64 t1165], .bool t1166]), (12, .pointer (some ⟨s_, 0, none⟩)), (92, .int .i64 (Int.tmod t1163 (ji22))), (85, .tuple #[.agg #[.int .i64 t1164, .int .i64 t1165], .bool t1166]), (94, .agg #[.int .i64 t1164, .int .i64 t1165]), (95, .bool t1166)]) (fun s_ w' => (w'.cell? ⟨gb1162, 0, none⟩ = some (.int .i64 t1159) ∧ w'.cell? ⟨gb1162, 1, none⟩ = some (.int .i64 t1160) ∧ w'.cell? ⟨gb1141, 0, none⟩ = some (.int .i64 t1139) ∧ w'.cell? ⟨gb1141, 1, none⟩ = some (.int .i64 t1140)) ∧ (Kd.N (Kd.slice 3 (Kd.int .i64)) 38 w' w.heap.size (fun k_ => k_ ≠ gb1141 ∧ k_ ≠ gb1145 ∧ k_ ≠ gb1149 ∧ k_ ≠ gb1162 ∧ k_ ≠ s_) (.slice Ao76 t1154.length co76) t1154) ∧ (w'.heap[gb1141]? = some (.cells #[.int .i64 t1139, .int .i64 t1140] 25 (0, 0))) ∧ (w'.heap[gb1145]? = some (.cells #[.int .i64 t1142, .int .i64 t1143] 25 (0, 0))) ∧ (w'.heap[gb1149]? = some (.cells #[.int .i64 t1146, .int .i64 t1147] 25 (0, 0))) ∧ (w'.heap[gb1162]? = some (.cells #[.int .i64 t1159, .int .i64 t1160] 25 (0, 0))) ∧ (w'.heap[s_]? = some (.cells #[.int .i64 0, .int .i64 0] 25 (0, 0))) ∧ (w.heap.size ≤ s_) ∧ (w.heap.size ≤ s_) ∧ (gb1141 ≠ s_) ∧ (s_ ≠ gb1141) ∧ (gb1145 ≠ s_) ∧ (s_ ≠ gb1145) ∧ (gb1149 ≠ s_) ∧ (s_ ≠ gb1149) ∧ (gb1162 ≠ s_) ∧ (s_ ≠ gb1162) ∧ (Below w.heap.size w w')) ?_ ?_
                   rotate_left
                   ·intro hCont
                    refine two_ (i := 2) (j := 11) (Ni := some 88) (Nj := some 12) (bs 14 63) (bs 14 2107) rfl rfl rfl rfl (two_of HT_.out (by kernel_rfl)) (by decide) (by decide) (fun K hK => ?_) (fun K hK => ?_)
                    ·skip
                     refine goes_ Try.func18 (by kernel_rfl) rfl #[.slice A0 l0.length c0, .int .i64 4] (by rfl) rfl rfl mp_ ?_
                     with_reducible refine (laws_at.calls _ _ l0 4 t1163 _ ?side1 ?side2 A20.out).mono ?_
                     (case side1 => exact cv_ (Kd.C_below HR0.out HB.out))
                     (case side2 => exact HC0.out)
                     rintro e w' ⟨rfl, ⟨nd, rfl⟩⟩
                     refine ⟨_, rfl, ?_⟩
                     refine hK.out _ _ ⟨(blk_cell BK1162.out 0).trans rfl, (blk_cell BK1162.out 1).trans rfl, (blk_cell BK1141.out 0).trans rfl, (blk_cell BK1141.out 1).trans rfl⟩ (fun hHeld => ?_)
                     clear hK K
                     refine no_ 88 ?_
                     refine pu_ HT_ 6 92 (bs 14 127) ?_
                     refine two_ (i := 7) (j := 11) (Ni := some 93) (Nj := some 12) (bs 14 255) (bs 14 2175) rfl rfl rfl rfl (two_of HT_.out (by kernel_rfl)) (by decide) (by decide) (fun K hK => ?_) (fun K hK => ?_)
                     ·skip
                      refine goes_ Try.func19 (by kernel_rfl) rfl #[.agg #[.int .i64 t1159, .int .i64 t1160], .int .i64 (Int.tmod t1163 (ji22))] (by rfl) rfl rfl (by (try simp only [List.map_toArray, List.map_cons, List.map_nil]); first | done | (simp only [hji22]; rfl) | rfl | (simp only [List.length_drop, List.length_take]; rfl)) ?_
                      with_reducible refine (spec_ShiftTable.calls k t1159 t1160 (Int.tmod t1163 (ji22)) t1164 t1165 t1166 _ A24.out).mono ?_
                      rintro e w84 ⟨rfl, hb⟩
                      refine ⟨_, rfl, ?_⟩
                      replace HO1156 := Aside0.mk (Kd.N_below (by (with_reducible repeat (first | apply Kd.N_alloc | apply Kd.N_drewN | apply Kd.N_drew)); exact HO1156.out) hb)
                      replace BK1141 := kb_ BK1141 hb
                      replace BK1145 := kb_ BK1145 hb
                      replace BK1149 := kb_ BK1149 hb
                      replace BK1162 := kb_ BK1162 hb
                      replace HB := Aside0.mk (below_step (bv4_ HB GE1141 GE1145 GE1149 GE1162) hb)
                      (try clear hb)
                      (try clear hb2)
                      (try clear hk)
                      (try clear hi)
                      refine hK.out _ _ ⟨(blk_cell BK1162.out 0).trans rfl, (blk_cell BK1162.out 1).trans rfl, (blk_cell BK1141.out 0).trans rfl, (blk_cell BK1141.out 1).trans rfl⟩ (fun hHeld => ?_)
                      clear hK K
                      refine no_ 93 ?_
                      refine pu_ HT_ 8 85 (bs 14 511) ?_
                      refine pu_ HT_ 9 94 (bs 14 1023) ?_
                      refine pu_ HT_ 10 95 (bs 14 2047) ?_
                      refine on_ HT_ 11 12 (bs 14 4095) (fun K hK => ?_)
                      refine box_step ?hg (N := 12) ?hd (cs := #[.int .i64 0, .int .i64 0]) (t := 25) ?hr ?_; (case hd => rfl); (case hg => rfl); (case hr => first | (go_simp; done) | (go_simp; rfl))
                      intro gb1167 hg w85 hbox hb
                      replace HO1156 := Aside0.mk (Kd.N_below (Kd.N_elderB (by (with_reducible repeat (first | apply Kd.N_alloc | apply Kd.N_drewN | apply Kd.N_drew)); exact HO1156.out) gb1167 (Nat.le_of_eq hg.symm)) hb)
                      have BK1167 := Aside0.mk (hbox)
                      have GW1167 := gw_ hg (below_size (bv4_ HB GE1141 GE1145 GE1149 GE1162))
                      have GE1167 := GW1167
                      replace HB := Aside0.mk (below_step (bv4_ HB GE1141 GE1145 GE1149 GE1162) hb)
                      have NB1141_1167 := nb_ hg (blk_lt (g := gb1141) (o := .cells #[.int .i64 t1139, .int .i64 t1140] 25 (0, 0)) (kv_ BK1141))
                      have NB1167_1141 := nc_ hg (blk_lt (g := gb1141) (o := .cells #[.int .i64 t1139, .int .i64 t1140] 25 (0, 0)) (kv_ BK1141))
                      replace BK1141 := kb_ BK1141 hb
                      have NB1145_1167 := nb_ hg (blk_lt (g := gb1145) (o := .cells #[.int .i64 t1142, .int .i64 t1143] 25 (0, 0)) (kv_ BK1145))
                      have NB1167_1145 := nc_ hg (blk_lt (g := gb1145) (o := .cells #[.int .i64 t1142, .int .i64 t1143] 25 (0, 0)) (kv_ BK1145))
                      replace BK1145 := kb_ BK1145 hb
                      have NB1149_1167 := nb_ hg (blk_lt (g := gb1149) (o := .cells #[.int .i64 t1146, .int .i64 t1147] 25 (0, 0)) (kv_ BK1149))
                      have NB1167_1149 := nc_ hg (blk_lt (g := gb1149) (o := .cells #[.int .i64 t1146, .int .i64 t1147] 25 (0, 0)) (kv_ BK1149))
                      replace BK1149 := kb_ BK1149 hb
                      have NB1162_1167 := nb_ hg (blk_lt (g := gb1162) (o := .cells #[.int .i64 t1159, .int .i64 t1160] 25 (0, 0)) (kv_ BK1162))
                      have NB1167_1162 := nc_ hg (blk_lt (g := gb1162) (o := .cells #[.int .i64 t1159, .int .i64 t1160] 25 (0, 0)) (kv_ BK1162))
                      replace BK1162 := kb_ BK1162 hb
                      clear hb hbox hg
                      refine hK.out _ _ ⟨(blk_cell BK1162.out 0).trans rfl, (blk_cell BK1162.out 1).trans rfl, (blk_cell BK1141.out 0).trans rfl, (blk_cell BK1141.out 1).trans rfl⟩ (fun hHeld => ?_)
                      clear hK K
                      refine no_ 12 ?_
                      exact norm_ (by simp only [putAll, Act.put, List.setIfInBounds_toArray, List.set_cons_zero, List.set_cons_succ]) (hCont (gb1167) _ ⟨hHeld, (by (with_reducible repeat (first | apply Kd.N_alloc | apply Kd.N_drewN | apply Kd.N_drew)); exact Kd.N_mono HO1156.out (fun _ hk => ⟨hk.1.1, ⟨hk.1.2.1, ⟨hk.1.2.2.1, ⟨hk.1.2.2.2, hk.2⟩⟩⟩⟩)), (kv_ BK1141), (kv_ BK1145), (kv_ BK1149), (kv_ BK1162), (kv_ BK1167), GW1167.out, GE1167.out, NB1141_1167.out, NB1167_1141.out, NB1145_1167.out, NB1167_1145.out, NB1149_1167.out, NB1167_1149.out, NB1162_1167.out, NB1167_1162.out, (bv5_ HB GE1141 GE1145 GE1149 GE1162 GE1167)⟩)
                     ·skip
                      refine box_step ?hg (N := 12) ?hd (cs := #[.int .i64 0, .int .i64 0]) (t := 25) ?hr ?_; (case hd => rfl); (case hg => rfl); (case hr => first | (go_simp; done) | (go_simp; rfl))
                      intro gb1167 hg w84 hbox hb
                      replace HO1156 := Aside0.mk (Kd.N_below (Kd.N_elderB (by (with_reducible repeat (first | apply Kd.N_alloc | apply Kd.N_drewN | apply Kd.N_drew)); exact HO1156.out) gb1167 (Nat.le_of_eq hg.symm)) hb)
                      have BK1167 := Aside0.mk (hbox)
                      have GW1167 := gw_ hg (below_size (bv4_ HB GE1141 GE1145 GE1149 GE1162))
                      have GE1167 := GW1167
                      replace HB := Aside0.mk (below_step (bv4_ HB GE1141 GE1145 GE1149 GE1162) hb)
                      have NB1141_1167 := nb_ hg (blk_lt (g := gb1141) (o := .cells #[.int .i64 t1139, .int .i64 t1140] 25 (0, 0)) (kv_ BK1141))
                      have NB1167_1141 := nc_ hg (blk_lt (g := gb1141) (o := .cells #[.int .i64 t1139, .int .i64 t1140] 25 (0, 0)) (kv_ BK1141))
                      replace BK1141 := kb_ BK1141 hb
                      have NB1145_1167 := nb_ hg (blk_lt (g := gb1145) (o := .cells #[.int .i64 t1142, .int .i64 t1143] 25 (0, 0)) (kv_ BK1145))
                      have NB1167_1145 := nc_ hg (blk_lt (g := gb1145) (o := .cells #[.int .i64 t1142, .int .i64 t1143] 25 (0, 0)) (kv_ BK1145))
                      replace BK1145 := kb_ BK1145 hb
                      have NB1149_1167 := nb_ hg (blk_lt (g := gb1149) (o := .cells #[.int .i64 t1146, .int .i64 t1147] 25 (0, 0)) (kv_ BK1149))
                      have NB1167_1149 := nc_ hg (blk_lt (g := gb1149) (o := .cells #[.int .i64 t1146, .int .i64 t1147] 25 (0, 0)) (kv_ BK1149))
                      replace BK1149 := kb_ BK1149 hb
                      have NB1162_1167 := nb_ hg (blk_lt (g := gb1162) (o := .cells #[.int .i64 t1159, .int .i64 t1160] 25 (0, 0)) (kv_ BK1162))
                      have NB1167_1162 := nc_ hg (blk_lt (g := gb1162) (o := .cells #[.int .i64 t1159, .int .i64 t1160] 25 (0, 0)) (kv_ BK1162))
                      replace BK1162 := kb_ BK1162 hb
                      clear hb hbox hg
                      refine hK.out _ _ ⟨(blk_cell BK1162.out 0).trans rfl, (blk_cell BK1162.out 1).trans rfl, (blk_cell BK1141.out 0).trans rfl, (blk_cell BK1141.out 1).trans rfl⟩ (fun hHeld => ?_)
                      clear hK K
                      refine no_ 12 ?_
                      refine on_ HT_ 7 93 (bs 14 2303) (fun K hK => ?_)
                      refine goes_ Try.func19 (by kernel_rfl) rfl #[.agg #[.int .i64 t1159, .int .i64 t1160], .int .i64 (Int.tmod t1163 (ji22))] (by rfl) rfl rfl (by (try simp only [List.map_toArray, List.map_cons, List.map_nil]); first | done | (simp only [hji22]; rfl) | rfl | (simp only [List.length_drop, List.length_take]; rfl)) ?_
                      with_reducible refine (spec_ShiftTable.calls k t1159 t1160 (Int.tmod t1163 (ji22)) t1164 t1165 t1166 _ A24.out).mono ?_
                      rintro e w85 ⟨rfl, hb⟩
                      refine ⟨_, rfl, ?_⟩
                      replace HO1156 := Aside0.mk (Kd.N_below (by (with_reducible repeat (first | apply Kd.N_alloc | apply Kd.N_drewN | apply Kd.N_drew)); exact HO1156.out) hb)
                      replace BK1141 := kb_ BK1141 hb
                      replace BK1145 := kb_ BK1145 hb
                      replace BK1149 := kb_ BK1149 hb
                      replace BK1162 := kb_ BK1162 hb
                      replace BK1167 := kb_ BK1167 hb
                      replace HB := Aside0.mk (below_step (bv5_ HB GE1141 GE1145 GE1149 GE1162 GE1167) hb)
                      (try clear hb)
                      (try clear hb2)
                      (try clear hk)
                      (try clear hi)
                      refine hK.out _ _ ⟨(blk_cell BK1162.out 0).trans rfl, (blk_cell BK1162.out 1).trans rfl, (blk_cell BK1141.out 0).trans rfl, (blk_cell BK1141.out 1).trans rfl⟩ (fun hHeld => ?_)
                      clear hK K
                      refine no_ 93 ?_
                      refine pu_ HT_ 8 85 (bs 14 2559) ?_
                      refine pu_ HT_ 9 94 (bs 14 3071) ?_
                      refine pu_ HT_ 10 95 (bs 14 4095) ?_
                      exact norm_ (by simp only [putAll, Act.put, List.setIfInBounds_toArray, List.set_cons_zero, List.set_cons_succ]) (hCont (gb1167) _ ⟨hHeld, (by (with_reducible repeat (first | apply Kd.N_alloc | apply Kd.N_drewN | apply Kd.N_drew)); exact Kd.N_mono HO1156.out (fun _ hk => ⟨hk.1.1, ⟨hk.1.2.1, ⟨hk.1.2.2.1, ⟨hk.1.2.2.2, hk.2⟩⟩⟩⟩)), (kv_ BK1141), (kv_ BK1145), (kv_ BK1149), (kv_ BK1162), (kv_ BK1167), GW1167.out, GE1167.out, NB1141_1167.out, NB1167_1141.out, NB1145_1167.out, NB1167_1145.out, NB1149_1167.out, NB1167_1149.out, NB1162_1167.out, NB1167_1162.out, (bv5_ HB GE1141 GE1145 GE1149 GE1162 GE1167)⟩)
                    ·skip
                     refine box_step ?hg (N := 12) ?hd (cs := #[.int .i64 0, .int .i64 0]) (t := 25) ?hr ?_; (case hd => rfl); (case hg => rfl); (case hr => first | (go_simp; done) | (go_simp; rfl))
                     intro gb1167 hg w84 hbox hb
                     replace HO1156 := Aside0.mk (Kd.N_below (Kd.N_elderB (by (with_reducible repeat (first | apply Kd.N_alloc | apply Kd.N_drewN | apply Kd.N_drew)); exact HO1156.out) gb1167 (Nat.le_of_eq hg.symm)) hb)
                     have BK1167 := Aside0.mk (hbox)
                     have GW1167 := gw_ hg (below_size (bv4_ HB GE1141 GE1145 GE1149 GE1162))
                     have GE1167 := GW1167
                     replace HB := Aside0.mk (below_step (bv4_ HB GE1141 GE1145 GE1149 GE1162) hb)
                     have NB1141_1167 := nb_ hg (blk_lt (g := gb1141) (o := .cells #[.int .i64 t1139, .int .i64 t1140] 25 (0, 0)) (kv_ BK1141))
                     have NB1167_1141 := nc_ hg (blk_lt (g := gb1141) (o := .cells #[.int .i64 t1139, .int .i64 t1140] 25 (0, 0)) (kv_ BK1141))
                     replace BK1141 := kb_ BK1141 hb
                     have NB1145_1167 := nb_ hg (blk_lt (g := gb1145) (o := .cells #[.int .i64 t1142, .int .i64 t1143] 25 (0, 0)) (kv_ BK1145))
                     have NB1167_1145 := nc_ hg (blk_lt (g := gb1145) (o := .cells #[.int .i64 t1142, .int .i64 t1143] 25 (0, 0)) (kv_ BK1145))
                     replace BK1145 := kb_ BK1145 hb
                     have NB1149_1167 := nb_ hg (blk_lt (g := gb1149) (o := .cells #[.int .i64 t1146, .int .i64 t1147] 25 (0, 0)) (kv_ BK1149))
                     have NB1167_1149 := nc_ hg (blk_lt (g := gb1149) (o := .cells #[.int .i64 t1146, .int .i64 t1147] 25 (0, 0)) (kv_ BK1149))
                     replace BK1149 := kb_ BK1149 hb
                     have NB1162_1167 := nb_ hg (blk_lt (g := gb1162) (o := .cells #[.int .i64 t1159, .int .i64 t1160] 25 (0, 0)) (kv_ BK1162))
                     have NB1167_1162 := nc_ hg (blk_lt (g := gb1162) (o := .cells #[.int .i64 t1159, .int .i64 t1160] 25 (0, 0)) (kv_ BK1162))
                     replace BK1162 := kb_ BK1162 hb
                     clear hb hbox hg
                     refine hK.out _ _ ⟨(blk_cell BK1162.out 0).trans rfl, (blk_cell BK1162.out 1).trans rfl, (blk_cell BK1141.out 0).trans rfl, (blk_cell BK1141.out 1).trans rfl⟩ (fun hHeld => ?_)
                     clear hK K
                     refine no_ 12 ?_
                     refine on_ HT_ 2 88 (bs 14 2111) (fun K hK => ?_)
                     refine goes_ Try.func18 (by kernel_rfl) rfl #[.slice A0 l0.length c0, .int .i64 4] (by rfl) rfl rfl mp_ ?_
                     with_reducible refine (laws_at.calls _ _ l0 4 t1163 _ ?side1 ?side2 A20.out).mono ?_
                     (case side1 => exact cv_ (Kd.C_below HR0.out HB.out))
                     (case side2 => exact HC0.out)
                     rintro e w' ⟨rfl, ⟨nd, rfl⟩⟩
                     refine ⟨_, rfl, ?_⟩
                     refine hK.out _ _ ⟨(blk_cell BK1162.out 0).trans rfl, (blk_cell BK1162.out 1).trans rfl, (blk_cell BK1141.out 0).trans rfl, (blk_cell BK1141.out 1).trans rfl⟩ (fun hHeld => ?_)
                     clear hK K
                     refine no_ 88 ?_
                     refine pu_ HT_ 6 92 (bs 14 2175) ?_
                     refine on_ HT_ 7 93 (bs 14 2303) (fun K hK => ?_)
                     refine goes_ Try.func19 (by kernel_rfl) rfl #[.agg #[.int .i64 t1159, .int .i64 t1160], .int .i64 (Int.tmod t1163 (ji22))] (by rfl) rfl rfl (by (try simp only [List.map_toArray, List.map_cons, List.map_nil]); first | done | (simp only [hji22]; rfl) | rfl | (simp only [List.length_drop, List.length_take]; rfl)) ?_
                     with_reducible refine (spec_ShiftTable.calls k t1159 t1160 (Int.tmod t1163 (ji22)) t1164 t1165 t1166 _ A24.out).mono ?_
                     rintro e w85 ⟨rfl, hb⟩
                     refine ⟨_, rfl, ?_⟩
                     replace HO1156 := Aside0.mk (Kd.N_below (by (with_reducible repeat (first | apply Kd.N_alloc | apply Kd.N_drewN | apply Kd.N_drew)); exact HO1156.out) hb)
                     replace BK1141 := kb_ BK1141 hb
                     replace BK1145 := kb_ BK1145 hb
                     replace BK1149 := kb_ BK1149 hb
                     replace BK1162 := kb_ BK1162 hb
                     replace BK1167 := kb_ BK1167 hb
                     replace HB := Aside0.mk (below_step (bv5_ HB GE1141 GE1145 GE1149 GE1162 GE1167) hb)
                     (try clear hb)
                     (try clear hb2)
                     (try clear hk)
                     (try clear hi)
                     refine hK.out _ _ ⟨(blk_cell BK1162.out 0).trans rfl, (blk_cell BK1162.out 1).trans rfl, (blk_cell BK1141.out 0).trans rfl, (blk_cell BK1141.out 1).trans rfl⟩ (fun hHeld => ?_)
                     clear hK K
                     refine no_ 93 ?_
                     refine pu_ HT_ 8 85 (bs 14 2559) ?_
                     refine pu_ HT_ 9 94 (bs 14 3071) ?_
                     refine pu_ HT_ 10 95 (bs 14 4095) ?_
                     exact norm_ (by simp only [putAll, Act.put, List.setIfInBounds_toArray, List.set_cons_zero, List.set_cons_succ]) (hCont (gb1167) _ ⟨hHeld, (by (with_reducible repeat (first | apply Kd.N_alloc | apply Kd.N_drewN | apply Kd.N_drew)); exact Kd.N_mono HO1156.out (fun _ hk => ⟨hk.1.1, ⟨hk.1.2.1, ⟨hk.1.2.2.1, ⟨hk.1.2.2.2, hk.2⟩⟩⟩⟩)), (kv_ BK1141), (kv_ BK1145), (kv_ BK1149), (kv_ BK1162), (kv_ BK1167), GW1167.out, GE1167.out, NB1141_1167.out, NB1167_1141.out, NB1145_1167.out, NB1167_1145.out, NB1149_1167.out, NB1167_1149.out, NB1162_1167.out, NB1167_1162.out, (bv5_ HB GE1141 GE1145 GE1149 GE1162 GE1167)⟩)
                   rintro gb1167 w86 ⟨hS_, h0_, h1_, h2_, h3_, h4_, h5_, h6_, h7_, h8_, h9_, h10_, h11_, h12_, h13_, h14_, h15_, h16_⟩
                   have n0_ : Aside0 (Kd.N (Kd.slice 3 (Kd.int .i64)) 38 w86 w.heap.size (fun k_ => k_ ≠ gb1141 ∧ k_ ≠ gb1145 ∧ k_ ≠ gb1149 ∧ k_ ≠ gb1162 ∧ k_ ≠ gb1167) (.slice Ao76 t1154.length co76) t1154) := ⟨h0_⟩
                   have n1_ : Aside0 (w86.heap[gb1141]? = some (.cells #[.int .i64 t1139, .int .i64 t1140] 25 (0, 0))) := ⟨h1_⟩
                   have n2_ : Aside0 (w86.heap[gb1145]? = some (.cells #[.int .i64 t1142, .int .i64 t1143] 25 (0, 0))) := ⟨h2_⟩
                   have n3_ : Aside0 (w86.heap[gb1149]? = some (.cells #[.int .i64 t1146, .int .i64 t1147] 25 (0, 0))) := ⟨h3_⟩
                   have n4_ : Aside0 (w86.heap[gb1162]? = some (.cells #[.int .i64 t1159, .int .i64 t1160] 25 (0, 0))) := ⟨h4_⟩
                   have n5_ : Aside0 (w86.heap[gb1167]? = some (.cells #[.int .i64 0, .int .i64 0] 25 (0, 0))) := ⟨h5_⟩
                   have n6_ : Aside0 (w.heap.size ≤ gb1167) := ⟨h6_⟩
                   have n7_ : Aside0 (w.heap.size ≤ gb1167) := ⟨h7_⟩
                   have n8_ : Aside0 (gb1141 ≠ gb1167) := ⟨h8_⟩
                   have n9_ : Aside0 (gb1167 ≠ gb1141) := ⟨h9_⟩
                   have n10_ : Aside0 (gb1145 ≠ gb1167) := ⟨h10_⟩
                   have n11_ : Aside0 (gb1167 ≠ gb1145) := ⟨h11_⟩
                   have n12_ : Aside0 (gb1149 ≠ gb1167) := ⟨h12_⟩
                   have n13_ : Aside0 (gb1167 ≠ gb1149) := ⟨h13_⟩
                   have n14_ : Aside0 (gb1162 ≠ gb1167) := ⟨h14_⟩
                   have n15_ : Aside0 (gb1167 ≠ gb1162) := ⟨h15_⟩
                   have n16_ : Aside0 (Below w.heap.size w w86) := ⟨h16_⟩
                   clear HO1156
                   clear BK1141
                   clear BK1145
                   clear BK1149
                   clear BK1162
                   clear HB
                   clear h0_ h1_ h2_ h3_ h4_ h5_ h6_ h7_ h8_ h9_ h10_ h11_ h12_ h13_ h14_ h15_ h16_
                   have HO1156 := n0_
                   have BK1141 := n1_
                   have BK1145 := n2_
                   have BK1149 := n3_
                   have BK1162 := n4_
                   have BK1167 := n5_
                   have GW1167 := n6_
                   have GE1167 := n7_
                   have NB1141_1167 := n8_
                   have NB1167_1141 := n9_
                   have NB1145_1167 := n10_
                   have NB1167_1145 := n11_
                   have NB1149_1167 := n12_
                   have NB1167_1149 := n13_
                   have NB1162_1167 := n14_
                   have NB1167_1162 := n15_
                   have HB := n16_
                   clear n0_ n1_ n2_ n3_ n4_ n5_ n6_ n7_ n8_ n9_ n10_ n11_ n12_ n13_ n14_ n15_ n16_
                   have hHeld : w86.cell? ⟨gb1162, 0, none⟩ = some (.int .i64 t1159) ∧ w86.cell? ⟨gb1162, 1, none⟩ = some (.int .i64 t1160) ∧ w86.cell? ⟨gb1141, 0, none⟩ = some (.int .i64 t1139) ∧ w86.cell? ⟨gb1141, 1, none⟩ = some (.int .i64 t1140) := hS_
                   refine norm_ (a' := ?_) ?_ ?_
                   rotate_left
                   ·simp only [putAll, Act.put, List.setIfInBounds_toArray, List.set_cons_zero, List.set_cons_succ]
                    rfl
                   refine one_ (i := 12) (N := none) (bs 14 8191) rfl rfl (one_of HT_.out (by kernel_rfl)) (by decide) (fun K hK => ?_)
                   have hs87 : w86.cell? ⟨gb1167, 0, none⟩ = some (.int .i64 0) := (blk_cell BK1167.out 0).trans rfl
                   have hfs87 := blk_frozen BK1167.out 0
                   have hns87_0 := NB1141_1167.out
                   have hns87_1 := NB1145_1167.out
                   have hns87_2 := NB1149_1167.out
                   have hns87_3 := NB1162_1167.out
                   have hms87_0 := NB1167_1141.out
                   have hms87_1 := NB1167_1145.out
                   have hms87_2 := NB1167_1149.out
                   have hms87_3 := NB1167_1162.out
                   have hs88 : w86.cell? ⟨gb1167, 1, none⟩ = some (.int .i64 0) := (blk_cell BK1167.out 1).trans rfl
                   have hfs88 := blk_frozen BK1167.out 1
                   have hns88_0 := NB1141_1167.out
                   have hns88_1 := NB1145_1167.out
                   have hns88_2 := NB1149_1167.out
                   have hns88_3 := NB1162_1167.out
                   have hms88_0 := NB1167_1141.out
                   have hms88_1 := NB1167_1145.out
                   have hms88_2 := NB1167_1149.out
                   have hms88_3 := NB1167_1162.out
                   refine skip_ (w1 := ?_) (by rfl) rfl ?_ ?_
                   rotate_left
                   ·go_simp
                    rfl
                   refine hK.out _ _ ⟨((cell_far (p := ⟨gb1167, _, none⟩) NB1162_1167.out _).trans (((cell_far (p := ⟨gb1167, _, none⟩) NB1162_1167.out _).trans (hHeld.1)))), ((cell_far (p := ⟨gb1167, _, none⟩) NB1162_1167.out _).trans (((cell_far (p := ⟨gb1167, _, none⟩) NB1162_1167.out _).trans (hHeld.2.1)))), ((cell_far (p := ⟨gb1167, _, none⟩) NB1141_1167.out _).trans (((cell_far (p := ⟨gb1167, _, none⟩) NB1141_1167.out _).trans (hHeld.2.2.1)))), ((cell_far (p := ⟨gb1167, _, none⟩) NB1141_1167.out _).trans (((cell_far (p := ⟨gb1167, _, none⟩) NB1141_1167.out _).trans (hHeld.2.2.2))))⟩ (fun hHeld => ?_)
                   clear hK K
                   refine pu_ HT_ 13 13 (bs 14 16383) ?_
                   refine done_ (done_of HT_.out (by kernel_rfl)) ?_
                   have hnb89 := NB1167_1141.out
                   have hnc89 := NB1141_1167.out
                   have hnb90 := NB1167_1145.out
                   have hnc90 := NB1145_1167.out
                   have hnb91 := NB1167_1149.out
                   have hnc91 := NB1149_1167.out
                   have hnb92 := NB1167_1162.out
                   have hnc92 := NB1162_1167.out
                   obtain ⟨hcz93_0, hcz93_1, hfz93_0, hfz93_1⟩ := c2_ BK1167
                   try go_wp2_with (first | ((with_reducible refine gate_callee (f := 20) rfl ?_); refine gl_ 98 Try.func20 #[.agg #[.int .i64 t1164, .int .i64 t1165]] rfl mp_ ?_; (with_reducible refine (spec_NotTable.calls t1164 t1165 t1168 t1169 t1170 _ A25.out).mono ?_); rintro e w94 ⟨rfl, hb⟩; refine ⟨_, rfl, ?_⟩; have n0_ := Aside0.mk (Kd.N_below (by (with_reducible repeat (first | apply Kd.N_alloc | apply Kd.N_drewN | apply Kd.N_drew)); exact (Kd.N_mono (Kd.N_far (p := ⟨gb1167, 1, none⟩) (Kd.N_far (p := ⟨gb1167, 0, none⟩) (Kd.N_mono HO1156.out (fun k_ hk => (⟨hk, hk.2.2.2.2⟩ : _ ∧ k_ ≠ gb1167))) (fun _ hk => hk.2) (.int .i64 t1164)) (fun _ hk => hk.2) (.int .i64 t1165)) (fun _ h_ => h_.1))) hb); have n1_ := Aside0.mk (blk_below (g := gb1141) (o := .cells #[.int .i64 t1139, .int .i64 t1140] 25 (0, 0)) (by (with_reducible repeat (first | refine blk_drewN ?_ _ | refine blk_drew ?_ | refine blk_alloc ?_ _)); refine blk_far ?_ NB1141_1167.out _; (with_reducible repeat (first | refine blk_drewN ?_ _ | refine blk_drew ?_ | refine blk_alloc ?_ _)); refine blk_far ?_ NB1141_1167.out _; (with_reducible repeat (first | refine blk_drewN ?_ _ | refine blk_drew ?_ | refine blk_alloc ?_ _)); exact BK1141.out) hb); have n2_ := Aside0.mk (blk_below (g := gb1145) (o := .cells #[.int .i64 t1142, .int .i64 t1143] 25 (0, 0)) (by (with_reducible repeat (first | refine blk_drewN ?_ _ | refine blk_drew ?_ | refine blk_alloc ?_ _)); refine blk_far ?_ NB1145_1167.out _; (with_reducible repeat (first | refine blk_drewN ?_ _ | refine blk_drew ?_ | refine blk_alloc ?_ _)); refine blk_far ?_ NB1145_1167.out _; (with_reducible repeat (first | refine blk_drewN ?_ _ | refine blk_drew ?_ | refine blk_alloc ?_ _)); exact BK1145.out) hb); have n3_ := Aside0.mk (blk_below (g := gb1149) (o := .cells #[.int .i64 t1146, .int .i64 t1147] 25 (0, 0)) (by (with_reducible repeat (first | refine blk_drewN ?_ _ | refine blk_drew ?_ | refine blk_alloc ?_ _)); refine blk_far ?_ NB1149_1167.out _; (with_reducible repeat (first | refine blk_drewN ?_ _ | refine blk_drew ?_ | refine blk_alloc ?_ _)); refine blk_far ?_ NB1149_1167.out _; (with_reducible repeat (first | refine blk_drewN ?_ _ | refine blk_drew ?_ | refine blk_alloc ?_ _)); exact BK1149.out) hb); have n4_ := Aside0.mk (blk_below (g := gb1162) (o := .cells #[.int .i64 t1159, .int .i64 t1160] 25 (0, 0)) (by (with_reducible repeat (first | refine blk_drewN ?_ _ | refine blk_drew ?_ | refine blk_alloc ?_ _)); refine blk_far ?_ NB1162_1167.out _; (with_reducible repeat (first | refine blk_drewN ?_ _ | refine blk_drew ?_ | refine blk_alloc ?_ _)); refine blk_far ?_ NB1162_1167.out _; (with_reducible repeat (first | refine blk_drewN ?_ _ | refine blk_drew ?_ | refine blk_alloc ?_ _)); exact BK1162.out) hb); have n5_ := Aside0.mk (blk_below (g := gb1167) (o := .cells #[.int .i64 t1164, .int .i64 t1165] 25 (0, 0)) (by (with_reducible repeat (first | refine blk_drewN ?_ _ | refine blk_drew ?_ | refine blk_alloc ?_ _)); refine blk_put (cs := #[.int .i64 t1164, .int .i64 0]) ?_ 1 _ rfl; (with_reducible repeat (first | refine blk_drewN ?_ _ | refine blk_drew ?_ | refine blk_alloc ?_ _)); refine blk_put (cs := #[.int .i64 0, .int .i64 0]) ?_ 0 _ rfl; (with_reducible repeat (first | refine blk_drewN ?_ _ | refine blk_drew ?_ | refine blk_alloc ?_ _)); exact BK1167.out) hb); have n6_ := Aside0.mk (below_step (bv5_ HB GE1141 GE1145 GE1149 GE1162 GE1167) hb); clear HO1156; clear BK1141; clear BK1145; clear BK1149; clear BK1162; clear BK1167; clear HB; have HO1156 := n0_; have BK1141 := n1_; have BK1145 := n2_; have BK1149 := n3_; have BK1162 := n4_; have BK1167 := n5_; have HB := n6_; clear n0_ n1_ n2_ n3_ n4_ n5_ n6_; (try clear hb); (try clear hb2); (try clear hk); (try clear hi)) | ((with_reducible refine gate_dst (N := 14) rfl ?_); refine bx_ 14 #[.int .i64 0, .int .i64 0] 25 ?_; intro gb1171 hg w95 hbox hb; have n0_ := Aside0.mk (Kd.N_below (Kd.N_elderB (by (with_reducible repeat (first | apply Kd.N_alloc | apply Kd.N_drewN | apply Kd.N_drew)); exact HO1156.out) gb1171 (Nat.le_of_eq hg.symm)) hb); have n1_ := kb_ BK1141 hb; have n2_ := kb_ BK1145 hb; have n3_ := kb_ BK1149 hb; have n4_ := kb_ BK1162 hb; have n5_ := kb_ BK1167 hb; have n6_ := Aside0.mk (below_step (bv5_ HB GE1141 GE1145 GE1149 GE1162 GE1167) hb); have n7_ := Aside0.mk (hbox); have n8_ := gw_ hg (below_size (bv5_ HB GE1141 GE1145 GE1149 GE1162 GE1167)); have n9_ := gw_ hg (below_size (bv5_ HB GE1141 GE1145 GE1149 GE1162 GE1167)); have n10_ := nb_ hg (blk_lt (g := gb1141) (o := .cells #[.int .i64 t1139, .int .i64 t1140] 25 (0, 0)) (kv_ BK1141)); have n11_ := nc_ hg (blk_lt (g := gb1141) (o := .cells #[.int .i64 t1139, .int .i64 t1140] 25 (0, 0)) (kv_ BK1141)); have n12_ := nb_ hg (blk_lt (g := gb1145) (o := .cells #[.int .i64 t1142, .int .i64 t1143] 25 (0, 0)) (kv_ BK1145)); have n13_ := nc_ hg (blk_lt (g := gb1145) (o := .cells #[.int .i64 t1142, .int .i64 t1143] 25 (0, 0)) (kv_ BK1145)); have n14_ := nb_ hg (blk_lt (g := gb1149) (o := .cells #[.int .i64 t1146, .int .i64 t1147] 25 (0, 0)) (kv_ BK1149)); have n15_ := nc_ hg (blk_lt (g := gb1149) (o := .cells #[.int .i64 t1146, .int .i64 t1147] 25 (0, 0)) (kv_ BK1149)); have n16_ := nb_ hg (blk_lt (g := gb1162) (o := .cells #[.int .i64 t1159, .int .i64 t1160] 25 (0, 0)) (kv_ BK1162)); have n17_ := nc_ hg (blk_lt (g := gb1162) (o := .cells #[.int .i64 t1159, .int .i64 t1160] 25 (0, 0)) (kv_ BK1162)); have n18_ := nb_ hg (blk_lt (g := gb1167) (o := .cells #[.int .i64 t1164, .int .i64 t1165] 25 (0, 0)) (kv_ BK1167)); have n19_ := nc_ hg (blk_lt (g := gb1167) (o := .cells #[.int .i64 t1164, .int .i64 t1165] 25 (0, 0)) (kv_ BK1167)); clear HO1156; clear BK1141; clear BK1145; clear BK1149; clear BK1162; clear BK1167; clear HB; have HO1156 := n0_; have BK1141 := n1_; have BK1145 := n2_; have BK1149 := n3_; have BK1162 := n4_; have BK1167 := n5_; have HB := n6_; have BK1171 := n7_; have GW1171 := n8_; have GE1171 := n9_; have NB1141_1171 := n10_; have NB1171_1141 := n11_; have NB1145_1171 := n12_; have NB1171_1145 := n13_; have NB1149_1171 := n14_; have NB1171_1149 := n15_; have NB1162_1171 := n16_; have NB1171_1162 := n17_; have NB1167_1171 := n18_; have NB1171_1167 := n19_; clear n0_ n1_ n2_ n3_ n4_ n5_ n6_ n7_ n8_ n9_ n10_ n11_ n12_ n13_ n14_ n15_ n16_ n17_ n18_ n19_; clear hb hbox hg; have hnb96 := NB1171_1141.out; have hnc96 := NB1141_1171.out; have hnb97 := NB1171_1145.out; have hnc97 := NB1145_1171.out; have hnb98 := NB1171_1149.out; have hnc98 := NB1149_1171.out; have hnb99 := NB1171_1162.out; have hnc99 := NB1162_1171.out; have hnb100 := NB1171_1167.out; have hnc100 := NB1167_1171.out; have hcz101_0 : w95.cell? ⟨gb1171, 0, none⟩ = some (.int .i64 0) := (blk_cell BK1171.out 0).trans rfl; have hcz101_1 : w95.cell? ⟨gb1171, 1, none⟩ = some (.int .i64 0) := (blk_cell BK1171.out 1).trans rfl; have hfz101_0 := blk_frozen BK1171.out 0; have hfz101_1 := blk_frozen BK1171.out 1; have hcz102_0 : w95.cell? ⟨gb1167, 0, none⟩ = some (.int .i64 t1164) := (blk_cell BK1167.out 0).trans rfl; have hcz102_1 : w95.cell? ⟨gb1167, 1, none⟩ = some (.int .i64 t1165) := (blk_cell BK1167.out 1).trans rfl; have hfz102_0 := blk_frozen BK1167.out 0; have hfz102_1 := blk_frozen BK1167.out 1) | ((with_reducible refine gate_callee (f := 10) rfl ?_); refine gl_ 103 Try.func10 #[.agg #[.int .i64 t1164, .int .i64 t1165]] rfl mp_ ?_; (with_reducible refine (impl_CanonicalTable.calls t1164 t1165 t1172 t1173 t1174 _ A26.out).mono ?_); rintro e w103 ⟨rfl, hb⟩; refine ⟨_, rfl, ?_⟩; have n0_ := Aside0.mk (Kd.N_below (by (with_reducible repeat (first | apply Kd.N_alloc | apply Kd.N_drewN | apply Kd.N_drew)); exact (Kd.N_mono (Kd.N_far (p := ⟨gb1171, 1, none⟩) (Kd.N_far (p := ⟨gb1171, 0, none⟩) (Kd.N_mono HO1156.out (fun k_ hk => (⟨hk, hk.2⟩ : _ ∧ k_ ≠ gb1171))) (fun _ hk => hk.2) (.int .i64 t1168)) (fun _ hk => hk.2) (.int .i64 t1169)) (fun _ h_ => h_.1))) hb); have n1_ := Aside0.mk (blk_below (g := gb1141) (o := .cells #[.int .i64 t1139, .int .i64 t1140] 25 (0, 0)) (by (with_reducible repeat (first | refine blk_drewN ?_ _ | refine blk_drew ?_ | refine blk_alloc ?_ _)); refine blk_far ?_ NB1141_1171.out _; (with_reducible repeat (first | refine blk_drewN ?_ _ | refine blk_drew ?_ | refine blk_alloc ?_ _)); refine blk_far ?_ NB1141_1171.out _; (with_reducible repeat (first | refine blk_drewN ?_ _ | refine blk_drew ?_ | refine blk_alloc ?_ _)); exact BK1141.out) hb); have n2_ := Aside0.mk (blk_below (g := gb1145) (o := .cells #[.int .i64 t1142, .int .i64 t1143] 25 (0, 0)) (by (with_reducible repeat (first | refine blk_drewN ?_ _ | refine blk_drew ?_ | refine blk_alloc ?_ _)); refine blk_far ?_ NB1145_1171.out _; (with_reducible repeat (first | refine blk_drewN ?_ _ | refine blk_drew ?_ | refine blk_alloc ?_ _)); refine blk_far ?_ NB1145_1171.out _; (with_reducible repeat (first | refine blk_drewN ?_ _ | refine blk_drew ?_ | refine blk_alloc ?_ _)); exact BK1145.out) hb); have n3_ := Aside0.mk (blk_below (g := gb1149) (o := .cells #[.int .i64 t1146, .int .i64 t1147] 25 (0, 0)) (by (with_reducible repeat (first | refine blk_drewN ?_ _ | refine blk_drew ?_ | refine blk_alloc ?_ _)); refine blk_far ?_ NB1149_1171.out _; (with_reducible repeat (first | refine blk_drewN ?_ _ | refine blk_drew ?_ | refine blk_alloc ?_ _)); refine blk_far ?_ NB1149_1171.out _; (with_reducible repeat (first | refine blk_drewN ?_ _ | refine blk_drew ?_ | refine blk_alloc ?_ _)); exact BK1149.out) hb); have n4_ := Aside0.mk (blk_below (g := gb1162) (o := .cells #[.int .i64 t1159, .int .i64 t1160] 25 (0, 0)) (by (with_reducible repeat (first | refine blk_drewN ?_ _ | refine blk_drew ?_ | refine blk_alloc ?_ _)); refine blk_far ?_ NB1162_1171.out _; (with_reducible repeat (first | refine blk_drewN ?_ _ | refine blk_drew ?_ | refine blk_alloc ?_ _)); refine blk_far ?_ NB1162_1171.out _; (with_reducible repeat (first | refine blk_drewN ?_ _ | refine blk_drew ?_ | refine blk_alloc ?_ _)); exact BK1162.out) hb); have n5_ := Aside0.mk (blk_below (g := gb1167) (o := .cells #[.int .i64 t1164, .int .i64 t1165] 25 (0, 0)) (by (with_reducible repeat (first | refine blk_drewN ?_ _ | refine blk_drew ?_ | refine blk_alloc ?_ _)); refine blk_far ?_ NB1167_1171.out _; (with_reducible repeat (first | refine blk_drewN ?_ _ | refine blk_drew ?_ | refine blk_alloc ?_ _)); refine blk_far ?_ NB1167_1171.out _; (with_reducible repeat (first | refine blk_drewN ?_ _ | refine blk_drew ?_ | refine blk_alloc ?_ _)); exact BK1167.out) hb); have n6_ := Aside0.mk (blk_below (g := gb1171) (o := .cells #[.int .i64 t1168, .int .i64 t1169] 25 (0, 0)) (by (with_reducible repeat (first | refine blk_drewN ?_ _ | refine blk_drew ?_ | refine blk_alloc ?_ _)); refine blk_put (cs := #[.int .i64 t1168, .int .i64 0]) ?_ 1 _ rfl; (with_reducible repeat (first | refine blk_drewN ?_ _ | refine blk_drew ?_ | refine blk_alloc ?_ _)); refine blk_put (cs := #[.int .i64 0, .int .i64 0]) ?_ 0 _ rfl; (with_reducible repeat (first | refine blk_drewN ?_ _ | refine blk_drew ?_ | refine blk_alloc ?_ _)); exact BK1171.out) hb); have n7_ := Aside0.mk (below_step (bv6_ HB GE1141 GE1145 GE1149 GE1162 GE1167 GE1171) hb); clear HO1156; clear BK1141; clear BK1145; clear BK1149; clear BK1162; clear BK1167; clear BK1171; clear HB; have HO1156 := n0_; have BK1141 := n1_; have BK1145 := n2_; have BK1149 := n3_; have BK1162 := n4_; have BK1167 := n5_; have BK1171 := n6_; have HB := n7_; clear n0_ n1_ n2_ n3_ n4_ n5_ n6_ n7_; (try clear hb); (try clear hb2); (try clear hk); (try clear hi)) | ((with_reducible refine gate_dst (N := 16) rfl ?_); refine bx_ 16 #[.int .i64 0, .int .i64 0] 25 ?_; intro gb1175 hg w104 hbox hb; have n0_ := Aside0.mk (Kd.N_below (Kd.N_elderB (by (with_reducible repeat (first | apply Kd.N_alloc | apply Kd.N_drewN | apply Kd.N_drew)); exact HO1156.out) gb1175 (Nat.le_of_eq hg.symm)) hb); have n1_ := kb_ BK1141 hb; have n2_ := kb_ BK1145 hb; have n3_ := kb_ BK1149 hb; have n4_ := kb_ BK1162 hb; have n5_ := kb_ BK1167 hb; have n6_ := kb_ BK1171 hb; have n7_ := Aside0.mk (below_step (bv6_ HB GE1141 GE1145 GE1149 GE1162 GE1167 GE1171) hb); have n8_ := Aside0.mk (hbox); have n9_ := gw_ hg (below_size (bv6_ HB GE1141 GE1145 GE1149 GE1162 GE1167 GE1171)); have n10_ := gw_ hg (below_size (bv6_ HB GE1141 GE1145 GE1149 GE1162 GE1167 GE1171)); have n11_ := nb_ hg (blk_lt (g := gb1141) (o := .cells #[.int .i64 t1139, .int .i64 t1140] 25 (0, 0)) (kv_ BK1141)); have n12_ := nc_ hg (blk_lt (g := gb1141) (o := .cells #[.int .i64 t1139, .int .i64 t1140] 25 (0, 0)) (kv_ BK1141)); have n13_ := nb_ hg (blk_lt (g := gb1145) (o := .cells #[.int .i64 t1142, .int .i64 t1143] 25 (0, 0)) (kv_ BK1145)); have n14_ := nc_ hg (blk_lt (g := gb1145) (o := .cells #[.int .i64 t1142, .int .i64 t1143] 25 (0, 0)) (kv_ BK1145)); have n15_ := nb_ hg (blk_lt (g := gb1149) (o := .cells #[.int .i64 t1146, .int .i64 t1147] 25 (0, 0)) (kv_ BK1149)); have n16_ := nc_ hg (blk_lt (g := gb1149) (o := .cells #[.int .i64 t1146, .int .i64 t1147] 25 (0, 0)) (kv_ BK1149)); have n17_ := nb_ hg (blk_lt (g := gb1162) (o := .cells #[.int .i64 t1159, .int .i64 t1160] 25 (0, 0)) (kv_ BK1162)); have n18_ := nc_ hg (blk_lt (g := gb1162) (o := .cells #[.int .i64 t1159, .int .i64 t1160] 25 (0, 0)) (kv_ BK1162)); have n19_ := nb_ hg (blk_lt (g := gb1167) (o := .cells #[.int .i64 t1164, .int .i64 t1165] 25 (0, 0)) (kv_ BK1167)); have n20_ := nc_ hg (blk_lt (g := gb1167) (o := .cells #[.int .i64 t1164, .int .i64 t1165] 25 (0, 0)) (kv_ BK1167)); have n21_ := nb_ hg (blk_lt (g := gb1171) (o := .cells #[.int .i64 t1168, .int .i64 t1169] 25 (0, 0)) (kv_ BK1171)); have n22_ := nc_ hg (blk_lt (g := gb1171) (o := .cells #[.int .i64 t1168, .int .i64 t1169] 25 (0, 0)) (kv_ BK1171)); clear HO1156; clear BK1141; clear BK1145; clear BK1149; clear BK1162; clear BK1167; clear BK1171; clear HB; have HO1156 := n0_; have BK1141 := n1_; have BK1145 := n2_; have BK1149 := n3_; have BK1162 := n4_; have BK1167 := n5_; have BK1171 := n6_; have HB := n7_; have BK1175 := n8_; have GW1175 := n9_; have GE1175 := n10_; have NB1141_1175 := n11_; have NB1175_1141 := n12_; have NB1145_1175 := n13_; have NB1175_1145 := n14_; have NB1149_1175 := n15_; have NB1175_1149 := n16_; have NB1162_1175 := n17_; have NB1175_1162 := n18_; have NB1167_1175 := n19_; have NB1175_1167 := n20_; have NB1171_1175 := n21_; have NB1175_1171 := n22_; clear n0_ n1_ n2_ n3_ n4_ n5_ n6_ n7_ n8_ n9_ n10_ n11_ n12_ n13_ n14_ n15_ n16_ n17_ n18_ n19_ n20_ n21_ n22_; clear hb hbox hg; have hnb105 := NB1175_1141.out; have hnc105 := NB1141_1175.out; have hnb106 := NB1175_1145.out; have hnc106 := NB1145_1175.out; have hnb107 := NB1175_1149.out; have hnc107 := NB1149_1175.out; have hnb108 := NB1175_1162.out; have hnc108 := NB1162_1175.out; have hnb109 := NB1175_1167.out; have hnc109 := NB1167_1175.out; have hnb110 := NB1175_1171.out; have hnc110 := NB1171_1175.out; have hcz111_0 : w104.cell? ⟨gb1175, 0, none⟩ = some (.int .i64 0) := (blk_cell BK1175.out 0).trans rfl; have hcz111_1 : w104.cell? ⟨gb1175, 1, none⟩ = some (.int .i64 0) := (blk_cell BK1175.out 1).trans rfl; have hfz111_0 := blk_frozen BK1175.out 0; have hfz111_1 := blk_frozen BK1175.out 1; have hcz112_0 : w104.cell? ⟨gb1171, 0, none⟩ = some (.int .i64 t1168) := (blk_cell BK1171.out 0).trans rfl; have hcz112_1 : w104.cell? ⟨gb1171, 1, none⟩ = some (.int .i64 t1169) := (blk_cell BK1171.out 1).trans rfl; have hfz112_0 := blk_frozen BK1171.out 0; have hfz112_1 := blk_frozen BK1171.out 1) | ((with_reducible refine gate_callee (f := 10) rfl ?_); refine gl_ 108 Try.func10 #[.agg #[.int .i64 t1168, .int .i64 t1169]] rfl mp_ ?_; (with_reducible refine (impl_CanonicalTable.calls t1168 t1169 t1176 t1177 t1178 _ A27.out).mono ?_); rintro e w113 ⟨rfl, hb⟩; refine ⟨_, rfl, ?_⟩; have n0_ := Aside0.mk (Kd.N_below (by (with_reducible repeat (first | apply Kd.N_alloc | apply Kd.N_drewN | apply Kd.N_drew)); exact (Kd.N_mono (Kd.N_far (p := ⟨gb1175, 1, none⟩) (Kd.N_far (p := ⟨gb1175, 0, none⟩) (Kd.N_mono HO1156.out (fun k_ hk => (⟨hk, hk.2⟩ : _ ∧ k_ ≠ gb1175))) (fun _ hk => hk.2) (.int .i64 t1172)) (fun _ hk => hk.2) (.int .i64 t1173)) (fun _ h_ => h_.1))) hb); have n1_ := Aside0.mk (blk_below (g := gb1141) (o := .cells #[.int .i64 t1139, .int .i64 t1140] 25 (0, 0)) (by (with_reducible repeat (first | refine blk_drewN ?_ _ | refine blk_drew ?_ | refine blk_alloc ?_ _)); refine blk_far ?_ NB1141_1175.out _; (with_reducible repeat (first | refine blk_drewN ?_ _ | refine blk_drew ?_ | refine blk_alloc ?_ _)); refine blk_far ?_ NB1141_1175.out _; (with_reducible repeat (first | refine blk_drewN ?_ _ | refine blk_drew ?_ | refine blk_alloc ?_ _)); exact BK1141.out) hb); have n2_ := Aside0.mk (blk_below (g := gb1145) (o := .cells #[.int .i64 t1142, .int .i64 t1143] 25 (0, 0)) (by (with_reducible repeat (first | refine blk_drewN ?_ _ | refine blk_drew ?_ | refine blk_alloc ?_ _)); refine blk_far ?_ NB1145_1175.out _; (with_reducible repeat (first | refine blk_drewN ?_ _ | refine blk_drew ?_ | refine blk_alloc ?_ _)); refine blk_far ?_ NB1145_1175.out _; (with_reducible repeat (first | refine blk_drewN ?_ _ | refine blk_drew ?_ | refine blk_alloc ?_ _)); exact BK1145.out) hb); have n3_ := Aside0.mk (blk_below (g := gb1149) (o := .cells #[.int .i64 t1146, .int .i64 t1147] 25 (0, 0)) (by (with_reducible repeat (first | refine blk_drewN ?_ _ | refine blk_drew ?_ | refine blk_alloc ?_ _)); refine blk_far ?_ NB1149_1175.out _; (with_reducible repeat (first | refine blk_drewN ?_ _ | refine blk_drew ?_ | refine blk_alloc ?_ _)); refine blk_far ?_ NB1149_1175.out _; (with_reducible repeat (first | refine blk_drewN ?_ _ | refine blk_drew ?_ | refine blk_alloc ?_ _)); exact BK1149.out) hb); have n4_ := Aside0.mk (blk_below (g := gb1162) (o := .cells #[.int .i64 t1159, .int .i64 t1160] 25 (0, 0)) (by (with_reducible repeat (first | refine blk_drewN ?_ _ | refine blk_drew ?_ | refine blk_alloc ?_ _)); refine blk_far ?_ NB1162_1175.out _; (with_reducible repeat (first | refine blk_drewN ?_ _ | refine blk_drew ?_ | refine blk_alloc ?_ _)); refine blk_far ?_ NB1162_1175.out _; (with_reducible repeat (first | refine blk_drewN ?_ _ | refine blk_drew ?_ | refine blk_alloc ?_ _)); exact BK1162.out) hb); have n5_ := Aside0.mk (blk_below (g := gb1167) (o := .cells #[.int .i64 t1164, .int .i64 t1165] 25 (0, 0)) (by (with_reducible repeat (first | refine blk_drewN ?_ _ | refine blk_drew ?_ | refine blk_alloc ?_ _)); refine blk_far ?_ NB1167_1175.out _; (with_reducible repeat (first | refine blk_drewN ?_ _ | refine blk_drew ?_ | refine blk_alloc ?_ _)); refine blk_far ?_ NB1167_1175.out _; (with_reducible repeat (first | refine blk_drewN ?_ _ | refine blk_drew ?_ | refine blk_alloc ?_ _)); exact BK1167.out) hb); have n6_ := Aside0.mk (blk_below (g := gb1171) (o := .cells #[.int .i64 t1168, .int .i64 t1169] 25 (0, 0)) (by (with_reducible repeat (first | refine blk_drewN ?_ _ | refine blk_drew ?_ | refine blk_alloc ?_ _)); refine blk_far ?_ NB1171_1175.out _; (with_reducible repeat (first | refine blk_drewN ?_ _ | refine blk_drew ?_ | refine blk_alloc ?_ _)); refine blk_far ?_ NB1171_1175.out _; (with_reducible repeat (first | refine blk_drewN ?_ _ | refine blk_drew ?_ | refine blk_alloc ?_ _)); exact BK1171.out) hb); have n7_ := Aside0.mk (blk_below (g := gb1175) (o := .cells #[.int .i64 t1172, .int .i64 t1173] 25 (0, 0)) (by (with_reducible repeat (first | refine blk_drewN ?_ _ | refine blk_drew ?_ | refine blk_alloc ?_ _)); refine blk_put (cs := #[.int .i64 t1172, .int .i64 0]) ?_ 1 _ rfl; (with_reducible repeat (first | refine blk_drewN ?_ _ | refine blk_drew ?_ | refine blk_alloc ?_ _)); refine blk_put (cs := #[.int .i64 0, .int .i64 0]) ?_ 0 _ rfl; (with_reducible repeat (first | refine blk_drewN ?_ _ | refine blk_drew ?_ | refine blk_alloc ?_ _)); exact BK1175.out) hb); have n8_ := Aside0.mk (below_step (bv7_ HB GE1141 GE1145 GE1149 GE1162 GE1167 GE1171 GE1175) hb); clear HO1156; clear BK1141; clear BK1145; clear BK1149; clear BK1162; clear BK1167; clear BK1171; clear BK1175; clear HB; have HO1156 := n0_; have BK1141 := n1_; have BK1145 := n2_; have BK1149 := n3_; have BK1162 := n4_; have BK1167 := n5_; have BK1171 := n6_; have BK1175 := n7_; have HB := n8_; clear n0_ n1_ n2_ n3_ n4_ n5_ n6_ n7_ n8_; (try clear hb); (try clear hb2); (try clear hk); (try clear hi)) | ((with_reducible refine gate_dst (N := 18) rfl ?_); refine bx_ 18 #[.int .i64 0, .int .i64 0] 25 ?_; intro gb1179 hg w114 hbox hb; have n0_ := Aside0.mk (Kd.N_below (Kd.N_elderB (by (with_reducible repeat (first | apply Kd.N_alloc | apply Kd.N_drewN | apply Kd.N_drew)); exact HO1156.out) gb1179 (Nat.le_of_eq hg.symm)) hb); have n1_ := kb_ BK1141 hb; have n2_ := kb_ BK1145 hb; have n3_ := kb_ BK1149 hb; have n4_ := kb_ BK1162 hb; have n5_ := kb_ BK1167 hb; have n6_ := kb_ BK1171 hb; have n7_ := kb_ BK1175 hb; have n8_ := Aside0.mk (below_step (bv7_ HB GE1141 GE1145 GE1149 GE1162 GE1167 GE1171 GE1175) hb); have n9_ := Aside0.mk (hbox); have n10_ := gw_ hg (below_size (bv7_ HB GE1141 GE1145 GE1149 GE1162 GE1167 GE1171 GE1175)); have n11_ := gw_ hg (below_size (bv7_ HB GE1141 GE1145 GE1149 GE1162 GE1167 GE1171 GE1175)); have n12_ := nb_ hg (blk_lt (g := gb1141) (o := .cells #[.int .i64 t1139, .int .i64 t1140] 25 (0, 0)) (kv_ BK1141)); have n13_ := nc_ hg (blk_lt (g := gb1141) (o := .cells #[.int .i64 t1139, .int .i64 t1140] 25 (0, 0)) (kv_ BK1141)); have n14_ := nb_ hg (blk_lt (g := gb1145) (o := .cells #[.int .i64 t1142, .int .i64 t1143] 25 (0, 0)) (kv_ BK1145)); have n15_ := nc_ hg (blk_lt (g := gb1145) (o := .cells #[.int .i64 t1142, .int .i64 t1143] 25 (0, 0)) (kv_ BK1145)); have n16_ := nb_ hg (blk_lt (g := gb1149) (o := .cells #[.int .i64 t1146, .int .i64 t1147] 25 (0, 0)) (kv_ BK1149)); have n17_ := nc_ hg (blk_lt (g := gb1149) (o := .cells #[.int .i64 t1146, .int .i64 t1147] 25 (0, 0)) (kv_ BK1149)); have n18_ := nb_ hg (blk_lt (g := gb1162) (o := .cells #[.int .i64 t1159, .int .i64 t1160] 25 (0, 0)) (kv_ BK1162)); have n19_ := nc_ hg (blk_lt (g := gb1162) (o := .cells #[.int .i64 t1159, .int .i64 t1160] 25 (0, 0)) (kv_ BK1162)); have n20_ := nb_ hg (blk_lt (g := gb1167) (o := .cells #[.int .i64 t1164, .int .i64 t1165] 25 (0, 0)) (kv_ BK1167)); have n21_ := nc_ hg (blk_lt (g := gb1167) (o := .cells #[.int .i64 t1164, .int .i64 t1165] 25 (0, 0)) (kv_ BK1167)); have n22_ := nb_ hg (blk_lt (g := gb1171) (o := .cells #[.int .i64 t1168, .int .i64 t1169] 25 (0, 0)) (kv_ BK1171)); have n23_ := nc_ hg (blk_lt (g := gb1171) (o := .cells #[.int .i64 t1168, .int .i64 t1169] 25 (0, 0)) (kv_ BK1171)); have n24_ := nb_ hg (blk_lt (g := gb1175) (o := .cells #[.int .i64 t1172, .int .i64 t1173] 25 (0, 0)) (kv_ BK1175)); have n25_ := nc_ hg (blk_lt (g := gb1175) (o := .cells #[.int .i64 t1172, .int .i64 t1173] 25 (0, 0)) (kv_ BK1175)); clear HO1156; clear BK1141; clear BK1145; clear BK1149; clear BK1162; clear BK1167; clear BK1171; clear BK1175; clear HB; have HO1156 := n0_; have BK1141 := n1_; have BK1145 := n2_; have BK1149 := n3_; have BK1162 := n4_; have BK1167 := n5_; have BK1171 := n6_; have BK1175 := n7_; have HB := n8_; have BK1179 := n9_; have GW1179 := n10_; have GE1179 := n11_; have NB1141_1179 := n12_; have NB1179_1141 := n13_; have NB1145_1179 := n14_; have NB1179_1145 := n15_; have NB1149_1179 := n16_; have NB1179_1149 := n17_; have NB1162_1179 := n18_; have NB1179_1162 := n19_; have NB1167_1179 := n20_; have NB1179_1167 := n21_; have NB1171_1179 := n22_; have NB1179_1171 := n23_; have NB1175_1179 := n24_; have NB1179_1175 := n25_; clear n0_ n1_ n2_ n3_ n4_ n5_ n6_ n7_ n8_ n9_ n10_ n11_ n12_ n13_ n14_ n15_ n16_ n17_ n18_ n19_ n20_ n21_ n22_ n23_ n24_ n25_; clear hb hbox hg; have hnb115 := NB1179_1141.out; have hnc115 := NB1141_1179.out; have hnb116 := NB1179_1145.out; have hnc116 := NB1145_1179.out; have hnb117 := NB1179_1149.out; have hnc117 := NB1149_1179.out; have hnb118 := NB1179_1162.out; have hnc118 := NB1162_1179.out; have hnb119 := NB1179_1167.out; have hnc119 := NB1167_1179.out; have hnb120 := NB1179_1171.out; have hnc120 := NB1171_1179.out; have hnb121 := NB1179_1175.out; have hnc121 := NB1175_1179.out; have hcz122_0 : w114.cell? ⟨gb1179, 0, none⟩ = some (.int .i64 0) := (blk_cell BK1179.out 0).trans rfl; have hcz122_1 : w114.cell? ⟨gb1179, 1, none⟩ = some (.int .i64 0) := (blk_cell BK1179.out 1).trans rfl; have hfz122_0 := blk_frozen BK1179.out 0; have hfz122_1 := blk_frozen BK1179.out 1; have hnb123 := NB1141_1162.out; have hnc123 := NB1162_1141.out; have hcz124_0 : w114.cell? ⟨gb1141, 0, none⟩ = some (.int .i64 t1139) := (blk_cell BK1141.out 0).trans rfl; have hcz124_1 : w114.cell? ⟨gb1141, 1, none⟩ = some (.int .i64 t1140) := (blk_cell BK1141.out 1).trans rfl; have hfz124_0 := blk_frozen BK1141.out 0; have hfz124_1 := blk_frozen BK1141.out 1))
                   have n0_ : Aside0 (Kd.N (Kd.slice 3 (Kd.int .i64)) 38 ((w114.setCell ⟨gb1179, 0, none⟩ (.int .i64 t1176)).setCell ⟨gb1179, 1, none⟩ (.int .i64 t1177)) w.heap.size (fun k_ => k_ ≠ gb1141 ∧ k_ ≠ gb1145 ∧ k_ ≠ gb1149 ∧ k_ ≠ gb1162 ∧ k_ ≠ gb1167 ∧ k_ ≠ gb1171 ∧ k_ ≠ gb1175 ∧ k_ ≠ gb1179) (.slice Ao76 t1154.length co76) t1154) := ⟨by (with_reducible repeat (first | apply Kd.N_alloc | apply Kd.N_drewN | apply Kd.N_drew)); exact Kd.N_mono (Kd.N_far (p := ⟨gb1179, 1, none⟩) (Kd.N_far (p := ⟨gb1179, 0, none⟩) (Kd.N_mono HO1156.out (fun k_ hk => (⟨hk, hk.2⟩ : _ ∧ k_ ≠ gb1179))) (fun _ hk => hk.2) (.int .i64 t1176)) (fun _ hk => hk.2) (.int .i64 t1177)) (fun _ hk => ⟨hk.1.1.1.1.1, ⟨hk.1.1.1.1.2.1, ⟨hk.1.1.1.1.2.2.1, ⟨hk.1.1.1.1.2.2.2.1, ⟨hk.1.1.1.1.2.2.2.2, ⟨hk.1.1.1.2, ⟨hk.1.1.2, hk.1.2⟩⟩⟩⟩⟩⟩⟩)⟩
                   have n1_ : Aside0 (((w114.setCell ⟨gb1179, 0, none⟩ (.int .i64 t1176)).setCell ⟨gb1179, 1, none⟩ (.int .i64 t1177)).heap[gb1141]? = some (.cells #[.int .i64 t1139, .int .i64 t1140] 25 (0, 0))) := ⟨by (with_reducible repeat (first | refine blk_drewN ?_ _ | refine blk_drew ?_ | refine blk_alloc ?_ _)); refine blk_far ?_ NB1141_1179.out _; (with_reducible repeat (first | refine blk_drewN ?_ _ | refine blk_drew ?_ | refine blk_alloc ?_ _)); refine blk_far ?_ NB1141_1179.out _; (with_reducible repeat (first | refine blk_drewN ?_ _ | refine blk_drew ?_ | refine blk_alloc ?_ _)); exact BK1141.out⟩
                   have n2_ : Aside0 (((w114.setCell ⟨gb1179, 0, none⟩ (.int .i64 t1176)).setCell ⟨gb1179, 1, none⟩ (.int .i64 t1177)).heap[gb1145]? = some (.cells #[.int .i64 t1142, .int .i64 t1143] 25 (0, 0))) := ⟨by (with_reducible repeat (first | refine blk_drewN ?_ _ | refine blk_drew ?_ | refine blk_alloc ?_ _)); refine blk_far ?_ NB1145_1179.out _; (with_reducible repeat (first | refine blk_drewN ?_ _ | refine blk_drew ?_ | refine blk_alloc ?_ _)); refine blk_far ?_ NB1145_1179.out _; (with_reducible repeat (first | refine blk_drewN ?_ _ | refine blk_drew ?_ | refine blk_alloc ?_ _)); exact BK1145.out⟩
                   have n3_ : Aside0 (((w114.setCell ⟨gb1179, 0, none⟩ (.int .i64 t1176)).setCell ⟨gb1179, 1, none⟩ (.int .i64 t1177)).heap[gb1149]? = some (.cells #[.int .i64 t1146, .int .i64 t1147] 25 (0, 0))) := ⟨by (with_reducible repeat (first | refine blk_drewN ?_ _ | refine blk_drew ?_ | refine blk_alloc ?_ _)); refine blk_far ?_ NB1149_1179.out _; (with_reducible repeat (first | refine blk_drewN ?_ _ | refine blk_drew ?_ | refine blk_alloc ?_ _)); refine blk_far ?_ NB1149_1179.out _; (with_reducible repeat (first | refine blk_drewN ?_ _ | refine blk_drew ?_ | refine blk_alloc ?_ _)); exact BK1149.out⟩
                   have n4_ : Aside0 (((w114.setCell ⟨gb1179, 0, none⟩ (.int .i64 t1176)).setCell ⟨gb1179, 1, none⟩ (.int .i64 t1177)).heap[gb1162]? = some (.cells #[.int .i64 t1159, .int .i64 t1160] 25 (0, 0))) := ⟨by (with_reducible repeat (first | refine blk_drewN ?_ _ | refine blk_drew ?_ | refine blk_alloc ?_ _)); refine blk_far ?_ NB1162_1179.out _; (with_reducible repeat (first | refine blk_drewN ?_ _ | refine blk_drew ?_ | refine blk_alloc ?_ _)); refine blk_far ?_ NB1162_1179.out _; (with_reducible repeat (first | refine blk_drewN ?_ _ | refine blk_drew ?_ | refine blk_alloc ?_ _)); exact BK1162.out⟩
                   have n5_ : Aside0 (((w114.setCell ⟨gb1179, 0, none⟩ (.int .i64 t1176)).setCell ⟨gb1179, 1, none⟩ (.int .i64 t1177)).heap[gb1167]? = some (.cells #[.int .i64 t1164, .int .i64 t1165] 25 (0, 0))) := ⟨by (with_reducible repeat (first | refine blk_drewN ?_ _ | refine blk_drew ?_ | refine blk_alloc ?_ _)); refine blk_far ?_ NB1167_1179.out _; (with_reducible repeat (first | refine blk_drewN ?_ _ | refine blk_drew ?_ | refine blk_alloc ?_ _)); refine blk_far ?_ NB1167_1179.out _; (with_reducible repeat (first | refine blk_drewN ?_ _ | refine blk_drew ?_ | refine blk_alloc ?_ _)); exact BK1167.out⟩
                   have n6_ : Aside0 (((w114.setCell ⟨gb1179, 0, none⟩ (.int .i64 t1176)).setCell ⟨gb1179, 1, none⟩ (.int .i64 t1177)).heap[gb1171]? = some (.cells #[.int .i64 t1168, .int .i64 t1169] 25 (0, 0))) := ⟨by (with_reducible repeat (first | refine blk_drewN ?_ _ | refine blk_drew ?_ | refine blk_alloc ?_ _)); refine blk_far ?_ NB1171_1179.out _; (with_reducible repeat (first | refine blk_drewN ?_ _ | refine blk_drew ?_ | refine blk_alloc ?_ _)); refine blk_far ?_ NB1171_1179.out _; (with_reducible repeat (first | refine blk_drewN ?_ _ | refine blk_drew ?_ | refine blk_alloc ?_ _)); exact BK1171.out⟩
                   have n7_ : Aside0 (((w114.setCell ⟨gb1179, 0, none⟩ (.int .i64 t1176)).setCell ⟨gb1179, 1, none⟩ (.int .i64 t1177)).heap[gb1175]? = some (.cells #[.int .i64 t1172, .int .i64 t1173] 25 (0, 0))) := ⟨by (with_reducible repeat (first | refine blk_drewN ?_ _ | refine blk_drew ?_ | refine blk_alloc ?_ _)); refine blk_far ?_ NB1175_1179.out _; (with_reducible repeat (first | refine blk_drewN ?_ _ | refine blk_drew ?_ | refine blk_alloc ?_ _)); refine blk_far ?_ NB1175_1179.out _; (with_reducible repeat (first | refine blk_drewN ?_ _ | refine blk_drew ?_ | refine blk_alloc ?_ _)); exact BK1175.out⟩
                   have n8_ : Aside0 (((w114.setCell ⟨gb1179, 0, none⟩ (.int .i64 t1176)).setCell ⟨gb1179, 1, none⟩ (.int .i64 t1177)).heap[gb1179]? = some (.cells #[.int .i64 t1176, .int .i64 t1177] 25 (0, 0))) := ⟨by (with_reducible repeat (first | refine blk_drewN ?_ _ | refine blk_drew ?_ | refine blk_alloc ?_ _)); refine blk_put (cs := #[.int .i64 t1176, .int .i64 0]) ?_ 1 _ rfl; (with_reducible repeat (first | refine blk_drewN ?_ _ | refine blk_drew ?_ | refine blk_alloc ?_ _)); refine blk_put (cs := #[.int .i64 0, .int .i64 0]) ?_ 0 _ rfl; (with_reducible repeat (first | refine blk_drewN ?_ _ | refine blk_drew ?_ | refine blk_alloc ?_ _)); exact BK1179.out⟩
                   have n9_ : Aside0 (Below w.heap.size w ((w114.setCell ⟨gb1179, 0, none⟩ (.int .i64 t1176)).setCell ⟨gb1179, 1, none⟩ (.int .i64 t1177))) := ⟨bv8_ HB GE1141 GE1145 GE1149 GE1162 GE1167 GE1171 GE1175 GE1179⟩
                   (try clear HO1156)
                   (try clear BK1141)
                   (try clear BK1145)
                   (try clear BK1149)
                   (try clear BK1162)
                   (try clear BK1167)
                   (try clear BK1171)
                   (try clear BK1175)
                   (try clear BK1179)
                   (try clear HB)
                   generalize ((w114.setCell ⟨gb1179, 0, none⟩ (.int .i64 t1176)).setCell ⟨gb1179, 1, none⟩ (.int .i64 t1177)) = w125 at n0_ n1_ n2_ n3_ n4_ n5_ n6_ n7_ n8_ n9_ ⊢
                   have HO1156 := n0_
                   have BK1141 := n1_
                   have BK1145 := n2_
                   have BK1149 := n3_
                   have BK1162 := n4_
                   have BK1167 := n5_
                   have BK1171 := n6_
                   have BK1175 := n7_
                   have BK1179 := n8_
                   have HB := n9_
                   clear n0_ n1_ n2_ n3_ n4_ n5_ n6_ n7_ n8_ n9_
                   replace HO1156 := Aside0.mk (Kd.N_drew HO1156.out)
                   replace BK1141 := Aside0.mk (blk_drew BK1141.out)
                   replace BK1145 := Aside0.mk (blk_drew BK1145.out)
                   replace BK1149 := Aside0.mk (blk_drew BK1149.out)
                   replace BK1162 := Aside0.mk (blk_drew BK1162.out)
                   replace BK1167 := Aside0.mk (blk_drew BK1167.out)
                   replace BK1171 := Aside0.mk (blk_drew BK1171.out)
                   replace BK1175 := Aside0.mk (blk_drew BK1175.out)
                   replace BK1179 := Aside0.mk (blk_drew BK1179.out)
                   replace HB := Aside0.mk (below_drew1 HB.out)
                   (try clear hcz56_0); (try clear hcz56_1); (try clear hfz56_0); (try clear hfz56_1); (try clear hnb59); (try clear hnc59); (try clear hcz60_0); (try clear hcz60_1); (try clear hfz60_0); (try clear hfz60_1); (try clear hcz61_0); (try clear hcz61_1)
                   (try clear hfz61_0); (try clear hfz61_1); (try clear hnb64); (try clear hnc64); (try clear hnb65); (try clear hnc65); (try clear hcz66_0); (try clear hcz66_1); (try clear hfz66_0); (try clear hfz66_1); (try clear hcz73_0); (try clear hcz73_1)
                   (try clear hfz73_0); (try clear hfz73_1); (try clear hnb89); (try clear hnc89); (try clear hnb90); (try clear hnc90); (try clear hnb91); (try clear hnc91); (try clear hnb92); (try clear hnc92); (try clear hcz93_0); (try clear hcz93_1)
                   (try clear hfz93_0); (try clear hfz93_1); (try clear hnb96); (try clear hnc96); (try clear hnb97); (try clear hnc97); (try clear hnb98); (try clear hnc98); (try clear hnb99); (try clear hnc99); (try clear hnb100); (try clear hnc100)
                   (try clear hcz101_0); (try clear hcz101_1); (try clear hfz101_0); (try clear hfz101_1); (try clear hcz102_0); (try clear hcz102_1); (try clear hfz102_0); (try clear hfz102_1); (try clear hnb105); (try clear hnc105); (try clear hnb106); (try clear hnc106)
                   (try clear hnb107); (try clear hnc107); (try clear hnb108); (try clear hnc108); (try clear hnb109); (try clear hnc109); (try clear hnb110); (try clear hnc110); (try clear hcz111_0); (try clear hcz111_1); (try clear hfz111_0); (try clear hfz111_1)
                   (try clear hcz112_0); (try clear hcz112_1); (try clear hfz112_0); (try clear hfz112_1); (try clear hnb115); (try clear hnc115); (try clear hnb116); (try clear hnc116); (try clear hnb117); (try clear hnc117); (try clear hnb118); (try clear hnc118)
                   (try clear hnb119); (try clear hnc119); (try clear hnb120); (try clear hnc120); (try clear hnb121); (try clear hnc121); (try clear hcz122_0); (try clear hcz122_1); (try clear hfz122_0); (try clear hfz122_1); (try clear hnb123); (try clear hnc123)
                   (try clear hcz124_0); (try clear hcz124_1); (try clear hfz124_0); (try clear hfz124_1)
                   refine start_ (n := 37) (S := fun w' => w'.cell? ⟨gb1175, 0, none⟩ = some (.int .i64 t1172) ∧ w'.cell? ⟨gb1175, 1, none⟩ = some (.int .i64 t1173) ∧ w'.cell? ⟨gb1149, 0, none⟩ = some (.int .i64 t1146) ∧ w'.cell? ⟨gb1149, 1, none⟩ = some (.int .i64 t1147) ∧ w'.cell? ⟨gb1179, 0, none⟩ = some (.int .i64 t1176) ∧ w'.cell? ⟨gb1179, 1, none⟩ = some (.int .i64 t1177) ∧ w'.cell? ⟨gb1141, 0, none⟩ = some (.int .i64 t1139) ∧ w'.cell? ⟨gb1141, 1, none⟩ = some (.int .i64 t1140) ∧ w'.cell? ⟨gb1171, 0, none⟩ = some (.int .i64 t1168) ∧ w'.cell? ⟨gb1171, 1, none⟩ = some (.int .i64 t1169) ∧ w'.cell? ⟨gb1167, 0, none⟩ = some (.int .i64 t1164) ∧ w'.cell? ⟨gb1167, 1, none⟩ = some (.int .i64 t1165)) (ds := []) (bs 37 0) (by kernel_rfl) rfl (by kernel_rfl) ⟨(blk_cell BK1175.out 0).trans rfl, (blk_cell BK1175.out 1).trans rfl, (blk_cell BK1149.out 0).trans rfl, (blk_cell BK1149.out 1).trans rfl, (blk_cell BK1179.out 0).trans rfl, (blk_cell BK1179.out 1).trans rfl, (blk_cell BK1141.out 0).trans rfl, (blk_cell BK1141.out 1).trans rfl, (blk_cell BK1171.out 0).trans rfl, (blk_cell BK1171.out 1).trans rfl, (blk_cell BK1167.out 0).trans rfl, (blk_cell BK1167.out 1).trans rfl⟩ (fun hHeld => ?_); refine with_tabW laws_FnClasses.tab16 laws_FnClasses.bits16 (fun HT_ HW_ => ?_)
                   generalize w125.drew = w126 at HO1156 BK1141 BK1145 BK1149 BK1162 BK1167 BK1171 BK1175 BK1179 HB hHeld ⊢
                   refine ta12_ HT_ HW_ 0 117 (bs 37 1) hHeld ?_
                   refine ta12_ HT_ HW_ 1 118 (bs 37 3) hHeld ?_
                   refine pu_ HT_ 2 119 (bs 37 7) ?_
                   refine pu_ HT_ 3 120 (bs 37 15) ?_
                   refine ta12_ HT_ HW_ 4 121 (bs 37 31) hHeld ?_
                   refine ta12_ HT_ HW_ 5 122 (bs 37 63) hHeld ?_
                   refine pu_ HT_ 6 123 (bs 37 127) ?_
                   refine pu_ HT_ 7 124 (bs 37 255) ?_
                   refine pu_ HT_ 8 125 (bs 37 511) ?_
                   refine ta12_ HT_ HW_ 9 126 (bs 37 1023) hHeld ?_
                   refine ta12_ HT_ HW_ 10 127 (bs 37 2047) hHeld ?_
                   refine on_ HT_ 11 128 (bs 37 4095) (fun K hK => ?_)
                   refine goes_ Try.func21 (by kernel_rfl) rfl #[.agg #[.int .i64 t1139, .int .i64 t1140], .agg #[.int .i64 t1168, .int .i64 t1169]] (by rfl) rfl rfl mp_ ?_
                   with_reducible refine (impl_AreAlike.calls t1139 t1140 t1168 t1169 true _ A32.out).mono ?_
                   rintro e w127 ⟨rfl, hb⟩
                   refine ⟨_, rfl, ?_⟩
                   replace HO1156 := Aside0.mk (Kd.N_below (by (with_reducible repeat (first | apply Kd.N_alloc | apply Kd.N_drewN | apply Kd.N_drew)); exact HO1156.out) hb)
                   replace BK1141 := kb_ BK1141 hb
                   replace BK1145 := kb_ BK1145 hb
                   replace BK1149 := kb_ BK1149 hb
                   replace BK1162 := kb_ BK1162 hb
                   replace BK1167 := kb_ BK1167 hb
                   replace BK1171 := kb_ BK1171 hb
                   replace BK1175 := kb_ BK1175 hb
                   replace BK1179 := kb_ BK1179 hb
                   replace HB := Aside0.mk (below_step (bv8_ HB GE1141 GE1145 GE1149 GE1162 GE1167 GE1171 GE1175 GE1179) hb)
                   (try clear hb)
                   (try clear hb2)
                   (try clear hk)
                   (try clear hi)
                   refine hK.out _ _ ⟨(blk_cell BK1175.out 0).trans rfl, (blk_cell BK1175.out 1).trans rfl, (blk_cell BK1149.out 0).trans rfl, (blk_cell BK1149.out 1).trans rfl, (blk_cell BK1179.out 0).trans rfl, (blk_cell BK1179.out 1).trans rfl, (blk_cell BK1141.out 0).trans rfl, (blk_cell BK1141.out 1).trans rfl, (blk_cell BK1171.out 0).trans rfl, (blk_cell BK1171.out 1).trans rfl, (blk_cell BK1167.out 0).trans rfl, (blk_cell BK1167.out 1).trans rfl⟩ (fun hHeld => ?_)
                   clear hK K
                   refine no_ 128 ?_
                   refine pu_ HT_ 12 129 (bs 37 8191) ?_
                   refine pu_ HT_ 13 130 (bs 37 16383) ?_
                   refine pu_ HT_ 14 131 (bs 37 32767) ?_
                   refine pu_ HT_ 20 137 (bs 37 1081343) ?_
                   refine ta12_ HT_ HW_ 15 132 (bs 37 1114111) hHeld ?_
                   refine ta12_ HT_ HW_ 17 134 (bs 37 1245183) hHeld ?_
                   refine on_ HT_ 16 133 (bs 37 1310719) (fun K hK => ?_)
                   refine goes_ Try.func14 (by kernel_rfl) rfl #[.agg #[.int .i64 t1139, .int .i64 t1140]] (by rfl) rfl rfl mp_ ?_
                   with_reducible refine (impl_ClassSize.calls t1139 t1140 t1181 _ A34.out).mono ?_
                   rintro e w128 ⟨rfl, hb⟩
                   refine ⟨_, rfl, ?_⟩
                   replace HO1156 := Aside0.mk (Kd.N_below (by (with_reducible repeat (first | apply Kd.N_alloc | apply Kd.N_drewN | apply Kd.N_drew)); exact HO1156.out) hb)
                   replace BK1141 := kb_ BK1141 hb
                   replace BK1145 := kb_ BK1145 hb
                   replace BK1149 := kb_ BK1149 hb
                   replace BK1162 := kb_ BK1162 hb
                   replace BK1167 := kb_ BK1167 hb
                   replace BK1171 := kb_ BK1171 hb
                   replace BK1175 := kb_ BK1175 hb
                   replace BK1179 := kb_ BK1179 hb
                   replace HB := Aside0.mk (below_step (bv8_ HB GE1141 GE1145 GE1149 GE1162 GE1167 GE1171 GE1175 GE1179) hb)
                   (try clear hb)
                   (try clear hb2)
                   (try clear hk)
                   (try clear hi)
                   refine hK.out _ _ ⟨(blk_cell BK1175.out 0).trans rfl, (blk_cell BK1175.out 1).trans rfl, (blk_cell BK1149.out 0).trans rfl, (blk_cell BK1149.out 1).trans rfl, (blk_cell BK1179.out 0).trans rfl, (blk_cell BK1179.out 1).trans rfl, (blk_cell BK1141.out 0).trans rfl, (blk_cell BK1141.out 1).trans rfl, (blk_cell BK1171.out 0).trans rfl, (blk_cell BK1171.out 1).trans rfl, (blk_cell BK1167.out 0).trans rfl, (blk_cell BK1167.out 1).trans rfl⟩ (fun hHeld => ?_)
                   clear hK K
                   refine no_ 133 ?_
                   refine on_ HT_ 18 135 (bs 37 1572863) (fun K hK => ?_)
                   refine goes_ Try.func12 (by kernel_rfl) rfl #[.agg #[.int .i64 t1139, .int .i64 t1140]] (by rfl) rfl rfl mp_ ?_
                   with_reducible refine (impl_SymmetriesOf.calls t1139 t1140 t1182 _ A35.out).mono ?_
                   rintro e w129 ⟨rfl, hb⟩
                   refine ⟨_, rfl, ?_⟩
                   replace HO1156 := Aside0.mk (Kd.N_below (by (with_reducible repeat (first | apply Kd.N_alloc | apply Kd.N_drewN | apply Kd.N_drew)); exact HO1156.out) hb)
                   replace BK1141 := kb_ BK1141 hb
                   replace BK1145 := kb_ BK1145 hb
                   replace BK1149 := kb_ BK1149 hb
                   replace BK1162 := kb_ BK1162 hb
                   replace BK1167 := kb_ BK1167 hb
                   replace BK1171 := kb_ BK1171 hb
                   replace BK1175 := kb_ BK1175 hb
                   replace BK1179 := kb_ BK1179 hb
                   replace HB := Aside0.mk (below_step (bv8_ HB GE1141 GE1145 GE1149 GE1162 GE1167 GE1171 GE1175 GE1179) hb)
                   (try clear hb)
                   (try clear hb2)
                   (try clear hk)
                   (try clear hi)
                   refine hK.out _ _ ⟨(blk_cell BK1175.out 0).trans rfl, (blk_cell BK1175.out 1).trans rfl, (blk_cell BK1149.out 0).trans rfl, (blk_cell BK1149.out 1).trans rfl, (blk_cell BK1179.out 0).trans rfl, (blk_cell BK1179.out 1).trans rfl, (blk_cell BK1141.out 0).trans rfl, (blk_cell BK1141.out 1).trans rfl, (blk_cell BK1171.out 0).trans rfl, (blk_cell BK1171.out 1).trans rfl, (blk_cell BK1167.out 0).trans rfl, (blk_cell BK1167.out 1).trans rfl⟩ (fun hHeld => ?_)
                   clear hK K
                   refine no_ 135 ?_
                   refine pu_ HT_ 19 136 (bs 37 2097151) ?_
                   refine pu_ HT_ 21 138 (bs 37 4194303) ?_
                   refine pu_ HT_ 22 139 (bs 37 8388607) ?_
                   refine pu_ HT_ 23 140 (bs 37 16777215) ?_
                   refine ta12_ HT_ HW_ 24 141 (bs 37 33554431) hHeld ?_
                   refine ta12_ HT_ HW_ 26 143 (bs 37 100663295) hHeld ?_
                   refine on_ HT_ 25 142 (bs 37 134217727) (fun K hK => ?_)
                   refine goes_ Try.func22 (by kernel_rfl) rfl #[.agg #[.int .i64 t1139, .int .i64 t1140]] (by rfl) rfl rfl mp_ ?_
                   with_reducible refine (impl_LeastAverage.calls t1139 t1140 t1183 _ A37.out).mono ?_
                   rintro e w130 ⟨rfl, hb⟩
                   refine ⟨_, rfl, ?_⟩
                   replace HO1156 := Aside0.mk (Kd.N_below (by (with_reducible repeat (first | apply Kd.N_alloc | apply Kd.N_drewN | apply Kd.N_drew)); exact HO1156.out) hb)
                   replace BK1141 := kb_ BK1141 hb
                   replace BK1145 := kb_ BK1145 hb
                   replace BK1149 := kb_ BK1149 hb
                   replace BK1162 := kb_ BK1162 hb
                   replace BK1167 := kb_ BK1167 hb
                   replace BK1171 := kb_ BK1171 hb
                   replace BK1175 := kb_ BK1175 hb
                   replace BK1179 := kb_ BK1179 hb
                   replace HB := Aside0.mk (below_step (bv8_ HB GE1141 GE1145 GE1149 GE1162 GE1167 GE1171 GE1175 GE1179) hb)
                   (try clear hb)
                   (try clear hb2)
                   (try clear hk)
                   (try clear hi)
                   refine hK.out _ _ ⟨(blk_cell BK1175.out 0).trans rfl, (blk_cell BK1175.out 1).trans rfl, (blk_cell BK1149.out 0).trans rfl, (blk_cell BK1149.out 1).trans rfl, (blk_cell BK1179.out 0).trans rfl, (blk_cell BK1179.out 1).trans rfl, (blk_cell BK1141.out 0).trans rfl, (blk_cell BK1141.out 1).trans rfl, (blk_cell BK1171.out 0).trans rfl, (blk_cell BK1171.out 1).trans rfl, (blk_cell BK1167.out 0).trans rfl, (blk_cell BK1167.out 1).trans rfl⟩ (fun hHeld => ?_)
                   clear hK K
                   refine no_ 142 ?_
                   refine on_ HT_ 27 144 (bs 37 268435455) (fun K hK => ?_)
                   refine goes_ Try.func22 (by kernel_rfl) rfl #[.agg #[.int .i64 t1164, .int .i64 t1165]] (by rfl) rfl rfl mp_ ?_
                   with_reducible refine (impl_LeastAverage.calls t1164 t1165 t1184 _ A38.out).mono ?_
                   rintro e w131 ⟨rfl, hb⟩
                   refine ⟨_, rfl, ?_⟩
                   replace HO1156 := Aside0.mk (Kd.N_below (by (with_reducible repeat (first | apply Kd.N_alloc | apply Kd.N_drewN | apply Kd.N_drew)); exact HO1156.out) hb)
                   replace BK1141 := kb_ BK1141 hb
                   replace BK1145 := kb_ BK1145 hb
                   replace BK1149 := kb_ BK1149 hb
                   replace BK1162 := kb_ BK1162 hb
                   replace BK1167 := kb_ BK1167 hb
                   replace BK1171 := kb_ BK1171 hb
                   replace BK1175 := kb_ BK1175 hb
                   replace BK1179 := kb_ BK1179 hb
                   replace HB := Aside0.mk (below_step (bv8_ HB GE1141 GE1145 GE1149 GE1162 GE1167 GE1171 GE1175 GE1179) hb)
                   (try clear hb)
                   (try clear hb2)
                   (try clear hk)
                   (try clear hi)
                   refine hK.out _ _ ⟨(blk_cell BK1175.out 0).trans rfl, (blk_cell BK1175.out 1).trans rfl, (blk_cell BK1149.out 0).trans rfl, (blk_cell BK1149.out 1).trans rfl, (blk_cell BK1179.out 0).trans rfl, (blk_cell BK1179.out 1).trans rfl, (blk_cell BK1141.out 0).trans rfl, (blk_cell BK1141.out 1).trans rfl, (blk_cell BK1171.out 0).trans rfl, (blk_cell BK1171.out 1).trans rfl, (blk_cell BK1167.out 0).trans rfl, (blk_cell BK1167.out 1).trans rfl⟩ (fun hHeld => ?_)
                   clear hK K
                   refine no_ 144 ?_
                   refine pu_ HT_ 28 145 (bs 37 536870911) ?_
                   refine pu_ HT_ 29 146 (bs 37 1073741823) ?_
                   refine pu_ HT_ 30 147 (bs 37 2147483647) ?_
                   refine pu_ HT_ 31 148 (bs 37 4294967295) ?_
                   refine pu_ HT_ 33 150 (bs 37 12884901887) ?_
                   refine ta12_ HT_ HW_ 32 149 (bs 37 17179869183) hHeld ?_
                   refine ta12_ HT_ HW_ 34 151 (bs 37 34359738367) hHeld ?_
                   refine pu_ HT_ 35 152 (bs 37 68719476735) ?_
                   refine pu_ HT_ 36 153 (bs 37 137438953471) ?_
                   refine done_ (done_of HT_.out (by kernel_rfl)) ?_
                   try go_wp2_with (first | ((with_reducible refine gate_callee (f := 23) rfl ?_); refine gl_ 156 Try.func23 #[.slice A0 l0.length c0] rfl mp_ ?_; (with_reducible refine (spec_DrawAreAlike.calls k _ _ l0 t1185 t1186 t1187 t1188 _ ?side1 ?side2 A41.out).mono ?_); (case side1 => exact cv_ (Kd.C_below HR0.out HB.out)); (case side2 => exact HC0.out); rintro e w132 ⟨rfl, hb⟩; refine ⟨_, rfl, ?_⟩; have n0_ := Aside0.mk (Kd.N_below (by (with_reducible repeat (first | apply Kd.N_alloc | apply Kd.N_drewN | apply Kd.N_drew)); exact HO1156.out) hb); have n1_ := kb_ BK1141 hb; have n2_ := kb_ BK1145 hb; have n3_ := kb_ BK1149 hb; have n4_ := kb_ BK1162 hb; have n5_ := kb_ BK1167 hb; have n6_ := kb_ BK1171 hb; have n7_ := kb_ BK1175 hb; have n8_ := kb_ BK1179 hb; have n9_ := Aside0.mk (below_step (bv8_ HB GE1141 GE1145 GE1149 GE1162 GE1167 GE1171 GE1175 GE1179) hb); clear HO1156; clear BK1141; clear BK1145; clear BK1149; clear BK1162; clear BK1167; clear BK1171; clear BK1175; clear BK1179; clear HB; have HO1156 := n0_; have BK1141 := n1_; have BK1145 := n2_; have BK1149 := n3_; have BK1162 := n4_; have BK1167 := n5_; have BK1171 := n6_; have BK1175 := n7_; have BK1179 := n8_; have HB := n9_; clear n0_ n1_ n2_ n3_ n4_ n5_ n6_ n7_ n8_ n9_; (try clear hb); (try clear hb2); (try clear hk); (try clear hi)) | ((with_reducible refine gate_dst (N := 21) rfl ?_); refine bx_ 21 #[.int .i64 0, .int .i64 0] 25 ?_; intro gb1189 hg w133 hbox hb; have n0_ := Aside0.mk (Kd.N_below (Kd.N_elderB (by (with_reducible repeat (first | apply Kd.N_alloc | apply Kd.N_drewN | apply Kd.N_drew)); exact HO1156.out) gb1189 (Nat.le_of_eq hg.symm)) hb); have n1_ := kb_ BK1141 hb; have n2_ := kb_ BK1145 hb; have n3_ := kb_ BK1149 hb; have n4_ := kb_ BK1162 hb; have n5_ := kb_ BK1167 hb; have n6_ := kb_ BK1171 hb; have n7_ := kb_ BK1175 hb; have n8_ := kb_ BK1179 hb; have n9_ := Aside0.mk (below_step (bv8_ HB GE1141 GE1145 GE1149 GE1162 GE1167 GE1171 GE1175 GE1179) hb); have n10_ := Aside0.mk (hbox); have n11_ := gw_ hg (below_size (bv8_ HB GE1141 GE1145 GE1149 GE1162 GE1167 GE1171 GE1175 GE1179)); have n12_ := gw_ hg (below_size (bv8_ HB GE1141 GE1145 GE1149 GE1162 GE1167 GE1171 GE1175 GE1179)); have n13_ := nb_ hg (blk_lt (g := gb1141) (o := .cells #[.int .i64 t1139, .int .i64 t1140] 25 (0, 0)) (kv_ BK1141)); have n14_ := nc_ hg (blk_lt (g := gb1141) (o := .cells #[.int .i64 t1139, .int .i64 t1140] 25 (0, 0)) (kv_ BK1141)); have n15_ := nb_ hg (blk_lt (g := gb1145) (o := .cells #[.int .i64 t1142, .int .i64 t1143] 25 (0, 0)) (kv_ BK1145)); have n16_ := nc_ hg (blk_lt (g := gb1145) (o := .cells #[.int .i64 t1142, .int .i64 t1143] 25 (0, 0)) (kv_ BK1145)); have n17_ := nb_ hg (blk_lt (g := gb1149) (o := .cells #[.int .i64 t1146, .int .i64 t1147] 25 (0, 0)) (kv_ BK1149)); have n18_ := nc_ hg (blk_lt (g := gb1149) (o := .cells #[.int .i64 t1146, .int .i64 t1147] 25 (0, 0)) (kv_ BK1149)); have n19_ := nb_ hg (blk_lt (g := gb1162) (o := .cells #[.int .i64 t1159, .int .i64 t1160] 25 (0, 0)) (kv_ BK1162)); have n20_ := nc_ hg (blk_lt (g := gb1162) (o := .cells #[.int .i64 t1159, .int .i64 t1160] 25 (0, 0)) (kv_ BK1162)); have n21_ := nb_ hg (blk_lt (g := gb1167) (o := .cells #[.int .i64 t1164, .int .i64 t1165] 25 (0, 0)) (kv_ BK1167)); have n22_ := nc_ hg (blk_lt (g := gb1167) (o := .cells #[.int .i64 t1164, .int .i64 t1165] 25 (0, 0)) (kv_ BK1167)); have n23_ := nb_ hg (blk_lt (g := gb1171) (o := .cells #[.int .i64 t1168, .int .i64 t1169] 25 (0, 0)) (kv_ BK1171)); have n24_ := nc_ hg (blk_lt (g := gb1171) (o := .cells #[.int .i64 t1168, .int .i64 t1169] 25 (0, 0)) (kv_ BK1171)); have n25_ := nb_ hg (blk_lt (g := gb1175) (o := .cells #[.int .i64 t1172, .int .i64 t1173] 25 (0, 0)) (kv_ BK1175)); have n26_ := nc_ hg (blk_lt (g := gb1175) (o := .cells #[.int .i64 t1172, .int .i64 t1173] 25 (0, 0)) (kv_ BK1175)); have n27_ := nb_ hg (blk_lt (g := gb1179) (o := .cells #[.int .i64 t1176, .int .i64 t1177] 25 (0, 0)) (kv_ BK1179)); have n28_ := nc_ hg (blk_lt (g := gb1179) (o := .cells #[.int .i64 t1176, .int .i64 t1177] 25 (0, 0)) (kv_ BK1179)); clear HO1156; clear BK1141; clear BK1145; clear BK1149; clear BK1162; clear BK1167; clear BK1171; clear BK1175; clear BK1179; clear HB; have HO1156 := n0_; have BK1141 := n1_; have BK1145 := n2_; have BK1149 := n3_; have BK1162 := n4_; have BK1167 := n5_; have BK1171 := n6_; have BK1175 := n7_; have BK1179 := n8_; have HB := n9_; have BK1189 := n10_; have GW1189 := n11_; have GE1189 := n12_; have NB1141_1189 := n13_; have NB1189_1141 := n14_; have NB1145_1189 := n15_; have NB1189_1145 := n16_; have NB1149_1189 := n17_; have NB1189_1149 := n18_; have NB1162_1189 := n19_; have NB1189_1162 := n20_; have NB1167_1189 := n21_; have NB1189_1167 := n22_; have NB1171_1189 := n23_; have NB1189_1171 := n24_; have NB1175_1189 := n25_; have NB1189_1175 := n26_; have NB1179_1189 := n27_; have NB1189_1179 := n28_; clear n0_ n1_ n2_ n3_ n4_ n5_ n6_ n7_ n8_ n9_ n10_ n11_ n12_ n13_ n14_ n15_ n16_ n17_ n18_ n19_ n20_ n21_ n22_ n23_ n24_ n25_ n26_ n27_ n28_; clear hb hbox hg) | ((with_reducible refine gate_dst (N := 22) rfl ?_); refine bx_ 22 #[.int .i64 0, .int .i64 0] 25 ?_; intro gb1190 hg w134 hbox hb; have n0_ := Aside0.mk (Kd.N_below (Kd.N_elderB (by (with_reducible repeat (first | apply Kd.N_alloc | apply Kd.N_drewN | apply Kd.N_drew)); exact HO1156.out) gb1190 (Nat.le_of_eq hg.symm)) hb); have n1_ := kb_ BK1141 hb; have n2_ := kb_ BK1145 hb; have n3_ := kb_ BK1149 hb; have n4_ := kb_ BK1162 hb; have n5_ := kb_ BK1167 hb; have n6_ := kb_ BK1171 hb; have n7_ := kb_ BK1175 hb; have n8_ := kb_ BK1179 hb; have n9_ := kb_ BK1189 hb; have n10_ := Aside0.mk (below_step (bv9_ HB GE1141 GE1145 GE1149 GE1162 GE1167 GE1171 GE1175 GE1179 GE1189) hb); have n11_ := Aside0.mk (hbox); have n12_ := gw_ hg (below_size (bv9_ HB GE1141 GE1145 GE1149 GE1162 GE1167 GE1171 GE1175 GE1179 GE1189)); have n13_ := gw_ hg (below_size (bv9_ HB GE1141 GE1145 GE1149 GE1162 GE1167 GE1171 GE1175 GE1179 GE1189)); have n14_ := nb_ hg (blk_lt (g := gb1141) (o := .cells #[.int .i64 t1139, .int .i64 t1140] 25 (0, 0)) (kv_ BK1141)); have n15_ := nc_ hg (blk_lt (g := gb1141) (o := .cells #[.int .i64 t1139, .int .i64 t1140] 25 (0, 0)) (kv_ BK1141)); have n16_ := nb_ hg (blk_lt (g := gb1145) (o := .cells #[.int .i64 t1142, .int .i64 t1143] 25 (0, 0)) (kv_ BK1145)); have n17_ := nc_ hg (blk_lt (g := gb1145) (o := .cells #[.int .i64 t1142, .int .i64 t1143] 25 (0, 0)) (kv_ BK1145)); have n18_ := nb_ hg (blk_lt (g := gb1149) (o := .cells #[.int .i64 t1146, .int .i64 t1147] 25 (0, 0)) (kv_ BK1149)); have n19_ := nc_ hg (blk_lt (g := gb1149) (o := .cells #[.int .i64 t1146, .int .i64 t1147] 25 (0, 0)) (kv_ BK1149)); have n20_ := nb_ hg (blk_lt (g := gb1162) (o := .cells #[.int .i64 t1159, .int .i64 t1160] 25 (0, 0)) (kv_ BK1162)); have n21_ := nc_ hg (blk_lt (g := gb1162) (o := .cells #[.int .i64 t1159, .int .i64 t1160] 25 (0, 0)) (kv_ BK1162)); have n22_ := nb_ hg (blk_lt (g := gb1167) (o := .cells #[.int .i64 t1164, .int .i64 t1165] 25 (0, 0)) (kv_ BK1167)); have n23_ := nc_ hg (blk_lt (g := gb1167) (o := .cells #[.int .i64 t1164, .int .i64 t1165] 25 (0, 0)) (kv_ BK1167)); have n24_ := nb_ hg (blk_lt (g := gb1171) (o := .cells #[.int .i64 t1168, .int .i64 t1169] 25 (0, 0)) (kv_ BK1171)); have n25_ := nc_ hg (blk_lt (g := gb1171) (o := .cells #[.int .i64 t1168, .int .i64 t1169] 25 (0, 0)) (kv_ BK1171)); have n26_ := nb_ hg (blk_lt (g := gb1175) (o := .cells #[.int .i64 t1172, .int .i64 t1173] 25 (0, 0)) (kv_ BK1175)); have n27_ := nc_ hg (blk_lt (g := gb1175) (o := .cells #[.int .i64 t1172, .int .i64 t1173] 25 (0, 0)) (kv_ BK1175)); have n28_ := nb_ hg (blk_lt (g := gb1179) (o := .cells #[.int .i64 t1176, .int .i64 t1177] 25 (0, 0)) (kv_ BK1179)); have n29_ := nc_ hg (blk_lt (g := gb1179) (o := .cells #[.int .i64 t1176, .int .i64 t1177] 25 (0, 0)) (kv_ BK1179)); have n30_ := nb_ hg (blk_lt (g := gb1189) (o := .cells #[.int .i64 0, .int .i64 0] 25 (0, 0)) (kv_ BK1189)); have n31_ := nc_ hg (blk_lt (g := gb1189) (o := .cells #[.int .i64 0, .int .i64 0] 25 (0, 0)) (kv_ BK1189)); clear HO1156; clear BK1141; clear BK1145; clear BK1149; clear BK1162; clear BK1167; clear BK1171; clear BK1175; clear BK1179; clear BK1189; clear HB; have HO1156 := n0_; have BK1141 := n1_; have BK1145 := n2_; have BK1149 := n3_; have BK1162 := n4_; have BK1167 := n5_; have BK1171 := n6_; have BK1175 := n7_; have BK1179 := n8_; have BK1189 := n9_; have HB := n10_; have BK1190 := n11_; have GW1190 := n12_; have GE1190 := n13_; have NB1141_1190 := n14_; have NB1190_1141 := n15_; have NB1145_1190 := n16_; have NB1190_1145 := n17_; have NB1149_1190 := n18_; have NB1190_1149 := n19_; have NB1162_1190 := n20_; have NB1190_1162 := n21_; have NB1167_1190 := n22_; have NB1190_1167 := n23_; have NB1171_1190 := n24_; have NB1190_1171 := n25_; have NB1175_1190 := n26_; have NB1190_1175 := n27_; have NB1179_1190 := n28_; have NB1190_1179 := n29_; have NB1189_1190 := n30_; have NB1190_1189 := n31_; clear n0_ n1_ n2_ n3_ n4_ n5_ n6_ n7_ n8_ n9_ n10_ n11_ n12_ n13_ n14_ n15_ n16_ n17_ n18_ n19_ n20_ n21_ n22_ n23_ n24_ n25_ n26_ n27_ n28_ n29_ n30_ n31_; clear hb hbox hg; have hnb135 := NB1189_1141.out; have hnc135 := NB1141_1189.out; have hnb136 := NB1189_1145.out; have hnc136 := NB1145_1189.out; have hnb137 := NB1189_1149.out; have hnc137 := NB1149_1189.out; have hnb138 := NB1189_1162.out; have hnc138 := NB1162_1189.out; have hnb139 := NB1189_1167.out; have hnc139 := NB1167_1189.out; have hnb140 := NB1189_1171.out; have hnc140 := NB1171_1189.out; have hnb141 := NB1189_1175.out; have hnc141 := NB1175_1189.out; have hnb142 := NB1189_1179.out; have hnc142 := NB1179_1189.out; have hnb143 := NB1189_1190.out; have hnc143 := NB1190_1189.out; have hcz144_0 : w134.cell? ⟨gb1189, 0, none⟩ = some (.int .i64 0) := (blk_cell BK1189.out 0).trans rfl; have hcz144_1 : w134.cell? ⟨gb1189, 1, none⟩ = some (.int .i64 0) := (blk_cell BK1189.out 1).trans rfl; have hfz144_0 := blk_frozen BK1189.out 0; have hfz144_1 := blk_frozen BK1189.out 1; have hnb145 := NB1190_1141.out; have hnc145 := NB1141_1190.out; have hnb146 := NB1190_1145.out; have hnc146 := NB1145_1190.out; have hnb147 := NB1190_1149.out; have hnc147 := NB1149_1190.out; have hnb148 := NB1190_1162.out; have hnc148 := NB1162_1190.out; have hnb149 := NB1190_1167.out; have hnc149 := NB1167_1190.out; have hnb150 := NB1190_1171.out; have hnc150 := NB1171_1190.out; have hnb151 := NB1190_1175.out; have hnc151 := NB1175_1190.out; have hnb152 := NB1190_1179.out; have hnc152 := NB1179_1190.out; have hcz153_0 : w134.cell? ⟨gb1190, 0, none⟩ = some (.int .i64 0) := (blk_cell BK1190.out 0).trans rfl; have hcz153_1 : w134.cell? ⟨gb1190, 1, none⟩ = some (.int .i64 0) := (blk_cell BK1190.out 1).trans rfl; have hfz153_0 := blk_frozen BK1190.out 0; have hfz153_1 := blk_frozen BK1190.out 1) | ((with_reducible refine gate_callee (f := 24) rfl ?_); refine gl_ 160 Try.func24 #[.slice A0 l0.length c0] rfl mp_ ?_; (with_reducible refine (spec_DrawCountTableClasses.calls k _ _ l0 t1191 _ ?side1 ?side2 A42.out).mono ?_); (case side1 => exact Kd.C_below HR0.out (by repeat (first | (with_reducible first | exact HB.out | apply below_alloc | apply pw_below_drewN | apply below_drew1 | refine below_set ?_ GE1141.out | refine below_set ?_ GE1145.out | refine below_set ?_ GE1149.out | refine below_set ?_ GE1162.out | refine below_set ?_ GE1167.out | refine below_set ?_ GE1171.out | refine below_set ?_ GE1175.out | refine below_set ?_ GE1179.out | refine below_set ?_ GE1189.out | refine below_set ?_ GE1190.out) | exact HB.out))); (case side2 => exact HC0.out); rintro e w154 ⟨rfl, hb⟩; refine ⟨_, rfl, ?_⟩; have n0_ := Aside0.mk (Kd.N_below (by (with_reducible repeat (first | apply Kd.N_alloc | apply Kd.N_drewN | apply Kd.N_drew)); exact (Kd.N_mono (Kd.N_mono (Kd.N_far (p := ⟨gb1190, 1, none⟩) (Kd.N_far (p := ⟨gb1190, 0, none⟩) (Kd.N_far (p := ⟨gb1189, 1, none⟩) (Kd.N_far (p := ⟨gb1189, 0, none⟩) (Kd.N_mono (Kd.N_mono HO1156.out (fun k_ hk => (⟨hk, hk.1.2⟩ : _ ∧ k_ ≠ gb1189))) (fun k_ hk => (⟨hk, hk.1.2⟩ : _ ∧ k_ ≠ gb1190))) (fun _ hk => hk.1.2) (.int .i64 t1185)) (fun _ hk => hk.1.2) (.int .i64 t1186)) (fun _ hk => hk.2) (.int .i64 t1187)) (fun _ hk => hk.2) (.int .i64 t1188)) (fun _ h_ => h_.1)) (fun _ h_ => h_.1))) hb); have n1_ := Aside0.mk (blk_below (g := gb1141) (o := .cells #[.int .i64 t1139, .int .i64 t1140] 25 (0, 0)) (by (with_reducible repeat (first | refine blk_drewN ?_ _ | refine blk_drew ?_ | refine blk_alloc ?_ _)); refine blk_far ?_ NB1141_1190.out _; (with_reducible repeat (first | refine blk_drewN ?_ _ | refine blk_drew ?_ | refine blk_alloc ?_ _)); refine blk_far ?_ NB1141_1190.out _; (with_reducible repeat (first | refine blk_drewN ?_ _ | refine blk_drew ?_ | refine blk_alloc ?_ _)); refine blk_far ?_ NB1141_1189.out _; (with_reducible repeat (first | refine blk_drewN ?_ _ | refine blk_drew ?_ | refine blk_alloc ?_ _)); refine blk_far ?_ NB1141_1189.out _; (with_reducible repeat (first | refine blk_drewN ?_ _ | refine blk_drew ?_ | refine blk_alloc ?_ _)); exact BK1141.out) hb); have n2_ := Aside0.mk (blk_below (g := gb1145) (o := .cells #[.int .i64 t1142, .int .i64 t1143] 25 (0, 0)) (by (with_reducible repeat (first | refine blk_drewN ?_ _ | refine blk_drew ?_ | refine blk_alloc ?_ _)); refine blk_far ?_ NB1145_1190.out _; (with_reducible repeat (first | refine blk_drewN ?_ _ | refine blk_drew ?_ | refine blk_alloc ?_ _)); refine blk_far ?_ NB1145_1190.out _; (with_reducible repeat (first | refine blk_drewN ?_ _ | refine blk_drew ?_ | refine blk_alloc ?_ _)); refine blk_far ?_ NB1145_1189.out _; (with_reducible repeat (first | refine blk_drewN ?_ _ | refine blk_drew ?_ | refine blk_alloc ?_ _)); refine blk_far ?_ NB1145_1189.out _; (with_reducible repeat (first | refine blk_drewN ?_ _ | refine blk_drew ?_ | refine blk_alloc ?_ _)); exact BK1145.out) hb); have n3_ := Aside0.mk (blk_below (g := gb1149) (o := .cells #[.int .i64 t1146, .int .i64 t1147] 25 (0, 0)) (by (with_reducible repeat (first | refine blk_drewN ?_ _ | refine blk_drew ?_ | refine blk_alloc ?_ _)); refine blk_far ?_ NB1149_1190.out _; (with_reducible repeat (first | refine blk_drewN ?_ _ | refine blk_drew ?_ | refine blk_alloc ?_ _)); refine blk_far ?_ NB1149_1190.out _; (with_reducible repeat (first | refine blk_drewN ?_ _ | refine blk_drew ?_ | refine blk_alloc ?_ _)); refine blk_far ?_ NB1149_1189.out _; (with_reducible repeat (first | refine blk_drewN ?_ _ | refine blk_drew ?_ | refine blk_alloc ?_ _)); refine blk_far ?_ NB1149_1189.out _; (with_reducible repeat (first | refine blk_drewN ?_ _ | refine blk_drew ?_ | refine blk_alloc ?_ _)); exact BK1149.out) hb); have n4_ := Aside0.mk (blk_below (g := gb1162) (o := .cells #[.int .i64 t1159, .int .i64 t1160] 25 (0, 0)) (by (with_reducible repeat (first | refine blk_drewN ?_ _ | refine blk_drew ?_ | refine blk_alloc ?_ _)); refine blk_far ?_ NB1162_1190.out _; (with_reducible repeat (first | refine blk_drewN ?_ _ | refine blk_drew ?_ | refine blk_alloc ?_ _)); refine blk_far ?_ NB1162_1190.out _; (with_reducible repeat (first | refine blk_drewN ?_ _ | refine blk_drew ?_ | refine blk_alloc ?_ _)); refine blk_far ?_ NB1162_1189.out _; (with_reducible repeat (first | refine blk_drewN ?_ _ | refine blk_drew ?_ | refine blk_alloc ?_ _)); refine blk_far ?_ NB1162_1189.out _; (with_reducible repeat (first | refine blk_drewN ?_ _ | refine blk_drew ?_ | refine blk_alloc ?_ _)); exact BK1162.out) hb); have n5_ := Aside0.mk (blk_below (g := gb1167) (o := .cells #[.int .i64 t1164, .int .i64 t1165] 25 (0, 0)) (by (with_reducible repeat (first | refine blk_drewN ?_ _ | refine blk_drew ?_ | refine blk_alloc ?_ _)); refine blk_far ?_ NB1167_1190.out _; (with_reducible repeat (first | refine blk_drewN ?_ _ | refine blk_drew ?_ | refine blk_alloc ?_ _)); refine blk_far ?_ NB1167_1190.out _; (with_reducible repeat (first | refine blk_drewN ?_ _ | refine blk_drew ?_ | refine blk_alloc ?_ _)); refine blk_far ?_ NB1167_1189.out _; (with_reducible repeat (first | refine blk_drewN ?_ _ | refine blk_drew ?_ | refine blk_alloc ?_ _)); refine blk_far ?_ NB1167_1189.out _; (with_reducible repeat (first | refine blk_drewN ?_ _ | refine blk_drew ?_ | refine blk_alloc ?_ _)); exact BK1167.out) hb); have n6_ := Aside0.mk (blk_below (g := gb1171) (o := .cells #[.int .i64 t1168, .int .i64 t1169] 25 (0, 0)) (by (with_reducible repeat (first | refine blk_drewN ?_ _ | refine blk_drew ?_ | refine blk_alloc ?_ _)); refine blk_far ?_ NB1171_1190.out _; (with_reducible repeat (first | refine blk_drewN ?_ _ | refine blk_drew ?_ | refine blk_alloc ?_ _)); refine blk_far ?_ NB1171_1190.out _; (with_reducible repeat (first | refine blk_drewN ?_ _ | refine blk_drew ?_ | refine blk_alloc ?_ _)); refine blk_far ?_ NB1171_1189.out _; (with_reducible repeat (first | refine blk_drewN ?_ _ | refine blk_drew ?_ | refine blk_alloc ?_ _)); refine blk_far ?_ NB1171_1189.out _; (with_reducible repeat (first | refine blk_drewN ?_ _ | refine blk_drew ?_ | refine blk_alloc ?_ _)); exact BK1171.out) hb); have n7_ := Aside0.mk (blk_below (g := gb1175) (o := .cells #[.int .i64 t1172, .int .i64 t1173] 25 (0, 0)) (by (with_reducible repeat (first | refine blk_drewN ?_ _ | refine blk_drew ?_ | refine blk_alloc ?_ _)); refine blk_far ?_ NB1175_1190.out _; (with_reducible repeat (first | refine blk_drewN ?_ _ | refine blk_drew ?_ | refine blk_alloc ?_ _)); refine blk_far ?_ NB1175_1190.out _; (with_reducible repeat (first | refine blk_drewN ?_ _ | refine blk_drew ?_ | refine blk_alloc ?_ _)); refine blk_far ?_ NB1175_1189.out _; (with_reducible repeat (first | refine blk_drewN ?_ _ | refine blk_drew ?_ | refine blk_alloc ?_ _)); refine blk_far ?_ NB1175_1189.out _; (with_reducible repeat (first | refine blk_drewN ?_ _ | refine blk_drew ?_ | refine blk_alloc ?_ _)); exact BK1175.out) hb); have n8_ := Aside0.mk (blk_below (g := gb1179) (o := .cells #[.int .i64 t1176, .int .i64 t1177] 25 (0, 0)) (by (with_reducible repeat (first | refine blk_drewN ?_ _ | refine blk_drew ?_ | refine blk_alloc ?_ _)); refine blk_far ?_ NB1179_1190.out _; (with_reducible repeat (first | refine blk_drewN ?_ _ | refine blk_drew ?_ | refine blk_alloc ?_ _)); refine blk_far ?_ NB1179_1190.out _; (with_reducible repeat (first | refine blk_drewN ?_ _ | refine blk_drew ?_ | refine blk_alloc ?_ _)); refine blk_far ?_ NB1179_1189.out _; (with_reducible repeat (first | refine blk_drewN ?_ _ | refine blk_drew ?_ | refine blk_alloc ?_ _)); refine blk_far ?_ NB1179_1189.out _; (with_reducible repeat (first | refine blk_drewN ?_ _ | refine blk_drew ?_ | refine blk_alloc ?_ _)); exact BK1179.out) hb); have n9_ := Aside0.mk (blk_below (g := gb1189) (o := .cells #[.int .i64 t1185, .int .i64 t1186] 25 (0, 0)) (by (with_reducible repeat (first | refine blk_drewN ?_ _ | refine blk_drew ?_ | refine blk_alloc ?_ _)); refine blk_far ?_ NB1189_1190.out _; (with_reducible repeat (first | refine blk_drewN ?_ _ | refine blk_drew ?_ | refine blk_alloc ?_ _)); refine blk_far ?_ NB1189_1190.out _; (with_reducible repeat (first | refine blk_drewN ?_ _ | refine blk_drew ?_ | refine blk_alloc ?_ _)); refine blk_put (cs := #[.int .i64 t1185, .int .i64 0]) ?_ 1 _ rfl; (with_reducible repeat (first | refine blk_drewN ?_ _ | refine blk_drew ?_ | refine blk_alloc ?_ _)); refine blk_put (cs := #[.int .i64 0, .int .i64 0]) ?_ 0 _ rfl; (with_reducible repeat (first | refine blk_drewN ?_ _ | refine blk_drew ?_ | refine blk_alloc ?_ _)); exact BK1189.out) hb); have n10_ := Aside0.mk (blk_below (g := gb1190) (o := .cells #[.int .i64 t1187, .int .i64 t1188] 25 (0, 0)) (by (with_reducible repeat (first | refine blk_drewN ?_ _ | refine blk_drew ?_ | refine blk_alloc ?_ _)); refine blk_put (cs := #[.int .i64 t1187, .int .i64 0]) ?_ 1 _ rfl; (with_reducible repeat (first | refine blk_drewN ?_ _ | refine blk_drew ?_ | refine blk_alloc ?_ _)); refine blk_put (cs := #[.int .i64 0, .int .i64 0]) ?_ 0 _ rfl; (with_reducible repeat (first | refine blk_drewN ?_ _ | refine blk_drew ?_ | refine blk_alloc ?_ _)); refine blk_far ?_ NB1190_1189.out _; (with_reducible repeat (first | refine blk_drewN ?_ _ | refine blk_drew ?_ | refine blk_alloc ?_ _)); refine blk_far ?_ NB1190_1189.out _; (with_reducible repeat (first | refine blk_drewN ?_ _ | refine blk_drew ?_ | refine blk_alloc ?_ _)); exact BK1190.out) hb); have n11_ := Aside0.mk (below_step (by repeat (first | (with_reducible first | exact HB.out | apply below_alloc | apply pw_below_drewN | apply below_drew1 | refine below_set ?_ GE1141.out | refine below_set ?_ GE1145.out | refine below_set ?_ GE1149.out | refine below_set ?_ GE1162.out | refine below_set ?_ GE1167.out | refine below_set ?_ GE1171.out | refine below_set ?_ GE1175.out | refine below_set ?_ GE1179.out | refine below_set ?_ GE1189.out | refine below_set ?_ GE1190.out) | exact HB.out)) hb); clear HO1156; clear BK1141; clear BK1145; clear BK1149; clear BK1162; clear BK1167; clear BK1171; clear BK1175; clear BK1179; clear BK1189; clear BK1190; clear HB; have HO1156 := n0_; have BK1141 := n1_; have BK1145 := n2_; have BK1149 := n3_; have BK1162 := n4_; have BK1167 := n5_; have BK1171 := n6_; have BK1175 := n7_; have BK1179 := n8_; have BK1189 := n9_; have BK1190 := n10_; have HB := n11_; clear n0_ n1_ n2_ n3_ n4_ n5_ n6_ n7_ n8_ n9_ n10_ n11_; (try clear hb); (try clear hb2); (try clear hk); (try clear hi)) | ((with_reducible refine gate_callee (f := 25) rfl ?_); refine gl_ 162 Try.func25 #[.slice A0 l0.length c0] rfl mp_ ?_; (with_reducible refine (spec_DrawPermutationsOf.calls k _ _ l0 t1192 _ ?side1 ?side2 A43.out).mono ?_); (case side1 => exact cv_ (Kd.C_below HR0.out HB.out)); (case side2 => exact HC0.out); rintro e w155 ⟨rfl, hb⟩; refine ⟨_, rfl, ?_⟩; have n0_ := Aside0.mk (Kd.N_below (by (with_reducible repeat (first | apply Kd.N_alloc | apply Kd.N_drewN | apply Kd.N_drew)); exact HO1156.out) hb); have n1_ := kb_ BK1141 hb; have n2_ := kb_ BK1145 hb; have n3_ := kb_ BK1149 hb; have n4_ := kb_ BK1162 hb; have n5_ := kb_ BK1167 hb; have n6_ := kb_ BK1171 hb; have n7_ := kb_ BK1175 hb; have n8_ := kb_ BK1179 hb; have n9_ := kb_ BK1189 hb; have n10_ := kb_ BK1190 hb; have n11_ := Aside0.mk (below_step (by repeat (first | (with_reducible first | exact HB.out | apply below_alloc | apply pw_below_drewN | apply below_drew1 | refine below_set ?_ GE1141.out | refine below_set ?_ GE1145.out | refine below_set ?_ GE1149.out | refine below_set ?_ GE1162.out | refine below_set ?_ GE1167.out | refine below_set ?_ GE1171.out | refine below_set ?_ GE1175.out | refine below_set ?_ GE1179.out | refine below_set ?_ GE1189.out | refine below_set ?_ GE1190.out) | exact HB.out)) hb); clear HO1156; clear BK1141; clear BK1145; clear BK1149; clear BK1162; clear BK1167; clear BK1171; clear BK1175; clear BK1179; clear BK1189; clear BK1190; clear HB; have HO1156 := n0_; have BK1141 := n1_; have BK1145 := n2_; have BK1149 := n3_; have BK1162 := n4_; have BK1167 := n5_; have BK1171 := n6_; have BK1175 := n7_; have BK1179 := n8_; have BK1189 := n9_; have BK1190 := n10_; have HB := n11_; clear n0_ n1_ n2_ n3_ n4_ n5_ n6_ n7_ n8_ n9_ n10_ n11_; (try clear hb); (try clear hb2); (try clear hk); (try clear hi)) | ((with_reducible refine gate_callee (f := 16) rfl ?_); refine gl_ 165 Try.func16 #[.int .i64 t1192] rfl mp_ ?_; (with_reducible refine (impl_PermutationsOf.calls t1192 t1193 t1196 _ A44.out).mono ?_); rintro e w156 ⟨v1194, rfl, ho0, hb⟩; refine ⟨_, rfl, ?_⟩; have n0_ := Aside0.mk (Kd.N_elder' (by (with_reducible repeat (first | apply Kd.N_alloc | apply Kd.N_drewN | apply Kd.N_drew)); exact HO1156.out) (Kd.N_base ho0) hb); have n1_ := Aside0.mk (Kd.N_lower (Kd.N_mono (ok' := fun k_ => some k_ ≠ (.slice Ao76 t1154.length co76 : Value).ownBlock ∧ k_ ≠ gb1141 ∧ k_ ≠ gb1145 ∧ k_ ≠ gb1149 ∧ k_ ≠ gb1162 ∧ k_ ≠ gb1167 ∧ k_ ≠ gb1171 ∧ k_ ≠ gb1175 ∧ k_ ≠ gb1179 ∧ k_ ≠ gb1189 ∧ k_ ≠ gb1190) ho0 (fun k_ hk_ => ⟨(Kd.fresh' (Kd.N_lt (by (with_reducible repeat (first | apply Kd.N_alloc | apply Kd.N_drewN | apply Kd.N_drew)); exact HO1156.out)) k_ hk_), (Kd.freshB (g := gb1141) (o := .cells #[.int .i64 t1139, .int .i64 t1140] 25 (0, 0)) (kv_ BK1141) k_ hk_), (Kd.freshB (g := gb1145) (o := .cells #[.int .i64 t1142, .int .i64 t1143] 25 (0, 0)) (kv_ BK1145) k_ hk_), (Kd.freshB (g := gb1149) (o := .cells #[.int .i64 t1146, .int .i64 t1147] 25 (0, 0)) (kv_ BK1149) k_ hk_), (Kd.freshB (g := gb1162) (o := .cells #[.int .i64 t1159, .int .i64 t1160] 25 (0, 0)) (kv_ BK1162) k_ hk_), (Kd.freshB (g := gb1167) (o := .cells #[.int .i64 t1164, .int .i64 t1165] 25 (0, 0)) (kv_ BK1167) k_ hk_), (Kd.freshB (g := gb1171) (o := .cells #[.int .i64 t1168, .int .i64 t1169] 25 (0, 0)) (kv_ BK1171) k_ hk_), (Kd.freshB (g := gb1175) (o := .cells #[.int .i64 t1172, .int .i64 t1173] 25 (0, 0)) (kv_ BK1175) k_ hk_), (Kd.freshB (g := gb1179) (o := .cells #[.int .i64 t1176, .int .i64 t1177] 25 (0, 0)) (kv_ BK1179) k_ hk_), (Kd.freshB (g := gb1189) (o := .cells #[.int .i64 t1185, .int .i64 t1186] 25 (0, 0)) (kv_ BK1189) k_ hk_), (Kd.freshB (g := gb1190) (o := .cells #[.int .i64 t1187, .int .i64 t1188] 25 (0, 0)) (kv_ BK1190) k_ hk_)⟩)) (below_size (by repeat (first | (with_reducible first | exact HB.out | apply below_alloc | apply pw_below_drewN | apply below_drew1 | refine below_set ?_ GE1141.out | refine below_set ?_ GE1145.out | refine below_set ?_ GE1149.out | refine below_set ?_ GE1162.out | refine below_set ?_ GE1167.out | refine below_set ?_ GE1171.out | refine below_set ?_ GE1175.out | refine below_set ?_ GE1179.out | refine below_set ?_ GE1189.out | refine below_set ?_ GE1190.out) | exact HB.out)))); have n2_ := kb_ BK1141 hb; have n3_ := kb_ BK1145 hb; have n4_ := kb_ BK1149 hb; have n5_ := kb_ BK1162 hb; have n6_ := kb_ BK1167 hb; have n7_ := kb_ BK1171 hb; have n8_ := kb_ BK1175 hb; have n9_ := kb_ BK1179 hb; have n10_ := kb_ BK1189 hb; have n11_ := kb_ BK1190 hb; have n12_ := Aside0.mk (below_step (by repeat (first | (with_reducible first | exact HB.out | apply below_alloc | apply pw_below_drewN | apply below_drew1 | refine below_set ?_ GE1141.out | refine below_set ?_ GE1145.out | refine below_set ?_ GE1149.out | refine below_set ?_ GE1162.out | refine below_set ?_ GE1167.out | refine below_set ?_ GE1171.out | refine below_set ?_ GE1175.out | refine below_set ?_ GE1179.out | refine below_set ?_ GE1189.out | refine below_set ?_ GE1190.out) | exact HB.out)) hb); clear HO1156; clear BK1141; clear BK1145; clear BK1149; clear BK1162; clear BK1167; clear BK1171; clear BK1175; clear BK1179; clear BK1189; clear BK1190; clear HB; have HO1156 := n0_; have HO1195 := n1_; have BK1141 := n2_; have BK1145 := n3_; have BK1149 := n4_; have BK1162 := n5_; have BK1167 := n6_; have BK1171 := n7_; have BK1175 := n8_; have BK1179 := n9_; have BK1189 := n10_; have BK1190 := n11_; have HB := n12_; clear n0_ n1_ n2_ n3_ n4_ n5_ n6_ n7_ n8_ n9_ n10_ n11_ n12_; (try clear hb); (try clear hb2); (try clear hk); (try clear hi); (try clear ho0)) | ((with_reducible refine gate_callee (f := 26) rfl ?_); refine gl_ 170 Try.func26 #[.int .i64 t1192] rfl mp_ ?_; (with_reducible refine (spec_PermutationsOf.calls k t1192 t1197 t1200 _ A45.out).mono ?_); rintro e w157 ⟨v1198, rfl, ho0, hb⟩; refine ⟨_, rfl, ?_⟩; have n0_ := Aside0.mk (Kd.N_elder' (by (with_reducible repeat (first | apply Kd.N_alloc | apply Kd.N_drewN | apply Kd.N_drew)); exact HO1156.out) (Kd.N_base ho0) hb); have n1_ := Aside0.mk (Kd.N_elder' (by (with_reducible repeat (first | apply Kd.N_alloc | apply Kd.N_drewN | apply Kd.N_drew)); exact HO1195.out) (Kd.N_base ho0) hb); have n2_ := Aside0.mk (Kd.N_lower (Kd.N_mono (ok' := fun k_ => some k_ ≠ (.slice Ao76 t1154.length co76 : Value).ownBlock ∧ some k_ ≠ (v1194 : Value).ownBlock ∧ k_ ≠ gb1141 ∧ k_ ≠ gb1145 ∧ k_ ≠ gb1149 ∧ k_ ≠ gb1162 ∧ k_ ≠ gb1167 ∧ k_ ≠ gb1171 ∧ k_ ≠ gb1175 ∧ k_ ≠ gb1179 ∧ k_ ≠ gb1189 ∧ k_ ≠ gb1190) ho0 (fun k_ hk_ => ⟨(Kd.fresh' (Kd.N_lt (by (with_reducible repeat (first | apply Kd.N_alloc | apply Kd.N_drewN | apply Kd.N_drew)); exact HO1156.out)) k_ hk_), (Kd.fresh' (Kd.N_lt (by (with_reducible repeat (first | apply Kd.N_alloc | apply Kd.N_drewN | apply Kd.N_drew)); exact HO1195.out)) k_ hk_), (Kd.freshB (g := gb1141) (o := .cells #[.int .i64 t1139, .int .i64 t1140] 25 (0, 0)) (kv_ BK1141) k_ hk_), (Kd.freshB (g := gb1145) (o := .cells #[.int .i64 t1142, .int .i64 t1143] 25 (0, 0)) (kv_ BK1145) k_ hk_), (Kd.freshB (g := gb1149) (o := .cells #[.int .i64 t1146, .int .i64 t1147] 25 (0, 0)) (kv_ BK1149) k_ hk_), (Kd.freshB (g := gb1162) (o := .cells #[.int .i64 t1159, .int .i64 t1160] 25 (0, 0)) (kv_ BK1162) k_ hk_), (Kd.freshB (g := gb1167) (o := .cells #[.int .i64 t1164, .int .i64 t1165] 25 (0, 0)) (kv_ BK1167) k_ hk_), (Kd.freshB (g := gb1171) (o := .cells #[.int .i64 t1168, .int .i64 t1169] 25 (0, 0)) (kv_ BK1171) k_ hk_), (Kd.freshB (g := gb1175) (o := .cells #[.int .i64 t1172, .int .i64 t1173] 25 (0, 0)) (kv_ BK1175) k_ hk_), (Kd.freshB (g := gb1179) (o := .cells #[.int .i64 t1176, .int .i64 t1177] 25 (0, 0)) (kv_ BK1179) k_ hk_), (Kd.freshB (g := gb1189) (o := .cells #[.int .i64 t1185, .int .i64 t1186] 25 (0, 0)) (kv_ BK1189) k_ hk_), (Kd.freshB (g := gb1190) (o := .cells #[.int .i64 t1187, .int .i64 t1188] 25 (0, 0)) (kv_ BK1190) k_ hk_)⟩)) (below_size (by repeat (first | (with_reducible first | exact HB.out | apply below_alloc | apply pw_below_drewN | apply below_drew1 | refine below_set ?_ GE1141.out | refine below_set ?_ GE1145.out | refine below_set ?_ GE1149.out | refine below_set ?_ GE1162.out | refine below_set ?_ GE1167.out | refine below_set ?_ GE1171.out | refine below_set ?_ GE1175.out | refine below_set ?_ GE1179.out | refine below_set ?_ GE1189.out | refine below_set ?_ GE1190.out) | exact HB.out)))); have n3_ := kb_ BK1141 hb; have n4_ := kb_ BK1145 hb; have n5_ := kb_ BK1149 hb; have n6_ := kb_ BK1162 hb; have n7_ := kb_ BK1167 hb; have n8_ := kb_ BK1171 hb; have n9_ := kb_ BK1175 hb; have n10_ := kb_ BK1179 hb; have n11_ := kb_ BK1189 hb; have n12_ := kb_ BK1190 hb; have n13_ := Aside0.mk (below_step (by repeat (first | (with_reducible first | exact HB.out | apply below_alloc | apply pw_below_drewN | apply below_drew1 | refine below_set ?_ GE1141.out | refine below_set ?_ GE1145.out | refine below_set ?_ GE1149.out | refine below_set ?_ GE1162.out | refine below_set ?_ GE1167.out | refine below_set ?_ GE1171.out | refine below_set ?_ GE1175.out | refine below_set ?_ GE1179.out | refine below_set ?_ GE1189.out | refine below_set ?_ GE1190.out) | exact HB.out)) hb); clear HO1156; clear HO1195; clear BK1141; clear BK1145; clear BK1149; clear BK1162; clear BK1167; clear BK1171; clear BK1175; clear BK1179; clear BK1189; clear BK1190; clear HB; have HO1156 := n0_; have HO1195 := n1_; have HO1199 := n2_; have BK1141 := n3_; have BK1145 := n4_; have BK1149 := n5_; have BK1162 := n6_; have BK1167 := n7_; have BK1171 := n8_; have BK1175 := n9_; have BK1179 := n10_; have BK1189 := n11_; have BK1190 := n12_; have HB := n13_; clear n0_ n1_ n2_ n3_ n4_ n5_ n6_ n7_ n8_ n9_ n10_ n11_ n12_ n13_; (try clear hb); (try clear hb2); (try clear hk); (try clear hi); (try clear ho0)))
                   replace HO1156 := Aside0.mk (Kd.N_drew HO1156.out)
                   replace HO1195 := Aside0.mk (Kd.N_drew HO1195.out)
                   replace HO1199 := Aside0.mk (Kd.N_drew HO1199.out)
                   replace BK1141 := Aside0.mk (blk_drew BK1141.out)
                   replace BK1145 := Aside0.mk (blk_drew BK1145.out)
                   replace BK1149 := Aside0.mk (blk_drew BK1149.out)
                   replace BK1162 := Aside0.mk (blk_drew BK1162.out)
                   replace BK1167 := Aside0.mk (blk_drew BK1167.out)
                   replace BK1171 := Aside0.mk (blk_drew BK1171.out)
                   replace BK1175 := Aside0.mk (blk_drew BK1175.out)
                   replace BK1179 := Aside0.mk (blk_drew BK1179.out)
                   replace BK1189 := Aside0.mk (blk_drew BK1189.out)
                   replace BK1190 := Aside0.mk (blk_drew BK1190.out)
                   replace HB := Aside0.mk (below_drew1 HB.out)
                   (try clear hcz56_0); (try clear hcz56_1); (try clear hfz56_0); (try clear hfz56_1); (try clear hnb59); (try clear hnc59); (try clear hcz60_0); (try clear hcz60_1); (try clear hfz60_0); (try clear hfz60_1); (try clear hcz61_0); (try clear hcz61_1)
                   (try clear hfz61_0); (try clear hfz61_1); (try clear hnb64); (try clear hnc64); (try clear hnb65); (try clear hnc65); (try clear hcz66_0); (try clear hcz66_1); (try clear hfz66_0); (try clear hfz66_1); (try clear hcz73_0); (try clear hcz73_1)
                   (try clear hfz73_0); (try clear hfz73_1); (try clear hnb89); (try clear hnc89); (try clear hnb90); (try clear hnc90); (try clear hnb91); (try clear hnc91); (try clear hnb92); (try clear hnc92); (try clear hcz93_0); (try clear hcz93_1)
                   (try clear hfz93_0); (try clear hfz93_1); (try clear hnb96); (try clear hnc96); (try clear hnb97); (try clear hnc97); (try clear hnb98); (try clear hnc98); (try clear hnb99); (try clear hnc99); (try clear hnb100); (try clear hnc100)
                   (try clear hcz101_0); (try clear hcz101_1); (try clear hfz101_0); (try clear hfz101_1); (try clear hcz102_0); (try clear hcz102_1); (try clear hfz102_0); (try clear hfz102_1); (try clear hnb105); (try clear hnc105); (try clear hnb106); (try clear hnc106)
                   (try clear hnb107); (try clear hnc107); (try clear hnb108); (try clear hnc108); (try clear hnb109); (try clear hnc109); (try clear hnb110); (try clear hnc110); (try clear hcz111_0); (try clear hcz111_1); (try clear hfz111_0); (try clear hfz111_1)
                   (try clear hcz112_0); (try clear hcz112_1); (try clear hfz112_0); (try clear hfz112_1); (try clear hnb115); (try clear hnc115); (try clear hnb116); (try clear hnc116); (try clear hnb117); (try clear hnc117); (try clear hnb118); (try clear hnc118)
                   (try clear hnb119); (try clear hnc119); (try clear hnb120); (try clear hnc120); (try clear hnb121); (try clear hnc121); (try clear hcz122_0); (try clear hcz122_1); (try clear hfz122_0); (try clear hfz122_1); (try clear hnb123); (try clear hnc123)
                   (try clear hcz124_0); (try clear hcz124_1); (try clear hfz124_0); (try clear hfz124_1); (try clear hnb135); (try clear hnc135); (try clear hnb136); (try clear hnc136); (try clear hnb137); (try clear hnc137); (try clear hnb138); (try clear hnc138)
                   (try clear hnb139); (try clear hnc139); (try clear hnb140); (try clear hnc140); (try clear hnb141); (try clear hnc141); (try clear hnb142); (try clear hnc142); (try clear hnb143); (try clear hnc143); (try clear hcz144_0); (try clear hcz144_1)
                   (try clear hfz144_0); (try clear hfz144_1); (try clear hnb145); (try clear hnc145); (try clear hnb146); (try clear hnc146); (try clear hnb147); (try clear hnc147); (try clear hnb148); (try clear hnc148); (try clear hnb149); (try clear hnc149)
                   (try clear hnb150); (try clear hnc150); (try clear hnb151); (try clear hnc151); (try clear hnb152); (try clear hnc152); (try clear hcz153_0); (try clear hcz153_1); (try clear hfz153_0); (try clear hfz153_1)
                   refine start_ (n := 25) (S := fun w' => w'.cell? ⟨gb1189, 0, none⟩ = some (.int .i64 t1185) ∧ w'.cell? ⟨gb1189, 1, none⟩ = some (.int .i64 t1186) ∧ w'.cell? ⟨gb1190, 0, none⟩ = some (.int .i64 t1187) ∧ w'.cell? ⟨gb1190, 1, none⟩ = some (.int .i64 t1188)) (ds := []) (bs 25 0) (by kernel_rfl) rfl (by kernel_rfl) ⟨(blk_cell BK1189.out 0).trans rfl, (blk_cell BK1189.out 1).trans rfl, (blk_cell BK1190.out 0).trans rfl, (blk_cell BK1190.out 1).trans rfl⟩ (fun hHeld => ?_); refine with_tabW laws_FnClasses.tab23 laws_FnClasses.bits23 (fun HT_ HW_ => ?_)
                   generalize w157.drew = w158 at HO1156 HO1195 HO1199 BK1141 BK1145 BK1149 BK1162 BK1167 BK1171 BK1175 BK1179 BK1189 BK1190 HB hHeld ⊢
                   refine ta4_ HT_ HW_ 0 173 (bs 25 1) hHeld ?_
                   refine ta4_ HT_ HW_ 1 174 (bs 25 3) hHeld ?_
                   refine ta4_ HT_ HW_ 3 176 (bs 25 11) hHeld ?_
                   refine ta4_ HT_ HW_ 4 177 (bs 25 27) hHeld ?_
                   refine on_ HT_ 2 175 (bs 25 31) (fun K hK => ?_)
                   refine goes_ Try.func21 (by kernel_rfl) rfl #[.agg #[.int .i64 t1185, .int .i64 t1186], .agg #[.int .i64 t1187, .int .i64 t1188]] (by rfl) rfl rfl mp_ ?_
                   with_reducible refine (impl_AreAlike.calls t1185 t1186 t1187 t1188 t1201 _ A46.out).mono ?_
                   rintro e w159 ⟨rfl, hb⟩
                   refine ⟨_, rfl, ?_⟩
                   replace HO1156 := Aside0.mk (Kd.N_below (by (with_reducible repeat (first | apply Kd.N_alloc | apply Kd.N_drewN | apply Kd.N_drew)); exact HO1156.out) hb)
                   replace HO1195 := Aside0.mk (Kd.N_below (by (with_reducible repeat (first | apply Kd.N_alloc | apply Kd.N_drewN | apply Kd.N_drew)); exact HO1195.out) hb)
                   replace HO1199 := Aside0.mk (Kd.N_below (by (with_reducible repeat (first | apply Kd.N_alloc | apply Kd.N_drewN | apply Kd.N_drew)); exact HO1199.out) hb)
                   replace BK1141 := kb_ BK1141 hb
                   replace BK1145 := kb_ BK1145 hb
                   replace BK1149 := kb_ BK1149 hb
                   replace BK1162 := kb_ BK1162 hb
                   replace BK1167 := kb_ BK1167 hb
                   replace BK1171 := kb_ BK1171 hb
                   replace BK1175 := kb_ BK1175 hb
                   replace BK1179 := kb_ BK1179 hb
                   replace BK1189 := kb_ BK1189 hb
                   replace BK1190 := kb_ BK1190 hb
                   replace HB := Aside0.mk (below_step (by repeat (first | (with_reducible first | exact HB.out | apply below_alloc | apply pw_below_drewN | apply below_drew1 | refine below_set ?_ GE1141.out | refine below_set ?_ GE1145.out | refine below_set ?_ GE1149.out | refine below_set ?_ GE1162.out | refine below_set ?_ GE1167.out | refine below_set ?_ GE1171.out | refine below_set ?_ GE1175.out | refine below_set ?_ GE1179.out | refine below_set ?_ GE1189.out | refine below_set ?_ GE1190.out) | exact HB.out)) hb)
                   (try clear hb)
                   (try clear hb2)
                   (try clear hk)
                   (try clear hi)
                   refine hK.out _ _ ⟨(blk_cell BK1189.out 0).trans rfl, (blk_cell BK1189.out 1).trans rfl, (blk_cell BK1190.out 0).trans rfl, (blk_cell BK1190.out 1).trans rfl⟩ (fun hHeld => ?_)
                   clear hK K
                   refine no_ 175 ?_
                   refine on_ HT_ 5 178 (bs 25 63) (fun K hK => ?_)
                   refine goes_ Try.func27 (by kernel_rfl) rfl #[.agg #[.int .i64 t1185, .int .i64 t1186], .agg #[.int .i64 t1187, .int .i64 t1188]] (by rfl) rfl rfl mp_ ?_
                   with_reducible refine (spec_AreAlike.calls k t1185 t1186 t1187 t1188 t1202 _ A47.out).mono ?_
                   rintro e w160 ⟨rfl, hb⟩
                   refine ⟨_, rfl, ?_⟩
                   replace HO1156 := Aside0.mk (Kd.N_below (by (with_reducible repeat (first | apply Kd.N_alloc | apply Kd.N_drewN | apply Kd.N_drew)); exact HO1156.out) hb)
                   replace HO1195 := Aside0.mk (Kd.N_below (by (with_reducible repeat (first | apply Kd.N_alloc | apply Kd.N_drewN | apply Kd.N_drew)); exact HO1195.out) hb)
                   replace HO1199 := Aside0.mk (Kd.N_below (by (with_reducible repeat (first | apply Kd.N_alloc | apply Kd.N_drewN | apply Kd.N_drew)); exact HO1199.out) hb)
                   replace BK1141 := kb_ BK1141 hb
                   replace BK1145 := kb_ BK1145 hb
                   replace BK1149 := kb_ BK1149 hb
                   replace BK1162 := kb_ BK1162 hb
                   replace BK1167 := kb_ BK1167 hb
                   replace BK1171 := kb_ BK1171 hb
                   replace BK1175 := kb_ BK1175 hb
                   replace BK1179 := kb_ BK1179 hb
                   replace BK1189 := kb_ BK1189 hb
                   replace BK1190 := kb_ BK1190 hb
                   replace HB := Aside0.mk (below_step (by repeat (first | (with_reducible first | exact HB.out | apply below_alloc | apply pw_below_drewN | apply below_drew1 | refine below_set ?_ GE1141.out | refine below_set ?_ GE1145.out | refine below_set ?_ GE1149.out | refine below_set ?_ GE1162.out | refine below_set ?_ GE1167.out | refine below_set ?_ GE1171.out | refine below_set ?_ GE1175.out | refine below_set ?_ GE1179.out | refine below_set ?_ GE1189.out | refine below_set ?_ GE1190.out) | exact HB.out)) hb)
                   (try clear hb)
                   (try clear hb2)
                   (try clear hk)
                   (try clear hi)
                   refine hK.out _ _ ⟨(blk_cell BK1189.out 0).trans rfl, (blk_cell BK1189.out 1).trans rfl, (blk_cell BK1190.out 0).trans rfl, (blk_cell BK1190.out 1).trans rfl⟩ (fun hHeld => ?_)
                   clear hK K
                   refine no_ 178 ?_
                   refine pu_ HT_ 6 179 (bs 25 127) ?_
                   refine pu_ HT_ 7 180 (bs 25 255) ?_
                   refine pu_ HT_ 8 181 (bs 25 511) ?_
                   refine pu_ HT_ 10 183 (bs 25 1535) ?_
                   refine on_ HT_ 9 182 (bs 25 2047) (fun K hK => ?_)
                   refine goes_ Try.func28 (by kernel_rfl) rfl #[.int .i64 t1191] (by rfl) rfl rfl mp_ ?_
                   with_reducible refine (impl_CountTableClasses.calls t1191 t1203 _ A49.out).mono ?_
                   rintro e w161 ⟨rfl, hb⟩
                   refine ⟨_, rfl, ?_⟩
                   replace HO1156 := Aside0.mk (Kd.N_below (by (with_reducible repeat (first | apply Kd.N_alloc | apply Kd.N_drewN | apply Kd.N_drew)); exact HO1156.out) hb)
                   replace HO1195 := Aside0.mk (Kd.N_below (by (with_reducible repeat (first | apply Kd.N_alloc | apply Kd.N_drewN | apply Kd.N_drew)); exact HO1195.out) hb)
                   replace HO1199 := Aside0.mk (Kd.N_below (by (with_reducible repeat (first | apply Kd.N_alloc | apply Kd.N_drewN | apply Kd.N_drew)); exact HO1199.out) hb)
                   replace BK1141 := kb_ BK1141 hb
                   replace BK1145 := kb_ BK1145 hb
                   replace BK1149 := kb_ BK1149 hb
                   replace BK1162 := kb_ BK1162 hb
                   replace BK1167 := kb_ BK1167 hb
                   replace BK1171 := kb_ BK1171 hb
                   replace BK1175 := kb_ BK1175 hb
                   replace BK1179 := kb_ BK1179 hb
                   replace BK1189 := kb_ BK1189 hb
                   replace BK1190 := kb_ BK1190 hb
                   replace HB := Aside0.mk (below_step (by repeat (first | (with_reducible first | exact HB.out | apply below_alloc | apply pw_below_drewN | apply below_drew1 | refine below_set ?_ GE1141.out | refine below_set ?_ GE1145.out | refine below_set ?_ GE1149.out | refine below_set ?_ GE1162.out | refine below_set ?_ GE1167.out | refine below_set ?_ GE1171.out | refine below_set ?_ GE1175.out | refine below_set ?_ GE1179.out | refine below_set ?_ GE1189.out | refine below_set ?_ GE1190.out) | exact HB.out)) hb)
                   (try clear hb)
                   (try clear hb2)
                   (try clear hk)
                   (try clear hi)
                   refine hK.out _ _ ⟨(blk_cell BK1189.out 0).trans rfl, (blk_cell BK1189.out 1).trans rfl, (blk_cell BK1190.out 0).trans rfl, (blk_cell BK1190.out 1).trans rfl⟩ (fun hHeld => ?_)
                   clear hK K
                   refine no_ 182 ?_
                   refine on_ HT_ 11 184 (bs 25 4095) (fun K hK => ?_)
                   refine goes_ Try.func29 (by kernel_rfl) rfl #[.int .i64 t1191] (by rfl) rfl rfl mp_ ?_
                   with_reducible refine (spec_CountTableClasses.calls k t1191 t1204 _ A50.out).mono ?_
                   rintro e w162 ⟨rfl, hb⟩
                   refine ⟨_, rfl, ?_⟩
                   replace HO1156 := Aside0.mk (Kd.N_below (by (with_reducible repeat (first | apply Kd.N_alloc | apply Kd.N_drewN | apply Kd.N_drew)); exact HO1156.out) hb)
                   replace HO1195 := Aside0.mk (Kd.N_below (by (with_reducible repeat (first | apply Kd.N_alloc | apply Kd.N_drewN | apply Kd.N_drew)); exact HO1195.out) hb)
                   replace HO1199 := Aside0.mk (Kd.N_below (by (with_reducible repeat (first | apply Kd.N_alloc | apply Kd.N_drewN | apply Kd.N_drew)); exact HO1199.out) hb)
                   replace BK1141 := kb_ BK1141 hb
                   replace BK1145 := kb_ BK1145 hb
                   replace BK1149 := kb_ BK1149 hb
                   replace BK1162 := kb_ BK1162 hb
                   replace BK1167 := kb_ BK1167 hb
                   replace BK1171 := kb_ BK1171 hb
                   replace BK1175 := kb_ BK1175 hb
                   replace BK1179 := kb_ BK1179 hb
                   replace BK1189 := kb_ BK1189 hb
                   replace BK1190 := kb_ BK1190 hb
                   replace HB := Aside0.mk (below_step (by repeat (first | (with_reducible first | exact HB.out | apply below_alloc | apply pw_below_drewN | apply below_drew1 | refine below_set ?_ GE1141.out | refine below_set ?_ GE1145.out | refine below_set ?_ GE1149.out | refine below_set ?_ GE1162.out | refine below_set ?_ GE1167.out | refine below_set ?_ GE1171.out | refine below_set ?_ GE1175.out | refine below_set ?_ GE1179.out | refine below_set ?_ GE1189.out | refine below_set ?_ GE1190.out) | exact HB.out)) hb)
                   (try clear hb)
                   (try clear hb2)
                   (try clear hk)
                   (try clear hi)
                   obtain ⟨Ao163, co163, eo163⟩ := Kd.N_slice HO1195.out
                   (first | subst eo163 | (injection eo163 with f1_ f2_ f3_; have f4_ := f1_.symm; have f5_ := f3_.symm; clear f1_ f2_ f3_; subst f4_; subst f5_))
                   obtain ⟨Ao164, co164, eo164⟩ := Kd.N_slice HO1199.out
                   (first | subst eo164 | (injection eo164 with f1_ f2_ f3_; have f4_ := f1_.symm; have f5_ := f3_.symm; clear f1_ f2_ f3_; subst f4_; subst f5_))
                   refine hK.out _ _ ⟨(blk_cell BK1189.out 0).trans rfl, (blk_cell BK1189.out 1).trans rfl, (blk_cell BK1190.out 0).trans rfl, (blk_cell BK1190.out 1).trans rfl⟩ (fun hHeld => ?_)
                   clear hK K
                   refine no_ 184 ?_
                   refine pu_ HT_ 12 185 (bs 25 8191) ?_
                   refine pu_ HT_ 13 186 (bs 25 16383) ?_
                   refine pu_ HT_ 14 187 (bs 25 32767) ?_
                   refine pu_ HT_ 15 188 (bs 25 65535) ?_
                   refine pu_ HT_ 16 189 (bs 25 131071) ?_
                   refine pu_ HT_ 17 190 (bs 25 262143) ?_
                   refine pu_ HT_ 18 191 (bs 25 524287) ?_
                   refine pu_ HT_ 19 192 (bs 25 1048575) ?_
                   refine pu_ HT_ 20 193 (bs 25 2097151) ?_
                   refine pu_ HT_ 21 194 (bs 25 4194303) ?_
                   refine on_ HT_ 22 195 (bs 25 8388607) (fun K hK => ?_)
                   refine goes_ Try.func30 (by kernel_rfl) rfl #[.slice Ao163 t1193.length co163, .slice Ao164 t1197.length co164] (by rfl) rfl rfl mp_ ?_
                   with_reducible refine (laws_sameLists.calls k _ _ t1193 _ _ t1197 t1205 _ ?side1 ?side2 ?side3 ?side4 A53.out).mono ?_
                   (case side1 => repeat (first | exact (Kd.N_reads' HO1195.out).2.2 | (with_reducible refine Kd.C_alloc ?_ _) | (with_reducible refine Kd.C_drewN ?_ _) | (with_reducible refine Kd.C_drew ?_)))
                   (case side2 => exact (Kd.N_reads' HO1195.out).2.1)
                   (case side3 => repeat (first | exact (Kd.N_reads' HO1199.out).2.2 | (with_reducible refine Kd.C_alloc ?_ _) | (with_reducible refine Kd.C_drewN ?_ _) | (with_reducible refine Kd.C_drew ?_)))
                   (case side4 => exact (Kd.N_reads' HO1199.out).2.1)
                   rintro e w' ⟨rfl, ⟨nd, rfl⟩⟩
                   refine ⟨_, rfl, ?_⟩
                   refine hK.out _ _ ⟨(blk_cell BK1189.out 0).trans rfl, (blk_cell BK1189.out 1).trans rfl, (blk_cell BK1190.out 0).trans rfl, (blk_cell BK1190.out 1).trans rfl⟩ (fun hHeld => ?_)
                   clear hK K
                   refine no_ 195 ?_
                   refine pu_ HT_ 23 196 (bs 25 16777215) ?_
                   refine pu_ HT_ 24 2 (bs 25 33554431) ?_
                   refine done_ (done_of HT_.out (by kernel_rfl)) ?_
                   try go_wp2
                   go_ret
                   exact ⟨by first | rfl | (simp [errW_none, errW_some] <;> rfl) | (simp only [← hji22, ← hji29]; first | rfl | (simp [errW_none, errW_some] <;> rfl)) | (simp [*, errW_none, errW_some] <;> rfl), by repeat (first | (with_reducible first | exact HB.out | apply below_alloc | apply pw_below_drewN | apply below_drew1 | refine below_set ?_ GE1141.out | refine below_set ?_ GE1145.out | refine below_set ?_ GE1149.out | refine below_set ?_ GE1162.out | refine below_set ?_ GE1167.out | refine below_set ?_ GE1171.out | refine below_set ?_ GE1175.out | refine below_set ?_ GE1179.out | refine below_set ?_ GE1189.out | refine below_set ?_ GE1190.out) | exact HB.out)⟩
                  ·rw [if_neg c52] at H
                   exact absurd H (by simp)
                 ·rw [if_neg c51] at H
                  exact absurd H (by simp)
                ·rw [if_neg c48] at H
                 exact absurd H (by simp)
              ·rw [if_neg c39] at H
               exact absurd H (by simp)
             ·rw [if_neg c36] at H
              exact absurd H (by simp)
            ·replace c33 := Bool.eq_false_iff.mpr c33
             subst c33
             rw [if_neg (show ¬ (false = true) by decide)] at H
             exact absurd H (by simp)
        ·rw [if_neg c21] at H
         exact absurd H (by simp)
      ·replace c15 := Bool.eq_false_iff.mpr c15
       subst c15
       rw [if_neg (show ¬ (false = true) by decide)] at H
       replace H := Option.bind_eq_some_iff.mp H
       obtain ⟨⟨t1206, t1207, t1208, t1209⟩, A1650, H⟩ := H
       dsimp only at H
       have A165 := Aside0.mk A1650
       clear A1650
       replace H := Option.bind_eq_some_iff.mp H
       obtain ⟨t1212, A1660, H⟩ := H
       have A166 := Aside0.mk A1660
       clear A1660
       replace H := Option.bind_eq_some_iff.mp H
       obtain ⟨t1213, A1670, H⟩ := H
       have A167 := Aside0.mk A1670
       clear A1670
       replace H := Option.bind_eq_some_iff.mp H
       obtain ⟨⟨t1214, t1217⟩, A1680, H⟩ := H
       dsimp only at H
       have A168 := Aside0.mk A1680
       clear A1680
       replace H := Option.bind_eq_some_iff.mp H
       obtain ⟨⟨t1218, t1221⟩, A1690, H⟩ := H
       dsimp only at H
       have A169 := Aside0.mk A1690
       clear A1690
       replace H := Option.bind_eq_some_iff.mp H
       obtain ⟨t1222, A1700, H⟩ := H
       have A170 := Aside0.mk A1700
       clear A1700
       replace H := Option.bind_eq_some_iff.mp H
       obtain ⟨t1223, A1710, H⟩ := H
       have A171 := Aside0.mk A1710
       clear A1710
       by_cases c172 : (t1222 == t1223) = true
       ·rw [if_pos c172] at H
        have c172b0 : (t1222 == t1223) = true := c172
        (try (have c172b1 : decide (t1222 = t1223) = true := by simpa using c172))
        (try (have c172b2 : (t1222 == t1223) = true := by simpa using c172))
        clear c172
        replace H := Option.bind_eq_some_iff.mp H
        obtain ⟨t1224, A1730, H⟩ := H
        have A173 := Aside0.mk A1730
        clear A1730
        replace H := Option.bind_eq_some_iff.mp H
        obtain ⟨t1225, A1740, H⟩ := H
        have A174 := Aside0.mk A1740
        clear A1740
        by_cases c175 : t1224 = t1225
        ·rw [if_pos c175] at H
         have c175b0 : (t1224 == t1225) = true := beq_iff_eq.mpr c175
         have c175b1 : (t1224 != t1225) = false := bne_eq_false_iff_eq.mpr c175
         clear c175
         by_cases c176 : (t1217 == t1221) = true
         ·rw [if_pos c176] at H
          have c176b0 : (t1217 == t1221) = true := c176
          (try (have c176b1 : decide (t1217 = t1221) = true := by simpa using c176))
          (try (have c176b2 : (t1217 == t1221) = true := by simpa using c176))
          clear c176
          replace H := Option.bind_eq_some_iff.mp H
          obtain ⟨t1226, A1770, H⟩ := H
          have A177 := Aside0.mk A1770
          clear A1770
          obtain rfl := Option.some.inj H
          go_enter Try.func4, Try.ntmps4
          try go_wp2_with (first | ((with_reducible refine gate_callee (f := 8) rfl ?_); refine gl_ 30 Try.func8 #[.slice A0 l0.length c0] rfl mp_ ?_; (with_reducible refine (laws_big.calls _ _ l0 false _ ?side1 ?side2 A2.out).mono ?_); (case side1 => exact cv_ HR0.out); (case side2 => exact HC0.out); rintro e w' ⟨rfl, ⟨nd, rfl⟩⟩; refine ⟨_, rfl, ?_⟩) | ((with_reducible refine gate_callee (f := 9) rfl ?_); refine gl_ 32 Try.func9 #[.slice A0 l0.length c0] rfl mp_ ?_; (with_reducible refine (spec_DrawCanonicalTable.calls k _ _ l0 t1139 t1140 _ ?side1 ?side2 A4.out).mono ?_); (case side1 => exact cv_ HR0.out); (case side2 => exact HC0.out); rintro e w178 ⟨rfl, hb⟩; refine ⟨_, rfl, ?_⟩; replace HB := Aside0.mk (below_step (bv_ HB) hb); (try clear hb); (try clear hb2); (try clear hk); (try clear hi)) | ((with_reducible refine gate_dst (N := 3) rfl ?_); refine bx_ 3 #[.int .i64 0, .int .i64 0] 25 ?_; intro gb1141 hg w179 hbox hb; have BK1141 := Aside0.mk (hbox); have GW1141 := gw_ hg (below_size (bv_ HB)); have GE1141 := GW1141; replace HB := Aside0.mk (below_step (bv_ HB) hb); clear hb hbox hg; obtain ⟨hcz180_0, hcz180_1, hfz180_0, hfz180_1⟩ := c2_ BK1141) | ((with_reducible refine gate_callee (f := 10) rfl ?_); refine gl_ 35 Try.func10 #[.agg #[.int .i64 t1139, .int .i64 t1140]] rfl mp_ ?_; (with_reducible refine (impl_CanonicalTable.calls t1139 t1140 t1142 t1143 false _ A5.out).mono ?_); rintro e w181 ⟨rfl, hb⟩; refine ⟨_, rfl, ?_⟩; replace BK1141 := Aside0.mk (blk_below (g := gb1141) (o := .cells #[.int .i64 t1139, .int .i64 t1140] 25 (0, 0)) (by (with_reducible repeat (first | refine blk_drewN ?_ _ | refine blk_drew ?_ | refine blk_alloc ?_ _)); refine blk_put (cs := #[.int .i64 t1139, .int .i64 0]) ?_ 1 _ rfl; (with_reducible repeat (first | refine blk_drewN ?_ _ | refine blk_drew ?_ | refine blk_alloc ?_ _)); refine blk_put (cs := #[.int .i64 0, .int .i64 0]) ?_ 0 _ rfl; (with_reducible repeat (first | refine blk_drewN ?_ _ | refine blk_drew ?_ | refine blk_alloc ?_ _)); exact BK1141.out) hb); replace HB := Aside0.mk (below_step (bv1_ HB GE1141) hb); (try clear hb); (try clear hb2); (try clear hk); (try clear hi)) | ((with_reducible refine gate_dst (N := 4) rfl ?_); refine bx_ 4 #[.int .i64 0, .int .i64 0] 25 ?_; intro gb1145 hg w182 hbox hb; have BK1145 := Aside0.mk (hbox); have GW1145 := gw_ hg (below_size (bv1_ HB GE1141)); have GE1145 := GW1145; replace HB := Aside0.mk (below_step (bv1_ HB GE1141) hb); have NB1141_1145 := nb_ hg (blk_lt (g := gb1141) (o := .cells #[.int .i64 t1139, .int .i64 t1140] 25 (0, 0)) (kv_ BK1141)); have NB1145_1141 := nc_ hg (blk_lt (g := gb1141) (o := .cells #[.int .i64 t1139, .int .i64 t1140] 25 (0, 0)) (kv_ BK1141)); replace BK1141 := kb_ BK1141 hb; clear hb hbox hg; have hnb183 := NB1145_1141.out; have hnc183 := NB1141_1145.out; obtain ⟨hcz184_0, hcz184_1, hfz184_0, hfz184_1⟩ := c2_ BK1145; obtain ⟨hcz185_0, hcz185_1, hfz185_0, hfz185_1⟩ := c2_ BK1141) | ((with_reducible refine gate_callee (f := 11) rfl ?_); refine gl_ 40 Try.func11 #[.agg #[.int .i64 t1139, .int .i64 t1140]] rfl mp_ ?_; (with_reducible refine (spec_CanonicalTable.calls k t1139 t1140 t1146 t1147 t1148 _ A6.out).mono ?_); rintro e w186 ⟨rfl, hb⟩; refine ⟨_, rfl, ?_⟩; replace BK1141 := Aside0.mk (blk_below (g := gb1141) (o := .cells #[.int .i64 t1139, .int .i64 t1140] 25 (0, 0)) (by (with_reducible repeat (first | refine blk_drewN ?_ _ | refine blk_drew ?_ | refine blk_alloc ?_ _)); refine blk_far ?_ NB1141_1145.out _; (with_reducible repeat (first | refine blk_drewN ?_ _ | refine blk_drew ?_ | refine blk_alloc ?_ _)); refine blk_far ?_ NB1141_1145.out _; (with_reducible repeat (first | refine blk_drewN ?_ _ | refine blk_drew ?_ | refine blk_alloc ?_ _)); exact BK1141.out) hb); replace BK1145 := Aside0.mk (blk_below (g := gb1145) (o := .cells #[.int .i64 t1142, .int .i64 t1143] 25 (0, 0)) (by (with_reducible repeat (first | refine blk_drewN ?_ _ | refine blk_drew ?_ | refine blk_alloc ?_ _)); refine blk_put (cs := #[.int .i64 t1142, .int .i64 0]) ?_ 1 _ rfl; (with_reducible repeat (first | refine blk_drewN ?_ _ | refine blk_drew ?_ | refine blk_alloc ?_ _)); refine blk_put (cs := #[.int .i64 0, .int .i64 0]) ?_ 0 _ rfl; (with_reducible repeat (first | refine blk_drewN ?_ _ | refine blk_drew ?_ | refine blk_alloc ?_ _)); exact BK1145.out) hb); replace HB := Aside0.mk (below_step (bv2_ HB GE1141 GE1145) hb); (try clear hb); (try clear hb2); (try clear hk); (try clear hi)) | ((with_reducible refine gate_dst (N := 6) rfl ?_); refine bx_ 6 #[.int .i64 0, .int .i64 0] 25 ?_; intro gb1149 hg w187 hbox hb; have BK1149 := Aside0.mk (hbox); have GW1149 := gw_ hg (below_size (bv2_ HB GE1141 GE1145)); have GE1149 := GW1149; replace HB := Aside0.mk (below_step (bv2_ HB GE1141 GE1145) hb); have NB1141_1149 := nb_ hg (blk_lt (g := gb1141) (o := .cells #[.int .i64 t1139, .int .i64 t1140] 25 (0, 0)) (kv_ BK1141)); have NB1149_1141 := nc_ hg (blk_lt (g := gb1141) (o := .cells #[.int .i64 t1139, .int .i64 t1140] 25 (0, 0)) (kv_ BK1141)); replace BK1141 := kb_ BK1141 hb; have NB1145_1149 := nb_ hg (blk_lt (g := gb1145) (o := .cells #[.int .i64 t1142, .int .i64 t1143] 25 (0, 0)) (kv_ BK1145)); have NB1149_1145 := nc_ hg (blk_lt (g := gb1145) (o := .cells #[.int .i64 t1142, .int .i64 t1143] 25 (0, 0)) (kv_ BK1145)); replace BK1145 := kb_ BK1145 hb; clear hb hbox hg; have hnb188 := NB1149_1141.out; have hnc188 := NB1141_1149.out; have hnb189 := NB1149_1145.out; have hnc189 := NB1145_1149.out; obtain ⟨hcz190_0, hcz190_1, hfz190_0, hfz190_1⟩ := c2_ BK1149))
          have n0_ : Aside0 (((w187.setCell ⟨gb1149, 0, none⟩ (.int .i64 t1146)).setCell ⟨gb1149, 1, none⟩ (.int .i64 t1147)).heap[gb1141]? = some (.cells #[.int .i64 t1139, .int .i64 t1140] 25 (0, 0))) := ⟨by (with_reducible repeat (first | refine blk_drewN ?_ _ | refine blk_drew ?_ | refine blk_alloc ?_ _)); refine blk_far ?_ NB1141_1149.out _; (with_reducible repeat (first | refine blk_drewN ?_ _ | refine blk_drew ?_ | refine blk_alloc ?_ _)); refine blk_far ?_ NB1141_1149.out _; (with_reducible repeat (first | refine blk_drewN ?_ _ | refine blk_drew ?_ | refine blk_alloc ?_ _)); exact BK1141.out⟩
          have n1_ : Aside0 (((w187.setCell ⟨gb1149, 0, none⟩ (.int .i64 t1146)).setCell ⟨gb1149, 1, none⟩ (.int .i64 t1147)).heap[gb1145]? = some (.cells #[.int .i64 t1142, .int .i64 t1143] 25 (0, 0))) := ⟨by (with_reducible repeat (first | refine blk_drewN ?_ _ | refine blk_drew ?_ | refine blk_alloc ?_ _)); refine blk_far ?_ NB1145_1149.out _; (with_reducible repeat (first | refine blk_drewN ?_ _ | refine blk_drew ?_ | refine blk_alloc ?_ _)); refine blk_far ?_ NB1145_1149.out _; (with_reducible repeat (first | refine blk_drewN ?_ _ | refine blk_drew ?_ | refine blk_alloc ?_ _)); exact BK1145.out⟩
          have n2_ : Aside0 (((w187.setCell ⟨gb1149, 0, none⟩ (.int .i64 t1146)).setCell ⟨gb1149, 1, none⟩ (.int .i64 t1147)).heap[gb1149]? = some (.cells #[.int .i64 t1146, .int .i64 t1147] 25 (0, 0))) := ⟨by (with_reducible repeat (first | refine blk_drewN ?_ _ | refine blk_drew ?_ | refine blk_alloc ?_ _)); refine blk_put (cs := #[.int .i64 t1146, .int .i64 0]) ?_ 1 _ rfl; (with_reducible repeat (first | refine blk_drewN ?_ _ | refine blk_drew ?_ | refine blk_alloc ?_ _)); refine blk_put (cs := #[.int .i64 0, .int .i64 0]) ?_ 0 _ rfl; (with_reducible repeat (first | refine blk_drewN ?_ _ | refine blk_drew ?_ | refine blk_alloc ?_ _)); exact BK1149.out⟩
          have n3_ : Aside0 (Below w.heap.size w ((w187.setCell ⟨gb1149, 0, none⟩ (.int .i64 t1146)).setCell ⟨gb1149, 1, none⟩ (.int .i64 t1147))) := ⟨bv3_ HB GE1141 GE1145 GE1149⟩
          (try clear BK1141)
          (try clear BK1145)
          (try clear BK1149)
          (try clear HB)
          generalize ((w187.setCell ⟨gb1149, 0, none⟩ (.int .i64 t1146)).setCell ⟨gb1149, 1, none⟩ (.int .i64 t1147)) = w191 at n0_ n1_ n2_ n3_ ⊢
          have BK1141 := n0_
          have BK1145 := n1_
          have BK1149 := n2_
          have HB := n3_
          clear n0_ n1_ n2_ n3_
          replace BK1141 := Aside0.mk (blk_drew BK1141.out)
          replace BK1145 := Aside0.mk (blk_drew BK1145.out)
          replace BK1149 := Aside0.mk (blk_drew BK1149.out)
          replace HB := Aside0.mk (below_drew1 HB.out)
          (try clear hcz180_0); (try clear hcz180_1); (try clear hfz180_0); (try clear hfz180_1); (try clear hnb183); (try clear hnc183); (try clear hcz184_0); (try clear hcz184_1); (try clear hfz184_0); (try clear hfz184_1); (try clear hcz185_0); (try clear hcz185_1)
          (try clear hfz185_0); (try clear hfz185_1); (try clear hnb188); (try clear hnc188); (try clear hnb189); (try clear hnc189); (try clear hcz190_0); (try clear hcz190_1); (try clear hfz190_0); (try clear hfz190_1)
          refine start_ (n := 22) (S := fun w' => w'.cell? ⟨gb1145, 0, none⟩ = some (.int .i64 t1142) ∧ w'.cell? ⟨gb1145, 1, none⟩ = some (.int .i64 t1143) ∧ w'.cell? ⟨gb1149, 0, none⟩ = some (.int .i64 t1146) ∧ w'.cell? ⟨gb1149, 1, none⟩ = some (.int .i64 t1147) ∧ w'.cell? ⟨gb1141, 0, none⟩ = some (.int .i64 t1139) ∧ w'.cell? ⟨gb1141, 1, none⟩ = some (.int .i64 t1140)) (ds := []) (bs 22 0) (by kernel_rfl) rfl (by kernel_rfl) ⟨(blk_cell BK1145.out 0).trans rfl, (blk_cell BK1145.out 1).trans rfl, (blk_cell BK1149.out 0).trans rfl, (blk_cell BK1149.out 1).trans rfl, (blk_cell BK1141.out 0).trans rfl, (blk_cell BK1141.out 1).trans rfl⟩ (fun hHeld => ?_); refine with_tabW laws_FnClasses.tab6 laws_FnClasses.bits6 (fun HT_ HW_ => ?_)
          generalize w191.drew = w192 at BK1141 BK1145 BK1149 HB hHeld ⊢
          refine ta6_ HT_ HW_ 0 43 (bs 22 1) hHeld ?_
          refine ta6_ HT_ HW_ 1 44 (bs 22 3) hHeld ?_
          refine pu_ HT_ 2 45 (bs 22 7) ?_
          refine pu_ HT_ 3 46 (bs 22 15) ?_
          refine pu_ HT_ 4 47 (bs 22 31) ?_
          refine pu_ HT_ 5 48 (bs 22 63) ?_
          refine pu_ HT_ 6 49 (bs 22 127) ?_
          refine pu_ HT_ 7 50 (bs 22 255) ?_
          refine pu_ HT_ 8 51 (bs 22 511) ?_
          refine ta6_ HT_ HW_ 9 52 (bs 22 1023) hHeld ?_
          refine ta6_ HT_ HW_ 11 54 (bs 22 3071) hHeld ?_
          refine on_ HT_ 10 53 (bs 22 4095) (fun K hK => ?_)
          refine goes_ Try.func12 (by kernel_rfl) rfl #[.agg #[.int .i64 t1139, .int .i64 t1140]] (by rfl) rfl rfl mp_ ?_
          with_reducible refine (impl_SymmetriesOf.calls t1139 t1140 t1150 _ A9.out).mono ?_
          rintro e w193 ⟨rfl, hb⟩
          refine ⟨_, rfl, ?_⟩
          replace BK1141 := kb_ BK1141 hb
          replace BK1145 := kb_ BK1145 hb
          replace BK1149 := kb_ BK1149 hb
          replace HB := Aside0.mk (below_step (bv3_ HB GE1141 GE1145 GE1149) hb)
          (try clear hb)
          (try clear hb2)
          (try clear hk)
          (try clear hi)
          refine hK.out _ _ ⟨(blk_cell BK1145.out 0).trans rfl, (blk_cell BK1145.out 1).trans rfl, (blk_cell BK1149.out 0).trans rfl, (blk_cell BK1149.out 1).trans rfl, (blk_cell BK1141.out 0).trans rfl, (blk_cell BK1141.out 1).trans rfl⟩ (fun hHeld => ?_)
          clear hK K
          refine no_ 53 ?_
          refine on_ HT_ 12 55 (bs 22 8191) (fun K hK => ?_)
          refine goes_ Try.func13 (by kernel_rfl) rfl #[.agg #[.int .i64 t1139, .int .i64 t1140]] (by rfl) rfl rfl mp_ ?_
          with_reducible refine (spec_SymmetriesOf.calls k t1139 t1140 t1151 _ A10.out).mono ?_
          rintro e w194 ⟨rfl, hb⟩
          refine ⟨_, rfl, ?_⟩
          replace BK1141 := kb_ BK1141 hb
          replace BK1145 := kb_ BK1145 hb
          replace BK1149 := kb_ BK1149 hb
          replace HB := Aside0.mk (below_step (bv3_ HB GE1141 GE1145 GE1149) hb)
          (try clear hb)
          (try clear hb2)
          (try clear hk)
          (try clear hi)
          refine hK.out _ _ ⟨(blk_cell BK1145.out 0).trans rfl, (blk_cell BK1145.out 1).trans rfl, (blk_cell BK1149.out 0).trans rfl, (blk_cell BK1149.out 1).trans rfl, (blk_cell BK1141.out 0).trans rfl, (blk_cell BK1141.out 1).trans rfl⟩ (fun hHeld => ?_)
          clear hK K
          refine no_ 55 ?_
          refine pu_ HT_ 13 56 (bs 22 16383) ?_
          refine pu_ HT_ 14 57 (bs 22 32767) ?_
          refine pu_ HT_ 15 58 (bs 22 65535) ?_
          refine ta6_ HT_ HW_ 16 59 (bs 22 131071) hHeld ?_
          refine ta6_ HT_ HW_ 18 61 (bs 22 393215) hHeld ?_
          refine on_ HT_ 17 60 (bs 22 524287) (fun K hK => ?_)
          refine goes_ Try.func14 (by kernel_rfl) rfl #[.agg #[.int .i64 t1139, .int .i64 t1140]] (by rfl) rfl rfl mp_ ?_
          with_reducible refine (impl_ClassSize.calls t1139 t1140 t1152 _ A12.out).mono ?_
          rintro e w195 ⟨rfl, hb⟩
          refine ⟨_, rfl, ?_⟩
          replace BK1141 := kb_ BK1141 hb
          replace BK1145 := kb_ BK1145 hb
          replace BK1149 := kb_ BK1149 hb
          replace HB := Aside0.mk (below_step (bv3_ HB GE1141 GE1145 GE1149) hb)
          (try clear hb)
          (try clear hb2)
          (try clear hk)
          (try clear hi)
          refine hK.out _ _ ⟨(blk_cell BK1145.out 0).trans rfl, (blk_cell BK1145.out 1).trans rfl, (blk_cell BK1149.out 0).trans rfl, (blk_cell BK1149.out 1).trans rfl, (blk_cell BK1141.out 0).trans rfl, (blk_cell BK1141.out 1).trans rfl⟩ (fun hHeld => ?_)
          clear hK K
          refine no_ 60 ?_
          refine on_ HT_ 19 62 (bs 22 1048575) (fun K hK => ?_)
          refine goes_ Try.func15 (by kernel_rfl) rfl #[.agg #[.int .i64 t1139, .int .i64 t1140]] (by rfl) rfl rfl mp_ ?_
          with_reducible refine (spec_ClassSize.calls k t1139 t1140 t1153 _ A13.out).mono ?_
          rintro e w196 ⟨rfl, hb⟩
          refine ⟨_, rfl, ?_⟩
          replace BK1141 := kb_ BK1141 hb
          replace BK1145 := kb_ BK1145 hb
          replace BK1149 := kb_ BK1149 hb
          replace HB := Aside0.mk (below_step (bv3_ HB GE1141 GE1145 GE1149) hb)
          (try clear hb)
          (try clear hb2)
          (try clear hk)
          (try clear hi)
          refine hK.out _ _ ⟨(blk_cell BK1145.out 0).trans rfl, (blk_cell BK1145.out 1).trans rfl, (blk_cell BK1149.out 0).trans rfl, (blk_cell BK1149.out 1).trans rfl, (blk_cell BK1141.out 0).trans rfl, (blk_cell BK1141.out 1).trans rfl⟩ (fun hHeld => ?_)
          clear hK K
          refine no_ 62 ?_
          refine pu_ HT_ 20 63 (bs 22 2097151) ?_
          refine pu_ HT_ 21 64 (bs 22 4194303) ?_
          refine done_ (done_of HT_.out (by kernel_rfl)) ?_
          try go_wp2_with (first | ((with_reducible refine gate_callee (f := 23) rfl ?_); refine gl_ 156 Try.func23 #[.slice A0 l0.length c0] rfl mp_ ?_; (with_reducible refine (spec_DrawAreAlike.calls k _ _ l0 t1206 t1207 t1208 t1209 _ ?side1 ?side2 A165.out).mono ?_); (case side1 => exact cv_ (Kd.C_below HR0.out HB.out)); (case side2 => exact HC0.out); rintro e w197 ⟨rfl, hb⟩; refine ⟨_, rfl, ?_⟩; have n0_ := kb_ BK1141 hb; have n1_ := kb_ BK1145 hb; have n2_ := kb_ BK1149 hb; have n3_ := Aside0.mk (below_step (bv3_ HB GE1141 GE1145 GE1149) hb); clear BK1141; clear BK1145; clear BK1149; clear HB; have BK1141 := n0_; have BK1145 := n1_; have BK1149 := n2_; have HB := n3_; clear n0_ n1_ n2_ n3_; (try clear hb); (try clear hb2); (try clear hk); (try clear hi)) | ((with_reducible refine gate_dst (N := 21) rfl ?_); refine bx_ 21 #[.int .i64 0, .int .i64 0] 25 ?_; intro gb1210 hg w198 hbox hb; have n0_ := kb_ BK1141 hb; have n1_ := kb_ BK1145 hb; have n2_ := kb_ BK1149 hb; have n3_ := Aside0.mk (below_step (bv3_ HB GE1141 GE1145 GE1149) hb); have n4_ := Aside0.mk (hbox); have n5_ := gw_ hg (below_size (bv3_ HB GE1141 GE1145 GE1149)); have n6_ := gw_ hg (below_size (bv3_ HB GE1141 GE1145 GE1149)); have n7_ := nb_ hg (blk_lt (g := gb1141) (o := .cells #[.int .i64 t1139, .int .i64 t1140] 25 (0, 0)) (kv_ BK1141)); have n8_ := nc_ hg (blk_lt (g := gb1141) (o := .cells #[.int .i64 t1139, .int .i64 t1140] 25 (0, 0)) (kv_ BK1141)); have n9_ := nb_ hg (blk_lt (g := gb1145) (o := .cells #[.int .i64 t1142, .int .i64 t1143] 25 (0, 0)) (kv_ BK1145)); have n10_ := nc_ hg (blk_lt (g := gb1145) (o := .cells #[.int .i64 t1142, .int .i64 t1143] 25 (0, 0)) (kv_ BK1145)); have n11_ := nb_ hg (blk_lt (g := gb1149) (o := .cells #[.int .i64 t1146, .int .i64 t1147] 25 (0, 0)) (kv_ BK1149)); have n12_ := nc_ hg (blk_lt (g := gb1149) (o := .cells #[.int .i64 t1146, .int .i64 t1147] 25 (0, 0)) (kv_ BK1149)); clear BK1141; clear BK1145; clear BK1149; clear HB; have BK1141 := n0_; have BK1145 := n1_; have BK1149 := n2_; have HB := n3_; have BK1210 := n4_; have GW1210 := n5_; have GE1210 := n6_; have NB1141_1210 := n7_; have NB1210_1141 := n8_; have NB1145_1210 := n9_; have NB1210_1145 := n10_; have NB1149_1210 := n11_; have NB1210_1149 := n12_; clear n0_ n1_ n2_ n3_ n4_ n5_ n6_ n7_ n8_ n9_ n10_ n11_ n12_; clear hb hbox hg) | ((with_reducible refine gate_dst (N := 22) rfl ?_); refine bx_ 22 #[.int .i64 0, .int .i64 0] 25 ?_; intro gb1211 hg w199 hbox hb; have n0_ := kb_ BK1141 hb; have n1_ := kb_ BK1145 hb; have n2_ := kb_ BK1149 hb; have n3_ := kb_ BK1210 hb; have n4_ := Aside0.mk (below_step (bv4_ HB GE1141 GE1145 GE1149 GE1210) hb); have n5_ := Aside0.mk (hbox); have n6_ := gw_ hg (below_size (bv4_ HB GE1141 GE1145 GE1149 GE1210)); have n7_ := gw_ hg (below_size (bv4_ HB GE1141 GE1145 GE1149 GE1210)); have n8_ := nb_ hg (blk_lt (g := gb1141) (o := .cells #[.int .i64 t1139, .int .i64 t1140] 25 (0, 0)) (kv_ BK1141)); have n9_ := nc_ hg (blk_lt (g := gb1141) (o := .cells #[.int .i64 t1139, .int .i64 t1140] 25 (0, 0)) (kv_ BK1141)); have n10_ := nb_ hg (blk_lt (g := gb1145) (o := .cells #[.int .i64 t1142, .int .i64 t1143] 25 (0, 0)) (kv_ BK1145)); have n11_ := nc_ hg (blk_lt (g := gb1145) (o := .cells #[.int .i64 t1142, .int .i64 t1143] 25 (0, 0)) (kv_ BK1145)); have n12_ := nb_ hg (blk_lt (g := gb1149) (o := .cells #[.int .i64 t1146, .int .i64 t1147] 25 (0, 0)) (kv_ BK1149)); have n13_ := nc_ hg (blk_lt (g := gb1149) (o := .cells #[.int .i64 t1146, .int .i64 t1147] 25 (0, 0)) (kv_ BK1149)); have n14_ := nb_ hg (blk_lt (g := gb1210) (o := .cells #[.int .i64 0, .int .i64 0] 25 (0, 0)) (kv_ BK1210)); have n15_ := nc_ hg (blk_lt (g := gb1210) (o := .cells #[.int .i64 0, .int .i64 0] 25 (0, 0)) (kv_ BK1210)); clear BK1141; clear BK1145; clear BK1149; clear BK1210; clear HB; have BK1141 := n0_; have BK1145 := n1_; have BK1149 := n2_; have BK1210 := n3_; have HB := n4_; have BK1211 := n5_; have GW1211 := n6_; have GE1211 := n7_; have NB1141_1211 := n8_; have NB1211_1141 := n9_; have NB1145_1211 := n10_; have NB1211_1145 := n11_; have NB1149_1211 := n12_; have NB1211_1149 := n13_; have NB1210_1211 := n14_; have NB1211_1210 := n15_; clear n0_ n1_ n2_ n3_ n4_ n5_ n6_ n7_ n8_ n9_ n10_ n11_ n12_ n13_ n14_ n15_; clear hb hbox hg; have hnb200 := NB1210_1141.out; have hnc200 := NB1141_1210.out; have hnb201 := NB1210_1145.out; have hnc201 := NB1145_1210.out; have hnb202 := NB1210_1149.out; have hnc202 := NB1149_1210.out; have hnb203 := NB1210_1211.out; have hnc203 := NB1211_1210.out; have hcz204_0 : w199.cell? ⟨gb1210, 0, none⟩ = some (.int .i64 0) := (blk_cell BK1210.out 0).trans rfl; have hcz204_1 : w199.cell? ⟨gb1210, 1, none⟩ = some (.int .i64 0) := (blk_cell BK1210.out 1).trans rfl; have hfz204_0 := blk_frozen BK1210.out 0; have hfz204_1 := blk_frozen BK1210.out 1; have hnb205 := NB1211_1141.out; have hnc205 := NB1141_1211.out; have hnb206 := NB1211_1145.out; have hnc206 := NB1145_1211.out; have hnb207 := NB1211_1149.out; have hnc207 := NB1149_1211.out; have hcz208_0 : w199.cell? ⟨gb1211, 0, none⟩ = some (.int .i64 0) := (blk_cell BK1211.out 0).trans rfl; have hcz208_1 : w199.cell? ⟨gb1211, 1, none⟩ = some (.int .i64 0) := (blk_cell BK1211.out 1).trans rfl; have hfz208_0 := blk_frozen BK1211.out 0; have hfz208_1 := blk_frozen BK1211.out 1) | ((with_reducible refine gate_callee (f := 24) rfl ?_); refine gl_ 160 Try.func24 #[.slice A0 l0.length c0] rfl mp_ ?_; (with_reducible refine (spec_DrawCountTableClasses.calls k _ _ l0 t1212 _ ?side1 ?side2 A166.out).mono ?_); (case side1 => exact Kd.C_below HR0.out (bv5_ HB GE1141 GE1145 GE1149 GE1210 GE1211)); (case side2 => exact HC0.out); rintro e w209 ⟨rfl, hb⟩; refine ⟨_, rfl, ?_⟩; have n0_ := Aside0.mk (blk_below (g := gb1141) (o := .cells #[.int .i64 t1139, .int .i64 t1140] 25 (0, 0)) (by (with_reducible repeat (first | refine blk_drewN ?_ _ | refine blk_drew ?_ | refine blk_alloc ?_ _)); refine blk_far ?_ NB1141_1211.out _; (with_reducible repeat (first | refine blk_drewN ?_ _ | refine blk_drew ?_ | refine blk_alloc ?_ _)); refine blk_far ?_ NB1141_1211.out _; (with_reducible repeat (first | refine blk_drewN ?_ _ | refine blk_drew ?_ | refine blk_alloc ?_ _)); refine blk_far ?_ NB1141_1210.out _; (with_reducible repeat (first | refine blk_drewN ?_ _ | refine blk_drew ?_ | refine blk_alloc ?_ _)); refine blk_far ?_ NB1141_1210.out _; (with_reducible repeat (first | refine blk_drewN ?_ _ | refine blk_drew ?_ | refine blk_alloc ?_ _)); exact BK1141.out) hb); have n1_ := Aside0.mk (blk_below (g := gb1145) (o := .cells #[.int .i64 t1142, .int .i64 t1143] 25 (0, 0)) (by (with_reducible repeat (first | refine blk_drewN ?_ _ | refine blk_drew ?_ | refine blk_alloc ?_ _)); refine blk_far ?_ NB1145_1211.out _; (with_reducible repeat (first | refine blk_drewN ?_ _ | refine blk_drew ?_ | refine blk_alloc ?_ _)); refine blk_far ?_ NB1145_1211.out _; (with_reducible repeat (first | refine blk_drewN ?_ _ | refine blk_drew ?_ | refine blk_alloc ?_ _)); refine blk_far ?_ NB1145_1210.out _; (with_reducible repeat (first | refine blk_drewN ?_ _ | refine blk_drew ?_ | refine blk_alloc ?_ _)); refine blk_far ?_ NB1145_1210.out _; (with_reducible repeat (first | refine blk_drewN ?_ _ | refine blk_drew ?_ | refine blk_alloc ?_ _)); exact BK1145.out) hb); have n2_ := Aside0.mk (blk_below (g := gb1149) (o := .cells #[.int .i64 t1146, .int .i64 t1147] 25 (0, 0)) (by (with_reducible repeat (first | refine blk_drewN ?_ _ | refine blk_drew ?_ | refine blk_alloc ?_ _)); refine blk_far ?_ NB1149_1211.out _; (with_reducible repeat (first | refine blk_drewN ?_ _ | refine blk_drew ?_ | refine blk_alloc ?_ _)); refine blk_far ?_ NB1149_1211.out _; (with_reducible repeat (first | refine blk_drewN ?_ _ | refine blk_drew ?_ | refine blk_alloc ?_ _)); refine blk_far ?_ NB1149_1210.out _; (with_reducible repeat (first | refine blk_drewN ?_ _ | refine blk_drew ?_ | refine blk_alloc ?_ _)); refine blk_far ?_ NB1149_1210.out _; (with_reducible repeat (first | refine blk_drewN ?_ _ | refine blk_drew ?_ | refine blk_alloc ?_ _)); exact BK1149.out) hb); have n3_ := Aside0.mk (blk_below (g := gb1210) (o := .cells #[.int .i64 t1206, .int .i64 t1207] 25 (0, 0)) (by (with_reducible repeat (first | refine blk_drewN ?_ _ | refine blk_drew ?_ | refine blk_alloc ?_ _)); refine blk_far ?_ NB1210_1211.out _; (with_reducible repeat (first | refine blk_drewN ?_ _ | refine blk_drew ?_ | refine blk_alloc ?_ _)); refine blk_far ?_ NB1210_1211.out _; (with_reducible repeat (first | refine blk_drewN ?_ _ | refine blk_drew ?_ | refine blk_alloc ?_ _)); refine blk_put (cs := #[.int .i64 t1206, .int .i64 0]) ?_ 1 _ rfl; (with_reducible repeat (first | refine blk_drewN ?_ _ | refine blk_drew ?_ | refine blk_alloc ?_ _)); refine blk_put (cs := #[.int .i64 0, .int .i64 0]) ?_ 0 _ rfl; (with_reducible repeat (first | refine blk_drewN ?_ _ | refine blk_drew ?_ | refine blk_alloc ?_ _)); exact BK1210.out) hb); have n4_ := Aside0.mk (blk_below (g := gb1211) (o := .cells #[.int .i64 t1208, .int .i64 t1209] 25 (0, 0)) (by (with_reducible repeat (first | refine blk_drewN ?_ _ | refine blk_drew ?_ | refine blk_alloc ?_ _)); refine blk_put (cs := #[.int .i64 t1208, .int .i64 0]) ?_ 1 _ rfl; (with_reducible repeat (first | refine blk_drewN ?_ _ | refine blk_drew ?_ | refine blk_alloc ?_ _)); refine blk_put (cs := #[.int .i64 0, .int .i64 0]) ?_ 0 _ rfl; (with_reducible repeat (first | refine blk_drewN ?_ _ | refine blk_drew ?_ | refine blk_alloc ?_ _)); refine blk_far ?_ NB1211_1210.out _; (with_reducible repeat (first | refine blk_drewN ?_ _ | refine blk_drew ?_ | refine blk_alloc ?_ _)); refine blk_far ?_ NB1211_1210.out _; (with_reducible repeat (first | refine blk_drewN ?_ _ | refine blk_drew ?_ | refine blk_alloc ?_ _)); exact BK1211.out) hb); have n5_ := Aside0.mk (below_step (bv5_ HB GE1141 GE1145 GE1149 GE1210 GE1211) hb); clear BK1141; clear BK1145; clear BK1149; clear BK1210; clear BK1211; clear HB; have BK1141 := n0_; have BK1145 := n1_; have BK1149 := n2_; have BK1210 := n3_; have BK1211 := n4_; have HB := n5_; clear n0_ n1_ n2_ n3_ n4_ n5_; (try clear hb); (try clear hb2); (try clear hk); (try clear hi)) | ((with_reducible refine gate_callee (f := 25) rfl ?_); refine gl_ 162 Try.func25 #[.slice A0 l0.length c0] rfl mp_ ?_; (with_reducible refine (spec_DrawPermutationsOf.calls k _ _ l0 t1213 _ ?side1 ?side2 A167.out).mono ?_); (case side1 => exact cv_ (Kd.C_below HR0.out HB.out)); (case side2 => exact HC0.out); rintro e w210 ⟨rfl, hb⟩; refine ⟨_, rfl, ?_⟩; have n0_ := kb_ BK1141 hb; have n1_ := kb_ BK1145 hb; have n2_ := kb_ BK1149 hb; have n3_ := kb_ BK1210 hb; have n4_ := kb_ BK1211 hb; have n5_ := Aside0.mk (below_step (bv5_ HB GE1141 GE1145 GE1149 GE1210 GE1211) hb); clear BK1141; clear BK1145; clear BK1149; clear BK1210; clear BK1211; clear HB; have BK1141 := n0_; have BK1145 := n1_; have BK1149 := n2_; have BK1210 := n3_; have BK1211 := n4_; have HB := n5_; clear n0_ n1_ n2_ n3_ n4_ n5_; (try clear hb); (try clear hb2); (try clear hk); (try clear hi)) | ((with_reducible refine gate_callee (f := 16) rfl ?_); refine gl_ 165 Try.func16 #[.int .i64 t1213] rfl mp_ ?_; (with_reducible refine (impl_PermutationsOf.calls t1213 t1214 t1217 _ A168.out).mono ?_); rintro e w211 ⟨v1215, rfl, ho0, hb⟩; refine ⟨_, rfl, ?_⟩; have n0_ := Aside0.mk (Kd.N_lower (Kd.N_mono (ok' := fun k_ => k_ ≠ gb1141 ∧ k_ ≠ gb1145 ∧ k_ ≠ gb1149 ∧ k_ ≠ gb1210 ∧ k_ ≠ gb1211) ho0 (fun k_ hk_ => ⟨(Kd.freshB (g := gb1141) (o := .cells #[.int .i64 t1139, .int .i64 t1140] 25 (0, 0)) (kv_ BK1141) k_ hk_), (Kd.freshB (g := gb1145) (o := .cells #[.int .i64 t1142, .int .i64 t1143] 25 (0, 0)) (kv_ BK1145) k_ hk_), (Kd.freshB (g := gb1149) (o := .cells #[.int .i64 t1146, .int .i64 t1147] 25 (0, 0)) (kv_ BK1149) k_ hk_), (Kd.freshB (g := gb1210) (o := .cells #[.int .i64 t1206, .int .i64 t1207] 25 (0, 0)) (kv_ BK1210) k_ hk_), (Kd.freshB (g := gb1211) (o := .cells #[.int .i64 t1208, .int .i64 t1209] 25 (0, 0)) (kv_ BK1211) k_ hk_)⟩)) (below_size (bv5_ HB GE1141 GE1145 GE1149 GE1210 GE1211))); have n1_ := kb_ BK1141 hb; have n2_ := kb_ BK1145 hb; have n3_ := kb_ BK1149 hb; have n4_ := kb_ BK1210 hb; have n5_ := kb_ BK1211 hb; have n6_ := Aside0.mk (below_step (bv5_ HB GE1141 GE1145 GE1149 GE1210 GE1211) hb); clear BK1141; clear BK1145; clear BK1149; clear BK1210; clear BK1211; clear HB; have HO1216 := n0_; have BK1141 := n1_; have BK1145 := n2_; have BK1149 := n3_; have BK1210 := n4_; have BK1211 := n5_; have HB := n6_; clear n0_ n1_ n2_ n3_ n4_ n5_ n6_; (try clear hb); (try clear hb2); (try clear hk); (try clear hi); (try clear ho0)) | ((with_reducible refine gate_callee (f := 26) rfl ?_); refine gl_ 170 Try.func26 #[.int .i64 t1213] rfl mp_ ?_; (with_reducible refine (spec_PermutationsOf.calls k t1213 t1218 t1221 _ A169.out).mono ?_); rintro e w212 ⟨v1219, rfl, ho0, hb⟩; refine ⟨_, rfl, ?_⟩; have n0_ := Aside0.mk (Kd.N_elder' (by (with_reducible repeat (first | apply Kd.N_alloc | apply Kd.N_drewN | apply Kd.N_drew)); exact HO1216.out) (Kd.N_base ho0) hb); have n1_ := Aside0.mk (Kd.N_lower (Kd.N_mono (ok' := fun k_ => some k_ ≠ (v1215 : Value).ownBlock ∧ k_ ≠ gb1141 ∧ k_ ≠ gb1145 ∧ k_ ≠ gb1149 ∧ k_ ≠ gb1210 ∧ k_ ≠ gb1211) ho0 (fun k_ hk_ => ⟨(Kd.fresh' (Kd.N_lt (by (with_reducible repeat (first | apply Kd.N_alloc | apply Kd.N_drewN | apply Kd.N_drew)); exact HO1216.out)) k_ hk_), (Kd.freshB (g := gb1141) (o := .cells #[.int .i64 t1139, .int .i64 t1140] 25 (0, 0)) (kv_ BK1141) k_ hk_), (Kd.freshB (g := gb1145) (o := .cells #[.int .i64 t1142, .int .i64 t1143] 25 (0, 0)) (kv_ BK1145) k_ hk_), (Kd.freshB (g := gb1149) (o := .cells #[.int .i64 t1146, .int .i64 t1147] 25 (0, 0)) (kv_ BK1149) k_ hk_), (Kd.freshB (g := gb1210) (o := .cells #[.int .i64 t1206, .int .i64 t1207] 25 (0, 0)) (kv_ BK1210) k_ hk_), (Kd.freshB (g := gb1211) (o := .cells #[.int .i64 t1208, .int .i64 t1209] 25 (0, 0)) (kv_ BK1211) k_ hk_)⟩)) (below_size (bv5_ HB GE1141 GE1145 GE1149 GE1210 GE1211))); have n2_ := kb_ BK1141 hb; have n3_ := kb_ BK1145 hb; have n4_ := kb_ BK1149 hb; have n5_ := kb_ BK1210 hb; have n6_ := kb_ BK1211 hb; have n7_ := Aside0.mk (below_step (bv5_ HB GE1141 GE1145 GE1149 GE1210 GE1211) hb); clear HO1216; clear BK1141; clear BK1145; clear BK1149; clear BK1210; clear BK1211; clear HB; have HO1216 := n0_; have HO1220 := n1_; have BK1141 := n2_; have BK1145 := n3_; have BK1149 := n4_; have BK1210 := n5_; have BK1211 := n6_; have HB := n7_; clear n0_ n1_ n2_ n3_ n4_ n5_ n6_ n7_; (try clear hb); (try clear hb2); (try clear hk); (try clear hi); (try clear ho0)))
          replace HO1216 := Aside0.mk (Kd.N_drew HO1216.out)
          replace HO1220 := Aside0.mk (Kd.N_drew HO1220.out)
          replace BK1141 := Aside0.mk (blk_drew BK1141.out)
          replace BK1145 := Aside0.mk (blk_drew BK1145.out)
          replace BK1149 := Aside0.mk (blk_drew BK1149.out)
          replace BK1210 := Aside0.mk (blk_drew BK1210.out)
          replace BK1211 := Aside0.mk (blk_drew BK1211.out)
          replace HB := Aside0.mk (below_drew1 HB.out)
          (try clear hcz180_0); (try clear hcz180_1); (try clear hfz180_0); (try clear hfz180_1); (try clear hnb183); (try clear hnc183); (try clear hcz184_0); (try clear hcz184_1); (try clear hfz184_0); (try clear hfz184_1); (try clear hcz185_0); (try clear hcz185_1)
          (try clear hfz185_0); (try clear hfz185_1); (try clear hnb188); (try clear hnc188); (try clear hnb189); (try clear hnc189); (try clear hcz190_0); (try clear hcz190_1); (try clear hfz190_0); (try clear hfz190_1); (try clear hnb200); (try clear hnc200)
          (try clear hnb201); (try clear hnc201); (try clear hnb202); (try clear hnc202); (try clear hnb203); (try clear hnc203); (try clear hcz204_0); (try clear hcz204_1); (try clear hfz204_0); (try clear hfz204_1); (try clear hnb205); (try clear hnc205)
          (try clear hnb206); (try clear hnc206); (try clear hnb207); (try clear hnc207); (try clear hcz208_0); (try clear hcz208_1); (try clear hfz208_0); (try clear hfz208_1)
          refine start_ (n := 25) (S := fun w' => w'.cell? ⟨gb1210, 0, none⟩ = some (.int .i64 t1206) ∧ w'.cell? ⟨gb1210, 1, none⟩ = some (.int .i64 t1207) ∧ w'.cell? ⟨gb1211, 0, none⟩ = some (.int .i64 t1208) ∧ w'.cell? ⟨gb1211, 1, none⟩ = some (.int .i64 t1209)) (ds := []) (bs 25 0) (by kernel_rfl) rfl (by kernel_rfl) ⟨(blk_cell BK1210.out 0).trans rfl, (blk_cell BK1210.out 1).trans rfl, (blk_cell BK1211.out 0).trans rfl, (blk_cell BK1211.out 1).trans rfl⟩ (fun hHeld => ?_); refine with_tabW laws_FnClasses.tab23 laws_FnClasses.bits23 (fun HT_ HW_ => ?_)
          generalize w212.drew = w213 at HO1216 HO1220 BK1141 BK1145 BK1149 BK1210 BK1211 HB hHeld ⊢
          refine ta4_ HT_ HW_ 0 173 (bs 25 1) hHeld ?_
          refine ta4_ HT_ HW_ 1 174 (bs 25 3) hHeld ?_
          refine ta4_ HT_ HW_ 3 176 (bs 25 11) hHeld ?_
          refine ta4_ HT_ HW_ 4 177 (bs 25 27) hHeld ?_
          refine on_ HT_ 2 175 (bs 25 31) (fun K hK => ?_)
          refine goes_ Try.func21 (by kernel_rfl) rfl #[.agg #[.int .i64 t1206, .int .i64 t1207], .agg #[.int .i64 t1208, .int .i64 t1209]] (by rfl) rfl rfl mp_ ?_
          with_reducible refine (impl_AreAlike.calls t1206 t1207 t1208 t1209 t1222 _ A170.out).mono ?_
          rintro e w214 ⟨rfl, hb⟩
          refine ⟨_, rfl, ?_⟩
          replace HO1216 := Aside0.mk (Kd.N_below (by (with_reducible repeat (first | apply Kd.N_alloc | apply Kd.N_drewN | apply Kd.N_drew)); exact HO1216.out) hb)
          replace HO1220 := Aside0.mk (Kd.N_below (by (with_reducible repeat (first | apply Kd.N_alloc | apply Kd.N_drewN | apply Kd.N_drew)); exact HO1220.out) hb)
          replace BK1141 := kb_ BK1141 hb
          replace BK1145 := kb_ BK1145 hb
          replace BK1149 := kb_ BK1149 hb
          replace BK1210 := kb_ BK1210 hb
          replace BK1211 := kb_ BK1211 hb
          replace HB := Aside0.mk (below_step (bv5_ HB GE1141 GE1145 GE1149 GE1210 GE1211) hb)
          (try clear hb)
          (try clear hb2)
          (try clear hk)
          (try clear hi)
          refine hK.out _ _ ⟨(blk_cell BK1210.out 0).trans rfl, (blk_cell BK1210.out 1).trans rfl, (blk_cell BK1211.out 0).trans rfl, (blk_cell BK1211.out 1).trans rfl⟩ (fun hHeld => ?_)
          clear hK K
          refine no_ 175 ?_
          refine on_ HT_ 5 178 (bs 25 63) (fun K hK => ?_)
          refine goes_ Try.func27 (by kernel_rfl) rfl #[.agg #[.int .i64 t1206, .int .i64 t1207], .agg #[.int .i64 t1208, .int .i64 t1209]] (by rfl) rfl rfl mp_ ?_
          with_reducible refine (spec_AreAlike.calls k t1206 t1207 t1208 t1209 t1223 _ A171.out).mono ?_
          rintro e w215 ⟨rfl, hb⟩
          refine ⟨_, rfl, ?_⟩
          replace HO1216 := Aside0.mk (Kd.N_below (by (with_reducible repeat (first | apply Kd.N_alloc | apply Kd.N_drewN | apply Kd.N_drew)); exact HO1216.out) hb)
          replace HO1220 := Aside0.mk (Kd.N_below (by (with_reducible repeat (first | apply Kd.N_alloc | apply Kd.N_drewN | apply Kd.N_drew)); exact HO1220.out) hb)
          replace BK1141 := kb_ BK1141 hb
          replace BK1145 := kb_ BK1145 hb
          replace BK1149 := kb_ BK1149 hb
          replace BK1210 := kb_ BK1210 hb
          replace BK1211 := kb_ BK1211 hb
          replace HB := Aside0.mk (below_step (bv5_ HB GE1141 GE1145 GE1149 GE1210 GE1211) hb)
          (try clear hb)
          (try clear hb2)
          (try clear hk)
          (try clear hi)
          refine hK.out _ _ ⟨(blk_cell BK1210.out 0).trans rfl, (blk_cell BK1210.out 1).trans rfl, (blk_cell BK1211.out 0).trans rfl, (blk_cell BK1211.out 1).trans rfl⟩ (fun hHeld => ?_)
          clear hK K
          refine no_ 178 ?_
          refine pu_ HT_ 6 179 (bs 25 127) ?_
          refine pu_ HT_ 7 180 (bs 25 255) ?_
          refine pu_ HT_ 8 181 (bs 25 511) ?_
          refine pu_ HT_ 10 183 (bs 25 1535) ?_
          refine on_ HT_ 9 182 (bs 25 2047) (fun K hK => ?_)
          refine goes_ Try.func28 (by kernel_rfl) rfl #[.int .i64 t1212] (by rfl) rfl rfl mp_ ?_
          with_reducible refine (impl_CountTableClasses.calls t1212 t1224 _ A173.out).mono ?_
          rintro e w216 ⟨rfl, hb⟩
          refine ⟨_, rfl, ?_⟩
          replace HO1216 := Aside0.mk (Kd.N_below (by (with_reducible repeat (first | apply Kd.N_alloc | apply Kd.N_drewN | apply Kd.N_drew)); exact HO1216.out) hb)
          replace HO1220 := Aside0.mk (Kd.N_below (by (with_reducible repeat (first | apply Kd.N_alloc | apply Kd.N_drewN | apply Kd.N_drew)); exact HO1220.out) hb)
          replace BK1141 := kb_ BK1141 hb
          replace BK1145 := kb_ BK1145 hb
          replace BK1149 := kb_ BK1149 hb
          replace BK1210 := kb_ BK1210 hb
          replace BK1211 := kb_ BK1211 hb
          replace HB := Aside0.mk (below_step (bv5_ HB GE1141 GE1145 GE1149 GE1210 GE1211) hb)
          (try clear hb)
          (try clear hb2)
          (try clear hk)
          (try clear hi)
          refine hK.out _ _ ⟨(blk_cell BK1210.out 0).trans rfl, (blk_cell BK1210.out 1).trans rfl, (blk_cell BK1211.out 0).trans rfl, (blk_cell BK1211.out 1).trans rfl⟩ (fun hHeld => ?_)
          clear hK K
          refine no_ 182 ?_
          refine on_ HT_ 11 184 (bs 25 4095) (fun K hK => ?_)
          refine goes_ Try.func29 (by kernel_rfl) rfl #[.int .i64 t1212] (by rfl) rfl rfl mp_ ?_
          with_reducible refine (spec_CountTableClasses.calls k t1212 t1225 _ A174.out).mono ?_
          rintro e w217 ⟨rfl, hb⟩
          refine ⟨_, rfl, ?_⟩
          replace HO1216 := Aside0.mk (Kd.N_below (by (with_reducible repeat (first | apply Kd.N_alloc | apply Kd.N_drewN | apply Kd.N_drew)); exact HO1216.out) hb)
          replace HO1220 := Aside0.mk (Kd.N_below (by (with_reducible repeat (first | apply Kd.N_alloc | apply Kd.N_drewN | apply Kd.N_drew)); exact HO1220.out) hb)
          replace BK1141 := kb_ BK1141 hb
          replace BK1145 := kb_ BK1145 hb
          replace BK1149 := kb_ BK1149 hb
          replace BK1210 := kb_ BK1210 hb
          replace BK1211 := kb_ BK1211 hb
          replace HB := Aside0.mk (below_step (bv5_ HB GE1141 GE1145 GE1149 GE1210 GE1211) hb)
          (try clear hb)
          (try clear hb2)
          (try clear hk)
          (try clear hi)
          obtain ⟨Ao218, co218, eo218⟩ := Kd.N_slice HO1216.out
          (first | subst eo218 | (injection eo218 with f1_ f2_ f3_; have f4_ := f1_.symm; have f5_ := f3_.symm; clear f1_ f2_ f3_; subst f4_; subst f5_))
          obtain ⟨Ao219, co219, eo219⟩ := Kd.N_slice HO1220.out
          (first | subst eo219 | (injection eo219 with f1_ f2_ f3_; have f4_ := f1_.symm; have f5_ := f3_.symm; clear f1_ f2_ f3_; subst f4_; subst f5_))
          refine hK.out _ _ ⟨(blk_cell BK1210.out 0).trans rfl, (blk_cell BK1210.out 1).trans rfl, (blk_cell BK1211.out 0).trans rfl, (blk_cell BK1211.out 1).trans rfl⟩ (fun hHeld => ?_)
          clear hK K
          refine no_ 184 ?_
          refine pu_ HT_ 12 185 (bs 25 8191) ?_
          refine pu_ HT_ 13 186 (bs 25 16383) ?_
          refine pu_ HT_ 14 187 (bs 25 32767) ?_
          refine pu_ HT_ 15 188 (bs 25 65535) ?_
          refine pu_ HT_ 16 189 (bs 25 131071) ?_
          refine pu_ HT_ 17 190 (bs 25 262143) ?_
          refine pu_ HT_ 18 191 (bs 25 524287) ?_
          refine pu_ HT_ 19 192 (bs 25 1048575) ?_
          refine pu_ HT_ 20 193 (bs 25 2097151) ?_
          refine pu_ HT_ 21 194 (bs 25 4194303) ?_
          refine on_ HT_ 22 195 (bs 25 8388607) (fun K hK => ?_)
          refine goes_ Try.func30 (by kernel_rfl) rfl #[.slice Ao218 t1214.length co218, .slice Ao219 t1218.length co219] (by rfl) rfl rfl mp_ ?_
          with_reducible refine (laws_sameLists.calls k _ _ t1214 _ _ t1218 t1226 _ ?side1 ?side2 ?side3 ?side4 A177.out).mono ?_
          (case side1 => repeat (first | exact (Kd.N_reads' HO1216.out).2.2 | (with_reducible refine Kd.C_alloc ?_ _) | (with_reducible refine Kd.C_drewN ?_ _) | (with_reducible refine Kd.C_drew ?_)))
          (case side2 => exact (Kd.N_reads' HO1216.out).2.1)
          (case side3 => repeat (first | exact (Kd.N_reads' HO1220.out).2.2 | (with_reducible refine Kd.C_alloc ?_ _) | (with_reducible refine Kd.C_drewN ?_ _) | (with_reducible refine Kd.C_drew ?_)))
          (case side4 => exact (Kd.N_reads' HO1220.out).2.1)
          rintro e w' ⟨rfl, ⟨nd, rfl⟩⟩
          refine ⟨_, rfl, ?_⟩
          refine hK.out _ _ ⟨(blk_cell BK1210.out 0).trans rfl, (blk_cell BK1210.out 1).trans rfl, (blk_cell BK1211.out 0).trans rfl, (blk_cell BK1211.out 1).trans rfl⟩ (fun hHeld => ?_)
          clear hK K
          refine no_ 195 ?_
          refine pu_ HT_ 23 196 (bs 25 16777215) ?_
          refine pu_ HT_ 24 2 (bs 25 33554431) ?_
          refine done_ (done_of HT_.out (by kernel_rfl)) ?_
          try go_wp2
          go_ret
          exact ⟨er_, bv5_ HB GE1141 GE1145 GE1149 GE1210 GE1211⟩
         ·rw [if_neg c176] at H
          exact absurd H (by simp)
        ·rw [if_neg c175] at H
         exact absurd H (by simp)
       ·rw [if_neg c172] at H
        exact absurd H (by simp)
     ·rw [if_neg c14] at H
      exact absurd H (by simp)
    ·rw [if_neg c11] at H
     exact absurd H (by simp)

end Go.Proofs.Yteljkpglgjjnlaa.P
