-- Out of the translation, by this session's program over the printer's; Lean checks it.
import Derived.Test.YtflnlnkbepoimaaSh
import Derived.Test.YtflnlnkbepoimaaQ0
import Derived.Test.YtflnlnkbepoimaaQ4
import Derived.Test.YtflnlnkbepoimaaQ5
import Derived.Test.YtflnlnkbepoimaaQ6
import Derived.Test.YtflnlnkbepoimaaQ7
import Derived.Test.YtflnlnkbepoimaaQ8
import Derived.Test.YtflnlnkbepoimaaQ9
import Derived.Test.YtflnlnkbepoimaaQ10
namespace Go.Proofs.Ytflnlnkbepoimaa.P
open Go.RowKit Go.Proofs.YtflnlnkbepoimaaW.PrintWords Go.Proofs.YtflnlnkbepoimaaW.PrintLast Go.Proofs.YtflnlnkbepoimaaW.PrintMore
attribute [local go_sem] max2_int min2_int max_two min_two max_three min_three max_four min_four
set_option linter.unusedVariables false
set_option linter.unusedSimpArgs false

/-! ### laws_FnAdversaries: function 3 -/
def laws_FnAdversaries.f (k : Nat) (l0 : List Int) : Option (Bool) := (laws_big.f l0).bind fun t903 => (if t903 = true then (some true) else ((spec_DrawPlayAgainst.f k l0).bind fun bt904 => ((impl_PlayAgainst.f k bt904.1 bt904.2.1 bt904.2.2).bind fun t910 => ((spec_PlayAgainst.f k bt904.1 bt904.2.1 bt904.2.2).bind fun t911 => (if t910 = t911 then (if t910 ≥ 0 then ((impl_LeastDepth.f bt904.1 bt904.2.1).bind fun t912 => (if t910 < t912 then (none) else (if t910 > bt904.1 then (none) else ((spec_DrawAdversaryAnswer.f k l0).bind fun bt913 => ((impl_AdversaryAnswer.f bt913.1 bt913.2.1 bt913.2.2.1 bt913.2.2.2.1 bt913.2.2.2.2).bind fun t919 => ((spec_AdversaryAnswer.f k bt913.1 bt913.2.1 bt913.2.2.1 bt913.2.2.2.1 bt913.2.2.2.2).bind fun t920 => (if t919 = t920 then (if t919 ≥ 0 then ((impl_ForcedLeft.f bt913.1 bt913.2.1 bt913.2.2.1 bt913.2.2.2.1).bind fun t921 => (if 0 ≤ bt913.2.2.2.2 then ((impl_ForcedLeft.f bt913.1 bt913.2.1 (Go.bits .or .i64 bt913.2.2.1 (shl .i64 1 bt913.2.2.2.2)) (Go.bits .or .i64 bt913.2.2.2.1 (shl .i64 t919 bt913.2.2.2.2))).bind fun t922 => ((impl_ForcedLeft.f bt913.1 bt913.2.1 (Go.bits .or .i64 bt913.2.2.1 (shl .i64 1 bt913.2.2.2.2)) (Go.bits .or .i64 bt913.2.2.2.1 (shl .i64 (wrap64 (1 - t919)) bt913.2.2.2.2))).bind fun t923 => (if t922 < (wrap64 (t921 - 1)) then (none) else (if t923 > t922 then (none) else ((impl_AskedOf.f bt913.1 bt913.2.1 bt913.2.2.1 bt913.2.2.2.1).bind fun t924 => (if ((decide (t924 < 0)) != (t921 == 0)) = true then (none) else ((spec_DrawAskedOf.f k l0).bind fun bt925 => ((spec_DrawForcedLeft.f k l0).bind fun bt930 => ((spec_DrawIsEvasive.f k l0).bind fun bt935 => ((impl_AskedOf.f bt925.1 bt925.2.1 bt925.2.2.1 bt925.2.2.2).bind fun t938 => ((spec_AskedOf.f k bt925.1 bt925.2.1 bt925.2.2.1 bt925.2.2.2).bind fun t939 => (if t938 = t939 then ((impl_ForcedLeft.f bt930.1 bt930.2.1 bt930.2.2.1 bt930.2.2.2).bind fun t940 => ((spec_ForcedLeft.f k bt930.1 bt930.2.1 bt930.2.2.1 bt930.2.2.2).bind fun t941 => (if t940 = t941 then ((impl_IsEvasive.f bt935.1 bt935.2).bind fun t942 => ((spec_IsEvasive.f k bt935.1 bt935.2).bind fun t943 => (some (t942 == t943)))) else (none)))) else (none))))))))))))) else (none))) else ((spec_DrawAskedOf.f k l0).bind fun bt944 => ((spec_DrawForcedLeft.f k l0).bind fun bt949 => ((spec_DrawIsEvasive.f k l0).bind fun bt954 => ((impl_AskedOf.f bt944.1 bt944.2.1 bt944.2.2.1 bt944.2.2.2).bind fun t957 => ((spec_AskedOf.f k bt944.1 bt944.2.1 bt944.2.2.1 bt944.2.2.2).bind fun t958 => (if t957 = t958 then ((impl_ForcedLeft.f bt949.1 bt949.2.1 bt949.2.2.1 bt949.2.2.2).bind fun t959 => ((spec_ForcedLeft.f k bt949.1 bt949.2.1 bt949.2.2.1 bt949.2.2.2).bind fun t960 => (if t959 = t960 then ((impl_IsEvasive.f bt954.1 bt954.2).bind fun t961 => ((spec_IsEvasive.f k bt954.1 bt954.2).bind fun t962 => (some (t961 == t962)))) else (none)))) else (none)))))))) else (none)))))))) else ((spec_DrawAdversaryAnswer.f k l0).bind fun bt963 => ((impl_AdversaryAnswer.f bt963.1 bt963.2.1 bt963.2.2.1 bt963.2.2.2.1 bt963.2.2.2.2).bind fun t969 => ((spec_AdversaryAnswer.f k bt963.1 bt963.2.1 bt963.2.2.1 bt963.2.2.2.1 bt963.2.2.2.2).bind fun t970 => (if t969 = t970 then (if t969 ≥ 0 then ((impl_ForcedLeft.f bt963.1 bt963.2.1 bt963.2.2.1 bt963.2.2.2.1).bind fun t971 => (if 0 ≤ bt963.2.2.2.2 then ((impl_ForcedLeft.f bt963.1 bt963.2.1 (Go.bits .or .i64 bt963.2.2.1 (shl .i64 1 bt963.2.2.2.2)) (Go.bits .or .i64 bt963.2.2.2.1 (shl .i64 t969 bt963.2.2.2.2))).bind fun t972 => ((impl_ForcedLeft.f bt963.1 bt963.2.1 (Go.bits .or .i64 bt963.2.2.1 (shl .i64 1 bt963.2.2.2.2)) (Go.bits .or .i64 bt963.2.2.2.1 (shl .i64 (wrap64 (1 - t969)) bt963.2.2.2.2))).bind fun t973 => (if t972 < (wrap64 (t971 - 1)) then (none) else (if t973 > t972 then (none) else ((impl_AskedOf.f bt963.1 bt963.2.1 bt963.2.2.1 bt963.2.2.2.1).bind fun t974 => (if ((decide (t974 < 0)) != (t971 == 0)) = true then (none) else ((spec_DrawAskedOf.f k l0).bind fun bt975 => ((spec_DrawForcedLeft.f k l0).bind fun bt980 => ((spec_DrawIsEvasive.f k l0).bind fun bt985 => ((impl_AskedOf.f bt975.1 bt975.2.1 bt975.2.2.1 bt975.2.2.2).bind fun t988 => ((spec_AskedOf.f k bt975.1 bt975.2.1 bt975.2.2.1 bt975.2.2.2).bind fun t989 => (if t988 = t989 then ((impl_ForcedLeft.f bt980.1 bt980.2.1 bt980.2.2.1 bt980.2.2.2).bind fun t990 => ((spec_ForcedLeft.f k bt980.1 bt980.2.1 bt980.2.2.1 bt980.2.2.2).bind fun t991 => (if t990 = t991 then ((impl_IsEvasive.f bt985.1 bt985.2).bind fun t992 => ((spec_IsEvasive.f k bt985.1 bt985.2).bind fun t993 => (some (t992 == t993)))) else (none)))) else (none))))))))))))) else (none))) else ((spec_DrawAskedOf.f k l0).bind fun bt994 => ((spec_DrawForcedLeft.f k l0).bind fun bt999 => ((spec_DrawIsEvasive.f k l0).bind fun bt1004 => ((impl_AskedOf.f bt994.1 bt994.2.1 bt994.2.2.1 bt994.2.2.2).bind fun t1007 => ((spec_AskedOf.f k bt994.1 bt994.2.1 bt994.2.2.1 bt994.2.2.2).bind fun t1008 => (if t1007 = t1008 then ((impl_ForcedLeft.f bt999.1 bt999.2.1 bt999.2.2.1 bt999.2.2.2).bind fun t1009 => ((spec_ForcedLeft.f k bt999.1 bt999.2.1 bt999.2.2.1 bt999.2.2.2).bind fun t1010 => (if t1009 = t1010 then ((impl_IsEvasive.f bt1004.1 bt1004.2).bind fun t1011 => ((spec_IsEvasive.f k bt1004.1 bt1004.2).bind fun t1012 => (some (t1011 == t1012)))) else (none)))) else (none)))))))) else (none)))))) else (none))))))
theorem laws_FnAdversaries.mono : ∀ a0 k, LeO (laws_FnAdversaries.f k a0) (laws_FnAdversaries.f (k + 1) a0) := by
 intro a0 k
 unfold laws_FnAdversaries.f
 repeat' first
   | (with_reducible exact impl_PlayAgainst.mono _ _ _ _)
   | (with_reducible exact spec_AdversaryAnswer.mono _ _ _ _ _ _)
   | (with_reducible exact spec_AskedOf.mono _ _ _ _ _)
   | (with_reducible exact spec_DrawAdversaryAnswer.mono _ _)
   | (with_reducible exact spec_DrawAskedOf.mono _ _)
   | (with_reducible exact spec_DrawForcedLeft.mono _ _)
   | (with_reducible exact spec_DrawIsEvasive.mono _ _)
   | (with_reducible exact spec_DrawPlayAgainst.mono _ _)
   | (with_reducible exact spec_ForcedLeft.mono _ _ _ _ _)
   | (with_reducible exact spec_IsEvasive.mono _ _ _)
   | (with_reducible exact spec_PlayAgainst.mono _ _ _ _)
   | (with_reducible exact LeO.refl _)
   | (with_reducible exact LeO.none _)
   | (with_reducible refine LeO.ite ?_ ?_)
   | (with_reducible refine LeO.bind ?_ (fun _ => ?_))
   | exact impl_PlayAgainst.mono _ _ _ _
   | exact spec_AdversaryAnswer.mono _ _ _ _ _ _
   | exact spec_AskedOf.mono _ _ _ _ _
   | exact spec_DrawAdversaryAnswer.mono _ _
   | exact spec_DrawAskedOf.mono _ _
   | exact spec_DrawForcedLeft.mono _ _
   | exact spec_DrawIsEvasive.mono _ _
   | exact spec_DrawPlayAgainst.mono _ _
   | exact spec_ForcedLeft.mono _ _ _ _ _
   | exact spec_IsEvasive.mono _ _ _
   | exact spec_PlayAgainst.mono _ _ _ _
   | exact LeO.none _
   | refine LeO.ite ?_ ?_
   | refine LeO.bind ?_ (fun _ => ?_)
def laws_FnAdversaries.T13 : Bool × List (List Nat × List Nat) := (true, [([], []), ([], []), ([], []), ([2], [2]), ([1, 3], [1, 3]), ([], []), ([], []), ([], []), ([6, 7], [6, 7]), ([5, 8], [5, 8]), ([0, 4, 9], [0, 4, 9]), ([10, 10, 0, 1, 2, 3, 4, 5, 6, 7, 8, 9, 10], [10])])
def laws_FnAdversaries.B13 : List Nat := [0, 0, 0, 4, 14, 0, 0, 0, 192, 480, 1023, 2047]
theorem laws_FnAdversaries.tab13 : rtab .any (opsOf Try.f3 13) = laws_FnAdversaries.T13 := by kernel_rfl
theorem laws_FnAdversaries.bits13 : waitsOk laws_FnAdversaries.T13.2 laws_FnAdversaries.B13 = true := by kernel_rfl
def laws_FnAdversaries.T14 : Bool × List (List Nat × List Nat) := (true, [([], []), ([], []), ([], []), ([2], [2]), ([1, 3], [1, 3]), ([], []), ([], []), ([6], [6]), ([], []), ([7, 8], [7, 8]), ([5, 9], [5, 9]), ([0, 4, 10], [0, 4, 10]), ([11, 11, 0, 1, 2, 3, 4, 5, 6, 7, 8, 9, 10, 11], [11])])
def laws_FnAdversaries.B14 : List Nat := [0, 0, 0, 4, 14, 0, 0, 64, 0, 448, 992, 2047, 4095]
theorem laws_FnAdversaries.tab14 : rtab .any (opsOf Try.f3 14) = laws_FnAdversaries.T14 := by kernel_rfl
theorem laws_FnAdversaries.bits14 : waitsOk laws_FnAdversaries.T14.2 laws_FnAdversaries.B14 = true := by kernel_rfl
def laws_FnAdversaries.T23 : Bool × List (List Nat × List Nat) := (true, [([], []), ([], []), ([], []), ([0, 1, 2], [0, 1, 2]), ([], []), ([], []), ([], []), ([4, 5, 6, 3], [4, 5, 6]), ([3, 7], [3, 7]), ([8, 7], [8]), ([9], [9]), ([9], [9]), ([9], [9]), ([10, 11, 12, 9, 9], [9, 10, 11, 12]), ([9], [9]), ([9], [9]), ([9], [9]), ([14, 15, 16, 13, 9], [9, 14, 15, 16]), ([13, 17, 9], [9, 13, 17]), ([9, 18], [9, 18]), ([19, 17], [19]), ([20], [20]), ([21, 20, 20], [20, 21]), ([20], [20]), ([23, 22, 20], [20, 23]), ([22, 24, 20], [20, 22, 24]), ([20, 25], [20, 25]), ([26, 24, 0, 1, 2, 3, 4, 5, 6, 7, 8, 9, 10, 11, 12, 13, 14, 15, 16, 17, 18, 19, 20, 21, 22, 23, 24, 25, 26], [26])])
def laws_FnAdversaries.B23 : List Nat := [0, 0, 0, 7, 0, 0, 0, 127, 255, 511, 1023, 1023, 1023, 8191, 1023, 1023, 1023, 131071, 262143, 524287, 1048575, 2097151, 4194303, 2097151, 16777215, 33554431, 67108863, 134217727]
theorem laws_FnAdversaries.tab23 : rtab .any (opsOf Try.f3 23) = laws_FnAdversaries.T23 := by kernel_rfl
theorem laws_FnAdversaries.bits23 : waitsOk laws_FnAdversaries.T23.2 laws_FnAdversaries.B23 = true := by kernel_rfl
set_option maxHeartbeats 8000000 in
set_option maxRecDepth 100000 in
theorem laws_FnAdversaries.calls (k : Nat) (A0 : Option Addr) (c0 : Nat) (l0 : List Int) (r : Bool) (w : World) (hr0 : Kd.C (Kd.int .u8) w A0 l0.length l0) (hc0 : l0.length ≤ c0) (h : laws_FnAdversaries.f k l0 = some r) :
  Calls Try.prog 3 #[.slice A0 l0.length c0] w fun e w' => e = .returned (.bool r) ∧ Below w.heap.size w w' := by
 have hu25 := Try.underlying25
 have HR0 := Aside0.mk hr0
 have HC0 := Aside0.mk hc0
 clear hr0 hc0
 have HB := Aside0.mk (Below.refl w.heap.size w)
 have H : ((laws_big.f l0).bind fun t903 => (if t903 = true then (some true) else ((spec_DrawPlayAgainst.f k l0).bind fun bt904 => ((impl_PlayAgainst.f k bt904.1 bt904.2.1 bt904.2.2).bind fun t910 => ((spec_PlayAgainst.f k bt904.1 bt904.2.1 bt904.2.2).bind fun t911 => (if t910 = t911 then (if t910 ≥ 0 then ((impl_LeastDepth.f bt904.1 bt904.2.1).bind fun t912 => (if t910 < t912 then (none) else (if t910 > bt904.1 then (none) else ((spec_DrawAdversaryAnswer.f k l0).bind fun bt913 => ((impl_AdversaryAnswer.f bt913.1 bt913.2.1 bt913.2.2.1 bt913.2.2.2.1 bt913.2.2.2.2).bind fun t919 => ((spec_AdversaryAnswer.f k bt913.1 bt913.2.1 bt913.2.2.1 bt913.2.2.2.1 bt913.2.2.2.2).bind fun t920 => (if t919 = t920 then (if t919 ≥ 0 then ((impl_ForcedLeft.f bt913.1 bt913.2.1 bt913.2.2.1 bt913.2.2.2.1).bind fun t921 => (if 0 ≤ bt913.2.2.2.2 then ((impl_ForcedLeft.f bt913.1 bt913.2.1 (Go.bits .or .i64 bt913.2.2.1 (shl .i64 1 bt913.2.2.2.2)) (Go.bits .or .i64 bt913.2.2.2.1 (shl .i64 t919 bt913.2.2.2.2))).bind fun t922 => ((impl_ForcedLeft.f bt913.1 bt913.2.1 (Go.bits .or .i64 bt913.2.2.1 (shl .i64 1 bt913.2.2.2.2)) (Go.bits .or .i64 bt913.2.2.2.1 (shl .i64 (wrap64 (1 - t919)) bt913.2.2.2.2))).bind fun t923 => (if t922 < (wrap64 (t921 - 1)) then (none) else (if t923 > t922 then (none) else ((impl_AskedOf.f bt913.1 bt913.2.1 bt913.2.2.1 bt913.2.2.2.1).bind fun t924 => (if ((decide (t924 < 0)) != (t921 == 0)) = true then (none) else ((spec_DrawAskedOf.f k l0).bind fun bt925 => ((spec_DrawForcedLeft.f k l0).bind fun bt930 => ((spec_DrawIsEvasive.f k l0).bind fun bt935 => ((impl_AskedOf.f bt925.1 bt925.2.1 bt925.2.2.1 bt925.2.2.2).bind fun t938 => ((spec_AskedOf.f k bt925.1 bt925.2.1 bt925.2.2.1 bt925.2.2.2).bind fun t939 => (if t938 = t939 then ((impl_ForcedLeft.f bt930.1 bt930.2.1 bt930.2.2.1 bt930.2.2.2).bind fun t940 => ((spec_ForcedLeft.f k bt930.1 bt930.2.1 bt930.2.2.1 bt930.2.2.2).bind fun t941 => (if t940 = t941 then ((impl_IsEvasive.f bt935.1 bt935.2).bind fun t942 => ((spec_IsEvasive.f k bt935.1 bt935.2).bind fun t943 => (some (t942 == t943)))) else (none)))) else (none))))))))))))) else (none))) else ((spec_DrawAskedOf.f k l0).bind fun bt944 => ((spec_DrawForcedLeft.f k l0).bind fun bt949 => ((spec_DrawIsEvasive.f k l0).bind fun bt954 => ((impl_AskedOf.f bt944.1 bt944.2.1 bt944.2.2.1 bt944.2.2.2).bind fun t957 => ((spec_AskedOf.f k bt944.1 bt944.2.1 bt944.2.2.1 bt944.2.2.2).bind fun t958 => (if t957 = t958 then ((impl_ForcedLeft.f bt949.1 bt949.2.1 bt949.2.2.1 bt949.2.2.2).bind fun t959 => ((spec_ForcedLeft.f k bt949.1 bt949.2.1 bt949.2.2.1 bt949.2.2.2).bind fun t960 => (if t959 = t960 then ((impl_IsEvasive.f bt954.1 bt954.2).bind fun t961 => ((spec_IsEvasive.f k bt954.1 bt954.2).bind fun t962 => (some (t961 == t962)))) else (none)))) else (none)))))))) else (none)))))))) else ((spec_DrawAdversaryAnswer.f k l0).bind fun bt963 => ((impl_AdversaryAnswer.f bt963.1 bt963.2.1 bt963.2.2.1 bt963.2.2.2.1 bt963.2.2.2.2).bind fun t969 => ((spec_AdversaryAnswer.f k bt963.1 bt963.2.1 bt963.2.2.1 bt963.2.2.2.1 bt963.2.2.2.2).bind fun t970 => (if t969 = t970 then (if t969 ≥ 0 then ((impl_ForcedLeft.f bt963.1 bt963.2.1 bt963.2.2.1 bt963.2.2.2.1).bind fun t971 => (if 0 ≤ bt963.2.2.2.2 then ((impl_ForcedLeft.f bt963.1 bt963.2.1 (Go.bits .or .i64 bt963.2.2.1 (shl .i64 1 bt963.2.2.2.2)) (Go.bits .or .i64 bt963.2.2.2.1 (shl .i64 t969 bt963.2.2.2.2))).bind fun t972 => ((impl_ForcedLeft.f bt963.1 bt963.2.1 (Go.bits .or .i64 bt963.2.2.1 (shl .i64 1 bt963.2.2.2.2)) (Go.bits .or .i64 bt963.2.2.2.1 (shl .i64 (wrap64 (1 - t969)) bt963.2.2.2.2))).bind fun t973 => (if t972 < (wrap64 (t971 - 1)) then (none) else (if t973 > t972 then (none) else ((impl_AskedOf.f bt963.1 bt963.2.1 bt963.2.2.1 bt963.2.2.2.1).bind fun t974 => (if ((decide (t974 < 0)) != (t971 == 0)) = true then (none) else ((spec_DrawAskedOf.f k l0).bind fun bt975 => ((spec_DrawForcedLeft.f k l0).bind fun bt980 => ((spec_DrawIsEvasive.f k l0).bind fun bt985 => ((impl_AskedOf.f bt975.1 bt975.2.1 bt975.2.2.1 bt975.2.2.2).bind fun t988 => ((spec_AskedOf.f k bt975.1 bt975.2.1 bt975.2.2.1 bt975.2.2.2).bind fun t989 => (if t988 = t989 then ((impl_ForcedLeft.f bt980.1 bt980.2.1 bt980.2.2.1 bt980.2.2.2).bind fun t990 => ((spec_ForcedLeft.f k bt980.1 bt980.2.1 bt980.2.2.1 bt980.2.2.2).bind fun t991 => (if t990 = t991 then ((impl_IsEvasive.f bt985.1 bt985.2).bind fun t992 => ((spec_IsEvasive.f k bt985.1 bt985.2).bind fun t993 => (some (t992 == t993)))) else (none)))) else (none))))))))))))) else (none))) else ((spec_DrawAskedOf.f k l0).bind fun bt994 => ((spec_DrawForcedLeft.f k l0).bind fun bt999 => ((spec_DrawIsEvasive.f k l0).bind fun bt1004 => ((impl_AskedOf.f bt994.1 bt994.2.1 bt994.2.2.1 bt994.2.2.2).bind fun t1007 => ((spec_AskedOf.f k bt994.1 bt994.2.1 bt994.2.2.1 bt994.2.2.2).bind fun t1008 => (if t1007 = t1008 then ((impl_ForcedLeft.f bt999.1 bt999.2.1 bt999.2.2.1 bt999.2.2.2).bind fun t1009 => ((spec_ForcedLeft.f k bt999.1 bt999.2.1 bt999.2.2.1 bt999.2.2.2).bind fun t1010 => (if t1009 = t1010 then ((impl_IsEvasive.f bt1004.1 bt1004.2).bind fun t1011 => ((spec_IsEvasive.f k bt1004.1 bt1004.2).bind fun t1012 => (some (t1011 == t1012)))) else (none)))) else (none)))))))) else (none)))))) else (none))))))) = some r := h
 clear h
 replace H := Option.bind_eq_some_iff.mp H
 obtain ⟨t903, A20, H⟩ := H
 have A2 := Aside0.mk A20
 clear A20
 by_cases c3 : t903 = true
 ·subst c3
  rw [if_pos rfl] at H
  obtain rfl := Option.some.inj H
  go_enter Try.func3, Try.ntmps3
  go_wp2_with (first | ((with_reducible refine gate_callee (f := 4) rfl ?_); refine gl_ 23 Try.func4 #[.slice A0 l0.length c0] rfl mp_ ?_; (with_reducible refine (laws_big.calls _ _ l0 true _ ?side1 ?side2 A2.out).mono ?_); (case side1 => exact cv_ HR0.out); (case side2 => exact HC0.out); rintro e w' ⟨rfl, ⟨nd, rfl⟩⟩; refine ⟨_, rfl, ?_⟩))
  go_ret
  exact ⟨by first | rfl | (simp [errW_none, errW_some] <;> rfl) | (simp [*, errW_none, errW_some] <;> rfl), bv_ HB⟩
 ·replace c3 := Bool.eq_false_iff.mpr c3
  subst c3
  rw [if_neg (show ¬ (false = true) by decide)] at H
  replace H := Option.bind_eq_some_iff.mp H
  obtain ⟨⟨t904, t905, t906⟩, A40, H⟩ := H
  dsimp only at H
  have A4 := Aside0.mk A40
  clear A40
  replace H := Option.bind_eq_some_iff.mp H
  obtain ⟨t910, A50, H⟩ := H
  have A5 := Aside0.mk A50
  clear A50
  replace H := Option.bind_eq_some_iff.mp H
  obtain ⟨t911, A60, H⟩ := H
  have A6 := Aside0.mk A60
  clear A60
  by_cases c7 : t910 = t911
  ·rw [if_pos c7] at H
   have c7b0 : (t910 == t911) = true := beq_iff_eq.mpr c7
   have c7b1 : (t910 != t911) = false := bne_eq_false_iff_eq.mpr c7
   clear c7
   by_cases c8 : t910 ≥ 0
   ·rw [if_pos c8] at H
    have c8b0 : decide (0 ≤ t910) = true := decide_eq_true c8
    clear c8
    replace H := Option.bind_eq_some_iff.mp H
    obtain ⟨t912, A90, H⟩ := H
    have A9 := Aside0.mk A90
    clear A90
    by_cases c10 : t910 < t912
    ·rw [if_pos c10] at H
     exact absurd H (by simp)
    ·rw [if_neg c10] at H
     have c10b0 : decide (t910 < t912) = false := decide_eq_false c10
     clear c10
     by_cases c11 : t910 > t904
     ·rw [if_pos c11] at H
      exact absurd H (by simp)
     ·rw [if_neg c11] at H
      have c11b0 : decide (t904 < t910) = false := decide_eq_false c11
      clear c11
      replace H := Option.bind_eq_some_iff.mp H
      obtain ⟨⟨t913, t914, t915, t916, t917⟩, A120, H⟩ := H
      dsimp only at H
      have A12 := Aside0.mk A120
      clear A120
      replace H := Option.bind_eq_some_iff.mp H
      obtain ⟨t919, A130, H⟩ := H
      have A13 := Aside0.mk A130
      clear A130
      replace H := Option.bind_eq_some_iff.mp H
      obtain ⟨t920, A140, H⟩ := H
      have A14 := Aside0.mk A140
      clear A140
      by_cases c15 : t919 = t920
      ·rw [if_pos c15] at H
       have c15b0 : (t919 == t920) = true := beq_iff_eq.mpr c15
       have c15b1 : (t919 != t920) = false := bne_eq_false_iff_eq.mpr c15
       clear c15
       by_cases c16 : t919 ≥ 0
       ·rw [if_pos c16] at H
        have c16b0 : decide (0 ≤ t919) = true := decide_eq_true c16
        clear c16
        replace H := Option.bind_eq_some_iff.mp H
        obtain ⟨t921, A170, H⟩ := H
        have A17 := Aside0.mk A170
        clear A170
        by_cases c18 : 0 ≤ t917
        ·rw [if_pos c18] at H
         have c18b0 := eq_true c18
         have c18b1 : decide (0 ≤ t917) = true := decide_eq_true c18
         clear c18
         obtain ⟨ji19, hji19⟩ : ∃ j_ : Int, (shl .i64 1 t917) = j_ := ⟨_, rfl⟩
         replace H : ((impl_ForcedLeft.f t913 t914 (Go.bits .or .i64 t915 (ji19)) (Go.bits .or .i64 t916 (shl .i64 t919 t917))).bind fun t922 => ((impl_ForcedLeft.f t913 t914 (Go.bits .or .i64 t915 (ji19)) (Go.bits .or .i64 t916 (shl .i64 (wrap64 (1 - t919)) t917))).bind fun t923 => (if t922 < (wrap64 (t921 - 1)) then (none) else (if t923 > t922 then (none) else ((impl_AskedOf.f t913 t914 t915 t916).bind fun t924 => (if ((decide (t924 < 0)) != (t921 == 0)) = true then (none) else ((spec_DrawAskedOf.f k l0).bind fun bt925 => ((spec_DrawForcedLeft.f k l0).bind fun bt930 => ((spec_DrawIsEvasive.f k l0).bind fun bt935 => ((impl_AskedOf.f bt925.1 bt925.2.1 bt925.2.2.1 bt925.2.2.2).bind fun t938 => ((spec_AskedOf.f k bt925.1 bt925.2.1 bt925.2.2.1 bt925.2.2.2).bind fun t939 => (if t938 = t939 then ((impl_ForcedLeft.f bt930.1 bt930.2.1 bt930.2.2.1 bt930.2.2.2).bind fun t940 => ((spec_ForcedLeft.f k bt930.1 bt930.2.1 bt930.2.2.1 bt930.2.2.2).bind fun t941 => (if t940 = t941 then ((impl_IsEvasive.f bt935.1 bt935.2).bind fun t942 => ((spec_IsEvasive.f k bt935.1 bt935.2).bind fun t943 => (some (t942 == t943)))) else (none)))) else (none))))))))))))) = some r := by first | (rw [hji19] at H; exact H) | (simp only [hji19] at H ⊢; exact H)
         (try rw [hji19] at A2)
         (try rw [hji19] at A4)
         (try rw [hji19] at A5)
         (try rw [hji19] at A6)
         (try rw [hji19] at A9)
         (try rw [hji19] at A12)
         (try rw [hji19] at A13)
         (try rw [hji19] at A14)
         (try rw [hji19] at A17)
         have hji19_ : (IntKind.i64.wrap (1 * 2 ^ min t917.toNat 64)) = ji19 := hji19
         have hji19z : t917 ≤ 64 → (IntKind.i64.wrap (1 * 2 ^ t917.toNat)) = ji19 := shl_small hji19
         have hji19u : (IntKind.i64.wrap (2 ^ min t917.toNat 64)) = ji19 := by have h_ := hji19_; rw [Int.one_mul] at h_; exact h_
         have hji19v : t917 ≤ 64 → (IntKind.i64.wrap (2 ^ t917.toNat)) = ji19 := fun hle_ => by have h_ := hji19z hle_; rw [Int.one_mul] at h_; exact h_
         have hji19y : (wrap64 (1 * 2 ^ min t917.toNat 64)) = ji19 := (i64_w _).symm.trans hji19_
         have hji19x : t917 ≤ 64 → (wrap64 (1 * 2 ^ t917.toNat)) = ji19 := fun h_ => (i64_w _).symm.trans (hji19z h_)
         have c20b0 := eq_true (of_decide_eq_true (by first | (with_reducible assumption) | assumption) : 0 ≤ t917)
         obtain ⟨ji21, hji21⟩ : ∃ j_ : Int, (shl .i64 t919 t917) = j_ := ⟨_, rfl⟩
         replace H : ((impl_ForcedLeft.f t913 t914 (Go.bits .or .i64 t915 (ji19)) (Go.bits .or .i64 t916 (ji21))).bind fun t922 => ((impl_ForcedLeft.f t913 t914 (Go.bits .or .i64 t915 (ji19)) (Go.bits .or .i64 t916 (shl .i64 (wrap64 (1 - t919)) t917))).bind fun t923 => (if t922 < (wrap64 (t921 - 1)) then (none) else (if t923 > t922 then (none) else ((impl_AskedOf.f t913 t914 t915 t916).bind fun t924 => (if ((decide (t924 < 0)) != (t921 == 0)) = true then (none) else ((spec_DrawAskedOf.f k l0).bind fun bt925 => ((spec_DrawForcedLeft.f k l0).bind fun bt930 => ((spec_DrawIsEvasive.f k l0).bind fun bt935 => ((impl_AskedOf.f bt925.1 bt925.2.1 bt925.2.2.1 bt925.2.2.2).bind fun t938 => ((spec_AskedOf.f k bt925.1 bt925.2.1 bt925.2.2.1 bt925.2.2.2).bind fun t939 => (if t938 = t939 then ((impl_ForcedLeft.f bt930.1 bt930.2.1 bt930.2.2.1 bt930.2.2.2).bind fun t940 => ((spec_ForcedLeft.f k bt930.1 bt930.2.1 bt930.2.2.1 bt930.2.2.2).bind fun t941 => (if t940 = t941 then ((impl_IsEvasive.f bt935.1 bt935.2).bind fun t942 => ((spec_IsEvasive.f k bt935.1 bt935.2).bind fun t943 => (some (t942 == t943)))) else (none)))) else (none))))))))))))) = some r := by first | (rw [hji21] at H; exact H) | (simp only [hji21] at H ⊢; exact H)
         (try rw [hji21] at A2)
         (try rw [hji21] at A4)
         (try rw [hji21] at A5)
         (try rw [hji21] at A6)
         (try rw [hji21] at A9)
         (try rw [hji21] at A12)
         (try rw [hji21] at A13)
         (try rw [hji21] at A14)
         (try rw [hji21] at A17)
         have hji21_ : (IntKind.i64.wrap (t919 * 2 ^ min t917.toNat 64)) = ji21 := hji21
         have hji21z : t917 ≤ 64 → (IntKind.i64.wrap (t919 * 2 ^ t917.toNat)) = ji21 := shl_small hji21
         have hji21y : (wrap64 (t919 * 2 ^ min t917.toNat 64)) = ji21 := (i64_w _).symm.trans hji21_
         have hji21x : t917 ≤ 64 → (wrap64 (t919 * 2 ^ t917.toNat)) = ji21 := fun h_ => (i64_w _).symm.trans (hji21z h_)
         replace H := Option.bind_eq_some_iff.mp H
         obtain ⟨t922, A220, H⟩ := H
         have A22 := Aside0.mk A220
         clear A220
         have c23b0 := eq_true (of_decide_eq_true (by first | (with_reducible assumption) | assumption) : 0 ≤ t917)
         have c25b0 := eq_true (of_decide_eq_true (by first | (with_reducible assumption) | assumption) : 0 ≤ t917)
         obtain ⟨ji26, hji26⟩ : ∃ j_ : Int, (shl .i64 (wrap64 (1 - t919)) t917) = j_ := ⟨_, rfl⟩
         replace H : ((impl_ForcedLeft.f t913 t914 (Go.bits .or .i64 t915 (ji19)) (Go.bits .or .i64 t916 (ji26))).bind fun t923 => (if t922 < (wrap64 (t921 - 1)) then (none) else (if t923 > t922 then (none) else ((impl_AskedOf.f t913 t914 t915 t916).bind fun t924 => (if ((decide (t924 < 0)) != (t921 == 0)) = true then (none) else ((spec_DrawAskedOf.f k l0).bind fun bt925 => ((spec_DrawForcedLeft.f k l0).bind fun bt930 => ((spec_DrawIsEvasive.f k l0).bind fun bt935 => ((impl_AskedOf.f bt925.1 bt925.2.1 bt925.2.2.1 bt925.2.2.2).bind fun t938 => ((spec_AskedOf.f k bt925.1 bt925.2.1 bt925.2.2.1 bt925.2.2.2).bind fun t939 => (if t938 = t939 then ((impl_ForcedLeft.f bt930.1 bt930.2.1 bt930.2.2.1 bt930.2.2.2).bind fun t940 => ((spec_ForcedLeft.f k bt930.1 bt930.2.1 bt930.2.2.1 bt930.2.2.2).bind fun t941 => (if t940 = t941 then ((impl_IsEvasive.f bt935.1 bt935.2).bind fun t942 => ((spec_IsEvasive.f k bt935.1 bt935.2).bind fun t943 => (some (t942 == t943)))) else (none)))) else (none)))))))))))) = some r := by first | (rw [hji26] at H; exact H) | (simp only [hji26] at H ⊢; exact H)
         (try rw [hji26] at A2)
         (try rw [hji26] at A4)
         (try rw [hji26] at A5)
         (try rw [hji26] at A6)
         (try rw [hji26] at A9)
         (try rw [hji26] at A12)
         (try rw [hji26] at A13)
         (try rw [hji26] at A14)
         (try rw [hji26] at A17)
         (try rw [hji26] at A22)
         have hji26_ : (IntKind.i64.wrap ((wrap64 (1 - t919)) * 2 ^ min t917.toNat 64)) = ji26 := hji26
         have hji26z : t917 ≤ 64 → (IntKind.i64.wrap ((wrap64 (1 - t919)) * 2 ^ t917.toNat)) = ji26 := shl_small hji26
         have hji26y : (wrap64 ((wrap64 (1 - t919)) * 2 ^ min t917.toNat 64)) = ji26 := (i64_w _).symm.trans hji26_
         have hji26x : t917 ≤ 64 → (wrap64 ((wrap64 (1 - t919)) * 2 ^ t917.toNat)) = ji26 := fun h_ => (i64_w _).symm.trans (hji26z h_)
         replace H := Option.bind_eq_some_iff.mp H
         obtain ⟨t923, A270, H⟩ := H
         have A27 := Aside0.mk A270
         clear A270
         by_cases c28 : t922 < (wrap64 (t921 - 1))
         ·rw [if_pos c28] at H
          exact absurd H (by simp)
         ·rw [if_neg c28] at H
          have c28b0 : decide (t922 < (wrap64 (t921 - 1))) = false := decide_eq_false c28
          clear c28
          by_cases c29 : t923 > t922
          ·rw [if_pos c29] at H
           exact absurd H (by simp)
          ·rw [if_neg c29] at H
           have c29b0 : decide (t922 < t923) = false := decide_eq_false c29
           clear c29
           replace H := Option.bind_eq_some_iff.mp H
           obtain ⟨t924, A300, H⟩ := H
           have A30 := Aside0.mk A300
           clear A300
           by_cases c31 : ((decide (t924 < 0)) != (t921 == 0)) = true
           ·rw [if_pos c31] at H
            exact absurd H (by simp)
           ·rw [if_neg c31] at H
            have c31b0 : ((decide (t924 < 0)) != (t921 == 0)) = false := by simpa using c31
            (try (have c31b1 : decide ((decide (t924 < 0)) = (t921 == 0)) = true := by simpa using c31))
            (try (have c31b2 : ((decide (t924 < 0)) == (t921 == 0)) = true := by simpa using c31))
            clear c31
            replace H := Option.bind_eq_some_iff.mp H
            obtain ⟨⟨t925, t926, t927, t928⟩, A320, H⟩ := H
            dsimp only at H
            have A32 := Aside0.mk A320
            clear A320
            replace H := Option.bind_eq_some_iff.mp H
            obtain ⟨⟨t930, t931, t932, t933⟩, A330, H⟩ := H
            dsimp only at H
            have A33 := Aside0.mk A330
            clear A330
            replace H := Option.bind_eq_some_iff.mp H
            obtain ⟨⟨t935, t936⟩, A340, H⟩ := H
            dsimp only at H
            have A34 := Aside0.mk A340
            clear A340
            replace H := Option.bind_eq_some_iff.mp H
            obtain ⟨t938, A350, H⟩ := H
            have A35 := Aside0.mk A350
            clear A350
            replace H := Option.bind_eq_some_iff.mp H
            obtain ⟨t939, A360, H⟩ := H
            have A36 := Aside0.mk A360
            clear A360
            by_cases c37 : t938 = t939
            ·rw [if_pos c37] at H
             have c37b0 : (t938 == t939) = true := beq_iff_eq.mpr c37
             have c37b1 : (t938 != t939) = false := bne_eq_false_iff_eq.mpr c37
             clear c37
             replace H := Option.bind_eq_some_iff.mp H
             obtain ⟨t940, A380, H⟩ := H
             have A38 := Aside0.mk A380
             clear A380
             replace H := Option.bind_eq_some_iff.mp H
             obtain ⟨t941, A390, H⟩ := H
             have A39 := Aside0.mk A390
             clear A390
             by_cases c40 : t940 = t941
             ·rw [if_pos c40] at H
              have c40b0 : (t940 == t941) = true := beq_iff_eq.mpr c40
              have c40b1 : (t940 != t941) = false := bne_eq_false_iff_eq.mpr c40
              clear c40
              replace H := Option.bind_eq_some_iff.mp H
              obtain ⟨t942, A410, H⟩ := H
              have A41 := Aside0.mk A410
              clear A410
              replace H := Option.bind_eq_some_iff.mp H
              obtain ⟨t943, A420, H⟩ := H
              have A42 := Aside0.mk A420
              clear A420
              obtain rfl := Option.some.inj H
              go_enter Try.func3, Try.ntmps3
              try go_wp2_with (first | ((with_reducible refine gate_callee (f := 4) rfl ?_); refine gl_ 23 Try.func4 #[.slice A0 l0.length c0] rfl mp_ ?_; (with_reducible refine (laws_big.calls _ _ l0 false _ ?side1 ?side2 A2.out).mono ?_); (case side1 => exact cv_ HR0.out); (case side2 => exact HC0.out); rintro e w' ⟨rfl, ⟨nd, rfl⟩⟩; refine ⟨_, rfl, ?_⟩) | ((with_reducible refine gate_callee (f := 5) rfl ?_); refine gl_ 26 Try.func5 #[.slice A0 l0.length c0] rfl mp_ ?_; (with_reducible refine (spec_DrawPlayAgainst.calls k _ _ l0 t904 t905 t906 _ ?side1 ?side2 A4.out).mono ?_); (case side1 => exact cv_ HR0.out); (case side2 => exact HC0.out); rintro e w43 ⟨v907, rfl, ho0, hb⟩; refine ⟨_, rfl, ?_⟩; have HO908 := Aside0.mk (Kd.R_lower ho0 (below_size (bv_ HB))); replace HB := Aside0.mk (below_step (bv_ HB) hb); (try clear hb); (try clear hb2); (try clear hk); (try clear hi); (try clear ho0)) | ((with_reducible refine gate_dst (N := 3) rfl ?_); refine bx_ 3 #[.int .i64 0, .int .i64 0] 25 ?_; intro gb909 hg w44 hbox hb; replace HO908 := Aside0.mk (Kd.R_below (rv_ HO908) hb); have BK909 := Aside0.mk (hbox); have GW909 := gw_ hg (below_size (bv_ HB)); have GE909 := GW909; replace HB := Aside0.mk (below_step (bv_ HB) hb); clear hb hbox hg; obtain ⟨hcz45_0, hcz45_1, hfz45_0, hfz45_1⟩ := c2_ BK909; obtain ⟨Ao46, co46, eo46⟩ := Kd.R_slice HO908.out; subst eo46) | ((with_reducible refine gate_callee (f := 6) rfl ?_); refine gl_ 31 Try.func6 #[.agg #[.int .i64 t904, .int .i64 t905], .slice Ao46 t906.length co46] rfl mp_ ?_; (with_reducible refine (impl_PlayAgainst.calls k t904 t905 _ _ t906 t910 _ ?side1 ?side2 A5.out).mono ?_); (case side1 => refine (Kd.R_reads' (e := 3) (base := w.heap.size) (ok := fun k_ => True) (n := t906.length) (c := co46) ?_).2.2; exact (by (with_reducible repeat (first | apply Kd.R_alloc | apply Kd.R_drewN | apply Kd.R_drew)); exact (Kd.R_mono (Kd.R_far (p := ⟨gb909, 1, none⟩) (Kd.R_far (p := ⟨gb909, 0, none⟩) (Kd.R_types HO908.out BK909.out (by decide)) (fun _ hk => hk.2) (.int .i64 t904)) (fun _ hk => hk.2) (.int .i64 t905)) (fun _ h_ => h_.1)))); (case side2 => exact (Kd.R_reads' HO908.out).2.1); rintro e w47 ⟨rfl, hb⟩; refine ⟨_, rfl, ?_⟩; replace HO908 := Aside0.mk (Kd.R_below (by (with_reducible repeat (first | apply Kd.R_alloc | apply Kd.R_drewN | apply Kd.R_drew)); exact (Kd.R_mono (Kd.R_far (p := ⟨gb909, 1, none⟩) (Kd.R_far (p := ⟨gb909, 0, none⟩) (Kd.R_types HO908.out BK909.out (by decide)) (fun _ hk => hk.2) (.int .i64 t904)) (fun _ hk => hk.2) (.int .i64 t905)) (fun _ h_ => h_.1))) hb); replace BK909 := Aside0.mk (blk_below (g := gb909) (o := .cells #[.int .i64 t904, .int .i64 t905] 25 (0, 0)) (by (with_reducible repeat (first | refine blk_drewN ?_ _ | refine blk_drew ?_ | refine blk_alloc ?_ _)); refine blk_put (cs := #[.int .i64 t904, .int .i64 0]) ?_ 1 _ rfl; (with_reducible repeat (first | refine blk_drewN ?_ _ | refine blk_drew ?_ | refine blk_alloc ?_ _)); refine blk_put (cs := #[.int .i64 0, .int .i64 0]) ?_ 0 _ rfl; (with_reducible repeat (first | refine blk_drewN ?_ _ | refine blk_drew ?_ | refine blk_alloc ?_ _)); exact BK909.out) hb); replace HB := Aside0.mk (below_step (bv1_ HB GE909) hb); (try clear hb); (try clear hb2); (try clear hk); (try clear hi); obtain ⟨hcz48_0, hcz48_1, hfz48_0, hfz48_1⟩ := c2_ BK909) | ((with_reducible refine gate_callee (f := 7) rfl ?_); refine gl_ 35 Try.func7 #[.agg #[.int .i64 t904, .int .i64 t905], .slice Ao46 t906.length co46] rfl mp_ ?_; (with_reducible refine (spec_PlayAgainst.calls k t904 t905 _ _ t906 t911 _ ?side1 ?side2 A6.out).mono ?_); (case side1 => repeat (first | exact (Kd.R_reads' HO908.out).2.2 | (with_reducible refine Kd.C_alloc ?_ _) | (with_reducible refine Kd.C_drewN ?_ _) | (with_reducible refine Kd.C_drew ?_))); (case side2 => exact (Kd.R_reads' HO908.out).2.1); rintro e w49 ⟨rfl, hb⟩; refine ⟨_, rfl, ?_⟩; replace HO908 := Aside0.mk (Kd.R_below (rv_ HO908) hb); replace BK909 := kb_ BK909 hb; replace HB := Aside0.mk (below_step (bv1_ HB GE909) hb); (try clear hb); (try clear hb2); (try clear hk); (try clear hi); obtain ⟨hcz50_0, hcz50_1, hfz50_0, hfz50_1⟩ := c2_ BK909) | (go_at_call 8; (with_reducible refine (impl_LeastDepth.calls t904 t905 t912 _ A9.out).mono ?_); rintro e w51 ⟨rfl, hb⟩; replace HO908 := Aside0.mk (Kd.R_below (rv_ HO908) hb); replace BK909 := kb_ BK909 hb; replace HB := Aside0.mk (below_step (bv1_ HB GE909) hb); (try clear hb); (try clear hb2); (try clear hk); (try clear hi); obtain ⟨hcz52_0, hcz52_1, hfz52_0, hfz52_1⟩ := c2_ BK909) | ((with_reducible refine gate_callee (f := 9) rfl ?_); refine gl_ 55 Try.func9 #[.slice A0 l0.length c0] rfl mp_ ?_; (with_reducible refine (spec_DrawAdversaryAnswer.calls k _ _ l0 t913 t914 t915 t916 t917 _ ?side1 ?side2 A12.out).mono ?_); (case side1 => exact cv_ (Kd.C_below HR0.out HB.out)); (case side2 => exact HC0.out); rintro e w53 ⟨rfl, hb⟩; refine ⟨_, rfl, ?_⟩; replace HO908 := Aside0.mk (Kd.R_below (rv_ HO908) hb); replace BK909 := kb_ BK909 hb; replace HB := Aside0.mk (below_step (bv1_ HB GE909) hb); (try clear hb); (try clear hb2); (try clear hk); (try clear hi)) | ((with_reducible refine gate_dst (N := 6) rfl ?_); refine bx_ 6 #[.int .i64 0, .int .i64 0] 25 ?_; intro gb918 hg w54 hbox hb; replace HO908 := Aside0.mk (Kd.R_below (rv_ HO908) hb); have BK918 := Aside0.mk (hbox); have GW918 := gw_ hg (below_size (bv1_ HB GE909)); have GE918 := GW918; replace HB := Aside0.mk (below_step (bv1_ HB GE909) hb); have NB909_918 := nb_ hg (blk_lt (g := gb909) (o := .cells #[.int .i64 t904, .int .i64 t905] 25 (0, 0)) (kv_ BK909)); have NB918_909 := nc_ hg (blk_lt (g := gb909) (o := .cells #[.int .i64 t904, .int .i64 t905] 25 (0, 0)) (kv_ BK909)); replace BK909 := kb_ BK909 hb; clear hb hbox hg; have hnb55 := NB918_909.out; have hnc55 := NB909_918.out; obtain ⟨hcz56_0, hcz56_1, hfz56_0, hfz56_1⟩ := c2_ BK918) | ((with_reducible refine gate_callee (f := 10) rfl ?_); refine gl_ 64 Try.func10 #[.agg #[.int .i64 t913, .int .i64 t914], .int .i64 t915, .int .i64 t916, .int .i64 t917] rfl mp_ ?_; (with_reducible refine (impl_AdversaryAnswer.calls t913 t914 t915 t916 t917 t919 _ A13.out).mono ?_); rintro e w57 ⟨rfl, hb⟩; refine ⟨_, rfl, ?_⟩; replace HO908 := Aside0.mk (Kd.R_below (by (with_reducible repeat (first | apply Kd.R_alloc | apply Kd.R_drewN | apply Kd.R_drew)); exact (Kd.R_mono (Kd.R_far (p := ⟨gb918, 1, none⟩) (Kd.R_far (p := ⟨gb918, 0, none⟩) (Kd.R_types HO908.out BK918.out (by decide)) (fun _ hk => hk.2) (.int .i64 t913)) (fun _ hk => hk.2) (.int .i64 t914)) (fun _ h_ => h_.1))) hb); replace BK909 := Aside0.mk (blk_below (g := gb909) (o := .cells #[.int .i64 t904, .int .i64 t905] 25 (0, 0)) (by (with_reducible repeat (first | refine blk_drewN ?_ _ | refine blk_drew ?_ | refine blk_alloc ?_ _)); refine blk_far ?_ NB909_918.out _; (with_reducible repeat (first | refine blk_drewN ?_ _ | refine blk_drew ?_ | refine blk_alloc ?_ _)); refine blk_far ?_ NB909_918.out _; (with_reducible repeat (first | refine blk_drewN ?_ _ | refine blk_drew ?_ | refine blk_alloc ?_ _)); exact BK909.out) hb); replace BK918 := Aside0.mk (blk_below (g := gb918) (o := .cells #[.int .i64 t913, .int .i64 t914] 25 (0, 0)) (by (with_reducible repeat (first | refine blk_drewN ?_ _ | refine blk_drew ?_ | refine blk_alloc ?_ _)); refine blk_put (cs := #[.int .i64 t913, .int .i64 0]) ?_ 1 _ rfl; (with_reducible repeat (first | refine blk_drewN ?_ _ | refine blk_drew ?_ | refine blk_alloc ?_ _)); refine blk_put (cs := #[.int .i64 0, .int .i64 0]) ?_ 0 _ rfl; (with_reducible repeat (first | refine blk_drewN ?_ _ | refine blk_drew ?_ | refine blk_alloc ?_ _)); exact BK918.out) hb); replace HB := Aside0.mk (below_step (bv2_ HB GE909 GE918) hb); (try clear hb); (try clear hb2); (try clear hk); (try clear hi); obtain ⟨hcz58_0, hcz58_1, hfz58_0, hfz58_1⟩ := c2_ BK918) | ((with_reducible refine gate_callee (f := 11) rfl ?_); refine gl_ 70 Try.func11 #[.agg #[.int .i64 t913, .int .i64 t914], .int .i64 t915, .int .i64 t916, .int .i64 t917] rfl mp_ ?_; (with_reducible refine (spec_AdversaryAnswer.calls k t913 t914 t915 t916 t917 t920 _ A14.out).mono ?_); rintro e w59 ⟨rfl, hb⟩; refine ⟨_, rfl, ?_⟩; replace HO908 := Aside0.mk (Kd.R_below (rv_ HO908) hb); replace BK909 := kb_ BK909 hb; replace BK918 := kb_ BK918 hb; replace HB := Aside0.mk (below_step (bv2_ HB GE909 GE918) hb); (try clear hb); (try clear hb2); (try clear hk); (try clear hi); obtain ⟨hcz60_0, hcz60_1, hfz60_0, hfz60_1⟩ := c2_ BK918) | ((with_reducible refine gate_callee (f := 12) rfl ?_); refine gl_ 77 Try.func12 #[.agg #[.int .i64 t913, .int .i64 t914], .int .i64 t915, .int .i64 t916] rfl mp_ ?_; (with_reducible refine (impl_ForcedLeft.calls t913 t914 t915 t916 t921 _ A17.out).mono ?_); rintro e w61 ⟨rfl, hb⟩; refine ⟨_, rfl, ?_⟩; replace HO908 := Aside0.mk (Kd.R_below (rv_ HO908) hb); replace BK909 := kb_ BK909 hb; replace BK918 := kb_ BK918 hb; replace HB := Aside0.mk (below_step (bv2_ HB GE909 GE918) hb); (try clear hb); (try clear hb2); (try clear hk); (try clear hi)))
              replace HO908 := Aside0.mk (Kd.R_drew HO908.out)
              replace BK909 := Aside0.mk (blk_drew BK909.out)
              replace BK918 := Aside0.mk (blk_drew BK918.out)
              replace HB := Aside0.mk (below_drew1 HB.out)
              refine start_ (n := 12) (S := fun w' => w'.cell? ⟨gb918, 0, none⟩ = some (.int .i64 t913) ∧ w'.cell? ⟨gb918, 1, none⟩ = some (.int .i64 t914)) (ds := []) (bs 12 0) (by kernel_rfl) rfl (by kernel_rfl) ⟨(blk_cell BK918.out 0).trans rfl, (blk_cell BK918.out 1).trans rfl⟩ (fun hHeld => ?_); refine with_tabW laws_FnAdversaries.tab13 laws_FnAdversaries.bits13 (fun HT_ HW_ => ?_)
              generalize w61.drew = w62 at HO908 BK909 BK918 HB hHeld ⊢
              refine pu_ HT_ 1 79 (bs 12 2) ?_
              refine pu_ HT_ 2 80 (bs 12 6) ?_
              refine pu_ HT_ 3 81 (bs 12 14) ?_
              refine pu_ HT_ 4 82 (bs 12 30) ?_
              refine pu_ HT_ 5 83 (bs 12 62) ?_
              refine pu_ HT_ 6 84 (bs 12 126) ?_
              refine pu_ HT_ 7 85 (bs 12 254) ?_
              refine pu_ HT_ 8 86 (bs 12 510) ?_
              refine pu_ HT_ 9 87 (bs 12 1022) ?_
              refine ta2_ HT_ HW_ 0 78 (bs 12 1023) hHeld ?_
              refine on_ HT_ 10 88 (bs 12 2047) (fun K hK => ?_)
              refine goes_ Try.func12 (by kernel_rfl) rfl #[.agg #[.int .i64 t913, .int .i64 t914], .int .i64 (Go.bits .or .i64 t915 (ji19)), .int .i64 (Go.bits .or .i64 t916 (ji21))] (by rfl) rfl rfl (by (try simp only [List.map_toArray, List.map_cons, List.map_nil]); first | done | (simp only [hji19, hji21]; rfl) | rfl | (simp only [List.length_drop, List.length_take]; rfl)) ?_
              with_reducible refine (impl_ForcedLeft.calls t913 t914 (Go.bits .or .i64 t915 (ji19)) (Go.bits .or .i64 t916 (ji21)) t922 _ A22.out).mono ?_
              rintro e w63 ⟨rfl, hb⟩
              refine ⟨_, rfl, ?_⟩
              replace HO908 := Aside0.mk (Kd.R_below (rv_ HO908) hb)
              replace BK909 := kb_ BK909 hb
              replace BK918 := kb_ BK918 hb
              replace HB := Aside0.mk (below_step (bv2_ HB GE909 GE918) hb)
              (try clear hb)
              (try clear hb2)
              (try clear hk)
              (try clear hi)
              refine hK.out _ _ ⟨(blk_cell BK918.out 0).trans rfl, (blk_cell BK918.out 1).trans rfl⟩ (fun hHeld => ?_)
              clear hK K
              refine no_ 88 ?_
              refine pu_ HT_ 11 12 (bs 12 4095) ?_
              refine done_ (done_of HT_.out (by kernel_rfl)) ?_
              try go_wp2
              replace HO908 := Aside0.mk (Kd.R_drew HO908.out)
              replace BK909 := Aside0.mk (blk_drew BK909.out)
              replace BK918 := Aside0.mk (blk_drew BK918.out)
              replace HB := Aside0.mk (below_drew1 HB.out)
              refine start_ (n := 13) (S := fun w' => w'.cell? ⟨gb918, 0, none⟩ = some (.int .i64 t913) ∧ w'.cell? ⟨gb918, 1, none⟩ = some (.int .i64 t914)) (ds := []) (bs 13 0) (by kernel_rfl) rfl (by kernel_rfl) ⟨(blk_cell BK918.out 0).trans rfl, (blk_cell BK918.out 1).trans rfl⟩ (fun hHeld => ?_); refine with_tabW laws_FnAdversaries.tab14 laws_FnAdversaries.bits14 (fun HT_ HW_ => ?_)
              generalize w63.drew = w64 at HO908 BK909 BK918 HB hHeld ⊢
              refine pu_ HT_ 1 90 (bs 13 2) ?_
              refine pu_ HT_ 2 91 (bs 13 6) ?_
              refine pu_ HT_ 3 92 (bs 13 14) ?_
              refine pu_ HT_ 4 93 (bs 13 30) ?_
              refine pu_ HT_ 5 94 (bs 13 62) ?_
              refine pu_ HT_ 6 95 (bs 13 126) ?_
              refine pu_ HT_ 7 96 (bs 13 254) ?_
              refine pu_ HT_ 8 97 (bs 13 510) ?_
              refine pu_ HT_ 9 98 (bs 13 1022) ?_
              refine pu_ HT_ 10 99 (bs 13 2046) ?_
              refine ta2_ HT_ HW_ 0 89 (bs 13 2047) hHeld ?_
              refine on_ HT_ 11 100 (bs 13 4095) (fun K hK => ?_)
              refine goes_ Try.func12 (by kernel_rfl) rfl #[.agg #[.int .i64 t913, .int .i64 t914], .int .i64 (Go.bits .or .i64 t915 (ji19)), .int .i64 (Go.bits .or .i64 t916 (ji26))] (by rfl) rfl rfl (by (try simp only [List.map_toArray, List.map_cons, List.map_nil]); first | done | (simp only [hji19, hji26]; rfl) | rfl | (simp only [List.length_drop, List.length_take]; rfl)) ?_
              with_reducible refine (impl_ForcedLeft.calls t913 t914 (Go.bits .or .i64 t915 (ji19)) (Go.bits .or .i64 t916 (ji26)) t923 _ A27.out).mono ?_
              rintro e w65 ⟨rfl, hb⟩
              refine ⟨_, rfl, ?_⟩
              replace HO908 := Aside0.mk (Kd.R_below (rv_ HO908) hb)
              replace BK909 := kb_ BK909 hb
              replace BK918 := kb_ BK918 hb
              replace HB := Aside0.mk (below_step (bv2_ HB GE909 GE918) hb)
              (try clear hb)
              (try clear hb2)
              (try clear hk)
              (try clear hi)
              refine hK.out _ _ ⟨(blk_cell BK918.out 0).trans rfl, (blk_cell BK918.out 1).trans rfl⟩ (fun hHeld => ?_)
              clear hK K
              refine no_ 100 ?_
              refine pu_ HT_ 12 13 (bs 13 8191) ?_
              refine done_ (done_of HT_.out (by kernel_rfl)) ?_
              obtain ⟨hcz66_0, hcz66_1, hfz66_0, hfz66_1⟩ := c2_ BK918
              try go_wp2_with (first | ((with_reducible refine gate_callee (f := 13) rfl ?_); refine gl_ 113 Try.func13 #[.agg #[.int .i64 t913, .int .i64 t914], .int .i64 t915, .int .i64 t916] rfl mp_ ?_; (with_reducible refine (impl_AskedOf.calls t913 t914 t915 t916 t924 _ A30.out).mono ?_); rintro e w67 ⟨rfl, hb⟩; refine ⟨_, rfl, ?_⟩; have n0_ := Aside0.mk (Kd.R_below (rv_ HO908) hb); have n1_ := kb_ BK909 hb; have n2_ := kb_ BK918 hb; have n3_ := Aside0.mk (below_step (bv2_ HB GE909 GE918) hb); clear HO908; clear BK909; clear BK918; clear HB; have HO908 := n0_; have BK909 := n1_; have BK918 := n2_; have HB := n3_; clear n0_ n1_ n2_ n3_; (try clear hb); (try clear hb2); (try clear hk); (try clear hi)) | ((with_reducible refine gate_callee (f := 14) rfl ?_); refine gl_ 121 Try.func14 #[.slice A0 l0.length c0] rfl mp_ ?_; (with_reducible refine (spec_DrawAskedOf.calls k _ _ l0 t925 t926 t927 t928 _ ?side1 ?side2 A32.out).mono ?_); (case side1 => exact cv_ (Kd.C_below HR0.out HB.out)); (case side2 => exact HC0.out); rintro e w68 ⟨rfl, hb⟩; refine ⟨_, rfl, ?_⟩; have n0_ := Aside0.mk (Kd.R_below (rv_ HO908) hb); have n1_ := kb_ BK909 hb; have n2_ := kb_ BK918 hb; have n3_ := Aside0.mk (below_step (bv2_ HB GE909 GE918) hb); clear HO908; clear BK909; clear BK918; clear HB; have HO908 := n0_; have BK909 := n1_; have BK918 := n2_; have HB := n3_; clear n0_ n1_ n2_ n3_; (try clear hb); (try clear hb2); (try clear hk); (try clear hi)) | ((with_reducible refine gate_dst (N := 15) rfl ?_); refine bx_ 15 #[.int .i64 0, .int .i64 0] 25 ?_; intro gb929 hg w69 hbox hb; have n0_ := Aside0.mk (Kd.R_below (rv_ HO908) hb); have n1_ := kb_ BK909 hb; have n2_ := kb_ BK918 hb; have n3_ := Aside0.mk (below_step (bv2_ HB GE909 GE918) hb); have n4_ := Aside0.mk (hbox); have n5_ := gw_ hg (below_size (bv2_ HB GE909 GE918)); have n6_ := gw_ hg (below_size (bv2_ HB GE909 GE918)); have n7_ := nb_ hg (blk_lt (g := gb909) (o := .cells #[.int .i64 t904, .int .i64 t905] 25 (0, 0)) (kv_ BK909)); have n8_ := nc_ hg (blk_lt (g := gb909) (o := .cells #[.int .i64 t904, .int .i64 t905] 25 (0, 0)) (kv_ BK909)); have n9_ := nb_ hg (blk_lt (g := gb918) (o := .cells #[.int .i64 t913, .int .i64 t914] 25 (0, 0)) (kv_ BK918)); have n10_ := nc_ hg (blk_lt (g := gb918) (o := .cells #[.int .i64 t913, .int .i64 t914] 25 (0, 0)) (kv_ BK918)); clear HO908; clear BK909; clear BK918; clear HB; have HO908 := n0_; have BK909 := n1_; have BK918 := n2_; have HB := n3_; have BK929 := n4_; have GW929 := n5_; have GE929 := n6_; have NB909_929 := n7_; have NB929_909 := n8_; have NB918_929 := n9_; have NB929_918 := n10_; clear n0_ n1_ n2_ n3_ n4_ n5_ n6_ n7_ n8_ n9_ n10_; clear hb hbox hg; have hnb70 := NB929_909.out; have hnc70 := NB909_929.out; have hnb71 := NB929_918.out; have hnc71 := NB918_929.out; have hcz72_0 : w69.cell? ⟨gb929, 0, none⟩ = some (.int .i64 0) := (blk_cell BK929.out 0).trans rfl; have hcz72_1 : w69.cell? ⟨gb929, 1, none⟩ = some (.int .i64 0) := (blk_cell BK929.out 1).trans rfl; have hfz72_0 := blk_frozen BK929.out 0; have hfz72_1 := blk_frozen BK929.out 1) | ((with_reducible refine gate_callee (f := 15) rfl ?_); refine gl_ 127 Try.func15 #[.slice A0 l0.length c0] rfl mp_ ?_; (with_reducible refine (spec_DrawForcedLeft.calls k _ _ l0 t930 t931 t932 t933 _ ?side1 ?side2 A33.out).mono ?_); (case side1 => exact Kd.C_below HR0.out (bv3_ HB GE909 GE918 GE929)); (case side2 => exact HC0.out); rintro e w73 ⟨rfl, hb⟩; refine ⟨_, rfl, ?_⟩; have n0_ := Aside0.mk (Kd.R_below (by (with_reducible repeat (first | apply Kd.R_alloc | apply Kd.R_drewN | apply Kd.R_drew)); exact (Kd.R_mono (Kd.R_far (p := ⟨gb929, 1, none⟩) (Kd.R_far (p := ⟨gb929, 0, none⟩) (Kd.R_types HO908.out BK929.out (by decide)) (fun _ hk => hk.2) (.int .i64 t925)) (fun _ hk => hk.2) (.int .i64 t926)) (fun _ h_ => h_.1))) hb); have n1_ := Aside0.mk (blk_below (g := gb909) (o := .cells #[.int .i64 t904, .int .i64 t905] 25 (0, 0)) (by (with_reducible repeat (first | refine blk_drewN ?_ _ | refine blk_drew ?_ | refine blk_alloc ?_ _)); refine blk_far ?_ NB909_929.out _; (with_reducible repeat (first | refine blk_drewN ?_ _ | refine blk_drew ?_ | refine blk_alloc ?_ _)); refine blk_far ?_ NB909_929.out _; (with_reducible repeat (first | refine blk_drewN ?_ _ | refine blk_drew ?_ | refine blk_alloc ?_ _)); exact BK909.out) hb); have n2_ := Aside0.mk (blk_below (g := gb918) (o := .cells #[.int .i64 t913, .int .i64 t914] 25 (0, 0)) (by (with_reducible repeat (first | refine blk_drewN ?_ _ | refine blk_drew ?_ | refine blk_alloc ?_ _)); refine blk_far ?_ NB918_929.out _; (with_reducible repeat (first | refine blk_drewN ?_ _ | refine blk_drew ?_ | refine blk_alloc ?_ _)); refine blk_far ?_ NB918_929.out _; (with_reducible repeat (first | refine blk_drewN ?_ _ | refine blk_drew ?_ | refine blk_alloc ?_ _)); exact BK918.out) hb); have n3_ := Aside0.mk (blk_below (g := gb929) (o := .cells #[.int .i64 t925, .int .i64 t926] 25 (0, 0)) (by (with_reducible repeat (first | refine blk_drewN ?_ _ | refine blk_drew ?_ | refine blk_alloc ?_ _)); refine blk_put (cs := #[.int .i64 t925, .int .i64 0]) ?_ 1 _ rfl; (with_reducible repeat (first | refine blk_drewN ?_ _ | refine blk_drew ?_ | refine blk_alloc ?_ _)); refine blk_put (cs := #[.int .i64 0, .int .i64 0]) ?_ 0 _ rfl; (with_reducible repeat (first | refine blk_drewN ?_ _ | refine blk_drew ?_ | refine blk_alloc ?_ _)); exact BK929.out) hb); have n4_ := Aside0.mk (below_step (bv3_ HB GE909 GE918 GE929) hb); clear HO908; clear BK909; clear BK918; clear BK929; clear HB; have HO908 := n0_; have BK909 := n1_; have BK918 := n2_; have BK929 := n3_; have HB := n4_; clear n0_ n1_ n2_ n3_ n4_; (try clear hb); (try clear hb2); (try clear hk); (try clear hi)) | ((with_reducible refine gate_dst (N := 18) rfl ?_); refine bx_ 18 #[.int .i64 0, .int .i64 0] 25 ?_; intro gb934 hg w74 hbox hb; have n0_ := Aside0.mk (Kd.R_below (rv_ HO908) hb); have n1_ := kb_ BK909 hb; have n2_ := kb_ BK918 hb; have n3_ := kb_ BK929 hb; have n4_ := Aside0.mk (below_step (bv3_ HB GE909 GE918 GE929) hb); have n5_ := Aside0.mk (hbox); have n6_ := gw_ hg (below_size (bv3_ HB GE909 GE918 GE929)); have n7_ := gw_ hg (below_size (bv3_ HB GE909 GE918 GE929)); have n8_ := nb_ hg (blk_lt (g := gb909) (o := .cells #[.int .i64 t904, .int .i64 t905] 25 (0, 0)) (kv_ BK909)); have n9_ := nc_ hg (blk_lt (g := gb909) (o := .cells #[.int .i64 t904, .int .i64 t905] 25 (0, 0)) (kv_ BK909)); have n10_ := nb_ hg (blk_lt (g := gb918) (o := .cells #[.int .i64 t913, .int .i64 t914] 25 (0, 0)) (kv_ BK918)); have n11_ := nc_ hg (blk_lt (g := gb918) (o := .cells #[.int .i64 t913, .int .i64 t914] 25 (0, 0)) (kv_ BK918)); have n12_ := nb_ hg (blk_lt (g := gb929) (o := .cells #[.int .i64 t925, .int .i64 t926] 25 (0, 0)) (kv_ BK929)); have n13_ := nc_ hg (blk_lt (g := gb929) (o := .cells #[.int .i64 t925, .int .i64 t926] 25 (0, 0)) (kv_ BK929)); clear HO908; clear BK909; clear BK918; clear BK929; clear HB; have HO908 := n0_; have BK909 := n1_; have BK918 := n2_; have BK929 := n3_; have HB := n4_; have BK934 := n5_; have GW934 := n6_; have GE934 := n7_; have NB909_934 := n8_; have NB934_909 := n9_; have NB918_934 := n10_; have NB934_918 := n11_; have NB929_934 := n12_; have NB934_929 := n13_; clear n0_ n1_ n2_ n3_ n4_ n5_ n6_ n7_ n8_ n9_ n10_ n11_ n12_ n13_; clear hb hbox hg; have hnb75 := NB934_909.out; have hnc75 := NB909_934.out; have hnb76 := NB934_918.out; have hnc76 := NB918_934.out; have hnb77 := NB934_929.out; have hnc77 := NB929_934.out; have hcz78_0 : w74.cell? ⟨gb934, 0, none⟩ = some (.int .i64 0) := (blk_cell BK934.out 0).trans rfl; have hcz78_1 : w74.cell? ⟨gb934, 1, none⟩ = some (.int .i64 0) := (blk_cell BK934.out 1).trans rfl; have hfz78_0 := blk_frozen BK934.out 0; have hfz78_1 := blk_frozen BK934.out 1) | ((with_reducible refine gate_callee (f := 16) rfl ?_); refine gl_ 132 Try.func16 #[.slice A0 l0.length c0] rfl mp_ ?_; (with_reducible refine (spec_DrawIsEvasive.calls k _ _ l0 t935 t936 _ ?side1 ?side2 A34.out).mono ?_); (case side1 => exact Kd.C_below HR0.out (bv4_ HB GE909 GE918 GE929 GE934)); (case side2 => exact HC0.out); rintro e w79 ⟨rfl, hb⟩; refine ⟨_, rfl, ?_⟩; have n0_ := Aside0.mk (Kd.R_below (by (with_reducible repeat (first | apply Kd.R_alloc | apply Kd.R_drewN | apply Kd.R_drew)); exact (Kd.R_mono (Kd.R_far (p := ⟨gb934, 1, none⟩) (Kd.R_far (p := ⟨gb934, 0, none⟩) (Kd.R_types HO908.out BK934.out (by decide)) (fun _ hk => hk.2) (.int .i64 t930)) (fun _ hk => hk.2) (.int .i64 t931)) (fun _ h_ => h_.1))) hb); have n1_ := Aside0.mk (blk_below (g := gb909) (o := .cells #[.int .i64 t904, .int .i64 t905] 25 (0, 0)) (by (with_reducible repeat (first | refine blk_drewN ?_ _ | refine blk_drew ?_ | refine blk_alloc ?_ _)); refine blk_far ?_ NB909_934.out _; (with_reducible repeat (first | refine blk_drewN ?_ _ | refine blk_drew ?_ | refine blk_alloc ?_ _)); refine blk_far ?_ NB909_934.out _; (with_reducible repeat (first | refine blk_drewN ?_ _ | refine blk_drew ?_ | refine blk_alloc ?_ _)); exact BK909.out) hb); have n2_ := Aside0.mk (blk_below (g := gb918) (o := .cells #[.int .i64 t913, .int .i64 t914] 25 (0, 0)) (by (with_reducible repeat (first | refine blk_drewN ?_ _ | refine blk_drew ?_ | refine blk_alloc ?_ _)); refine blk_far ?_ NB918_934.out _; (with_reducible repeat (first | refine blk_drewN ?_ _ | refine blk_drew ?_ | refine blk_alloc ?_ _)); refine blk_far ?_ NB918_934.out _; (with_reducible repeat (first | refine blk_drewN ?_ _ | refine blk_drew ?_ | refine blk_alloc ?_ _)); exact BK918.out) hb); have n3_ := Aside0.mk (blk_below (g := gb929) (o := .cells #[.int .i64 t925, .int .i64 t926] 25 (0, 0)) (by (with_reducible repeat (first | refine blk_drewN ?_ _ | refine blk_drew ?_ | refine blk_alloc ?_ _)); refine blk_far ?_ NB929_934.out _; (with_reducible repeat (first | refine blk_drewN ?_ _ | refine blk_drew ?_ | refine blk_alloc ?_ _)); refine blk_far ?_ NB929_934.out _; (with_reducible repeat (first | refine blk_drewN ?_ _ | refine blk_drew ?_ | refine blk_alloc ?_ _)); exact BK929.out) hb); have n4_ := Aside0.mk (blk_below (g := gb934) (o := .cells #[.int .i64 t930, .int .i64 t931] 25 (0, 0)) (by (with_reducible repeat (first | refine blk_drewN ?_ _ | refine blk_drew ?_ | refine blk_alloc ?_ _)); refine blk_put (cs := #[.int .i64 t930, .int .i64 0]) ?_ 1 _ rfl; (with_reducible repeat (first | refine blk_drewN ?_ _ | refine blk_drew ?_ | refine blk_alloc ?_ _)); refine blk_put (cs := #[.int .i64 0, .int .i64 0]) ?_ 0 _ rfl; (with_reducible repeat (first | refine blk_drewN ?_ _ | refine blk_drew ?_ | refine blk_alloc ?_ _)); exact BK934.out) hb); have n5_ := Aside0.mk (below_step (bv4_ HB GE909 GE918 GE929 GE934) hb); clear HO908; clear BK909; clear BK918; clear BK929; clear BK934; clear HB; have HO908 := n0_; have BK909 := n1_; have BK918 := n2_; have BK929 := n3_; have BK934 := n4_; have HB := n5_; clear n0_ n1_ n2_ n3_ n4_ n5_; (try clear hb); (try clear hb2); (try clear hk); (try clear hi)) | ((with_reducible refine gate_dst (N := 21) rfl ?_); refine bx_ 21 #[.int .i64 0, .int .i64 0] 25 ?_; intro gb937 hg w80 hbox hb; have n0_ := Aside0.mk (Kd.R_below (rv_ HO908) hb); have n1_ := kb_ BK909 hb; have n2_ := kb_ BK918 hb; have n3_ := kb_ BK929 hb; have n4_ := kb_ BK934 hb; have n5_ := Aside0.mk (below_step (bv4_ HB GE909 GE918 GE929 GE934) hb); have n6_ := Aside0.mk (hbox); have n7_ := gw_ hg (below_size (bv4_ HB GE909 GE918 GE929 GE934)); have n8_ := gw_ hg (below_size (bv4_ HB GE909 GE918 GE929 GE934)); have n9_ := nb_ hg (blk_lt (g := gb909) (o := .cells #[.int .i64 t904, .int .i64 t905] 25 (0, 0)) (kv_ BK909)); have n10_ := nc_ hg (blk_lt (g := gb909) (o := .cells #[.int .i64 t904, .int .i64 t905] 25 (0, 0)) (kv_ BK909)); have n11_ := nb_ hg (blk_lt (g := gb918) (o := .cells #[.int .i64 t913, .int .i64 t914] 25 (0, 0)) (kv_ BK918)); have n12_ := nc_ hg (blk_lt (g := gb918) (o := .cells #[.int .i64 t913, .int .i64 t914] 25 (0, 0)) (kv_ BK918)); have n13_ := nb_ hg (blk_lt (g := gb929) (o := .cells #[.int .i64 t925, .int .i64 t926] 25 (0, 0)) (kv_ BK929)); have n14_ := nc_ hg (blk_lt (g := gb929) (o := .cells #[.int .i64 t925, .int .i64 t926] 25 (0, 0)) (kv_ BK929)); have n15_ := nb_ hg (blk_lt (g := gb934) (o := .cells #[.int .i64 t930, .int .i64 t931] 25 (0, 0)) (kv_ BK934)); have n16_ := nc_ hg (blk_lt (g := gb934) (o := .cells #[.int .i64 t930, .int .i64 t931] 25 (0, 0)) (kv_ BK934)); clear HO908; clear BK909; clear BK918; clear BK929; clear BK934; clear HB; have HO908 := n0_; have BK909 := n1_; have BK918 := n2_; have BK929 := n3_; have BK934 := n4_; have HB := n5_; have BK937 := n6_; have GW937 := n7_; have GE937 := n8_; have NB909_937 := n9_; have NB937_909 := n10_; have NB918_937 := n11_; have NB937_918 := n12_; have NB929_937 := n13_; have NB937_929 := n14_; have NB934_937 := n15_; have NB937_934 := n16_; clear n0_ n1_ n2_ n3_ n4_ n5_ n6_ n7_ n8_ n9_ n10_ n11_ n12_ n13_ n14_ n15_ n16_; clear hb hbox hg; have hnb81 := NB937_909.out; have hnc81 := NB909_937.out; have hnb82 := NB937_918.out; have hnc82 := NB918_937.out; have hnb83 := NB937_929.out; have hnc83 := NB929_937.out; have hnb84 := NB937_934.out; have hnc84 := NB934_937.out; have hcz85_0 : w80.cell? ⟨gb937, 0, none⟩ = some (.int .i64 0) := (blk_cell BK937.out 0).trans rfl; have hcz85_1 : w80.cell? ⟨gb937, 1, none⟩ = some (.int .i64 0) := (blk_cell BK937.out 1).trans rfl; have hfz85_0 := blk_frozen BK937.out 0; have hfz85_1 := blk_frozen BK937.out 1))
              have n0_ : Aside0 (Kd.R (Kd.int .i64) 3 ((w80.setCell ⟨gb937, 0, none⟩ (.int .i64 t935)).setCell ⟨gb937, 1, none⟩ (.int .i64 t936)) w.heap.size (fun _ => True) (.slice Ao46 t906.length co46) t906) := ⟨by (with_reducible repeat (first | apply Kd.R_alloc | apply Kd.R_drewN | apply Kd.R_drew)); exact Kd.R_mono (Kd.R_far (p := ⟨gb937, 1, none⟩) (Kd.R_far (p := ⟨gb937, 0, none⟩) (Kd.R_types HO908.out BK937.out (by decide)) (fun _ hk => hk.2) (.int .i64 t935)) (fun _ hk => hk.2) (.int .i64 t936)) (fun _ hk => trivial)⟩
              have n1_ : Aside0 (((w80.setCell ⟨gb937, 0, none⟩ (.int .i64 t935)).setCell ⟨gb937, 1, none⟩ (.int .i64 t936)).heap[gb909]? = some (.cells #[.int .i64 t904, .int .i64 t905] 25 (0, 0))) := ⟨by (with_reducible repeat (first | refine blk_drewN ?_ _ | refine blk_drew ?_ | refine blk_alloc ?_ _)); refine blk_far ?_ NB909_937.out _; (with_reducible repeat (first | refine blk_drewN ?_ _ | refine blk_drew ?_ | refine blk_alloc ?_ _)); refine blk_far ?_ NB909_937.out _; (with_reducible repeat (first | refine blk_drewN ?_ _ | refine blk_drew ?_ | refine blk_alloc ?_ _)); exact BK909.out⟩
              have n2_ : Aside0 (((w80.setCell ⟨gb937, 0, none⟩ (.int .i64 t935)).setCell ⟨gb937, 1, none⟩ (.int .i64 t936)).heap[gb918]? = some (.cells #[.int .i64 t913, .int .i64 t914] 25 (0, 0))) := ⟨by (with_reducible repeat (first | refine blk_drewN ?_ _ | refine blk_drew ?_ | refine blk_alloc ?_ _)); refine blk_far ?_ NB918_937.out _; (with_reducible repeat (first | refine blk_drewN ?_ _ | refine blk_drew ?_ | refine blk_alloc ?_ _)); refine blk_far ?_ NB918_937.out _; (with_reducible repeat (first | refine blk_drewN ?_ _ | refine blk_drew ?_ | refine blk_alloc ?_ _)); exact BK918.out⟩
              have n3_ : Aside0 (((w80.setCell ⟨gb937, 0, none⟩ (.int .i64 t935)).setCell ⟨gb937, 1, none⟩ (.int .i64 t936)).heap[gb929]? = some (.cells #[.int .i64 t925, .int .i64 t926] 25 (0, 0))) := ⟨by (with_reducible repeat (first | refine blk_drewN ?_ _ | refine blk_drew ?_ | refine blk_alloc ?_ _)); refine blk_far ?_ NB929_937.out _; (with_reducible repeat (first | refine blk_drewN ?_ _ | refine blk_drew ?_ | refine blk_alloc ?_ _)); refine blk_far ?_ NB929_937.out _; (with_reducible repeat (first | refine blk_drewN ?_ _ | refine blk_drew ?_ | refine blk_alloc ?_ _)); exact BK929.out⟩
              have n4_ : Aside0 (((w80.setCell ⟨gb937, 0, none⟩ (.int .i64 t935)).setCell ⟨gb937, 1, none⟩ (.int .i64 t936)).heap[gb934]? = some (.cells #[.int .i64 t930, .int .i64 t931] 25 (0, 0))) := ⟨by (with_reducible repeat (first | refine blk_drewN ?_ _ | refine blk_drew ?_ | refine blk_alloc ?_ _)); refine blk_far ?_ NB934_937.out _; (with_reducible repeat (first | refine blk_drewN ?_ _ | refine blk_drew ?_ | refine blk_alloc ?_ _)); refine blk_far ?_ NB934_937.out _; (with_reducible repeat (first | refine blk_drewN ?_ _ | refine blk_drew ?_ | refine blk_alloc ?_ _)); exact BK934.out⟩
              have n5_ : Aside0 (((w80.setCell ⟨gb937, 0, none⟩ (.int .i64 t935)).setCell ⟨gb937, 1, none⟩ (.int .i64 t936)).heap[gb937]? = some (.cells #[.int .i64 t935, .int .i64 t936] 25 (0, 0))) := ⟨by (with_reducible repeat (first | refine blk_drewN ?_ _ | refine blk_drew ?_ | refine blk_alloc ?_ _)); refine blk_put (cs := #[.int .i64 t935, .int .i64 0]) ?_ 1 _ rfl; (with_reducible repeat (first | refine blk_drewN ?_ _ | refine blk_drew ?_ | refine blk_alloc ?_ _)); refine blk_put (cs := #[.int .i64 0, .int .i64 0]) ?_ 0 _ rfl; (with_reducible repeat (first | refine blk_drewN ?_ _ | refine blk_drew ?_ | refine blk_alloc ?_ _)); exact BK937.out⟩
              have n6_ : Aside0 (Below w.heap.size w ((w80.setCell ⟨gb937, 0, none⟩ (.int .i64 t935)).setCell ⟨gb937, 1, none⟩ (.int .i64 t936))) := ⟨bv5_ HB GE909 GE918 GE929 GE934 GE937⟩
              (try clear HO908)
              (try clear BK909)
              (try clear BK918)
              (try clear BK929)
              (try clear BK934)
              (try clear BK937)
              (try clear HB)
              generalize ((w80.setCell ⟨gb937, 0, none⟩ (.int .i64 t935)).setCell ⟨gb937, 1, none⟩ (.int .i64 t936)) = w86 at n0_ n1_ n2_ n3_ n4_ n5_ n6_ ⊢
              have HO908 := n0_
              have BK909 := n1_
              have BK918 := n2_
              have BK929 := n3_
              have BK934 := n4_
              have BK937 := n5_
              have HB := n6_
              clear n0_ n1_ n2_ n3_ n4_ n5_ n6_
              replace HO908 := Aside0.mk (Kd.R_drew HO908.out)
              replace BK909 := Aside0.mk (blk_drew BK909.out)
              replace BK918 := Aside0.mk (blk_drew BK918.out)
              replace BK929 := Aside0.mk (blk_drew BK929.out)
              replace BK934 := Aside0.mk (blk_drew BK934.out)
              replace BK937 := Aside0.mk (blk_drew BK937.out)
              replace HB := Aside0.mk (below_drew1 HB.out)
              refine start_ (n := 28) (S := fun w' => w'.cell? ⟨gb929, 0, none⟩ = some (.int .i64 t925) ∧ w'.cell? ⟨gb929, 1, none⟩ = some (.int .i64 t926) ∧ w'.cell? ⟨gb934, 0, none⟩ = some (.int .i64 t930) ∧ w'.cell? ⟨gb934, 1, none⟩ = some (.int .i64 t931) ∧ w'.cell? ⟨gb937, 0, none⟩ = some (.int .i64 t935) ∧ w'.cell? ⟨gb937, 1, none⟩ = some (.int .i64 t936)) (ds := []) (bs 28 0) (by kernel_rfl) rfl (by kernel_rfl) ⟨(blk_cell BK929.out 0).trans rfl, (blk_cell BK929.out 1).trans rfl, (blk_cell BK934.out 0).trans rfl, (blk_cell BK934.out 1).trans rfl, (blk_cell BK937.out 0).trans rfl, (blk_cell BK937.out 1).trans rfl⟩ (fun hHeld => ?_); refine with_tabW laws_FnAdversaries.tab23 laws_FnAdversaries.bits23 (fun HT_ HW_ => ?_)
              generalize w86.drew = w87 at HO908 BK909 BK918 BK929 BK934 BK937 HB hHeld ⊢
              refine pu_ HT_ 1 134 (bs 28 2) ?_
              refine pu_ HT_ 2 135 (bs 28 6) ?_
              refine pu_ HT_ 5 138 (bs 28 38) ?_
              refine pu_ HT_ 6 139 (bs 28 102) ?_
              refine ta6_ HT_ HW_ 0 133 (bs 28 103) hHeld ?_
              refine ta6_ HT_ HW_ 4 137 (bs 28 119) hHeld ?_
              refine on_ HT_ 3 136 (bs 28 127) (fun K hK => ?_)
              refine goes_ Try.func13 (by kernel_rfl) rfl #[.agg #[.int .i64 t925, .int .i64 t926], .int .i64 t927, .int .i64 t928] (by rfl) rfl rfl mp_ ?_
              with_reducible refine (impl_AskedOf.calls t925 t926 t927 t928 t938 _ A35.out).mono ?_
              rintro e w88 ⟨rfl, hb⟩
              refine ⟨_, rfl, ?_⟩
              replace HO908 := Aside0.mk (Kd.R_below (rv_ HO908) hb)
              replace BK909 := kb_ BK909 hb
              replace BK918 := kb_ BK918 hb
              replace BK929 := kb_ BK929 hb
              replace BK934 := kb_ BK934 hb
              replace BK937 := kb_ BK937 hb
              replace HB := Aside0.mk (below_step (bv5_ HB GE909 GE918 GE929 GE934 GE937) hb)
              (try clear hb)
              (try clear hb2)
              (try clear hk)
              (try clear hi)
              refine hK.out _ _ ⟨(blk_cell BK929.out 0).trans rfl, (blk_cell BK929.out 1).trans rfl, (blk_cell BK934.out 0).trans rfl, (blk_cell BK934.out 1).trans rfl, (blk_cell BK937.out 0).trans rfl, (blk_cell BK937.out 1).trans rfl⟩ (fun hHeld => ?_)
              clear hK K
              refine no_ 136 ?_
              refine on_ HT_ 7 140 (bs 28 255) (fun K hK => ?_)
              refine goes_ Try.func17 (by kernel_rfl) rfl #[.agg #[.int .i64 t925, .int .i64 t926], .int .i64 t927, .int .i64 t928] (by rfl) rfl rfl mp_ ?_
              with_reducible refine (spec_AskedOf.calls k t925 t926 t927 t928 t939 _ A36.out).mono ?_
              rintro e w89 ⟨rfl, hb⟩
              refine ⟨_, rfl, ?_⟩
              replace HO908 := Aside0.mk (Kd.R_below (rv_ HO908) hb)
              replace BK909 := kb_ BK909 hb
              replace BK918 := kb_ BK918 hb
              replace BK929 := kb_ BK929 hb
              replace BK934 := kb_ BK934 hb
              replace BK937 := kb_ BK937 hb
              replace HB := Aside0.mk (below_step (bv5_ HB GE909 GE918 GE929 GE934 GE937) hb)
              (try clear hb)
              (try clear hb2)
              (try clear hk)
              (try clear hi)
              refine hK.out _ _ ⟨(blk_cell BK929.out 0).trans rfl, (blk_cell BK929.out 1).trans rfl, (blk_cell BK934.out 0).trans rfl, (blk_cell BK934.out 1).trans rfl, (blk_cell BK937.out 0).trans rfl, (blk_cell BK937.out 1).trans rfl⟩ (fun hHeld => ?_)
              clear hK K
              refine no_ 140 ?_
              refine pu_ HT_ 8 141 (bs 28 511) ?_
              refine pu_ HT_ 9 142 (bs 28 1023) ?_
              refine pu_ HT_ 11 144 (bs 28 3071) ?_
              refine pu_ HT_ 12 145 (bs 28 7167) ?_
              refine pu_ HT_ 15 148 (bs 28 39935) ?_
              refine pu_ HT_ 16 149 (bs 28 105471) ?_
              refine ta6_ HT_ HW_ 10 143 (bs 28 106495) hHeld ?_
              refine ta6_ HT_ HW_ 14 147 (bs 28 122879) hHeld ?_
              refine on_ HT_ 13 146 (bs 28 131071) (fun K hK => ?_)
              refine goes_ Try.func12 (by kernel_rfl) rfl #[.agg #[.int .i64 t930, .int .i64 t931], .int .i64 t932, .int .i64 t933] (by rfl) rfl rfl mp_ ?_
              with_reducible refine (impl_ForcedLeft.calls t930 t931 t932 t933 t940 _ A38.out).mono ?_
              rintro e w90 ⟨rfl, hb⟩
              refine ⟨_, rfl, ?_⟩
              replace HO908 := Aside0.mk (Kd.R_below (rv_ HO908) hb)
              replace BK909 := kb_ BK909 hb
              replace BK918 := kb_ BK918 hb
              replace BK929 := kb_ BK929 hb
              replace BK934 := kb_ BK934 hb
              replace BK937 := kb_ BK937 hb
              replace HB := Aside0.mk (below_step (bv5_ HB GE909 GE918 GE929 GE934 GE937) hb)
              (try clear hb)
              (try clear hb2)
              (try clear hk)
              (try clear hi)
              refine hK.out _ _ ⟨(blk_cell BK929.out 0).trans rfl, (blk_cell BK929.out 1).trans rfl, (blk_cell BK934.out 0).trans rfl, (blk_cell BK934.out 1).trans rfl, (blk_cell BK937.out 0).trans rfl, (blk_cell BK937.out 1).trans rfl⟩ (fun hHeld => ?_)
              clear hK K
              refine no_ 146 ?_
              refine on_ HT_ 17 150 (bs 28 262143) (fun K hK => ?_)
              refine goes_ Try.func18 (by kernel_rfl) rfl #[.agg #[.int .i64 t930, .int .i64 t931], .int .i64 t932, .int .i64 t933] (by rfl) rfl rfl mp_ ?_
              with_reducible refine (spec_ForcedLeft.calls k t930 t931 t932 t933 t941 _ A39.out).mono ?_
              rintro e w91 ⟨rfl, hb⟩
              refine ⟨_, rfl, ?_⟩
              replace HO908 := Aside0.mk (Kd.R_below (rv_ HO908) hb)
              replace BK909 := kb_ BK909 hb
              replace BK918 := kb_ BK918 hb
              replace BK929 := kb_ BK929 hb
              replace BK934 := kb_ BK934 hb
              replace BK937 := kb_ BK937 hb
              replace HB := Aside0.mk (below_step (bv5_ HB GE909 GE918 GE929 GE934 GE937) hb)
              (try clear hb)
              (try clear hb2)
              (try clear hk)
              (try clear hi)
              refine hK.out _ _ ⟨(blk_cell BK929.out 0).trans rfl, (blk_cell BK929.out 1).trans rfl, (blk_cell BK934.out 0).trans rfl, (blk_cell BK934.out 1).trans rfl, (blk_cell BK937.out 0).trans rfl, (blk_cell BK937.out 1).trans rfl⟩ (fun hHeld => ?_)
              clear hK K
              refine no_ 150 ?_
              refine pu_ HT_ 18 151 (bs 28 524287) ?_
              refine pu_ HT_ 19 152 (bs 28 1048575) ?_
              refine pu_ HT_ 20 153 (bs 28 2097151) ?_
              refine ta6_ HT_ HW_ 21 154 (bs 28 4194303) hHeld ?_
              refine ta6_ HT_ HW_ 23 156 (bs 28 12582911) hHeld ?_
              refine on_ HT_ 22 155 (bs 28 16777215) (fun K hK => ?_)
              refine goes_ Try.func19 (by kernel_rfl) rfl #[.agg #[.int .i64 t935, .int .i64 t936]] (by rfl) rfl rfl mp_ ?_
              with_reducible refine (impl_IsEvasive.calls t935 t936 t942 _ A41.out).mono ?_
              rintro e w92 ⟨rfl, hb⟩
              refine ⟨_, rfl, ?_⟩
              replace HO908 := Aside0.mk (Kd.R_below (rv_ HO908) hb)
              replace BK909 := kb_ BK909 hb
              replace BK918 := kb_ BK918 hb
              replace BK929 := kb_ BK929 hb
              replace BK934 := kb_ BK934 hb
              replace BK937 := kb_ BK937 hb
              replace HB := Aside0.mk (below_step (bv5_ HB GE909 GE918 GE929 GE934 GE937) hb)
              (try clear hb)
              (try clear hb2)
              (try clear hk)
              (try clear hi)
              refine hK.out _ _ ⟨(blk_cell BK929.out 0).trans rfl, (blk_cell BK929.out 1).trans rfl, (blk_cell BK934.out 0).trans rfl, (blk_cell BK934.out 1).trans rfl, (blk_cell BK937.out 0).trans rfl, (blk_cell BK937.out 1).trans rfl⟩ (fun hHeld => ?_)
              clear hK K
              refine no_ 155 ?_
              refine on_ HT_ 24 157 (bs 28 33554431) (fun K hK => ?_)
              refine goes_ Try.func20 (by kernel_rfl) rfl #[.agg #[.int .i64 t935, .int .i64 t936]] (by rfl) rfl rfl mp_ ?_
              with_reducible refine (spec_IsEvasive.calls k t935 t936 t943 _ A42.out).mono ?_
              rintro e w93 ⟨rfl, hb⟩
              refine ⟨_, rfl, ?_⟩
              replace HO908 := Aside0.mk (Kd.R_below (rv_ HO908) hb)
              replace BK909 := kb_ BK909 hb
              replace BK918 := kb_ BK918 hb
              replace BK929 := kb_ BK929 hb
              replace BK934 := kb_ BK934 hb
              replace BK937 := kb_ BK937 hb
              replace HB := Aside0.mk (below_step (bv5_ HB GE909 GE918 GE929 GE934 GE937) hb)
              (try clear hb)
              (try clear hb2)
              (try clear hk)
              (try clear hi)
              refine hK.out _ _ ⟨(blk_cell BK929.out 0).trans rfl, (blk_cell BK929.out 1).trans rfl, (blk_cell BK934.out 0).trans rfl, (blk_cell BK934.out 1).trans rfl, (blk_cell BK937.out 0).trans rfl, (blk_cell BK937.out 1).trans rfl⟩ (fun hHeld => ?_)
              clear hK K
              refine no_ 157 ?_
              refine pu_ HT_ 25 158 (bs 28 67108863) ?_
              refine pu_ HT_ 26 159 (bs 28 134217727) ?_
              refine pu_ HT_ 27 2 (bs 28 268435455) ?_
              refine done_ (done_of HT_.out (by kernel_rfl)) ?_
              try go_wp2
              go_ret
              exact ⟨by first | rfl | (simp [errW_none, errW_some] <;> rfl) | (simp only [← hji19, ← hji21, ← hji26]; first | rfl | (simp [errW_none, errW_some] <;> rfl)) | (simp [*, errW_none, errW_some] <;> rfl), bv5_ HB GE909 GE918 GE929 GE934 GE937⟩
             ·rw [if_neg c40] at H
              exact absurd H (by simp)
            ·rw [if_neg c37] at H
             exact absurd H (by simp)
        ·rw [if_neg c18] at H
         exact absurd H (by simp)
       ·rw [if_neg c16] at H
        have c16b0 : decide (0 ≤ t919) = false := decide_eq_false c16
        clear c16
        replace H := Option.bind_eq_some_iff.mp H
        obtain ⟨⟨t944, t945, t946, t947⟩, A940, H⟩ := H
        dsimp only at H
        have A94 := Aside0.mk A940
        clear A940
        replace H := Option.bind_eq_some_iff.mp H
        obtain ⟨⟨t949, t950, t951, t952⟩, A950, H⟩ := H
        dsimp only at H
        have A95 := Aside0.mk A950
        clear A950
        replace H := Option.bind_eq_some_iff.mp H
        obtain ⟨⟨t954, t955⟩, A960, H⟩ := H
        dsimp only at H
        have A96 := Aside0.mk A960
        clear A960
        replace H := Option.bind_eq_some_iff.mp H
        obtain ⟨t957, A970, H⟩ := H
        have A97 := Aside0.mk A970
        clear A970
        replace H := Option.bind_eq_some_iff.mp H
        obtain ⟨t958, A980, H⟩ := H
        have A98 := Aside0.mk A980
        clear A980
        by_cases c99 : t957 = t958
        ·rw [if_pos c99] at H
         have c99b0 : (t957 == t958) = true := beq_iff_eq.mpr c99
         have c99b1 : (t957 != t958) = false := bne_eq_false_iff_eq.mpr c99
         clear c99
         replace H := Option.bind_eq_some_iff.mp H
         obtain ⟨t959, A1000, H⟩ := H
         have A100 := Aside0.mk A1000
         clear A1000
         replace H := Option.bind_eq_some_iff.mp H
         obtain ⟨t960, A1010, H⟩ := H
         have A101 := Aside0.mk A1010
         clear A1010
         by_cases c102 : t959 = t960
         ·rw [if_pos c102] at H
          have c102b0 : (t959 == t960) = true := beq_iff_eq.mpr c102
          have c102b1 : (t959 != t960) = false := bne_eq_false_iff_eq.mpr c102
          clear c102
          replace H := Option.bind_eq_some_iff.mp H
          obtain ⟨t961, A1030, H⟩ := H
          have A103 := Aside0.mk A1030
          clear A1030
          replace H := Option.bind_eq_some_iff.mp H
          obtain ⟨t962, A1040, H⟩ := H
          have A104 := Aside0.mk A1040
          clear A1040
          obtain rfl := Option.some.inj H
          go_enter Try.func3, Try.ntmps3
          try go_wp2_with (first | ((with_reducible refine gate_callee (f := 4) rfl ?_); refine gl_ 23 Try.func4 #[.slice A0 l0.length c0] rfl mp_ ?_; (with_reducible refine (laws_big.calls _ _ l0 false _ ?side1 ?side2 A2.out).mono ?_); (case side1 => exact cv_ HR0.out); (case side2 => exact HC0.out); rintro e w' ⟨rfl, ⟨nd, rfl⟩⟩; refine ⟨_, rfl, ?_⟩) | ((with_reducible refine gate_callee (f := 5) rfl ?_); refine gl_ 26 Try.func5 #[.slice A0 l0.length c0] rfl mp_ ?_; (with_reducible refine (spec_DrawPlayAgainst.calls k _ _ l0 t904 t905 t906 _ ?side1 ?side2 A4.out).mono ?_); (case side1 => exact cv_ HR0.out); (case side2 => exact HC0.out); rintro e w105 ⟨v907, rfl, ho0, hb⟩; refine ⟨_, rfl, ?_⟩; have HO908 := Aside0.mk (Kd.R_lower ho0 (below_size (bv_ HB))); replace HB := Aside0.mk (below_step (bv_ HB) hb); (try clear hb); (try clear hb2); (try clear hk); (try clear hi); (try clear ho0)) | ((with_reducible refine gate_dst (N := 3) rfl ?_); refine bx_ 3 #[.int .i64 0, .int .i64 0] 25 ?_; intro gb909 hg w106 hbox hb; replace HO908 := Aside0.mk (Kd.R_below (rv_ HO908) hb); have BK909 := Aside0.mk (hbox); have GW909 := gw_ hg (below_size (bv_ HB)); have GE909 := GW909; replace HB := Aside0.mk (below_step (bv_ HB) hb); clear hb hbox hg; obtain ⟨hcz107_0, hcz107_1, hfz107_0, hfz107_1⟩ := c2_ BK909; obtain ⟨Ao108, co108, eo108⟩ := Kd.R_slice HO908.out; subst eo108) | ((with_reducible refine gate_callee (f := 6) rfl ?_); refine gl_ 31 Try.func6 #[.agg #[.int .i64 t904, .int .i64 t905], .slice Ao108 t906.length co108] rfl mp_ ?_; (with_reducible refine (impl_PlayAgainst.calls k t904 t905 _ _ t906 t910 _ ?side1 ?side2 A5.out).mono ?_); (case side1 => refine (Kd.R_reads' (e := 3) (base := w.heap.size) (ok := fun k_ => True) (n := t906.length) (c := co108) ?_).2.2; exact (by (with_reducible repeat (first | apply Kd.R_alloc | apply Kd.R_drewN | apply Kd.R_drew)); exact (Kd.R_mono (Kd.R_far (p := ⟨gb909, 1, none⟩) (Kd.R_far (p := ⟨gb909, 0, none⟩) (Kd.R_types HO908.out BK909.out (by decide)) (fun _ hk => hk.2) (.int .i64 t904)) (fun _ hk => hk.2) (.int .i64 t905)) (fun _ h_ => h_.1)))); (case side2 => exact (Kd.R_reads' HO908.out).2.1); rintro e w109 ⟨rfl, hb⟩; refine ⟨_, rfl, ?_⟩; replace HO908 := Aside0.mk (Kd.R_below (by (with_reducible repeat (first | apply Kd.R_alloc | apply Kd.R_drewN | apply Kd.R_drew)); exact (Kd.R_mono (Kd.R_far (p := ⟨gb909, 1, none⟩) (Kd.R_far (p := ⟨gb909, 0, none⟩) (Kd.R_types HO908.out BK909.out (by decide)) (fun _ hk => hk.2) (.int .i64 t904)) (fun _ hk => hk.2) (.int .i64 t905)) (fun _ h_ => h_.1))) hb); replace BK909 := Aside0.mk (blk_below (g := gb909) (o := .cells #[.int .i64 t904, .int .i64 t905] 25 (0, 0)) (by (with_reducible repeat (first | refine blk_drewN ?_ _ | refine blk_drew ?_ | refine blk_alloc ?_ _)); refine blk_put (cs := #[.int .i64 t904, .int .i64 0]) ?_ 1 _ rfl; (with_reducible repeat (first | refine blk_drewN ?_ _ | refine blk_drew ?_ | refine blk_alloc ?_ _)); refine blk_put (cs := #[.int .i64 0, .int .i64 0]) ?_ 0 _ rfl; (with_reducible repeat (first | refine blk_drewN ?_ _ | refine blk_drew ?_ | refine blk_alloc ?_ _)); exact BK909.out) hb); replace HB := Aside0.mk (below_step (bv1_ HB GE909) hb); (try clear hb); (try clear hb2); (try clear hk); (try clear hi); obtain ⟨hcz110_0, hcz110_1, hfz110_0, hfz110_1⟩ := c2_ BK909) | ((with_reducible refine gate_callee (f := 7) rfl ?_); refine gl_ 35 Try.func7 #[.agg #[.int .i64 t904, .int .i64 t905], .slice Ao108 t906.length co108] rfl mp_ ?_; (with_reducible refine (spec_PlayAgainst.calls k t904 t905 _ _ t906 t911 _ ?side1 ?side2 A6.out).mono ?_); (case side1 => repeat (first | exact (Kd.R_reads' HO908.out).2.2 | (with_reducible refine Kd.C_alloc ?_ _) | (with_reducible refine Kd.C_drewN ?_ _) | (with_reducible refine Kd.C_drew ?_))); (case side2 => exact (Kd.R_reads' HO908.out).2.1); rintro e w111 ⟨rfl, hb⟩; refine ⟨_, rfl, ?_⟩; replace HO908 := Aside0.mk (Kd.R_below (rv_ HO908) hb); replace BK909 := kb_ BK909 hb; replace HB := Aside0.mk (below_step (bv1_ HB GE909) hb); (try clear hb); (try clear hb2); (try clear hk); (try clear hi); obtain ⟨hcz112_0, hcz112_1, hfz112_0, hfz112_1⟩ := c2_ BK909) | (go_at_call 8; (with_reducible refine (impl_LeastDepth.calls t904 t905 t912 _ A9.out).mono ?_); rintro e w113 ⟨rfl, hb⟩; replace HO908 := Aside0.mk (Kd.R_below (rv_ HO908) hb); replace BK909 := kb_ BK909 hb; replace HB := Aside0.mk (below_step (bv1_ HB GE909) hb); (try clear hb); (try clear hb2); (try clear hk); (try clear hi); obtain ⟨hcz114_0, hcz114_1, hfz114_0, hfz114_1⟩ := c2_ BK909) | ((with_reducible refine gate_callee (f := 9) rfl ?_); refine gl_ 55 Try.func9 #[.slice A0 l0.length c0] rfl mp_ ?_; (with_reducible refine (spec_DrawAdversaryAnswer.calls k _ _ l0 t913 t914 t915 t916 t917 _ ?side1 ?side2 A12.out).mono ?_); (case side1 => exact cv_ (Kd.C_below HR0.out HB.out)); (case side2 => exact HC0.out); rintro e w115 ⟨rfl, hb⟩; refine ⟨_, rfl, ?_⟩; replace HO908 := Aside0.mk (Kd.R_below (rv_ HO908) hb); replace BK909 := kb_ BK909 hb; replace HB := Aside0.mk (below_step (bv1_ HB GE909) hb); (try clear hb); (try clear hb2); (try clear hk); (try clear hi)) | ((with_reducible refine gate_dst (N := 6) rfl ?_); refine bx_ 6 #[.int .i64 0, .int .i64 0] 25 ?_; intro gb918 hg w116 hbox hb; replace HO908 := Aside0.mk (Kd.R_below (rv_ HO908) hb); have BK918 := Aside0.mk (hbox); have GW918 := gw_ hg (below_size (bv1_ HB GE909)); have GE918 := GW918; replace HB := Aside0.mk (below_step (bv1_ HB GE909) hb); have NB909_918 := nb_ hg (blk_lt (g := gb909) (o := .cells #[.int .i64 t904, .int .i64 t905] 25 (0, 0)) (kv_ BK909)); have NB918_909 := nc_ hg (blk_lt (g := gb909) (o := .cells #[.int .i64 t904, .int .i64 t905] 25 (0, 0)) (kv_ BK909)); replace BK909 := kb_ BK909 hb; clear hb hbox hg; have hnb117 := NB918_909.out; have hnc117 := NB909_918.out; obtain ⟨hcz118_0, hcz118_1, hfz118_0, hfz118_1⟩ := c2_ BK918) | ((with_reducible refine gate_callee (f := 10) rfl ?_); refine gl_ 64 Try.func10 #[.agg #[.int .i64 t913, .int .i64 t914], .int .i64 t915, .int .i64 t916, .int .i64 t917] rfl mp_ ?_; (with_reducible refine (impl_AdversaryAnswer.calls t913 t914 t915 t916 t917 t919 _ A13.out).mono ?_); rintro e w119 ⟨rfl, hb⟩; refine ⟨_, rfl, ?_⟩; replace HO908 := Aside0.mk (Kd.R_below (by (with_reducible repeat (first | apply Kd.R_alloc | apply Kd.R_drewN | apply Kd.R_drew)); exact (Kd.R_mono (Kd.R_far (p := ⟨gb918, 1, none⟩) (Kd.R_far (p := ⟨gb918, 0, none⟩) (Kd.R_types HO908.out BK918.out (by decide)) (fun _ hk => hk.2) (.int .i64 t913)) (fun _ hk => hk.2) (.int .i64 t914)) (fun _ h_ => h_.1))) hb); replace BK909 := Aside0.mk (blk_below (g := gb909) (o := .cells #[.int .i64 t904, .int .i64 t905] 25 (0, 0)) (by (with_reducible repeat (first | refine blk_drewN ?_ _ | refine blk_drew ?_ | refine blk_alloc ?_ _)); refine blk_far ?_ NB909_918.out _; (with_reducible repeat (first | refine blk_drewN ?_ _ | refine blk_drew ?_ | refine blk_alloc ?_ _)); refine blk_far ?_ NB909_918.out _; (with_reducible repeat (first | refine blk_drewN ?_ _ | refine blk_drew ?_ | refine blk_alloc ?_ _)); exact BK909.out) hb); replace BK918 := Aside0.mk (blk_below (g := gb918) (o := .cells #[.int .i64 t913, .int .i64 t914] 25 (0, 0)) (by (with_reducible repeat (first | refine blk_drewN ?_ _ | refine blk_drew ?_ | refine blk_alloc ?_ _)); refine blk_put (cs := #[.int .i64 t913, .int .i64 0]) ?_ 1 _ rfl; (with_reducible repeat (first | refine blk_drewN ?_ _ | refine blk_drew ?_ | refine blk_alloc ?_ _)); refine blk_put (cs := #[.int .i64 0, .int .i64 0]) ?_ 0 _ rfl; (with_reducible repeat (first | refine blk_drewN ?_ _ | refine blk_drew ?_ | refine blk_alloc ?_ _)); exact BK918.out) hb); replace HB := Aside0.mk (below_step (bv2_ HB GE909 GE918) hb); (try clear hb); (try clear hb2); (try clear hk); (try clear hi); obtain ⟨hcz120_0, hcz120_1, hfz120_0, hfz120_1⟩ := c2_ BK918) | ((with_reducible refine gate_callee (f := 11) rfl ?_); refine gl_ 70 Try.func11 #[.agg #[.int .i64 t913, .int .i64 t914], .int .i64 t915, .int .i64 t916, .int .i64 t917] rfl mp_ ?_; (with_reducible refine (spec_AdversaryAnswer.calls k t913 t914 t915 t916 t917 t920 _ A14.out).mono ?_); rintro e w121 ⟨rfl, hb⟩; refine ⟨_, rfl, ?_⟩; replace HO908 := Aside0.mk (Kd.R_below (rv_ HO908) hb); replace BK909 := kb_ BK909 hb; replace BK918 := kb_ BK918 hb; replace HB := Aside0.mk (below_step (bv2_ HB GE909 GE918) hb); (try clear hb); (try clear hb2); (try clear hk); (try clear hi)) | ((with_reducible refine gate_callee (f := 14) rfl ?_); refine gl_ 121 Try.func14 #[.slice A0 l0.length c0] rfl mp_ ?_; (with_reducible refine (spec_DrawAskedOf.calls k _ _ l0 t944 t945 t946 t947 _ ?side1 ?side2 A94.out).mono ?_); (case side1 => exact cv_ (Kd.C_below HR0.out HB.out)); (case side2 => exact HC0.out); rintro e w122 ⟨rfl, hb⟩; refine ⟨_, rfl, ?_⟩; replace HO908 := Aside0.mk (Kd.R_below (rv_ HO908) hb); replace BK909 := kb_ BK909 hb; replace BK918 := kb_ BK918 hb; replace HB := Aside0.mk (below_step (bv2_ HB GE909 GE918) hb); (try clear hb); (try clear hb2); (try clear hk); (try clear hi)) | ((with_reducible refine gate_dst (N := 15) rfl ?_); refine bx_ 15 #[.int .i64 0, .int .i64 0] 25 ?_; intro gb948 hg w123 hbox hb; replace HO908 := Aside0.mk (Kd.R_below (rv_ HO908) hb); have BK948 := Aside0.mk (hbox); have GW948 := gw_ hg (below_size (bv2_ HB GE909 GE918)); have GE948 := GW948; replace HB := Aside0.mk (below_step (bv2_ HB GE909 GE918) hb); have NB909_948 := nb_ hg (blk_lt (g := gb909) (o := .cells #[.int .i64 t904, .int .i64 t905] 25 (0, 0)) (kv_ BK909)); have NB948_909 := nc_ hg (blk_lt (g := gb909) (o := .cells #[.int .i64 t904, .int .i64 t905] 25 (0, 0)) (kv_ BK909)); replace BK909 := kb_ BK909 hb; have NB918_948 := nb_ hg (blk_lt (g := gb918) (o := .cells #[.int .i64 t913, .int .i64 t914] 25 (0, 0)) (kv_ BK918)); have NB948_918 := nc_ hg (blk_lt (g := gb918) (o := .cells #[.int .i64 t913, .int .i64 t914] 25 (0, 0)) (kv_ BK918)); replace BK918 := kb_ BK918 hb; clear hb hbox hg; have hnb124 := NB948_909.out; have hnc124 := NB909_948.out; have hnb125 := NB948_918.out; have hnc125 := NB918_948.out; obtain ⟨hcz126_0, hcz126_1, hfz126_0, hfz126_1⟩ := c2_ BK948) | ((with_reducible refine gate_callee (f := 15) rfl ?_); refine gl_ 127 Try.func15 #[.slice A0 l0.length c0] rfl mp_ ?_; (with_reducible refine (spec_DrawForcedLeft.calls k _ _ l0 t949 t950 t951 t952 _ ?side1 ?side2 A95.out).mono ?_); (case side1 => exact Kd.C_below HR0.out (bv3_ HB GE909 GE918 GE948)); (case side2 => exact HC0.out); rintro e w127 ⟨rfl, hb⟩; refine ⟨_, rfl, ?_⟩; replace HO908 := Aside0.mk (Kd.R_below (by (with_reducible repeat (first | apply Kd.R_alloc | apply Kd.R_drewN | apply Kd.R_drew)); exact (Kd.R_mono (Kd.R_far (p := ⟨gb948, 1, none⟩) (Kd.R_far (p := ⟨gb948, 0, none⟩) (Kd.R_types HO908.out BK948.out (by decide)) (fun _ hk => hk.2) (.int .i64 t944)) (fun _ hk => hk.2) (.int .i64 t945)) (fun _ h_ => h_.1))) hb); replace BK909 := Aside0.mk (blk_below (g := gb909) (o := .cells #[.int .i64 t904, .int .i64 t905] 25 (0, 0)) (by (with_reducible repeat (first | refine blk_drewN ?_ _ | refine blk_drew ?_ | refine blk_alloc ?_ _)); refine blk_far ?_ NB909_948.out _; (with_reducible repeat (first | refine blk_drewN ?_ _ | refine blk_drew ?_ | refine blk_alloc ?_ _)); refine blk_far ?_ NB909_948.out _; (with_reducible repeat (first | refine blk_drewN ?_ _ | refine blk_drew ?_ | refine blk_alloc ?_ _)); exact BK909.out) hb); replace BK918 := Aside0.mk (blk_below (g := gb918) (o := .cells #[.int .i64 t913, .int .i64 t914] 25 (0, 0)) (by (with_reducible repeat (first | refine blk_drewN ?_ _ | refine blk_drew ?_ | refine blk_alloc ?_ _)); refine blk_far ?_ NB918_948.out _; (with_reducible repeat (first | refine blk_drewN ?_ _ | refine blk_drew ?_ | refine blk_alloc ?_ _)); refine blk_far ?_ NB918_948.out _; (with_reducible repeat (first | refine blk_drewN ?_ _ | refine blk_drew ?_ | refine blk_alloc ?_ _)); exact BK918.out) hb); replace BK948 := Aside0.mk (blk_below (g := gb948) (o := .cells #[.int .i64 t944, .int .i64 t945] 25 (0, 0)) (by (with_reducible repeat (first | refine blk_drewN ?_ _ | refine blk_drew ?_ | refine blk_alloc ?_ _)); refine blk_put (cs := #[.int .i64 t944, .int .i64 0]) ?_ 1 _ rfl; (with_reducible repeat (first | refine blk_drewN ?_ _ | refine blk_drew ?_ | refine blk_alloc ?_ _)); refine blk_put (cs := #[.int .i64 0, .int .i64 0]) ?_ 0 _ rfl; (with_reducible repeat (first | refine blk_drewN ?_ _ | refine blk_drew ?_ | refine blk_alloc ?_ _)); exact BK948.out) hb); replace HB := Aside0.mk (below_step (bv3_ HB GE909 GE918 GE948) hb); (try clear hb); (try clear hb2); (try clear hk); (try clear hi)) | ((with_reducible refine gate_dst (N := 18) rfl ?_); refine bx_ 18 #[.int .i64 0, .int .i64 0] 25 ?_; intro gb953 hg w128 hbox hb; replace HO908 := Aside0.mk (Kd.R_below (rv_ HO908) hb); have BK953 := Aside0.mk (hbox); have GW953 := gw_ hg (below_size (bv3_ HB GE909 GE918 GE948)); have GE953 := GW953; replace HB := Aside0.mk (below_step (bv3_ HB GE909 GE918 GE948) hb); have NB909_953 := nb_ hg (blk_lt (g := gb909) (o := .cells #[.int .i64 t904, .int .i64 t905] 25 (0, 0)) (kv_ BK909)); have NB953_909 := nc_ hg (blk_lt (g := gb909) (o := .cells #[.int .i64 t904, .int .i64 t905] 25 (0, 0)) (kv_ BK909)); replace BK909 := kb_ BK909 hb; have NB918_953 := nb_ hg (blk_lt (g := gb918) (o := .cells #[.int .i64 t913, .int .i64 t914] 25 (0, 0)) (kv_ BK918)); have NB953_918 := nc_ hg (blk_lt (g := gb918) (o := .cells #[.int .i64 t913, .int .i64 t914] 25 (0, 0)) (kv_ BK918)); replace BK918 := kb_ BK918 hb; have NB948_953 := nb_ hg (blk_lt (g := gb948) (o := .cells #[.int .i64 t944, .int .i64 t945] 25 (0, 0)) (kv_ BK948)); have NB953_948 := nc_ hg (blk_lt (g := gb948) (o := .cells #[.int .i64 t944, .int .i64 t945] 25 (0, 0)) (kv_ BK948)); replace BK948 := kb_ BK948 hb; clear hb hbox hg; have hnb129 := NB953_909.out; have hnc129 := NB909_953.out; have hnb130 := NB953_918.out; have hnc130 := NB918_953.out; have hnb131 := NB953_948.out; have hnc131 := NB948_953.out; obtain ⟨hcz132_0, hcz132_1, hfz132_0, hfz132_1⟩ := c2_ BK953) | ((with_reducible refine gate_callee (f := 16) rfl ?_); refine gl_ 132 Try.func16 #[.slice A0 l0.length c0] rfl mp_ ?_; (with_reducible refine (spec_DrawIsEvasive.calls k _ _ l0 t954 t955 _ ?side1 ?side2 A96.out).mono ?_); (case side1 => exact Kd.C_below HR0.out (bv4_ HB GE909 GE918 GE948 GE953)); (case side2 => exact HC0.out); rintro e w133 ⟨rfl, hb⟩; refine ⟨_, rfl, ?_⟩; replace HO908 := Aside0.mk (Kd.R_below (by (with_reducible repeat (first | apply Kd.R_alloc | apply Kd.R_drewN | apply Kd.R_drew)); exact (Kd.R_mono (Kd.R_far (p := ⟨gb953, 1, none⟩) (Kd.R_far (p := ⟨gb953, 0, none⟩) (Kd.R_types HO908.out BK953.out (by decide)) (fun _ hk => hk.2) (.int .i64 t949)) (fun _ hk => hk.2) (.int .i64 t950)) (fun _ h_ => h_.1))) hb); replace BK909 := Aside0.mk (blk_below (g := gb909) (o := .cells #[.int .i64 t904, .int .i64 t905] 25 (0, 0)) (by (with_reducible repeat (first | refine blk_drewN ?_ _ | refine blk_drew ?_ | refine blk_alloc ?_ _)); refine blk_far ?_ NB909_953.out _; (with_reducible repeat (first | refine blk_drewN ?_ _ | refine blk_drew ?_ | refine blk_alloc ?_ _)); refine blk_far ?_ NB909_953.out _; (with_reducible repeat (first | refine blk_drewN ?_ _ | refine blk_drew ?_ | refine blk_alloc ?_ _)); exact BK909.out) hb); replace BK918 := Aside0.mk (blk_below (g := gb918) (o := .cells #[.int .i64 t913, .int .i64 t914] 25 (0, 0)) (by (with_reducible repeat (first | refine blk_drewN ?_ _ | refine blk_drew ?_ | refine blk_alloc ?_ _)); refine blk_far ?_ NB918_953.out _; (with_reducible repeat (first | refine blk_drewN ?_ _ | refine blk_drew ?_ | refine blk_alloc ?_ _)); refine blk_far ?_ NB918_953.out _; (with_reducible repeat (first | refine blk_drewN ?_ _ | refine blk_drew ?_ | refine blk_alloc ?_ _)); exact BK918.out) hb); replace BK948 := Aside0.mk (blk_below (g := gb948) (o := .cells #[.int .i64 t944, .int .i64 t945] 25 (0, 0)) (by (with_reducible repeat (first | refine blk_drewN ?_ _ | refine blk_drew ?_ | refine blk_alloc ?_ _)); refine blk_far ?_ NB948_953.out _; (with_reducible repeat (first | refine blk_drewN ?_ _ | refine blk_drew ?_ | refine blk_alloc ?_ _)); refine blk_far ?_ NB948_953.out _; (with_reducible repeat (first | refine blk_drewN ?_ _ | refine blk_drew ?_ | refine blk_alloc ?_ _)); exact BK948.out) hb); replace BK953 := Aside0.mk (blk_below (g := gb953) (o := .cells #[.int .i64 t949, .int .i64 t950] 25 (0, 0)) (by (with_reducible repeat (first | refine blk_drewN ?_ _ | refine blk_drew ?_ | refine blk_alloc ?_ _)); refine blk_put (cs := #[.int .i64 t949, .int .i64 0]) ?_ 1 _ rfl; (with_reducible repeat (first | refine blk_drewN ?_ _ | refine blk_drew ?_ | refine blk_alloc ?_ _)); refine blk_put (cs := #[.int .i64 0, .int .i64 0]) ?_ 0 _ rfl; (with_reducible repeat (first | refine blk_drewN ?_ _ | refine blk_drew ?_ | refine blk_alloc ?_ _)); exact BK953.out) hb); replace HB := Aside0.mk (below_step (bv4_ HB GE909 GE918 GE948 GE953) hb); (try clear hb); (try clear hb2); (try clear hk); (try clear hi)) | ((with_reducible refine gate_dst (N := 21) rfl ?_); refine bx_ 21 #[.int .i64 0, .int .i64 0] 25 ?_; intro gb956 hg w134 hbox hb; replace HO908 := Aside0.mk (Kd.R_below (rv_ HO908) hb); have BK956 := Aside0.mk (hbox); have GW956 := gw_ hg (below_size (bv4_ HB GE909 GE918 GE948 GE953)); have GE956 := GW956; replace HB := Aside0.mk (below_step (bv4_ HB GE909 GE918 GE948 GE953) hb); have NB909_956 := nb_ hg (blk_lt (g := gb909) (o := .cells #[.int .i64 t904, .int .i64 t905] 25 (0, 0)) (kv_ BK909)); have NB956_909 := nc_ hg (blk_lt (g := gb909) (o := .cells #[.int .i64 t904, .int .i64 t905] 25 (0, 0)) (kv_ BK909)); replace BK909 := kb_ BK909 hb; have NB918_956 := nb_ hg (blk_lt (g := gb918) (o := .cells #[.int .i64 t913, .int .i64 t914] 25 (0, 0)) (kv_ BK918)); have NB956_918 := nc_ hg (blk_lt (g := gb918) (o := .cells #[.int .i64 t913, .int .i64 t914] 25 (0, 0)) (kv_ BK918)); replace BK918 := kb_ BK918 hb; have NB948_956 := nb_ hg (blk_lt (g := gb948) (o := .cells #[.int .i64 t944, .int .i64 t945] 25 (0, 0)) (kv_ BK948)); have NB956_948 := nc_ hg (blk_lt (g := gb948) (o := .cells #[.int .i64 t944, .int .i64 t945] 25 (0, 0)) (kv_ BK948)); replace BK948 := kb_ BK948 hb; have NB953_956 := nb_ hg (blk_lt (g := gb953) (o := .cells #[.int .i64 t949, .int .i64 t950] 25 (0, 0)) (kv_ BK953)); have NB956_953 := nc_ hg (blk_lt (g := gb953) (o := .cells #[.int .i64 t949, .int .i64 t950] 25 (0, 0)) (kv_ BK953)); replace BK953 := kb_ BK953 hb; clear hb hbox hg; have hnb135 := NB956_909.out; have hnc135 := NB909_956.out; have hnb136 := NB956_918.out; have hnc136 := NB918_956.out; have hnb137 := NB956_948.out; have hnc137 := NB948_956.out; have hnb138 := NB956_953.out; have hnc138 := NB953_956.out; obtain ⟨hcz139_0, hcz139_1, hfz139_0, hfz139_1⟩ := c2_ BK956))
          have n0_ : Aside0 (Kd.R (Kd.int .i64) 3 ((w134.setCell ⟨gb956, 0, none⟩ (.int .i64 t954)).setCell ⟨gb956, 1, none⟩ (.int .i64 t955)) w.heap.size (fun _ => True) (.slice Ao108 t906.length co108) t906) := ⟨by (with_reducible repeat (first | apply Kd.R_alloc | apply Kd.R_drewN | apply Kd.R_drew)); exact Kd.R_mono (Kd.R_far (p := ⟨gb956, 1, none⟩) (Kd.R_far (p := ⟨gb956, 0, none⟩) (Kd.R_types HO908.out BK956.out (by decide)) (fun _ hk => hk.2) (.int .i64 t954)) (fun _ hk => hk.2) (.int .i64 t955)) (fun _ hk => trivial)⟩
          have n1_ : Aside0 (((w134.setCell ⟨gb956, 0, none⟩ (.int .i64 t954)).setCell ⟨gb956, 1, none⟩ (.int .i64 t955)).heap[gb909]? = some (.cells #[.int .i64 t904, .int .i64 t905] 25 (0, 0))) := ⟨by (with_reducible repeat (first | refine blk_drewN ?_ _ | refine blk_drew ?_ | refine blk_alloc ?_ _)); refine blk_far ?_ NB909_956.out _; (with_reducible repeat (first | refine blk_drewN ?_ _ | refine blk_drew ?_ | refine blk_alloc ?_ _)); refine blk_far ?_ NB909_956.out _; (with_reducible repeat (first | refine blk_drewN ?_ _ | refine blk_drew ?_ | refine blk_alloc ?_ _)); exact BK909.out⟩
          have n2_ : Aside0 (((w134.setCell ⟨gb956, 0, none⟩ (.int .i64 t954)).setCell ⟨gb956, 1, none⟩ (.int .i64 t955)).heap[gb918]? = some (.cells #[.int .i64 t913, .int .i64 t914] 25 (0, 0))) := ⟨by (with_reducible repeat (first | refine blk_drewN ?_ _ | refine blk_drew ?_ | refine blk_alloc ?_ _)); refine blk_far ?_ NB918_956.out _; (with_reducible repeat (first | refine blk_drewN ?_ _ | refine blk_drew ?_ | refine blk_alloc ?_ _)); refine blk_far ?_ NB918_956.out _; (with_reducible repeat (first | refine blk_drewN ?_ _ | refine blk_drew ?_ | refine blk_alloc ?_ _)); exact BK918.out⟩
          have n3_ : Aside0 (((w134.setCell ⟨gb956, 0, none⟩ (.int .i64 t954)).setCell ⟨gb956, 1, none⟩ (.int .i64 t955)).heap[gb948]? = some (.cells #[.int .i64 t944, .int .i64 t945] 25 (0, 0))) := ⟨by (with_reducible repeat (first | refine blk_drewN ?_ _ | refine blk_drew ?_ | refine blk_alloc ?_ _)); refine blk_far ?_ NB948_956.out _; (with_reducible repeat (first | refine blk_drewN ?_ _ | refine blk_drew ?_ | refine blk_alloc ?_ _)); refine blk_far ?_ NB948_956.out _; (with_reducible repeat (first | refine blk_drewN ?_ _ | refine blk_drew ?_ | refine blk_alloc ?_ _)); exact BK948.out⟩
          have n4_ : Aside0 (((w134.setCell ⟨gb956, 0, none⟩ (.int .i64 t954)).setCell ⟨gb956, 1, none⟩ (.int .i64 t955)).heap[gb953]? = some (.cells #[.int .i64 t949, .int .i64 t950] 25 (0, 0))) := ⟨by (with_reducible repeat (first | refine blk_drewN ?_ _ | refine blk_drew ?_ | refine blk_alloc ?_ _)); refine blk_far ?_ NB953_956.out _; (with_reducible repeat (first | refine blk_drewN ?_ _ | refine blk_drew ?_ | refine blk_alloc ?_ _)); refine blk_far ?_ NB953_956.out _; (with_reducible repeat (first | refine blk_drewN ?_ _ | refine blk_drew ?_ | refine blk_alloc ?_ _)); exact BK953.out⟩
          have n5_ : Aside0 (((w134.setCell ⟨gb956, 0, none⟩ (.int .i64 t954)).setCell ⟨gb956, 1, none⟩ (.int .i64 t955)).heap[gb956]? = some (.cells #[.int .i64 t954, .int .i64 t955] 25 (0, 0))) := ⟨by (with_reducible repeat (first | refine blk_drewN ?_ _ | refine blk_drew ?_ | refine blk_alloc ?_ _)); refine blk_put (cs := #[.int .i64 t954, .int .i64 0]) ?_ 1 _ rfl; (with_reducible repeat (first | refine blk_drewN ?_ _ | refine blk_drew ?_ | refine blk_alloc ?_ _)); refine blk_put (cs := #[.int .i64 0, .int .i64 0]) ?_ 0 _ rfl; (with_reducible repeat (first | refine blk_drewN ?_ _ | refine blk_drew ?_ | refine blk_alloc ?_ _)); exact BK956.out⟩
          have n6_ : Aside0 (Below w.heap.size w ((w134.setCell ⟨gb956, 0, none⟩ (.int .i64 t954)).setCell ⟨gb956, 1, none⟩ (.int .i64 t955))) := ⟨bv5_ HB GE909 GE918 GE948 GE953 GE956⟩
          (try clear HO908)
          (try clear BK909)
          (try clear BK918)
          (try clear BK948)
          (try clear BK953)
          (try clear BK956)
          (try clear HB)
          generalize ((w134.setCell ⟨gb956, 0, none⟩ (.int .i64 t954)).setCell ⟨gb956, 1, none⟩ (.int .i64 t955)) = w140 at n0_ n1_ n2_ n3_ n4_ n5_ n6_ ⊢
          have HO908 := n0_
          have BK909 := n1_
          have BK918 := n2_
          have BK948 := n3_
          have BK953 := n4_
          have BK956 := n5_
          have HB := n6_
          clear n0_ n1_ n2_ n3_ n4_ n5_ n6_
          replace HO908 := Aside0.mk (Kd.R_drew HO908.out)
          replace BK909 := Aside0.mk (blk_drew BK909.out)
          replace BK918 := Aside0.mk (blk_drew BK918.out)
          replace BK948 := Aside0.mk (blk_drew BK948.out)
          replace BK953 := Aside0.mk (blk_drew BK953.out)
          replace BK956 := Aside0.mk (blk_drew BK956.out)
          replace HB := Aside0.mk (below_drew1 HB.out)
          refine start_ (n := 28) (S := fun w' => w'.cell? ⟨gb948, 0, none⟩ = some (.int .i64 t944) ∧ w'.cell? ⟨gb948, 1, none⟩ = some (.int .i64 t945) ∧ w'.cell? ⟨gb953, 0, none⟩ = some (.int .i64 t949) ∧ w'.cell? ⟨gb953, 1, none⟩ = some (.int .i64 t950) ∧ w'.cell? ⟨gb956, 0, none⟩ = some (.int .i64 t954) ∧ w'.cell? ⟨gb956, 1, none⟩ = some (.int .i64 t955)) (ds := []) (bs 28 0) (by kernel_rfl) rfl (by kernel_rfl) ⟨(blk_cell BK948.out 0).trans rfl, (blk_cell BK948.out 1).trans rfl, (blk_cell BK953.out 0).trans rfl, (blk_cell BK953.out 1).trans rfl, (blk_cell BK956.out 0).trans rfl, (blk_cell BK956.out 1).trans rfl⟩ (fun hHeld => ?_); refine with_tabW laws_FnAdversaries.tab23 laws_FnAdversaries.bits23 (fun HT_ HW_ => ?_)
          generalize w140.drew = w141 at HO908 BK909 BK918 BK948 BK953 BK956 HB hHeld ⊢
          refine pu_ HT_ 1 134 (bs 28 2) ?_
          refine pu_ HT_ 2 135 (bs 28 6) ?_
          refine pu_ HT_ 5 138 (bs 28 38) ?_
          refine pu_ HT_ 6 139 (bs 28 102) ?_
          refine ta6_ HT_ HW_ 0 133 (bs 28 103) hHeld ?_
          refine ta6_ HT_ HW_ 4 137 (bs 28 119) hHeld ?_
          refine on_ HT_ 3 136 (bs 28 127) (fun K hK => ?_)
          refine goes_ Try.func13 (by kernel_rfl) rfl #[.agg #[.int .i64 t944, .int .i64 t945], .int .i64 t946, .int .i64 t947] (by rfl) rfl rfl mp_ ?_
          with_reducible refine (impl_AskedOf.calls t944 t945 t946 t947 t957 _ A97.out).mono ?_
          rintro e w142 ⟨rfl, hb⟩
          refine ⟨_, rfl, ?_⟩
          replace HO908 := Aside0.mk (Kd.R_below (rv_ HO908) hb)
          replace BK909 := kb_ BK909 hb
          replace BK918 := kb_ BK918 hb
          replace BK948 := kb_ BK948 hb
          replace BK953 := kb_ BK953 hb
          replace BK956 := kb_ BK956 hb
          replace HB := Aside0.mk (below_step (bv5_ HB GE909 GE918 GE948 GE953 GE956) hb)
          (try clear hb)
          (try clear hb2)
          (try clear hk)
          (try clear hi)
          refine hK.out _ _ ⟨(blk_cell BK948.out 0).trans rfl, (blk_cell BK948.out 1).trans rfl, (blk_cell BK953.out 0).trans rfl, (blk_cell BK953.out 1).trans rfl, (blk_cell BK956.out 0).trans rfl, (blk_cell BK956.out 1).trans rfl⟩ (fun hHeld => ?_)
          clear hK K
          refine no_ 136 ?_
          refine on_ HT_ 7 140 (bs 28 255) (fun K hK => ?_)
          refine goes_ Try.func17 (by kernel_rfl) rfl #[.agg #[.int .i64 t944, .int .i64 t945], .int .i64 t946, .int .i64 t947] (by rfl) rfl rfl mp_ ?_
          with_reducible refine (spec_AskedOf.calls k t944 t945 t946 t947 t958 _ A98.out).mono ?_
          rintro e w143 ⟨rfl, hb⟩
          refine ⟨_, rfl, ?_⟩
          replace HO908 := Aside0.mk (Kd.R_below (rv_ HO908) hb)
          replace BK909 := kb_ BK909 hb
          replace BK918 := kb_ BK918 hb
          replace BK948 := kb_ BK948 hb
          replace BK953 := kb_ BK953 hb
          replace BK956 := kb_ BK956 hb
          replace HB := Aside0.mk (below_step (bv5_ HB GE909 GE918 GE948 GE953 GE956) hb)
          (try clear hb)
          (try clear hb2)
          (try clear hk)
          (try clear hi)
          refine hK.out _ _ ⟨(blk_cell BK948.out 0).trans rfl, (blk_cell BK948.out 1).trans rfl, (blk_cell BK953.out 0).trans rfl, (blk_cell BK953.out 1).trans rfl, (blk_cell BK956.out 0).trans rfl, (blk_cell BK956.out 1).trans rfl⟩ (fun hHeld => ?_)
          clear hK K
          refine no_ 140 ?_
          refine pu_ HT_ 8 141 (bs 28 511) ?_
          refine pu_ HT_ 9 142 (bs 28 1023) ?_
          refine pu_ HT_ 11 144 (bs 28 3071) ?_
          refine pu_ HT_ 12 145 (bs 28 7167) ?_
          refine pu_ HT_ 15 148 (bs 28 39935) ?_
          refine pu_ HT_ 16 149 (bs 28 105471) ?_
          refine ta6_ HT_ HW_ 10 143 (bs 28 106495) hHeld ?_
          refine ta6_ HT_ HW_ 14 147 (bs 28 122879) hHeld ?_
          refine on_ HT_ 13 146 (bs 28 131071) (fun K hK => ?_)
          refine goes_ Try.func12 (by kernel_rfl) rfl #[.agg #[.int .i64 t949, .int .i64 t950], .int .i64 t951, .int .i64 t952] (by rfl) rfl rfl mp_ ?_
          with_reducible refine (impl_ForcedLeft.calls t949 t950 t951 t952 t959 _ A100.out).mono ?_
          rintro e w144 ⟨rfl, hb⟩
          refine ⟨_, rfl, ?_⟩
          replace HO908 := Aside0.mk (Kd.R_below (rv_ HO908) hb)
          replace BK909 := kb_ BK909 hb
          replace BK918 := kb_ BK918 hb
          replace BK948 := kb_ BK948 hb
          replace BK953 := kb_ BK953 hb
          replace BK956 := kb_ BK956 hb
          replace HB := Aside0.mk (below_step (bv5_ HB GE909 GE918 GE948 GE953 GE956) hb)
          (try clear hb)
          (try clear hb2)
          (try clear hk)
          (try clear hi)
          refine hK.out _ _ ⟨(blk_cell BK948.out 0).trans rfl, (blk_cell BK948.out 1).trans rfl, (blk_cell BK953.out 0).trans rfl, (blk_cell BK953.out 1).trans rfl, (blk_cell BK956.out 0).trans rfl, (blk_cell BK956.out 1).trans rfl⟩ (fun hHeld => ?_)
          clear hK K
          refine no_ 146 ?_
          refine on_ HT_ 17 150 (bs 28 262143) (fun K hK => ?_)
          refine goes_ Try.func18 (by kernel_rfl) rfl #[.agg #[.int .i64 t949, .int .i64 t950], .int .i64 t951, .int .i64 t952] (by rfl) rfl rfl mp_ ?_
          with_reducible refine (spec_ForcedLeft.calls k t949 t950 t951 t952 t960 _ A101.out).mono ?_
          rintro e w145 ⟨rfl, hb⟩
          refine ⟨_, rfl, ?_⟩
          replace HO908 := Aside0.mk (Kd.R_below (rv_ HO908) hb)
          replace BK909 := kb_ BK909 hb
          replace BK918 := kb_ BK918 hb
          replace BK948 := kb_ BK948 hb
          replace BK953 := kb_ BK953 hb
          replace BK956 := kb_ BK956 hb
          replace HB := Aside0.mk (below_step (bv5_ HB GE909 GE918 GE948 GE953 GE956) hb)
          (try clear hb)
          (try clear hb2)
          (try clear hk)
          (try clear hi)
          refine hK.out _ _ ⟨(blk_cell BK948.out 0).trans rfl, (blk_cell BK948.out 1).trans rfl, (blk_cell BK953.out 0).trans rfl, (blk_cell BK953.out 1).trans rfl, (blk_cell BK956.out 0).trans rfl, (blk_cell BK956.out 1).trans rfl⟩ (fun hHeld => ?_)
          clear hK K
          refine no_ 150 ?_
          refine pu_ HT_ 18 151 (bs 28 524287) ?_
          refine pu_ HT_ 19 152 (bs 28 1048575) ?_
          refine pu_ HT_ 20 153 (bs 28 2097151) ?_
          refine ta6_ HT_ HW_ 21 154 (bs 28 4194303) hHeld ?_
          refine ta6_ HT_ HW_ 23 156 (bs 28 12582911) hHeld ?_
          refine on_ HT_ 22 155 (bs 28 16777215) (fun K hK => ?_)
          refine goes_ Try.func19 (by kernel_rfl) rfl #[.agg #[.int .i64 t954, .int .i64 t955]] (by rfl) rfl rfl mp_ ?_
          with_reducible refine (impl_IsEvasive.calls t954 t955 t961 _ A103.out).mono ?_
          rintro e w146 ⟨rfl, hb⟩
          refine ⟨_, rfl, ?_⟩
          replace HO908 := Aside0.mk (Kd.R_below (rv_ HO908) hb)
          replace BK909 := kb_ BK909 hb
          replace BK918 := kb_ BK918 hb
          replace BK948 := kb_ BK948 hb
          replace BK953 := kb_ BK953 hb
          replace BK956 := kb_ BK956 hb
          replace HB := Aside0.mk (below_step (bv5_ HB GE909 GE918 GE948 GE953 GE956) hb)
          (try clear hb)
          (try clear hb2)
          (try clear hk)
          (try clear hi)
          refine hK.out _ _ ⟨(blk_cell BK948.out 0).trans rfl, (blk_cell BK948.out 1).trans rfl, (blk_cell BK953.out 0).trans rfl, (blk_cell BK953.out 1).trans rfl, (blk_cell BK956.out 0).trans rfl, (blk_cell BK956.out 1).trans rfl⟩ (fun hHeld => ?_)
          clear hK K
          refine no_ 155 ?_
          refine on_ HT_ 24 157 (bs 28 33554431) (fun K hK => ?_)
          refine goes_ Try.func20 (by kernel_rfl) rfl #[.agg #[.int .i64 t954, .int .i64 t955]] (by rfl) rfl rfl mp_ ?_
          with_reducible refine (spec_IsEvasive.calls k t954 t955 t962 _ A104.out).mono ?_
          rintro e w147 ⟨rfl, hb⟩
          refine ⟨_, rfl, ?_⟩
          replace HO908 := Aside0.mk (Kd.R_below (rv_ HO908) hb)
          replace BK909 := kb_ BK909 hb
          replace BK918 := kb_ BK918 hb
          replace BK948 := kb_ BK948 hb
          replace BK953 := kb_ BK953 hb
          replace BK956 := kb_ BK956 hb
          replace HB := Aside0.mk (below_step (bv5_ HB GE909 GE918 GE948 GE953 GE956) hb)
          (try clear hb)
          (try clear hb2)
          (try clear hk)
          (try clear hi)
          refine hK.out _ _ ⟨(blk_cell BK948.out 0).trans rfl, (blk_cell BK948.out 1).trans rfl, (blk_cell BK953.out 0).trans rfl, (blk_cell BK953.out 1).trans rfl, (blk_cell BK956.out 0).trans rfl, (blk_cell BK956.out 1).trans rfl⟩ (fun hHeld => ?_)
          clear hK K
          refine no_ 157 ?_
          refine pu_ HT_ 25 158 (bs 28 67108863) ?_
          refine pu_ HT_ 26 159 (bs 28 134217727) ?_
          refine pu_ HT_ 27 2 (bs 28 268435455) ?_
          refine done_ (done_of HT_.out (by kernel_rfl)) ?_
          try go_wp2
          go_ret
          exact ⟨by first | rfl | (simp [errW_none, errW_some] <;> rfl) | (simp [*, errW_none, errW_some] <;> rfl), bv5_ HB GE909 GE918 GE948 GE953 GE956⟩
         ·rw [if_neg c102] at H
          exact absurd H (by simp)
        ·rw [if_neg c99] at H
         exact absurd H (by simp)
      ·rw [if_neg c15] at H
       exact absurd H (by simp)
   ·rw [if_neg c8] at H
    have c8b0 : decide (0 ≤ t910) = false := decide_eq_false c8
    clear c8
    replace H := Option.bind_eq_some_iff.mp H
    obtain ⟨⟨t963, t964, t965, t966, t967⟩, A1480, H⟩ := H
    dsimp only at H
    have A148 := Aside0.mk A1480
    clear A1480
    replace H := Option.bind_eq_some_iff.mp H
    obtain ⟨t969, A1490, H⟩ := H
    have A149 := Aside0.mk A1490
    clear A1490
    replace H := Option.bind_eq_some_iff.mp H
    obtain ⟨t970, A1500, H⟩ := H
    have A150 := Aside0.mk A1500
    clear A1500
    by_cases c151 : t969 = t970
    ·rw [if_pos c151] at H
     have c151b0 : (t969 == t970) = true := beq_iff_eq.mpr c151
     have c151b1 : (t969 != t970) = false := bne_eq_false_iff_eq.mpr c151
     clear c151
     by_cases c152 : t969 ≥ 0
     ·rw [if_pos c152] at H
      have c152b0 : decide (0 ≤ t969) = true := decide_eq_true c152
      clear c152
      replace H := Option.bind_eq_some_iff.mp H
      obtain ⟨t971, A1530, H⟩ := H
      have A153 := Aside0.mk A1530
      clear A1530
      by_cases c154 : 0 ≤ t967
      ·rw [if_pos c154] at H
       have c154b0 := eq_true c154
       have c154b1 : decide (0 ≤ t967) = true := decide_eq_true c154
       clear c154
       obtain ⟨ji155, hji155⟩ : ∃ j_ : Int, (shl .i64 1 t967) = j_ := ⟨_, rfl⟩
       replace H : ((impl_ForcedLeft.f t963 t964 (Go.bits .or .i64 t965 (ji155)) (Go.bits .or .i64 t966 (shl .i64 t969 t967))).bind fun t972 => ((impl_ForcedLeft.f t963 t964 (Go.bits .or .i64 t965 (ji155)) (Go.bits .or .i64 t966 (shl .i64 (wrap64 (1 - t969)) t967))).bind fun t973 => (if t972 < (wrap64 (t971 - 1)) then (none) else (if t973 > t972 then (none) else ((impl_AskedOf.f t963 t964 t965 t966).bind fun t974 => (if ((decide (t974 < 0)) != (t971 == 0)) = true then (none) else ((spec_DrawAskedOf.f k l0).bind fun bt975 => ((spec_DrawForcedLeft.f k l0).bind fun bt980 => ((spec_DrawIsEvasive.f k l0).bind fun bt985 => ((impl_AskedOf.f bt975.1 bt975.2.1 bt975.2.2.1 bt975.2.2.2).bind fun t988 => ((spec_AskedOf.f k bt975.1 bt975.2.1 bt975.2.2.1 bt975.2.2.2).bind fun t989 => (if t988 = t989 then ((impl_ForcedLeft.f bt980.1 bt980.2.1 bt980.2.2.1 bt980.2.2.2).bind fun t990 => ((spec_ForcedLeft.f k bt980.1 bt980.2.1 bt980.2.2.1 bt980.2.2.2).bind fun t991 => (if t990 = t991 then ((impl_IsEvasive.f bt985.1 bt985.2).bind fun t992 => ((spec_IsEvasive.f k bt985.1 bt985.2).bind fun t993 => (some (t992 == t993)))) else (none)))) else (none))))))))))))) = some r := by first | (rw [hji155] at H; exact H) | (simp only [hji155] at H ⊢; exact H)
       (try rw [hji155] at A2)
       (try rw [hji155] at A4)
       (try rw [hji155] at A5)
       (try rw [hji155] at A6)
       (try rw [hji155] at A148)
       (try rw [hji155] at A149)
       (try rw [hji155] at A150)
       (try rw [hji155] at A153)
       have hji155_ : (IntKind.i64.wrap (1 * 2 ^ min t967.toNat 64)) = ji155 := hji155
       have hji155z : t967 ≤ 64 → (IntKind.i64.wrap (1 * 2 ^ t967.toNat)) = ji155 := shl_small hji155
       have hji155u : (IntKind.i64.wrap (2 ^ min t967.toNat 64)) = ji155 := by have h_ := hji155_; rw [Int.one_mul] at h_; exact h_
       have hji155v : t967 ≤ 64 → (IntKind.i64.wrap (2 ^ t967.toNat)) = ji155 := fun hle_ => by have h_ := hji155z hle_; rw [Int.one_mul] at h_; exact h_
       have hji155y : (wrap64 (1 * 2 ^ min t967.toNat 64)) = ji155 := (i64_w _).symm.trans hji155_
       have hji155x : t967 ≤ 64 → (wrap64 (1 * 2 ^ t967.toNat)) = ji155 := fun h_ => (i64_w _).symm.trans (hji155z h_)
       have c156b0 := eq_true (of_decide_eq_true (by first | (with_reducible assumption) | assumption) : 0 ≤ t967)
       obtain ⟨ji157, hji157⟩ : ∃ j_ : Int, (shl .i64 t969 t967) = j_ := ⟨_, rfl⟩
       replace H : ((impl_ForcedLeft.f t963 t964 (Go.bits .or .i64 t965 (ji155)) (Go.bits .or .i64 t966 (ji157))).bind fun t972 => ((impl_ForcedLeft.f t963 t964 (Go.bits .or .i64 t965 (ji155)) (Go.bits .or .i64 t966 (shl .i64 (wrap64 (1 - t969)) t967))).bind fun t973 => (if t972 < (wrap64 (t971 - 1)) then (none) else (if t973 > t972 then (none) else ((impl_AskedOf.f t963 t964 t965 t966).bind fun t974 => (if ((decide (t974 < 0)) != (t971 == 0)) = true then (none) else ((spec_DrawAskedOf.f k l0).bind fun bt975 => ((spec_DrawForcedLeft.f k l0).bind fun bt980 => ((spec_DrawIsEvasive.f k l0).bind fun bt985 => ((impl_AskedOf.f bt975.1 bt975.2.1 bt975.2.2.1 bt975.2.2.2).bind fun t988 => ((spec_AskedOf.f k bt975.1 bt975.2.1 bt975.2.2.1 bt975.2.2.2).bind fun t989 => (if t988 = t989 then ((impl_ForcedLeft.f bt980.1 bt980.2.1 bt980.2.2.1 bt980.2.2.2).bind fun t990 => ((spec_ForcedLeft.f k bt980.1 bt980.2.1 bt980.2.2.1 bt980.2.2.2).bind fun t991 => (if t990 = t991 then ((impl_IsEvasive.f bt985.1 bt985.2).bind fun t992 => ((spec_IsEvasive.f k bt985.1 bt985.2).bind fun t993 => (some (t992 == t993)))) else (none)))) else (none))))))))))))) = some r := by first | (rw [hji157] at H; exact H) | (simp only [hji157] at H ⊢; exact H)
       (try rw [hji157] at A2)
       (try rw [hji157] at A4)
       (try rw [hji157] at A5)
       (try rw [hji157] at A6)
       (try rw [hji157] at A148)
       (try rw [hji157] at A149)
       (try rw [hji157] at A150)
       (try rw [hji157] at A153)
       have hji157_ : (IntKind.i64.wrap (t969 * 2 ^ min t967.toNat 64)) = ji157 := hji157
       have hji157z : t967 ≤ 64 → (IntKind.i64.wrap (t969 * 2 ^ t967.toNat)) = ji157 := shl_small hji157
       have hji157y : (wrap64 (t969 * 2 ^ min t967.toNat 64)) = ji157 := (i64_w _).symm.trans hji157_
       have hji157x : t967 ≤ 64 → (wrap64 (t969 * 2 ^ t967.toNat)) = ji157 := fun h_ => (i64_w _).symm.trans (hji157z h_)
       replace H := Option.bind_eq_some_iff.mp H
       obtain ⟨t972, A1580, H⟩ := H
       have A158 := Aside0.mk A1580
       clear A1580
       have c159b0 := eq_true (of_decide_eq_true (by first | (with_reducible assumption) | assumption) : 0 ≤ t967)
       have c161b0 := eq_true (of_decide_eq_true (by first | (with_reducible assumption) | assumption) : 0 ≤ t967)
       obtain ⟨ji162, hji162⟩ : ∃ j_ : Int, (shl .i64 (wrap64 (1 - t969)) t967) = j_ := ⟨_, rfl⟩
       replace H : ((impl_ForcedLeft.f t963 t964 (Go.bits .or .i64 t965 (ji155)) (Go.bits .or .i64 t966 (ji162))).bind fun t973 => (if t972 < (wrap64 (t971 - 1)) then (none) else (if t973 > t972 then (none) else ((impl_AskedOf.f t963 t964 t965 t966).bind fun t974 => (if ((decide (t974 < 0)) != (t971 == 0)) = true then (none) else ((spec_DrawAskedOf.f k l0).bind fun bt975 => ((spec_DrawForcedLeft.f k l0).bind fun bt980 => ((spec_DrawIsEvasive.f k l0).bind fun bt985 => ((impl_AskedOf.f bt975.1 bt975.2.1 bt975.2.2.1 bt975.2.2.2).bind fun t988 => ((spec_AskedOf.f k bt975.1 bt975.2.1 bt975.2.2.1 bt975.2.2.2).bind fun t989 => (if t988 = t989 then ((impl_ForcedLeft.f bt980.1 bt980.2.1 bt980.2.2.1 bt980.2.2.2).bind fun t990 => ((spec_ForcedLeft.f k bt980.1 bt980.2.1 bt980.2.2.1 bt980.2.2.2).bind fun t991 => (if t990 = t991 then ((impl_IsEvasive.f bt985.1 bt985.2).bind fun t992 => ((spec_IsEvasive.f k bt985.1 bt985.2).bind fun t993 => (some (t992 == t993)))) else (none)))) else (none)))))))))))) = some r := by first | (rw [hji162] at H; exact H) | (simp only [hji162] at H ⊢; exact H)
       (try rw [hji162] at A2)
       (try rw [hji162] at A4)
       (try rw [hji162] at A5)
       (try rw [hji162] at A6)
       (try rw [hji162] at A148)
       (try rw [hji162] at A149)
       (try rw [hji162] at A150)
       (try rw [hji162] at A153)
       (try rw [hji162] at A158)
       have hji162_ : (IntKind.i64.wrap ((wrap64 (1 - t969)) * 2 ^ min t967.toNat 64)) = ji162 := hji162
       have hji162z : t967 ≤ 64 → (IntKind.i64.wrap ((wrap64 (1 - t969)) * 2 ^ t967.toNat)) = ji162 := shl_small hji162
       have hji162y : (wrap64 ((wrap64 (1 - t969)) * 2 ^ min t967.toNat 64)) = ji162 := (i64_w _).symm.trans hji162_
       have hji162x : t967 ≤ 64 → (wrap64 ((wrap64 (1 - t969)) * 2 ^ t967.toNat)) = ji162 := fun h_ => (i64_w _).symm.trans (hji162z h_)
       replace H := Option.bind_eq_some_iff.mp H
       obtain ⟨t973, A1630, H⟩ := H
       have A163 := Aside0.mk A1630
       clear A1630
       by_cases c164 : t972 < (wrap64 (t971 - 1))
       ·rw [if_pos c164] at H
        exact absurd H (by simp)
       ·rw [if_neg c164] at H
        have c164b0 : decide (t972 < (wrap64 (t971 - 1))) = false := decide_eq_false c164
        clear c164
        by_cases c165 : t973 > t972
        ·rw [if_pos c165] at H
         exact absurd H (by simp)
        ·rw [if_neg c165] at H
         have c165b0 : decide (t972 < t973) = false := decide_eq_false c165
         clear c165
         replace H := Option.bind_eq_some_iff.mp H
         obtain ⟨t974, A1660, H⟩ := H
         have A166 := Aside0.mk A1660
         clear A1660
         by_cases c167 : ((decide (t974 < 0)) != (t971 == 0)) = true
         ·rw [if_pos c167] at H
          exact absurd H (by simp)
         ·rw [if_neg c167] at H
          have c167b0 : ((decide (t974 < 0)) != (t971 == 0)) = false := by simpa using c167
          (try (have c167b1 : decide ((decide (t974 < 0)) = (t971 == 0)) = true := by simpa using c167))
          (try (have c167b2 : ((decide (t974 < 0)) == (t971 == 0)) = true := by simpa using c167))
          clear c167
          replace H := Option.bind_eq_some_iff.mp H
          obtain ⟨⟨t975, t976, t977, t978⟩, A1680, H⟩ := H
          dsimp only at H
          have A168 := Aside0.mk A1680
          clear A1680
          replace H := Option.bind_eq_some_iff.mp H
          obtain ⟨⟨t980, t981, t982, t983⟩, A1690, H⟩ := H
          dsimp only at H
          have A169 := Aside0.mk A1690
          clear A1690
          replace H := Option.bind_eq_some_iff.mp H
          obtain ⟨⟨t985, t986⟩, A1700, H⟩ := H
          dsimp only at H
          have A170 := Aside0.mk A1700
          clear A1700
          replace H := Option.bind_eq_some_iff.mp H
          obtain ⟨t988, A1710, H⟩ := H
          have A171 := Aside0.mk A1710
          clear A1710
          replace H := Option.bind_eq_some_iff.mp H
          obtain ⟨t989, A1720, H⟩ := H
          have A172 := Aside0.mk A1720
          clear A1720
          by_cases c173 : t988 = t989
          ·rw [if_pos c173] at H
           have c173b0 : (t988 == t989) = true := beq_iff_eq.mpr c173
           have c173b1 : (t988 != t989) = false := bne_eq_false_iff_eq.mpr c173
           clear c173
           replace H := Option.bind_eq_some_iff.mp H
           obtain ⟨t990, A1740, H⟩ := H
           have A174 := Aside0.mk A1740
           clear A1740
           replace H := Option.bind_eq_some_iff.mp H
           obtain ⟨t991, A1750, H⟩ := H
           have A175 := Aside0.mk A1750
           clear A1750
           by_cases c176 : t990 = t991
           ·rw [if_pos c176] at H
            have c176b0 : (t990 == t991) = true := beq_iff_eq.mpr c176
            have c176b1 : (t990 != t991) = false := bne_eq_false_iff_eq.mpr c176
            clear c176
            replace H := Option.bind_eq_some_iff.mp H
            obtain ⟨t992, A1770, H⟩ := H
            have A177 := Aside0.mk A1770
            clear A1770
            replace H := Option.bind_eq_some_iff.mp H
            obtain ⟨t993, A1780, H⟩ := H
            have A178 := Aside0.mk A1780
            clear A1780
            obtain rfl := Option.some.inj H
            go_enter Try.func3, Try.ntmps3
            try go_wp2_with (first | ((with_reducible refine gate_callee (f := 4) rfl ?_); refine gl_ 23 Try.func4 #[.slice A0 l0.length c0] rfl mp_ ?_; (with_reducible refine (laws_big.calls _ _ l0 false _ ?side1 ?side2 A2.out).mono ?_); (case side1 => exact cv_ HR0.out); (case side2 => exact HC0.out); rintro e w' ⟨rfl, ⟨nd, rfl⟩⟩; refine ⟨_, rfl, ?_⟩) | ((with_reducible refine gate_callee (f := 5) rfl ?_); refine gl_ 26 Try.func5 #[.slice A0 l0.length c0] rfl mp_ ?_; (with_reducible refine (spec_DrawPlayAgainst.calls k _ _ l0 t904 t905 t906 _ ?side1 ?side2 A4.out).mono ?_); (case side1 => exact cv_ HR0.out); (case side2 => exact HC0.out); rintro e w179 ⟨v907, rfl, ho0, hb⟩; refine ⟨_, rfl, ?_⟩; have HO908 := Aside0.mk (Kd.R_lower ho0 (below_size (bv_ HB))); replace HB := Aside0.mk (below_step (bv_ HB) hb); (try clear hb); (try clear hb2); (try clear hk); (try clear hi); (try clear ho0)) | ((with_reducible refine gate_dst (N := 3) rfl ?_); refine bx_ 3 #[.int .i64 0, .int .i64 0] 25 ?_; intro gb909 hg w180 hbox hb; replace HO908 := Aside0.mk (Kd.R_below (rv_ HO908) hb); have BK909 := Aside0.mk (hbox); have GW909 := gw_ hg (below_size (bv_ HB)); have GE909 := GW909; replace HB := Aside0.mk (below_step (bv_ HB) hb); clear hb hbox hg; obtain ⟨hcz181_0, hcz181_1, hfz181_0, hfz181_1⟩ := c2_ BK909; obtain ⟨Ao182, co182, eo182⟩ := Kd.R_slice HO908.out; subst eo182) | ((with_reducible refine gate_callee (f := 6) rfl ?_); refine gl_ 31 Try.func6 #[.agg #[.int .i64 t904, .int .i64 t905], .slice Ao182 t906.length co182] rfl mp_ ?_; (with_reducible refine (impl_PlayAgainst.calls k t904 t905 _ _ t906 t910 _ ?side1 ?side2 A5.out).mono ?_); (case side1 => refine (Kd.R_reads' (e := 3) (base := w.heap.size) (ok := fun k_ => True) (n := t906.length) (c := co182) ?_).2.2; exact (by (with_reducible repeat (first | apply Kd.R_alloc | apply Kd.R_drewN | apply Kd.R_drew)); exact (Kd.R_mono (Kd.R_far (p := ⟨gb909, 1, none⟩) (Kd.R_far (p := ⟨gb909, 0, none⟩) (Kd.R_types HO908.out BK909.out (by decide)) (fun _ hk => hk.2) (.int .i64 t904)) (fun _ hk => hk.2) (.int .i64 t905)) (fun _ h_ => h_.1)))); (case side2 => exact (Kd.R_reads' HO908.out).2.1); rintro e w183 ⟨rfl, hb⟩; refine ⟨_, rfl, ?_⟩; replace HO908 := Aside0.mk (Kd.R_below (by (with_reducible repeat (first | apply Kd.R_alloc | apply Kd.R_drewN | apply Kd.R_drew)); exact (Kd.R_mono (Kd.R_far (p := ⟨gb909, 1, none⟩) (Kd.R_far (p := ⟨gb909, 0, none⟩) (Kd.R_types HO908.out BK909.out (by decide)) (fun _ hk => hk.2) (.int .i64 t904)) (fun _ hk => hk.2) (.int .i64 t905)) (fun _ h_ => h_.1))) hb); replace BK909 := Aside0.mk (blk_below (g := gb909) (o := .cells #[.int .i64 t904, .int .i64 t905] 25 (0, 0)) (by (with_reducible repeat (first | refine blk_drewN ?_ _ | refine blk_drew ?_ | refine blk_alloc ?_ _)); refine blk_put (cs := #[.int .i64 t904, .int .i64 0]) ?_ 1 _ rfl; (with_reducible repeat (first | refine blk_drewN ?_ _ | refine blk_drew ?_ | refine blk_alloc ?_ _)); refine blk_put (cs := #[.int .i64 0, .int .i64 0]) ?_ 0 _ rfl; (with_reducible repeat (first | refine blk_drewN ?_ _ | refine blk_drew ?_ | refine blk_alloc ?_ _)); exact BK909.out) hb); replace HB := Aside0.mk (below_step (bv1_ HB GE909) hb); (try clear hb); (try clear hb2); (try clear hk); (try clear hi); obtain ⟨hcz184_0, hcz184_1, hfz184_0, hfz184_1⟩ := c2_ BK909) | ((with_reducible refine gate_callee (f := 7) rfl ?_); refine gl_ 35 Try.func7 #[.agg #[.int .i64 t904, .int .i64 t905], .slice Ao182 t906.length co182] rfl mp_ ?_; (with_reducible refine (spec_PlayAgainst.calls k t904 t905 _ _ t906 t911 _ ?side1 ?side2 A6.out).mono ?_); (case side1 => repeat (first | exact (Kd.R_reads' HO908.out).2.2 | (with_reducible refine Kd.C_alloc ?_ _) | (with_reducible refine Kd.C_drewN ?_ _) | (with_reducible refine Kd.C_drew ?_))); (case side2 => exact (Kd.R_reads' HO908.out).2.1); rintro e w185 ⟨rfl, hb⟩; refine ⟨_, rfl, ?_⟩; replace HO908 := Aside0.mk (Kd.R_below (rv_ HO908) hb); replace BK909 := kb_ BK909 hb; replace HB := Aside0.mk (below_step (bv1_ HB GE909) hb); (try clear hb); (try clear hb2); (try clear hk); (try clear hi)) | ((with_reducible refine gate_callee (f := 9) rfl ?_); refine gl_ 55 Try.func9 #[.slice A0 l0.length c0] rfl mp_ ?_; (with_reducible refine (spec_DrawAdversaryAnswer.calls k _ _ l0 t963 t964 t965 t966 t967 _ ?side1 ?side2 A148.out).mono ?_); (case side1 => exact cv_ (Kd.C_below HR0.out HB.out)); (case side2 => exact HC0.out); rintro e w186 ⟨rfl, hb⟩; refine ⟨_, rfl, ?_⟩; replace HO908 := Aside0.mk (Kd.R_below (rv_ HO908) hb); replace BK909 := kb_ BK909 hb; replace HB := Aside0.mk (below_step (bv1_ HB GE909) hb); (try clear hb); (try clear hb2); (try clear hk); (try clear hi)) | ((with_reducible refine gate_dst (N := 6) rfl ?_); refine bx_ 6 #[.int .i64 0, .int .i64 0] 25 ?_; intro gb968 hg w187 hbox hb; replace HO908 := Aside0.mk (Kd.R_below (rv_ HO908) hb); have BK968 := Aside0.mk (hbox); have GW968 := gw_ hg (below_size (bv1_ HB GE909)); have GE968 := GW968; replace HB := Aside0.mk (below_step (bv1_ HB GE909) hb); have NB909_968 := nb_ hg (blk_lt (g := gb909) (o := .cells #[.int .i64 t904, .int .i64 t905] 25 (0, 0)) (kv_ BK909)); have NB968_909 := nc_ hg (blk_lt (g := gb909) (o := .cells #[.int .i64 t904, .int .i64 t905] 25 (0, 0)) (kv_ BK909)); replace BK909 := kb_ BK909 hb; clear hb hbox hg; have hnb188 := NB968_909.out; have hnc188 := NB909_968.out; obtain ⟨hcz189_0, hcz189_1, hfz189_0, hfz189_1⟩ := c2_ BK968) | ((with_reducible refine gate_callee (f := 10) rfl ?_); refine gl_ 64 Try.func10 #[.agg #[.int .i64 t963, .int .i64 t964], .int .i64 t965, .int .i64 t966, .int .i64 t967] rfl mp_ ?_; (with_reducible refine (impl_AdversaryAnswer.calls t963 t964 t965 t966 t967 t969 _ A149.out).mono ?_); rintro e w190 ⟨rfl, hb⟩; refine ⟨_, rfl, ?_⟩; replace HO908 := Aside0.mk (Kd.R_below (by (with_reducible repeat (first | apply Kd.R_alloc | apply Kd.R_drewN | apply Kd.R_drew)); exact (Kd.R_mono (Kd.R_far (p := ⟨gb968, 1, none⟩) (Kd.R_far (p := ⟨gb968, 0, none⟩) (Kd.R_types HO908.out BK968.out (by decide)) (fun _ hk => hk.2) (.int .i64 t963)) (fun _ hk => hk.2) (.int .i64 t964)) (fun _ h_ => h_.1))) hb); replace BK909 := Aside0.mk (blk_below (g := gb909) (o := .cells #[.int .i64 t904, .int .i64 t905] 25 (0, 0)) (by (with_reducible repeat (first | refine blk_drewN ?_ _ | refine blk_drew ?_ | refine blk_alloc ?_ _)); refine blk_far ?_ NB909_968.out _; (with_reducible repeat (first | refine blk_drewN ?_ _ | refine blk_drew ?_ | refine blk_alloc ?_ _)); refine blk_far ?_ NB909_968.out _; (with_reducible repeat (first | refine blk_drewN ?_ _ | refine blk_drew ?_ | refine blk_alloc ?_ _)); exact BK909.out) hb); replace BK968 := Aside0.mk (blk_below (g := gb968) (o := .cells #[.int .i64 t963, .int .i64 t964] 25 (0, 0)) (by (with_reducible repeat (first | refine blk_drewN ?_ _ | refine blk_drew ?_ | refine blk_alloc ?_ _)); refine blk_put (cs := #[.int .i64 t963, .int .i64 0]) ?_ 1 _ rfl; (with_reducible repeat (first | refine blk_drewN ?_ _ | refine blk_drew ?_ | refine blk_alloc ?_ _)); refine blk_put (cs := #[.int .i64 0, .int .i64 0]) ?_ 0 _ rfl; (with_reducible repeat (first | refine blk_drewN ?_ _ | refine blk_drew ?_ | refine blk_alloc ?_ _)); exact BK968.out) hb); replace HB := Aside0.mk (below_step (bv2_ HB GE909 GE968) hb); (try clear hb); (try clear hb2); (try clear hk); (try clear hi); obtain ⟨hcz191_0, hcz191_1, hfz191_0, hfz191_1⟩ := c2_ BK968) | ((with_reducible refine gate_callee (f := 11) rfl ?_); refine gl_ 70 Try.func11 #[.agg #[.int .i64 t963, .int .i64 t964], .int .i64 t965, .int .i64 t966, .int .i64 t967] rfl mp_ ?_; (with_reducible refine (spec_AdversaryAnswer.calls k t963 t964 t965 t966 t967 t970 _ A150.out).mono ?_); rintro e w192 ⟨rfl, hb⟩; refine ⟨_, rfl, ?_⟩; replace HO908 := Aside0.mk (Kd.R_below (rv_ HO908) hb); replace BK909 := kb_ BK909 hb; replace BK968 := kb_ BK968 hb; replace HB := Aside0.mk (below_step (bv2_ HB GE909 GE968) hb); (try clear hb); (try clear hb2); (try clear hk); (try clear hi); obtain ⟨hcz193_0, hcz193_1, hfz193_0, hfz193_1⟩ := c2_ BK968) | ((with_reducible refine gate_callee (f := 12) rfl ?_); refine gl_ 77 Try.func12 #[.agg #[.int .i64 t963, .int .i64 t964], .int .i64 t965, .int .i64 t966] rfl mp_ ?_; (with_reducible refine (impl_ForcedLeft.calls t963 t964 t965 t966 t971 _ A153.out).mono ?_); rintro e w194 ⟨rfl, hb⟩; refine ⟨_, rfl, ?_⟩; replace HO908 := Aside0.mk (Kd.R_below (rv_ HO908) hb); replace BK909 := kb_ BK909 hb; replace BK968 := kb_ BK968 hb; replace HB := Aside0.mk (below_step (bv2_ HB GE909 GE968) hb); (try clear hb); (try clear hb2); (try clear hk); (try clear hi)))
            replace HO908 := Aside0.mk (Kd.R_drew HO908.out)
            replace BK909 := Aside0.mk (blk_drew BK909.out)
            replace BK968 := Aside0.mk (blk_drew BK968.out)
            replace HB := Aside0.mk (below_drew1 HB.out)
            refine start_ (n := 12) (S := fun w' => w'.cell? ⟨gb968, 0, none⟩ = some (.int .i64 t963) ∧ w'.cell? ⟨gb968, 1, none⟩ = some (.int .i64 t964)) (ds := []) (bs 12 0) (by kernel_rfl) rfl (by kernel_rfl) ⟨(blk_cell BK968.out 0).trans rfl, (blk_cell BK968.out 1).trans rfl⟩ (fun hHeld => ?_); refine with_tabW laws_FnAdversaries.tab13 laws_FnAdversaries.bits13 (fun HT_ HW_ => ?_)
            generalize w194.drew = w195 at HO908 BK909 BK968 HB hHeld ⊢
            refine pu_ HT_ 1 79 (bs 12 2) ?_
            refine pu_ HT_ 2 80 (bs 12 6) ?_
            refine pu_ HT_ 3 81 (bs 12 14) ?_
            refine pu_ HT_ 4 82 (bs 12 30) ?_
            refine pu_ HT_ 5 83 (bs 12 62) ?_
            refine pu_ HT_ 6 84 (bs 12 126) ?_
            refine pu_ HT_ 7 85 (bs 12 254) ?_
            refine pu_ HT_ 8 86 (bs 12 510) ?_
            refine pu_ HT_ 9 87 (bs 12 1022) ?_
            refine ta2_ HT_ HW_ 0 78 (bs 12 1023) hHeld ?_
            refine on_ HT_ 10 88 (bs 12 2047) (fun K hK => ?_)
            refine goes_ Try.func12 (by kernel_rfl) rfl #[.agg #[.int .i64 t963, .int .i64 t964], .int .i64 (Go.bits .or .i64 t965 (ji155)), .int .i64 (Go.bits .or .i64 t966 (ji157))] (by rfl) rfl rfl (by (try simp only [List.map_toArray, List.map_cons, List.map_nil]); first | done | (simp only [hji155, hji157]; rfl) | rfl | (simp only [List.length_drop, List.length_take]; rfl)) ?_
            with_reducible refine (impl_ForcedLeft.calls t963 t964 (Go.bits .or .i64 t965 (ji155)) (Go.bits .or .i64 t966 (ji157)) t972 _ A158.out).mono ?_
            rintro e w196 ⟨rfl, hb⟩
            refine ⟨_, rfl, ?_⟩
            replace HO908 := Aside0.mk (Kd.R_below (rv_ HO908) hb)
            replace BK909 := kb_ BK909 hb
            replace BK968 := kb_ BK968 hb
            replace HB := Aside0.mk (below_step (bv2_ HB GE909 GE968) hb)
            (try clear hb)
            (try clear hb2)
            (try clear hk)
            (try clear hi)
            refine hK.out _ _ ⟨(blk_cell BK968.out 0).trans rfl, (blk_cell BK968.out 1).trans rfl⟩ (fun hHeld => ?_)
            clear hK K
            refine no_ 88 ?_
            refine pu_ HT_ 11 12 (bs 12 4095) ?_
            refine done_ (done_of HT_.out (by kernel_rfl)) ?_
            try go_wp2
            replace HO908 := Aside0.mk (Kd.R_drew HO908.out)
            replace BK909 := Aside0.mk (blk_drew BK909.out)
            replace BK968 := Aside0.mk (blk_drew BK968.out)
            replace HB := Aside0.mk (below_drew1 HB.out)
            refine start_ (n := 13) (S := fun w' => w'.cell? ⟨gb968, 0, none⟩ = some (.int .i64 t963) ∧ w'.cell? ⟨gb968, 1, none⟩ = some (.int .i64 t964)) (ds := []) (bs 13 0) (by kernel_rfl) rfl (by kernel_rfl) ⟨(blk_cell BK968.out 0).trans rfl, (blk_cell BK968.out 1).trans rfl⟩ (fun hHeld => ?_); refine with_tabW laws_FnAdversaries.tab14 laws_FnAdversaries.bits14 (fun HT_ HW_ => ?_)
            generalize w196.drew = w197 at HO908 BK909 BK968 HB hHeld ⊢
            refine pu_ HT_ 1 90 (bs 13 2) ?_
            refine pu_ HT_ 2 91 (bs 13 6) ?_
            refine pu_ HT_ 3 92 (bs 13 14) ?_
            refine pu_ HT_ 4 93 (bs 13 30) ?_
            refine pu_ HT_ 5 94 (bs 13 62) ?_
            refine pu_ HT_ 6 95 (bs 13 126) ?_
            refine pu_ HT_ 7 96 (bs 13 254) ?_
            refine pu_ HT_ 8 97 (bs 13 510) ?_
            refine pu_ HT_ 9 98 (bs 13 1022) ?_
            refine pu_ HT_ 10 99 (bs 13 2046) ?_
            refine ta2_ HT_ HW_ 0 89 (bs 13 2047) hHeld ?_
            refine on_ HT_ 11 100 (bs 13 4095) (fun K hK => ?_)
            refine goes_ Try.func12 (by kernel_rfl) rfl #[.agg #[.int .i64 t963, .int .i64 t964], .int .i64 (Go.bits .or .i64 t965 (ji155)), .int .i64 (Go.bits .or .i64 t966 (ji162))] (by rfl) rfl rfl (by (try simp only [List.map_toArray, List.map_cons, List.map_nil]); first | done | (simp only [hji155, hji162]; rfl) | rfl | (simp only [List.length_drop, List.length_take]; rfl)) ?_
            with_reducible refine (impl_ForcedLeft.calls t963 t964 (Go.bits .or .i64 t965 (ji155)) (Go.bits .or .i64 t966 (ji162)) t973 _ A163.out).mono ?_
            rintro e w198 ⟨rfl, hb⟩
            refine ⟨_, rfl, ?_⟩
            replace HO908 := Aside0.mk (Kd.R_below (rv_ HO908) hb)
            replace BK909 := kb_ BK909 hb
            replace BK968 := kb_ BK968 hb
            replace HB := Aside0.mk (below_step (bv2_ HB GE909 GE968) hb)
            (try clear hb)
            (try clear hb2)
            (try clear hk)
            (try clear hi)
            refine hK.out _ _ ⟨(blk_cell BK968.out 0).trans rfl, (blk_cell BK968.out 1).trans rfl⟩ (fun hHeld => ?_)
            clear hK K
            refine no_ 100 ?_
            refine pu_ HT_ 12 13 (bs 13 8191) ?_
            refine done_ (done_of HT_.out (by kernel_rfl)) ?_
            obtain ⟨hcz199_0, hcz199_1, hfz199_0, hfz199_1⟩ := c2_ BK968
            try go_wp2_with (first | ((with_reducible refine gate_callee (f := 13) rfl ?_); refine gl_ 113 Try.func13 #[.agg #[.int .i64 t963, .int .i64 t964], .int .i64 t965, .int .i64 t966] rfl mp_ ?_; (with_reducible refine (impl_AskedOf.calls t963 t964 t965 t966 t974 _ A166.out).mono ?_); rintro e w200 ⟨rfl, hb⟩; refine ⟨_, rfl, ?_⟩; have n0_ := Aside0.mk (Kd.R_below (rv_ HO908) hb); have n1_ := kb_ BK909 hb; have n2_ := kb_ BK968 hb; have n3_ := Aside0.mk (below_step (bv2_ HB GE909 GE968) hb); clear HO908; clear BK909; clear BK968; clear HB; have HO908 := n0_; have BK909 := n1_; have BK968 := n2_; have HB := n3_; clear n0_ n1_ n2_ n3_; (try clear hb); (try clear hb2); (try clear hk); (try clear hi)) | ((with_reducible refine gate_callee (f := 14) rfl ?_); refine gl_ 121 Try.func14 #[.slice A0 l0.length c0] rfl mp_ ?_; (with_reducible refine (spec_DrawAskedOf.calls k _ _ l0 t975 t976 t977 t978 _ ?side1 ?side2 A168.out).mono ?_); (case side1 => exact cv_ (Kd.C_below HR0.out HB.out)); (case side2 => exact HC0.out); rintro e w201 ⟨rfl, hb⟩; refine ⟨_, rfl, ?_⟩; have n0_ := Aside0.mk (Kd.R_below (rv_ HO908) hb); have n1_ := kb_ BK909 hb; have n2_ := kb_ BK968 hb; have n3_ := Aside0.mk (below_step (bv2_ HB GE909 GE968) hb); clear HO908; clear BK909; clear BK968; clear HB; have HO908 := n0_; have BK909 := n1_; have BK968 := n2_; have HB := n3_; clear n0_ n1_ n2_ n3_; (try clear hb); (try clear hb2); (try clear hk); (try clear hi)) | ((with_reducible refine gate_dst (N := 15) rfl ?_); refine bx_ 15 #[.int .i64 0, .int .i64 0] 25 ?_; intro gb979 hg w202 hbox hb; have n0_ := Aside0.mk (Kd.R_below (rv_ HO908) hb); have n1_ := kb_ BK909 hb; have n2_ := kb_ BK968 hb; have n3_ := Aside0.mk (below_step (bv2_ HB GE909 GE968) hb); have n4_ := Aside0.mk (hbox); have n5_ := gw_ hg (below_size (bv2_ HB GE909 GE968)); have n6_ := gw_ hg (below_size (bv2_ HB GE909 GE968)); have n7_ := nb_ hg (blk_lt (g := gb909) (o := .cells #[.int .i64 t904, .int .i64 t905] 25 (0, 0)) (kv_ BK909)); have n8_ := nc_ hg (blk_lt (g := gb909) (o := .cells #[.int .i64 t904, .int .i64 t905] 25 (0, 0)) (kv_ BK909)); have n9_ := nb_ hg (blk_lt (g := gb968) (o := .cells #[.int .i64 t963, .int .i64 t964] 25 (0, 0)) (kv_ BK968)); have n10_ := nc_ hg (blk_lt (g := gb968) (o := .cells #[.int .i64 t963, .int .i64 t964] 25 (0, 0)) (kv_ BK968)); clear HO908; clear BK909; clear BK968; clear HB; have HO908 := n0_; have BK909 := n1_; have BK968 := n2_; have HB := n3_; have BK979 := n4_; have GW979 := n5_; have GE979 := n6_; have NB909_979 := n7_; have NB979_909 := n8_; have NB968_979 := n9_; have NB979_968 := n10_; clear n0_ n1_ n2_ n3_ n4_ n5_ n6_ n7_ n8_ n9_ n10_; clear hb hbox hg; have hnb203 := NB979_909.out; have hnc203 := NB909_979.out; have hnb204 := NB979_968.out; have hnc204 := NB968_979.out; have hcz205_0 : w202.cell? ⟨gb979, 0, none⟩ = some (.int .i64 0) := (blk_cell BK979.out 0).trans rfl; have hcz205_1 : w202.cell? ⟨gb979, 1, none⟩ = some (.int .i64 0) := (blk_cell BK979.out 1).trans rfl; have hfz205_0 := blk_frozen BK979.out 0; have hfz205_1 := blk_frozen BK979.out 1) | ((with_reducible refine gate_callee (f := 15) rfl ?_); refine gl_ 127 Try.func15 #[.slice A0 l0.length c0] rfl mp_ ?_; (with_reducible refine (spec_DrawForcedLeft.calls k _ _ l0 t980 t981 t982 t983 _ ?side1 ?side2 A169.out).mono ?_); (case side1 => exact Kd.C_below HR0.out (bv3_ HB GE909 GE968 GE979)); (case side2 => exact HC0.out); rintro e w206 ⟨rfl, hb⟩; refine ⟨_, rfl, ?_⟩; have n0_ := Aside0.mk (Kd.R_below (by (with_reducible repeat (first | apply Kd.R_alloc | apply Kd.R_drewN | apply Kd.R_drew)); exact (Kd.R_mono (Kd.R_far (p := ⟨gb979, 1, none⟩) (Kd.R_far (p := ⟨gb979, 0, none⟩) (Kd.R_types HO908.out BK979.out (by decide)) (fun _ hk => hk.2) (.int .i64 t975)) (fun _ hk => hk.2) (.int .i64 t976)) (fun _ h_ => h_.1))) hb); have n1_ := Aside0.mk (blk_below (g := gb909) (o := .cells #[.int .i64 t904, .int .i64 t905] 25 (0, 0)) (by (with_reducible repeat (first | refine blk_drewN ?_ _ | refine blk_drew ?_ | refine blk_alloc ?_ _)); refine blk_far ?_ NB909_979.out _; (with_reducible repeat (first | refine blk_drewN ?_ _ | refine blk_drew ?_ | refine blk_alloc ?_ _)); refine blk_far ?_ NB909_979.out _; (with_reducible repeat (first | refine blk_drewN ?_ _ | refine blk_drew ?_ | refine blk_alloc ?_ _)); exact BK909.out) hb); have n2_ := Aside0.mk (blk_below (g := gb968) (o := .cells #[.int .i64 t963, .int .i64 t964] 25 (0, 0)) (by (with_reducible repeat (first | refine blk_drewN ?_ _ | refine blk_drew ?_ | refine blk_alloc ?_ _)); refine blk_far ?_ NB968_979.out _; (with_reducible repeat (first | refine blk_drewN ?_ _ | refine blk_drew ?_ | refine blk_alloc ?_ _)); refine blk_far ?_ NB968_979.out _; (with_reducible repeat (first | refine blk_drewN ?_ _ | refine blk_drew ?_ | refine blk_alloc ?_ _)); exact BK968.out) hb); have n3_ := Aside0.mk (blk_below (g := gb979) (o := .cells #[.int .i64 t975, .int .i64 t976] 25 (0, 0)) (by (with_reducible repeat (first | refine blk_drewN ?_ _ | refine blk_drew ?_ | refine blk_alloc ?_ _)); refine blk_put (cs := #[.int .i64 t975, .int .i64 0]) ?_ 1 _ rfl; (with_reducible repeat (first | refine blk_drewN ?_ _ | refine blk_drew ?_ | refine blk_alloc ?_ _)); refine blk_put (cs := #[.int .i64 0, .int .i64 0]) ?_ 0 _ rfl; (with_reducible repeat (first | refine blk_drewN ?_ _ | refine blk_drew ?_ | refine blk_alloc ?_ _)); exact BK979.out) hb); have n4_ := Aside0.mk (below_step (bv3_ HB GE909 GE968 GE979) hb); clear HO908; clear BK909; clear BK968; clear BK979; clear HB; have HO908 := n0_; have BK909 := n1_; have BK968 := n2_; have BK979 := n3_; have HB := n4_; clear n0_ n1_ n2_ n3_ n4_; (try clear hb); (try clear hb2); (try clear hk); (try clear hi)) | ((with_reducible refine gate_dst (N := 18) rfl ?_); refine bx_ 18 #[.int .i64 0, .int .i64 0] 25 ?_; intro gb984 hg w207 hbox hb; have n0_ := Aside0.mk (Kd.R_below (rv_ HO908) hb); have n1_ := kb_ BK909 hb; have n2_ := kb_ BK968 hb; have n3_ := kb_ BK979 hb; have n4_ := Aside0.mk (below_step (bv3_ HB GE909 GE968 GE979) hb); have n5_ := Aside0.mk (hbox); have n6_ := gw_ hg (below_size (bv3_ HB GE909 GE968 GE979)); have n7_ := gw_ hg (below_size (bv3_ HB GE909 GE968 GE979)); have n8_ := nb_ hg (blk_lt (g := gb909) (o := .cells #[.int .i64 t904, .int .i64 t905] 25 (0, 0)) (kv_ BK909)); have n9_ := nc_ hg (blk_lt (g := gb909) (o := .cells #[.int .i64 t904, .int .i64 t905] 25 (0, 0)) (kv_ BK909)); have n10_ := nb_ hg (blk_lt (g := gb968) (o := .cells #[.int .i64 t963, .int .i64 t964] 25 (0, 0)) (kv_ BK968)); have n11_ := nc_ hg (blk_lt (g := gb968) (o := .cells #[.int .i64 t963, .int .i64 t964] 25 (0, 0)) (kv_ BK968)); have n12_ := nb_ hg (blk_lt (g := gb979) (o := .cells #[.int .i64 t975, .int .i64 t976] 25 (0, 0)) (kv_ BK979)); have n13_ := nc_ hg (blk_lt (g := gb979) (o := .cells #[.int .i64 t975, .int .i64 t976] 25 (0, 0)) (kv_ BK979)); clear HO908; clear BK909; clear BK968; clear BK979; clear HB; have HO908 := n0_; have BK909 := n1_; have BK968 := n2_; have BK979 := n3_; have HB := n4_; have BK984 := n5_; have GW984 := n6_; have GE984 := n7_; have NB909_984 := n8_; have NB984_909 := n9_; have NB968_984 := n10_; have NB984_968 := n11_; have NB979_984 := n12_; have NB984_979 := n13_; clear n0_ n1_ n2_ n3_ n4_ n5_ n6_ n7_ n8_ n9_ n10_ n11_ n12_ n13_; clear hb hbox hg; have hnb208 := NB984_909.out; have hnc208 := NB909_984.out; have hnb209 := NB984_968.out; have hnc209 := NB968_984.out; have hnb210 := NB984_979.out; have hnc210 := NB979_984.out; have hcz211_0 : w207.cell? ⟨gb984, 0, none⟩ = some (.int .i64 0) := (blk_cell BK984.out 0).trans rfl; have hcz211_1 : w207.cell? ⟨gb984, 1, none⟩ = some (.int .i64 0) := (blk_cell BK984.out 1).trans rfl; have hfz211_0 := blk_frozen BK984.out 0; have hfz211_1 := blk_frozen BK984.out 1) | ((with_reducible refine gate_callee (f := 16) rfl ?_); refine gl_ 132 Try.func16 #[.slice A0 l0.length c0] rfl mp_ ?_; (with_reducible refine (spec_DrawIsEvasive.calls k _ _ l0 t985 t986 _ ?side1 ?side2 A170.out).mono ?_); (case side1 => exact Kd.C_below HR0.out (bv4_ HB GE909 GE968 GE979 GE984)); (case side2 => exact HC0.out); rintro e w212 ⟨rfl, hb⟩; refine ⟨_, rfl, ?_⟩; have n0_ := Aside0.mk (Kd.R_below (by (with_reducible repeat (first | apply Kd.R_alloc | apply Kd.R_drewN | apply Kd.R_drew)); exact (Kd.R_mono (Kd.R_far (p := ⟨gb984, 1, none⟩) (Kd.R_far (p := ⟨gb984, 0, none⟩) (Kd.R_types HO908.out BK984.out (by decide)) (fun _ hk => hk.2) (.int .i64 t980)) (fun _ hk => hk.2) (.int .i64 t981)) (fun _ h_ => h_.1))) hb); have n1_ := Aside0.mk (blk_below (g := gb909) (o := .cells #[.int .i64 t904, .int .i64 t905] 25 (0, 0)) (by (with_reducible repeat (first | refine blk_drewN ?_ _ | refine blk_drew ?_ | refine blk_alloc ?_ _)); refine blk_far ?_ NB909_984.out _; (with_reducible repeat (first | refine blk_drewN ?_ _ | refine blk_drew ?_ | refine blk_alloc ?_ _)); refine blk_far ?_ NB909_984.out _; (with_reducible repeat (first | refine blk_drewN ?_ _ | refine blk_drew ?_ | refine blk_alloc ?_ _)); exact BK909.out) hb); have n2_ := Aside0.mk (blk_below (g := gb968) (o := .cells #[.int .i64 t963, .int .i64 t964] 25 (0, 0)) (by (with_reducible repeat (first | refine blk_drewN ?_ _ | refine blk_drew ?_ | refine blk_alloc ?_ _)); refine blk_far ?_ NB968_984.out _; (with_reducible repeat (first | refine blk_drewN ?_ _ | refine blk_drew ?_ | refine blk_alloc ?_ _)); refine blk_far ?_ NB968_984.out _; (with_reducible repeat (first | refine blk_drewN ?_ _ | refine blk_drew ?_ | refine blk_alloc ?_ _)); exact BK968.out) hb); have n3_ := Aside0.mk (blk_below (g := gb979) (o := .cells #[.int .i64 t975, .int .i64 t976] 25 (0, 0)) (by (with_reducible repeat (first | refine blk_drewN ?_ _ | refine blk_drew ?_ | refine blk_alloc ?_ _)); refine blk_far ?_ NB979_984.out _; (with_reducible repeat (first | refine blk_drewN ?_ _ | refine blk_drew ?_ | refine blk_alloc ?_ _)); refine blk_far ?_ NB979_984.out _; (with_reducible repeat (first | refine blk_drewN ?_ _ | refine blk_drew ?_ | refine blk_alloc ?_ _)); exact BK979.out) hb); have n4_ := Aside0.mk (blk_below (g := gb984) (o := .cells #[.int .i64 t980, .int .i64 t981] 25 (0, 0)) (by (with_reducible repeat (first | refine blk_drewN ?_ _ | refine blk_drew ?_ | refine blk_alloc ?_ _)); refine blk_put (cs := #[.int .i64 t980, .int .i64 0]) ?_ 1 _ rfl; (with_reducible repeat (first | refine blk_drewN ?_ _ | refine blk_drew ?_ | refine blk_alloc ?_ _)); refine blk_put (cs := #[.int .i64 0, .int .i64 0]) ?_ 0 _ rfl; (with_reducible repeat (first | refine blk_drewN ?_ _ | refine blk_drew ?_ | refine blk_alloc ?_ _)); exact BK984.out) hb); have n5_ := Aside0.mk (below_step (bv4_ HB GE909 GE968 GE979 GE984) hb); clear HO908; clear BK909; clear BK968; clear BK979; clear BK984; clear HB; have HO908 := n0_; have BK909 := n1_; have BK968 := n2_; have BK979 := n3_; have BK984 := n4_; have HB := n5_; clear n0_ n1_ n2_ n3_ n4_ n5_; (try clear hb); (try clear hb2); (try clear hk); (try clear hi)) | ((with_reducible refine gate_dst (N := 21) rfl ?_); refine bx_ 21 #[.int .i64 0, .int .i64 0] 25 ?_; intro gb987 hg w213 hbox hb; have n0_ := Aside0.mk (Kd.R_below (rv_ HO908) hb); have n1_ := kb_ BK909 hb; have n2_ := kb_ BK968 hb; have n3_ := kb_ BK979 hb; have n4_ := kb_ BK984 hb; have n5_ := Aside0.mk (below_step (bv4_ HB GE909 GE968 GE979 GE984) hb); have n6_ := Aside0.mk (hbox); have n7_ := gw_ hg (below_size (bv4_ HB GE909 GE968 GE979 GE984)); have n8_ := gw_ hg (below_size (bv4_ HB GE909 GE968 GE979 GE984)); have n9_ := nb_ hg (blk_lt (g := gb909) (o := .cells #[.int .i64 t904, .int .i64 t905] 25 (0, 0)) (kv_ BK909)); have n10_ := nc_ hg (blk_lt (g := gb909) (o := .cells #[.int .i64 t904, .int .i64 t905] 25 (0, 0)) (kv_ BK909)); have n11_ := nb_ hg (blk_lt (g := gb968) (o := .cells #[.int .i64 t963, .int .i64 t964] 25 (0, 0)) (kv_ BK968)); have n12_ := nc_ hg (blk_lt (g := gb968) (o := .cells #[.int .i64 t963, .int .i64 t964] 25 (0, 0)) (kv_ BK968)); have n13_ := nb_ hg (blk_lt (g := gb979) (o := .cells #[.int .i64 t975, .int .i64 t976] 25 (0, 0)) (kv_ BK979)); have n14_ := nc_ hg (blk_lt (g := gb979) (o := .cells #[.int .i64 t975, .int .i64 t976] 25 (0, 0)) (kv_ BK979)); have n15_ := nb_ hg (blk_lt (g := gb984) (o := .cells #[.int .i64 t980, .int .i64 t981] 25 (0, 0)) (kv_ BK984)); have n16_ := nc_ hg (blk_lt (g := gb984) (o := .cells #[.int .i64 t980, .int .i64 t981] 25 (0, 0)) (kv_ BK984)); clear HO908; clear BK909; clear BK968; clear BK979; clear BK984; clear HB; have HO908 := n0_; have BK909 := n1_; have BK968 := n2_; have BK979 := n3_; have BK984 := n4_; have HB := n5_; have BK987 := n6_; have GW987 := n7_; have GE987 := n8_; have NB909_987 := n9_; have NB987_909 := n10_; have NB968_987 := n11_; have NB987_968 := n12_; have NB979_987 := n13_; have NB987_979 := n14_; have NB984_987 := n15_; have NB987_984 := n16_; clear n0_ n1_ n2_ n3_ n4_ n5_ n6_ n7_ n8_ n9_ n10_ n11_ n12_ n13_ n14_ n15_ n16_; clear hb hbox hg; have hnb214 := NB987_909.out; have hnc214 := NB909_987.out; have hnb215 := NB987_968.out; have hnc215 := NB968_987.out; have hnb216 := NB987_979.out; have hnc216 := NB979_987.out; have hnb217 := NB987_984.out; have hnc217 := NB984_987.out; have hcz218_0 : w213.cell? ⟨gb987, 0, none⟩ = some (.int .i64 0) := (blk_cell BK987.out 0).trans rfl; have hcz218_1 : w213.cell? ⟨gb987, 1, none⟩ = some (.int .i64 0) := (blk_cell BK987.out 1).trans rfl; have hfz218_0 := blk_frozen BK987.out 0; have hfz218_1 := blk_frozen BK987.out 1))
            have n0_ : Aside0 (Kd.R (Kd.int .i64) 3 ((w213.setCell ⟨gb987, 0, none⟩ (.int .i64 t985)).setCell ⟨gb987, 1, none⟩ (.int .i64 t986)) w.heap.size (fun _ => True) (.slice Ao182 t906.length co182) t906) := ⟨by (with_reducible repeat (first | apply Kd.R_alloc | apply Kd.R_drewN | apply Kd.R_drew)); exact Kd.R_mono (Kd.R_far (p := ⟨gb987, 1, none⟩) (Kd.R_far (p := ⟨gb987, 0, none⟩) (Kd.R_types HO908.out BK987.out (by decide)) (fun _ hk => hk.2) (.int .i64 t985)) (fun _ hk => hk.2) (.int .i64 t986)) (fun _ hk => trivial)⟩
            have n1_ : Aside0 (((w213.setCell ⟨gb987, 0, none⟩ (.int .i64 t985)).setCell ⟨gb987, 1, none⟩ (.int .i64 t986)).heap[gb909]? = some (.cells #[.int .i64 t904, .int .i64 t905] 25 (0, 0))) := ⟨by (with_reducible repeat (first | refine blk_drewN ?_ _ | refine blk_drew ?_ | refine blk_alloc ?_ _)); refine blk_far ?_ NB909_987.out _; (with_reducible repeat (first | refine blk_drewN ?_ _ | refine blk_drew ?_ | refine blk_alloc ?_ _)); refine blk_far ?_ NB909_987.out _; (with_reducible repeat (first | refine blk_drewN ?_ _ | refine blk_drew ?_ | refine blk_alloc ?_ _)); exact BK909.out⟩
            have n2_ : Aside0 (((w213.setCell ⟨gb987, 0, none⟩ (.int .i64 t985)).setCell ⟨gb987, 1, none⟩ (.int .i64 t986)).heap[gb968]? = some (.cells #[.int .i64 t963, .int .i64 t964] 25 (0, 0))) := ⟨by (with_reducible repeat (first | refine blk_drewN ?_ _ | refine blk_drew ?_ | refine blk_alloc ?_ _)); refine blk_far ?_ NB968_987.out _; (with_reducible repeat (first | refine blk_drewN ?_ _ | refine blk_drew ?_ | refine blk_alloc ?_ _)); refine blk_far ?_ NB968_987.out _; (with_reducible repeat (first | refine blk_drewN ?_ _ | refine blk_drew ?_ | refine blk_alloc ?_ _)); exact BK968.out⟩
            have n3_ : Aside0 (((w213.setCell ⟨gb987, 0, none⟩ (.int .i64 t985)).setCell ⟨gb987, 1, none⟩ (.int .i64 t986)).heap[gb979]? = some (.cells #[.int .i64 t975, .int .i64 t976] 25 (0, 0))) := ⟨by (with_reducible repeat (first | refine blk_drewN ?_ _ | refine blk_drew ?_ | refine blk_alloc ?_ _)); refine blk_far ?_ NB979_987.out _; (with_reducible repeat (first | refine blk_drewN ?_ _ | refine blk_drew ?_ | refine blk_alloc ?_ _)); refine blk_far ?_ NB979_987.out _; (with_reducible repeat (first | refine blk_drewN ?_ _ | refine blk_drew ?_ | refine blk_alloc ?_ _)); exact BK979.out⟩
            have n4_ : Aside0 (((w213.setCell ⟨gb987, 0, none⟩ (.int .i64 t985)).setCell ⟨gb987, 1, none⟩ (.int .i64 t986)).heap[gb984]? = some (.cells #[.int .i64 t980, .int .i64 t981] 25 (0, 0))) := ⟨by (with_reducible repeat (first | refine blk_drewN ?_ _ | refine blk_drew ?_ | refine blk_alloc ?_ _)); refine blk_far ?_ NB984_987.out _; (with_reducible repeat (first | refine blk_drewN ?_ _ | refine blk_drew ?_ | refine blk_alloc ?_ _)); refine blk_far ?_ NB984_987.out _; (with_reducible repeat (first | refine blk_drewN ?_ _ | refine blk_drew ?_ | refine blk_alloc ?_ _)); exact BK984.out⟩
            have n5_ : Aside0 (((w213.setCell ⟨gb987, 0, none⟩ (.int .i64 t985)).setCell ⟨gb987, 1, none⟩ (.int .i64 t986)).heap[gb987]? = some (.cells #[.int .i64 t985, .int .i64 t986] 25 (0, 0))) := ⟨by (with_reducible repeat (first | refine blk_drewN ?_ _ | refine blk_drew ?_ | refine blk_alloc ?_ _)); refine blk_put (cs := #[.int .i64 t985, .int .i64 0]) ?_ 1 _ rfl; (with_reducible repeat (first | refine blk_drewN ?_ _ | refine blk_drew ?_ | refine blk_alloc ?_ _)); refine blk_put (cs := #[.int .i64 0, .int .i64 0]) ?_ 0 _ rfl; (with_reducible repeat (first | refine blk_drewN ?_ _ | refine blk_drew ?_ | refine blk_alloc ?_ _)); exact BK987.out⟩
            have n6_ : Aside0 (Below w.heap.size w ((w213.setCell ⟨gb987, 0, none⟩ (.int .i64 t985)).setCell ⟨gb987, 1, none⟩ (.int .i64 t986))) := ⟨bv5_ HB GE909 GE968 GE979 GE984 GE987⟩
            (try clear HO908)
            (try clear BK909)
            (try clear BK968)
            (try clear BK979)
            (try clear BK984)
            (try clear BK987)
            (try clear HB)
            generalize ((w213.setCell ⟨gb987, 0, none⟩ (.int .i64 t985)).setCell ⟨gb987, 1, none⟩ (.int .i64 t986)) = w219 at n0_ n1_ n2_ n3_ n4_ n5_ n6_ ⊢
            have HO908 := n0_
            have BK909 := n1_
            have BK968 := n2_
            have BK979 := n3_
            have BK984 := n4_
            have BK987 := n5_
            have HB := n6_
            clear n0_ n1_ n2_ n3_ n4_ n5_ n6_
            replace HO908 := Aside0.mk (Kd.R_drew HO908.out)
            replace BK909 := Aside0.mk (blk_drew BK909.out)
            replace BK968 := Aside0.mk (blk_drew BK968.out)
            replace BK979 := Aside0.mk (blk_drew BK979.out)
            replace BK984 := Aside0.mk (blk_drew BK984.out)
            replace BK987 := Aside0.mk (blk_drew BK987.out)
            replace HB := Aside0.mk (below_drew1 HB.out)
            refine start_ (n := 28) (S := fun w' => w'.cell? ⟨gb979, 0, none⟩ = some (.int .i64 t975) ∧ w'.cell? ⟨gb979, 1, none⟩ = some (.int .i64 t976) ∧ w'.cell? ⟨gb984, 0, none⟩ = some (.int .i64 t980) ∧ w'.cell? ⟨gb984, 1, none⟩ = some (.int .i64 t981) ∧ w'.cell? ⟨gb987, 0, none⟩ = some (.int .i64 t985) ∧ w'.cell? ⟨gb987, 1, none⟩ = some (.int .i64 t986)) (ds := []) (bs 28 0) (by kernel_rfl) rfl (by kernel_rfl) ⟨(blk_cell BK979.out 0).trans rfl, (blk_cell BK979.out 1).trans rfl, (blk_cell BK984.out 0).trans rfl, (blk_cell BK984.out 1).trans rfl, (blk_cell BK987.out 0).trans rfl, (blk_cell BK987.out 1).trans rfl⟩ (fun hHeld => ?_); refine with_tabW laws_FnAdversaries.tab23 laws_FnAdversaries.bits23 (fun HT_ HW_ => ?_)
            generalize w219.drew = w220 at HO908 BK909 BK968 BK979 BK984 BK987 HB hHeld ⊢
            refine pu_ HT_ 1 134 (bs 28 2) ?_
            refine pu_ HT_ 2 135 (bs 28 6) ?_
            refine pu_ HT_ 5 138 (bs 28 38) ?_
            refine pu_ HT_ 6 139 (bs 28 102) ?_
            refine ta6_ HT_ HW_ 0 133 (bs 28 103) hHeld ?_
            refine ta6_ HT_ HW_ 4 137 (bs 28 119) hHeld ?_
            refine on_ HT_ 3 136 (bs 28 127) (fun K hK => ?_)
            refine goes_ Try.func13 (by kernel_rfl) rfl #[.agg #[.int .i64 t975, .int .i64 t976], .int .i64 t977, .int .i64 t978] (by rfl) rfl rfl mp_ ?_
            with_reducible refine (impl_AskedOf.calls t975 t976 t977 t978 t988 _ A171.out).mono ?_
            rintro e w221 ⟨rfl, hb⟩
            refine ⟨_, rfl, ?_⟩
            replace HO908 := Aside0.mk (Kd.R_below (rv_ HO908) hb)
            replace BK909 := kb_ BK909 hb
            replace BK968 := kb_ BK968 hb
            replace BK979 := kb_ BK979 hb
            replace BK984 := kb_ BK984 hb
            replace BK987 := kb_ BK987 hb
            replace HB := Aside0.mk (below_step (bv5_ HB GE909 GE968 GE979 GE984 GE987) hb)
            (try clear hb)
            (try clear hb2)
            (try clear hk)
            (try clear hi)
            refine hK.out _ _ ⟨(blk_cell BK979.out 0).trans rfl, (blk_cell BK979.out 1).trans rfl, (blk_cell BK984.out 0).trans rfl, (blk_cell BK984.out 1).trans rfl, (blk_cell BK987.out 0).trans rfl, (blk_cell BK987.out 1).trans rfl⟩ (fun hHeld => ?_)
            clear hK K
            refine no_ 136 ?_
            refine on_ HT_ 7 140 (bs 28 255) (fun K hK => ?_)
            refine goes_ Try.func17 (by kernel_rfl) rfl #[.agg #[.int .i64 t975, .int .i64 t976], .int .i64 t977, .int .i64 t978] (by rfl) rfl rfl mp_ ?_
            with_reducible refine (spec_AskedOf.calls k t975 t976 t977 t978 t989 _ A172.out).mono ?_
            rintro e w222 ⟨rfl, hb⟩
            refine ⟨_, rfl, ?_⟩
            replace HO908 := Aside0.mk (Kd.R_below (rv_ HO908) hb)
            replace BK909 := kb_ BK909 hb
            replace BK968 := kb_ BK968 hb
            replace BK979 := kb_ BK979 hb
            replace BK984 := kb_ BK984 hb
            replace BK987 := kb_ BK987 hb
            replace HB := Aside0.mk (below_step (bv5_ HB GE909 GE968 GE979 GE984 GE987) hb)
            (try clear hb)
            (try clear hb2)
            (try clear hk)
            (try clear hi)
            refine hK.out _ _ ⟨(blk_cell BK979.out 0).trans rfl, (blk_cell BK979.out 1).trans rfl, (blk_cell BK984.out 0).trans rfl, (blk_cell BK984.out 1).trans rfl, (blk_cell BK987.out 0).trans rfl, (blk_cell BK987.out 1).trans rfl⟩ (fun hHeld => ?_)
            clear hK K
            refine no_ 140 ?_
            refine pu_ HT_ 8 141 (bs 28 511) ?_
            refine pu_ HT_ 9 142 (bs 28 1023) ?_
            refine pu_ HT_ 11 144 (bs 28 3071) ?_
            refine pu_ HT_ 12 145 (bs 28 7167) ?_
            refine pu_ HT_ 15 148 (bs 28 39935) ?_
            refine pu_ HT_ 16 149 (bs 28 105471) ?_
            refine ta6_ HT_ HW_ 10 143 (bs 28 106495) hHeld ?_
            refine ta6_ HT_ HW_ 14 147 (bs 28 122879) hHeld ?_
            refine on_ HT_ 13 146 (bs 28 131071) (fun K hK => ?_)
            refine goes_ Try.func12 (by kernel_rfl) rfl #[.agg #[.int .i64 t980, .int .i64 t981], .int .i64 t982, .int .i64 t983] (by rfl) rfl rfl mp_ ?_
            with_reducible refine (impl_ForcedLeft.calls t980 t981 t982 t983 t990 _ A174.out).mono ?_
            rintro e w223 ⟨rfl, hb⟩
            refine ⟨_, rfl, ?_⟩
            replace HO908 := Aside0.mk (Kd.R_below (rv_ HO908) hb)
            replace BK909 := kb_ BK909 hb
            replace BK968 := kb_ BK968 hb
            replace BK979 := kb_ BK979 hb
            replace BK984 := kb_ BK984 hb
            replace BK987 := kb_ BK987 hb
            replace HB := Aside0.mk (below_step (bv5_ HB GE909 GE968 GE979 GE984 GE987) hb)
            (try clear hb)
            (try clear hb2)
            (try clear hk)
            (try clear hi)
            refine hK.out _ _ ⟨(blk_cell BK979.out 0).trans rfl, (blk_cell BK979.out 1).trans rfl, (blk_cell BK984.out 0).trans rfl, (blk_cell BK984.out 1).trans rfl, (blk_cell BK987.out 0).trans rfl, (blk_cell BK987.out 1).trans rfl⟩ (fun hHeld => ?_)
            clear hK K
            refine no_ 146 ?_
            refine on_ HT_ 17 150 (bs 28 262143) (fun K hK => ?_)
            refine goes_ Try.func18 (by kernel_rfl) rfl #[.agg #[.int .i64 t980, .int .i64 t981], .int .i64 t982, .int .i64 t983] (by rfl) rfl rfl mp_ ?_
            with_reducible refine (spec_ForcedLeft.calls k t980 t981 t982 t983 t991 _ A175.out).mono ?_
            rintro e w224 ⟨rfl, hb⟩
            refine ⟨_, rfl, ?_⟩
            replace HO908 := Aside0.mk (Kd.R_below (rv_ HO908) hb)
            replace BK909 := kb_ BK909 hb
            replace BK968 := kb_ BK968 hb
            replace BK979 := kb_ BK979 hb
            replace BK984 := kb_ BK984 hb
            replace BK987 := kb_ BK987 hb
            replace HB := Aside0.mk (below_step (bv5_ HB GE909 GE968 GE979 GE984 GE987) hb)
            (try clear hb)
            (try clear hb2)
            (try clear hk)
            (try clear hi)
            refine hK.out _ _ ⟨(blk_cell BK979.out 0).trans rfl, (blk_cell BK979.out 1).trans rfl, (blk_cell BK984.out 0).trans rfl, (blk_cell BK984.out 1).trans rfl, (blk_cell BK987.out 0).trans rfl, (blk_cell BK987.out 1).trans rfl⟩ (fun hHeld => ?_)
            clear hK K
            refine no_ 150 ?_
            refine pu_ HT_ 18 151 (bs 28 524287) ?_
            refine pu_ HT_ 19 152 (bs 28 1048575) ?_
            refine pu_ HT_ 20 153 (bs 28 2097151) ?_
            refine ta6_ HT_ HW_ 21 154 (bs 28 4194303) hHeld ?_
            refine ta6_ HT_ HW_ 23 156 (bs 28 12582911) hHeld ?_
            refine on_ HT_ 22 155 (bs 28 16777215) (fun K hK => ?_)
            refine goes_ Try.func19 (by kernel_rfl) rfl #[.agg #[.int .i64 t985, .int .i64 t986]] (by rfl) rfl rfl mp_ ?_
            with_reducible refine (impl_IsEvasive.calls t985 t986 t992 _ A177.out).mono ?_
            rintro e w225 ⟨rfl, hb⟩
            refine ⟨_, rfl, ?_⟩
            replace HO908 := Aside0.mk (Kd.R_below (rv_ HO908) hb)
            replace BK909 := kb_ BK909 hb
            replace BK968 := kb_ BK968 hb
            replace BK979 := kb_ BK979 hb
            replace BK984 := kb_ BK984 hb
            replace BK987 := kb_ BK987 hb
            replace HB := Aside0.mk (below_step (bv5_ HB GE909 GE968 GE979 GE984 GE987) hb)
            (try clear hb)
            (try clear hb2)
            (try clear hk)
            (try clear hi)
            refine hK.out _ _ ⟨(blk_cell BK979.out 0).trans rfl, (blk_cell BK979.out 1).trans rfl, (blk_cell BK984.out 0).trans rfl, (blk_cell BK984.out 1).trans rfl, (blk_cell BK987.out 0).trans rfl, (blk_cell BK987.out 1).trans rfl⟩ (fun hHeld => ?_)
            clear hK K
            refine no_ 155 ?_
            refine on_ HT_ 24 157 (bs 28 33554431) (fun K hK => ?_)
            refine goes_ Try.func20 (by kernel_rfl) rfl #[.agg #[.int .i64 t985, .int .i64 t986]] (by rfl) rfl rfl mp_ ?_
            with_reducible refine (spec_IsEvasive.calls k t985 t986 t993 _ A178.out).mono ?_
            rintro e w226 ⟨rfl, hb⟩
            refine ⟨_, rfl, ?_⟩
            replace HO908 := Aside0.mk (Kd.R_below (rv_ HO908) hb)
            replace BK909 := kb_ BK909 hb
            replace BK968 := kb_ BK968 hb
            replace BK979 := kb_ BK979 hb
            replace BK984 := kb_ BK984 hb
            replace BK987 := kb_ BK987 hb
            replace HB := Aside0.mk (below_step (bv5_ HB GE909 GE968 GE979 GE984 GE987) hb)
            (try clear hb)
            (try clear hb2)
            (try clear hk)
            (try clear hi)
            refine hK.out _ _ ⟨(blk_cell BK979.out 0).trans rfl, (blk_cell BK979.out 1).trans rfl, (blk_cell BK984.out 0).trans rfl, (blk_cell BK984.out 1).trans rfl, (blk_cell BK987.out 0).trans rfl, (blk_cell BK987.out 1).trans rfl⟩ (fun hHeld => ?_)
            clear hK K
            refine no_ 157 ?_
            refine pu_ HT_ 25 158 (bs 28 67108863) ?_
            refine pu_ HT_ 26 159 (bs 28 134217727) ?_
            refine pu_ HT_ 27 2 (bs 28 268435455) ?_
            refine done_ (done_of HT_.out (by kernel_rfl)) ?_
            try go_wp2
            go_ret
            exact ⟨by first | rfl | (simp [errW_none, errW_some] <;> rfl) | (simp only [← hji155, ← hji157, ← hji162]; first | rfl | (simp [errW_none, errW_some] <;> rfl)) | (simp [*, errW_none, errW_some] <;> rfl), bv5_ HB GE909 GE968 GE979 GE984 GE987⟩
           ·rw [if_neg c176] at H
            exact absurd H (by simp)
          ·rw [if_neg c173] at H
           exact absurd H (by simp)
      ·rw [if_neg c154] at H
       exact absurd H (by simp)
     ·rw [if_neg c152] at H
      have c152b0 : decide (0 ≤ t969) = false := decide_eq_false c152
      clear c152
      replace H := Option.bind_eq_some_iff.mp H
      obtain ⟨⟨t994, t995, t996, t997⟩, A2270, H⟩ := H
      dsimp only at H
      have A227 := Aside0.mk A2270
      clear A2270
      replace H := Option.bind_eq_some_iff.mp H
      obtain ⟨⟨t999, t1000, t1001, t1002⟩, A2280, H⟩ := H
      dsimp only at H
      have A228 := Aside0.mk A2280
      clear A2280
      replace H := Option.bind_eq_some_iff.mp H
      obtain ⟨⟨t1004, t1005⟩, A2290, H⟩ := H
      dsimp only at H
      have A229 := Aside0.mk A2290
      clear A2290
      replace H := Option.bind_eq_some_iff.mp H
      obtain ⟨t1007, A2300, H⟩ := H
      have A230 := Aside0.mk A2300
      clear A2300
      replace H := Option.bind_eq_some_iff.mp H
      obtain ⟨t1008, A2310, H⟩ := H
      have A231 := Aside0.mk A2310
      clear A2310
      by_cases c232 : t1007 = t1008
      ·rw [if_pos c232] at H
       have c232b0 : (t1007 == t1008) = true := beq_iff_eq.mpr c232
       have c232b1 : (t1007 != t1008) = false := bne_eq_false_iff_eq.mpr c232
       clear c232
       replace H := Option.bind_eq_some_iff.mp H
       obtain ⟨t1009, A2330, H⟩ := H
       have A233 := Aside0.mk A2330
       clear A2330
       replace H := Option.bind_eq_some_iff.mp H
       obtain ⟨t1010, A2340, H⟩ := H
       have A234 := Aside0.mk A2340
       clear A2340
       by_cases c235 : t1009 = t1010
       ·rw [if_pos c235] at H
        have c235b0 : (t1009 == t1010) = true := beq_iff_eq.mpr c235
        have c235b1 : (t1009 != t1010) = false := bne_eq_false_iff_eq.mpr c235
        clear c235
        replace H := Option.bind_eq_some_iff.mp H
        obtain ⟨t1011, A2360, H⟩ := H
        have A236 := Aside0.mk A2360
        clear A2360
        replace H := Option.bind_eq_some_iff.mp H
        obtain ⟨t1012, A2370, H⟩ := H
        have A237 := Aside0.mk A2370
        clear A2370
        obtain rfl := Option.some.inj H
        go_enter Try.func3, Try.ntmps3
        try go_wp2_with (first | ((with_reducible refine gate_callee (f := 4) rfl ?_); refine gl_ 23 Try.func4 #[.slice A0 l0.length c0] rfl mp_ ?_; (with_reducible refine (laws_big.calls _ _ l0 false _ ?side1 ?side2 A2.out).mono ?_); (case side1 => exact cv_ HR0.out); (case side2 => exact HC0.out); rintro e w' ⟨rfl, ⟨nd, rfl⟩⟩; refine ⟨_, rfl, ?_⟩) | ((with_reducible refine gate_callee (f := 5) rfl ?_); refine gl_ 26 Try.func5 #[.slice A0 l0.length c0] rfl mp_ ?_; (with_reducible refine (spec_DrawPlayAgainst.calls k _ _ l0 t904 t905 t906 _ ?side1 ?side2 A4.out).mono ?_); (case side1 => exact cv_ HR0.out); (case side2 => exact HC0.out); rintro e w238 ⟨v907, rfl, ho0, hb⟩; refine ⟨_, rfl, ?_⟩; have HO908 := Aside0.mk (Kd.R_lower ho0 (below_size (bv_ HB))); replace HB := Aside0.mk (below_step (bv_ HB) hb); (try clear hb); (try clear hb2); (try clear hk); (try clear hi); (try clear ho0)) | ((with_reducible refine gate_dst (N := 3) rfl ?_); refine bx_ 3 #[.int .i64 0, .int .i64 0] 25 ?_; intro gb909 hg w239 hbox hb; replace HO908 := Aside0.mk (Kd.R_below (rv_ HO908) hb); have BK909 := Aside0.mk (hbox); have GW909 := gw_ hg (below_size (bv_ HB)); have GE909 := GW909; replace HB := Aside0.mk (below_step (bv_ HB) hb); clear hb hbox hg; obtain ⟨hcz240_0, hcz240_1, hfz240_0, hfz240_1⟩ := c2_ BK909; obtain ⟨Ao241, co241, eo241⟩ := Kd.R_slice HO908.out; subst eo241) | ((with_reducible refine gate_callee (f := 6) rfl ?_); refine gl_ 31 Try.func6 #[.agg #[.int .i64 t904, .int .i64 t905], .slice Ao241 t906.length co241] rfl mp_ ?_; (with_reducible refine (impl_PlayAgainst.calls k t904 t905 _ _ t906 t910 _ ?side1 ?side2 A5.out).mono ?_); (case side1 => refine (Kd.R_reads' (e := 3) (base := w.heap.size) (ok := fun k_ => True) (n := t906.length) (c := co241) ?_).2.2; exact (by (with_reducible repeat (first | apply Kd.R_alloc | apply Kd.R_drewN | apply Kd.R_drew)); exact (Kd.R_mono (Kd.R_far (p := ⟨gb909, 1, none⟩) (Kd.R_far (p := ⟨gb909, 0, none⟩) (Kd.R_types HO908.out BK909.out (by decide)) (fun _ hk => hk.2) (.int .i64 t904)) (fun _ hk => hk.2) (.int .i64 t905)) (fun _ h_ => h_.1)))); (case side2 => exact (Kd.R_reads' HO908.out).2.1); rintro e w242 ⟨rfl, hb⟩; refine ⟨_, rfl, ?_⟩; replace HO908 := Aside0.mk (Kd.R_below (by (with_reducible repeat (first | apply Kd.R_alloc | apply Kd.R_drewN | apply Kd.R_drew)); exact (Kd.R_mono (Kd.R_far (p := ⟨gb909, 1, none⟩) (Kd.R_far (p := ⟨gb909, 0, none⟩) (Kd.R_types HO908.out BK909.out (by decide)) (fun _ hk => hk.2) (.int .i64 t904)) (fun _ hk => hk.2) (.int .i64 t905)) (fun _ h_ => h_.1))) hb); replace BK909 := Aside0.mk (blk_below (g := gb909) (o := .cells #[.int .i64 t904, .int .i64 t905] 25 (0, 0)) (by (with_reducible repeat (first | refine blk_drewN ?_ _ | refine blk_drew ?_ | refine blk_alloc ?_ _)); refine blk_put (cs := #[.int .i64 t904, .int .i64 0]) ?_ 1 _ rfl; (with_reducible repeat (first | refine blk_drewN ?_ _ | refine blk_drew ?_ | refine blk_alloc ?_ _)); refine blk_put (cs := #[.int .i64 0, .int .i64 0]) ?_ 0 _ rfl; (with_reducible repeat (first | refine blk_drewN ?_ _ | refine blk_drew ?_ | refine blk_alloc ?_ _)); exact BK909.out) hb); replace HB := Aside0.mk (below_step (bv1_ HB GE909) hb); (try clear hb); (try clear hb2); (try clear hk); (try clear hi); obtain ⟨hcz243_0, hcz243_1, hfz243_0, hfz243_1⟩ := c2_ BK909) | ((with_reducible refine gate_callee (f := 7) rfl ?_); refine gl_ 35 Try.func7 #[.agg #[.int .i64 t904, .int .i64 t905], .slice Ao241 t906.length co241] rfl mp_ ?_; (with_reducible refine (spec_PlayAgainst.calls k t904 t905 _ _ t906 t911 _ ?side1 ?side2 A6.out).mono ?_); (case side1 => repeat (first | exact (Kd.R_reads' HO908.out).2.2 | (with_reducible refine Kd.C_alloc ?_ _) | (with_reducible refine Kd.C_drewN ?_ _) | (with_reducible refine Kd.C_drew ?_))); (case side2 => exact (Kd.R_reads' HO908.out).2.1); rintro e w244 ⟨rfl, hb⟩; refine ⟨_, rfl, ?_⟩; replace HO908 := Aside0.mk (Kd.R_below (rv_ HO908) hb); replace BK909 := kb_ BK909 hb; replace HB := Aside0.mk (below_step (bv1_ HB GE909) hb); (try clear hb); (try clear hb2); (try clear hk); (try clear hi)) | ((with_reducible refine gate_callee (f := 9) rfl ?_); refine gl_ 55 Try.func9 #[.slice A0 l0.length c0] rfl mp_ ?_; (with_reducible refine (spec_DrawAdversaryAnswer.calls k _ _ l0 t963 t964 t965 t966 t967 _ ?side1 ?side2 A148.out).mono ?_); (case side1 => exact cv_ (Kd.C_below HR0.out HB.out)); (case side2 => exact HC0.out); rintro e w245 ⟨rfl, hb⟩; refine ⟨_, rfl, ?_⟩; replace HO908 := Aside0.mk (Kd.R_below (rv_ HO908) hb); replace BK909 := kb_ BK909 hb; replace HB := Aside0.mk (below_step (bv1_ HB GE909) hb); (try clear hb); (try clear hb2); (try clear hk); (try clear hi)) | ((with_reducible refine gate_dst (N := 6) rfl ?_); refine bx_ 6 #[.int .i64 0, .int .i64 0] 25 ?_; intro gb968 hg w246 hbox hb; replace HO908 := Aside0.mk (Kd.R_below (rv_ HO908) hb); have BK968 := Aside0.mk (hbox); have GW968 := gw_ hg (below_size (bv1_ HB GE909)); have GE968 := GW968; replace HB := Aside0.mk (below_step (bv1_ HB GE909) hb); have NB909_968 := nb_ hg (blk_lt (g := gb909) (o := .cells #[.int .i64 t904, .int .i64 t905] 25 (0, 0)) (kv_ BK909)); have NB968_909 := nc_ hg (blk_lt (g := gb909) (o := .cells #[.int .i64 t904, .int .i64 t905] 25 (0, 0)) (kv_ BK909)); replace BK909 := kb_ BK909 hb; clear hb hbox hg; have hnb247 := NB968_909.out; have hnc247 := NB909_968.out; obtain ⟨hcz248_0, hcz248_1, hfz248_0, hfz248_1⟩ := c2_ BK968) | ((with_reducible refine gate_callee (f := 10) rfl ?_); refine gl_ 64 Try.func10 #[.agg #[.int .i64 t963, .int .i64 t964], .int .i64 t965, .int .i64 t966, .int .i64 t967] rfl mp_ ?_; (with_reducible refine (impl_AdversaryAnswer.calls t963 t964 t965 t966 t967 t969 _ A149.out).mono ?_); rintro e w249 ⟨rfl, hb⟩; refine ⟨_, rfl, ?_⟩; replace HO908 := Aside0.mk (Kd.R_below (by (with_reducible repeat (first | apply Kd.R_alloc | apply Kd.R_drewN | apply Kd.R_drew)); exact (Kd.R_mono (Kd.R_far (p := ⟨gb968, 1, none⟩) (Kd.R_far (p := ⟨gb968, 0, none⟩) (Kd.R_types HO908.out BK968.out (by decide)) (fun _ hk => hk.2) (.int .i64 t963)) (fun _ hk => hk.2) (.int .i64 t964)) (fun _ h_ => h_.1))) hb); replace BK909 := Aside0.mk (blk_below (g := gb909) (o := .cells #[.int .i64 t904, .int .i64 t905] 25 (0, 0)) (by (with_reducible repeat (first | refine blk_drewN ?_ _ | refine blk_drew ?_ | refine blk_alloc ?_ _)); refine blk_far ?_ NB909_968.out _; (with_reducible repeat (first | refine blk_drewN ?_ _ | refine blk_drew ?_ | refine blk_alloc ?_ _)); refine blk_far ?_ NB909_968.out _; (with_reducible repeat (first | refine blk_drewN ?_ _ | refine blk_drew ?_ | refine blk_alloc ?_ _)); exact BK909.out) hb); replace BK968 := Aside0.mk (blk_below (g := gb968) (o := .cells #[.int .i64 t963, .int .i64 t964] 25 (0, 0)) (by (with_reducible repeat (first | refine blk_drewN ?_ _ | refine blk_drew ?_ | refine blk_alloc ?_ _)); refine blk_put (cs := #[.int .i64 t963, .int .i64 0]) ?_ 1 _ rfl; (with_reducible repeat (first | refine blk_drewN ?_ _ | refine blk_drew ?_ | refine blk_alloc ?_ _)); refine blk_put (cs := #[.int .i64 0, .int .i64 0]) ?_ 0 _ rfl; (with_reducible repeat (first | refine blk_drewN ?_ _ | refine blk_drew ?_ | refine blk_alloc ?_ _)); exact BK968.out) hb); replace HB := Aside0.mk (below_step (bv2_ HB GE909 GE968) hb); (try clear hb); (try clear hb2); (try clear hk); (try clear hi); obtain ⟨hcz250_0, hcz250_1, hfz250_0, hfz250_1⟩ := c2_ BK968) | ((with_reducible refine gate_callee (f := 11) rfl ?_); refine gl_ 70 Try.func11 #[.agg #[.int .i64 t963, .int .i64 t964], .int .i64 t965, .int .i64 t966, .int .i64 t967] rfl mp_ ?_; (with_reducible refine (spec_AdversaryAnswer.calls k t963 t964 t965 t966 t967 t970 _ A150.out).mono ?_); rintro e w251 ⟨rfl, hb⟩; refine ⟨_, rfl, ?_⟩; replace HO908 := Aside0.mk (Kd.R_below (rv_ HO908) hb); replace BK909 := kb_ BK909 hb; replace BK968 := kb_ BK968 hb; replace HB := Aside0.mk (below_step (bv2_ HB GE909 GE968) hb); (try clear hb); (try clear hb2); (try clear hk); (try clear hi)) | ((with_reducible refine gate_callee (f := 14) rfl ?_); refine gl_ 121 Try.func14 #[.slice A0 l0.length c0] rfl mp_ ?_; (with_reducible refine (spec_DrawAskedOf.calls k _ _ l0 t994 t995 t996 t997 _ ?side1 ?side2 A227.out).mono ?_); (case side1 => exact cv_ (Kd.C_below HR0.out HB.out)); (case side2 => exact HC0.out); rintro e w252 ⟨rfl, hb⟩; refine ⟨_, rfl, ?_⟩; replace HO908 := Aside0.mk (Kd.R_below (rv_ HO908) hb); replace BK909 := kb_ BK909 hb; replace BK968 := kb_ BK968 hb; replace HB := Aside0.mk (below_step (bv2_ HB GE909 GE968) hb); (try clear hb); (try clear hb2); (try clear hk); (try clear hi)) | ((with_reducible refine gate_dst (N := 15) rfl ?_); refine bx_ 15 #[.int .i64 0, .int .i64 0] 25 ?_; intro gb998 hg w253 hbox hb; replace HO908 := Aside0.mk (Kd.R_below (rv_ HO908) hb); have BK998 := Aside0.mk (hbox); have GW998 := gw_ hg (below_size (bv2_ HB GE909 GE968)); have GE998 := GW998; replace HB := Aside0.mk (below_step (bv2_ HB GE909 GE968) hb); have NB909_998 := nb_ hg (blk_lt (g := gb909) (o := .cells #[.int .i64 t904, .int .i64 t905] 25 (0, 0)) (kv_ BK909)); have NB998_909 := nc_ hg (blk_lt (g := gb909) (o := .cells #[.int .i64 t904, .int .i64 t905] 25 (0, 0)) (kv_ BK909)); replace BK909 := kb_ BK909 hb; have NB968_998 := nb_ hg (blk_lt (g := gb968) (o := .cells #[.int .i64 t963, .int .i64 t964] 25 (0, 0)) (kv_ BK968)); have NB998_968 := nc_ hg (blk_lt (g := gb968) (o := .cells #[.int .i64 t963, .int .i64 t964] 25 (0, 0)) (kv_ BK968)); replace BK968 := kb_ BK968 hb; clear hb hbox hg; have hnb254 := NB998_909.out; have hnc254 := NB909_998.out; have hnb255 := NB998_968.out; have hnc255 := NB968_998.out; obtain ⟨hcz256_0, hcz256_1, hfz256_0, hfz256_1⟩ := c2_ BK998) | ((with_reducible refine gate_callee (f := 15) rfl ?_); refine gl_ 127 Try.func15 #[.slice A0 l0.length c0] rfl mp_ ?_; (with_reducible refine (spec_DrawForcedLeft.calls k _ _ l0 t999 t1000 t1001 t1002 _ ?side1 ?side2 A228.out).mono ?_); (case side1 => exact Kd.C_below HR0.out (bv3_ HB GE909 GE968 GE998)); (case side2 => exact HC0.out); rintro e w257 ⟨rfl, hb⟩; refine ⟨_, rfl, ?_⟩; replace HO908 := Aside0.mk (Kd.R_below (by (with_reducible repeat (first | apply Kd.R_alloc | apply Kd.R_drewN | apply Kd.R_drew)); exact (Kd.R_mono (Kd.R_far (p := ⟨gb998, 1, none⟩) (Kd.R_far (p := ⟨gb998, 0, none⟩) (Kd.R_types HO908.out BK998.out (by decide)) (fun _ hk => hk.2) (.int .i64 t994)) (fun _ hk => hk.2) (.int .i64 t995)) (fun _ h_ => h_.1))) hb); replace BK909 := Aside0.mk (blk_below (g := gb909) (o := .cells #[.int .i64 t904, .int .i64 t905] 25 (0, 0)) (by (with_reducible repeat (first | refine blk_drewN ?_ _ | refine blk_drew ?_ | refine blk_alloc ?_ _)); refine blk_far ?_ NB909_998.out _; (with_reducible repeat (first | refine blk_drewN ?_ _ | refine blk_drew ?_ | refine blk_alloc ?_ _)); refine blk_far ?_ NB909_998.out _; (with_reducible repeat (first | refine blk_drewN ?_ _ | refine blk_drew ?_ | refine blk_alloc ?_ _)); exact BK909.out) hb); replace BK968 := Aside0.mk (blk_below (g := gb968) (o := .cells #[.int .i64 t963, .int .i64 t964] 25 (0, 0)) (by (with_reducible repeat (first | refine blk_drewN ?_ _ | refine blk_drew ?_ | refine blk_alloc ?_ _)); refine blk_far ?_ NB968_998.out _; (with_reducible repeat (first | refine blk_drewN ?_ _ | refine blk_drew ?_ | refine blk_alloc ?_ _)); refine blk_far ?_ NB968_998.out _; (with_reducible repeat (first | refine blk_drewN ?_ _ | refine blk_drew ?_ | refine blk_alloc ?_ _)); exact BK968.out) hb); replace BK998 := Aside0.mk (blk_below (g := gb998) (o := .cells #[.int .i64 t994, .int .i64 t995] 25 (0, 0)) (by (with_reducible repeat (first | refine blk_drewN ?_ _ | refine blk_drew ?_ | refine blk_alloc ?_ _)); refine blk_put (cs := #[.int .i64 t994, .int .i64 0]) ?_ 1 _ rfl; (with_reducible repeat (first | refine blk_drewN ?_ _ | refine blk_drew ?_ | refine blk_alloc ?_ _)); refine blk_put (cs := #[.int .i64 0, .int .i64 0]) ?_ 0 _ rfl; (with_reducible repeat (first | refine blk_drewN ?_ _ | refine blk_drew ?_ | refine blk_alloc ?_ _)); exact BK998.out) hb); replace HB := Aside0.mk (below_step (bv3_ HB GE909 GE968 GE998) hb); (try clear hb); (try clear hb2); (try clear hk); (try clear hi)) | ((with_reducible refine gate_dst (N := 18) rfl ?_); refine bx_ 18 #[.int .i64 0, .int .i64 0] 25 ?_; intro gb1003 hg w258 hbox hb; replace HO908 := Aside0.mk (Kd.R_below (rv_ HO908) hb); have BK1003 := Aside0.mk (hbox); have GW1003 := gw_ hg (below_size (bv3_ HB GE909 GE968 GE998)); have GE1003 := GW1003; replace HB := Aside0.mk (below_step (bv3_ HB GE909 GE968 GE998) hb); have NB909_1003 := nb_ hg (blk_lt (g := gb909) (o := .cells #[.int .i64 t904, .int .i64 t905] 25 (0, 0)) (kv_ BK909)); have NB1003_909 := nc_ hg (blk_lt (g := gb909) (o := .cells #[.int .i64 t904, .int .i64 t905] 25 (0, 0)) (kv_ BK909)); replace BK909 := kb_ BK909 hb; have NB968_1003 := nb_ hg (blk_lt (g := gb968) (o := .cells #[.int .i64 t963, .int .i64 t964] 25 (0, 0)) (kv_ BK968)); have NB1003_968 := nc_ hg (blk_lt (g := gb968) (o := .cells #[.int .i64 t963, .int .i64 t964] 25 (0, 0)) (kv_ BK968)); replace BK968 := kb_ BK968 hb; have NB998_1003 := nb_ hg (blk_lt (g := gb998) (o := .cells #[.int .i64 t994, .int .i64 t995] 25 (0, 0)) (kv_ BK998)); have NB1003_998 := nc_ hg (blk_lt (g := gb998) (o := .cells #[.int .i64 t994, .int .i64 t995] 25 (0, 0)) (kv_ BK998)); replace BK998 := kb_ BK998 hb; clear hb hbox hg; have hnb259 := NB1003_909.out; have hnc259 := NB909_1003.out; have hnb260 := NB1003_968.out; have hnc260 := NB968_1003.out; have hnb261 := NB1003_998.out; have hnc261 := NB998_1003.out; obtain ⟨hcz262_0, hcz262_1, hfz262_0, hfz262_1⟩ := c2_ BK1003) | ((with_reducible refine gate_callee (f := 16) rfl ?_); refine gl_ 132 Try.func16 #[.slice A0 l0.length c0] rfl mp_ ?_; (with_reducible refine (spec_DrawIsEvasive.calls k _ _ l0 t1004 t1005 _ ?side1 ?side2 A229.out).mono ?_); (case side1 => exact Kd.C_below HR0.out (bv4_ HB GE909 GE968 GE998 GE1003)); (case side2 => exact HC0.out); rintro e w263 ⟨rfl, hb⟩; refine ⟨_, rfl, ?_⟩; replace HO908 := Aside0.mk (Kd.R_below (by (with_reducible repeat (first | apply Kd.R_alloc | apply Kd.R_drewN | apply Kd.R_drew)); exact (Kd.R_mono (Kd.R_far (p := ⟨gb1003, 1, none⟩) (Kd.R_far (p := ⟨gb1003, 0, none⟩) (Kd.R_types HO908.out BK1003.out (by decide)) (fun _ hk => hk.2) (.int .i64 t999)) (fun _ hk => hk.2) (.int .i64 t1000)) (fun _ h_ => h_.1))) hb); replace BK909 := Aside0.mk (blk_below (g := gb909) (o := .cells #[.int .i64 t904, .int .i64 t905] 25 (0, 0)) (by (with_reducible repeat (first | refine blk_drewN ?_ _ | refine blk_drew ?_ | refine blk_alloc ?_ _)); refine blk_far ?_ NB909_1003.out _; (with_reducible repeat (first | refine blk_drewN ?_ _ | refine blk_drew ?_ | refine blk_alloc ?_ _)); refine blk_far ?_ NB909_1003.out _; (with_reducible repeat (first | refine blk_drewN ?_ _ | refine blk_drew ?_ | refine blk_alloc ?_ _)); exact BK909.out) hb); replace BK968 := Aside0.mk (blk_below (g := gb968) (o := .cells #[.int .i64 t963, .int .i64 t964] 25 (0, 0)) (by (with_reducible repeat (first | refine blk_drewN ?_ _ | refine blk_drew ?_ | refine blk_alloc ?_ _)); refine blk_far ?_ NB968_1003.out _; (with_reducible repeat (first | refine blk_drewN ?_ _ | refine blk_drew ?_ | refine blk_alloc ?_ _)); refine blk_far ?_ NB968_1003.out _; (with_reducible repeat (first | refine blk_drewN ?_ _ | refine blk_drew ?_ | refine blk_alloc ?_ _)); exact BK968.out) hb); replace BK998 := Aside0.mk (blk_below (g := gb998) (o := .cells #[.int .i64 t994, .int .i64 t995] 25 (0, 0)) (by (with_reducible repeat (first | refine blk_drewN ?_ _ | refine blk_drew ?_ | refine blk_alloc ?_ _)); refine blk_far ?_ NB998_1003.out _; (with_reducible repeat (first | refine blk_drewN ?_ _ | refine blk_drew ?_ | refine blk_alloc ?_ _)); refine blk_far ?_ NB998_1003.out _; (with_reducible repeat (first | refine blk_drewN ?_ _ | refine blk_drew ?_ | refine blk_alloc ?_ _)); exact BK998.out) hb); replace BK1003 := Aside0.mk (blk_below (g := gb1003) (o := .cells #[.int .i64 t999, .int .i64 t1000] 25 (0, 0)) (by (with_reducible repeat (first | refine blk_drewN ?_ _ | refine blk_drew ?_ | refine blk_alloc ?_ _)); refine blk_put (cs := #[.int .i64 t999, .int .i64 0]) ?_ 1 _ rfl; (with_reducible repeat (first | refine blk_drewN ?_ _ | refine blk_drew ?_ | refine blk_alloc ?_ _)); refine blk_put (cs := #[.int .i64 0, .int .i64 0]) ?_ 0 _ rfl; (with_reducible repeat (first | refine blk_drewN ?_ _ | refine blk_drew ?_ | refine blk_alloc ?_ _)); exact BK1003.out) hb); replace HB := Aside0.mk (below_step (bv4_ HB GE909 GE968 GE998 GE1003) hb); (try clear hb); (try clear hb2); (try clear hk); (try clear hi)) | ((with_reducible refine gate_dst (N := 21) rfl ?_); refine bx_ 21 #[.int .i64 0, .int .i64 0] 25 ?_; intro gb1006 hg w264 hbox hb; replace HO908 := Aside0.mk (Kd.R_below (rv_ HO908) hb); have BK1006 := Aside0.mk (hbox); have GW1006 := gw_ hg (below_size (bv4_ HB GE909 GE968 GE998 GE1003)); have GE1006 := GW1006; replace HB := Aside0.mk (below_step (bv4_ HB GE909 GE968 GE998 GE1003) hb); have NB909_1006 := nb_ hg (blk_lt (g := gb909) (o := .cells #[.int .i64 t904, .int .i64 t905] 25 (0, 0)) (kv_ BK909)); have NB1006_909 := nc_ hg (blk_lt (g := gb909) (o := .cells #[.int .i64 t904, .int .i64 t905] 25 (0, 0)) (kv_ BK909)); replace BK909 := kb_ BK909 hb; have NB968_1006 := nb_ hg (blk_lt (g := gb968) (o := .cells #[.int .i64 t963, .int .i64 t964] 25 (0, 0)) (kv_ BK968)); have NB1006_968 := nc_ hg (blk_lt (g := gb968) (o := .cells #[.int .i64 t963, .int .i64 t964] 25 (0, 0)) (kv_ BK968)); replace BK968 := kb_ BK968 hb; have NB998_1006 := nb_ hg (blk_lt (g := gb998) (o := .cells #[.int .i64 t994, .int .i64 t995] 25 (0, 0)) (kv_ BK998)); have NB1006_998 := nc_ hg (blk_lt (g := gb998) (o := .cells #[.int .i64 t994, .int .i64 t995] 25 (0, 0)) (kv_ BK998)); replace BK998 := kb_ BK998 hb; have NB1003_1006 := nb_ hg (blk_lt (g := gb1003) (o := .cells #[.int .i64 t999, .int .i64 t1000] 25 (0, 0)) (kv_ BK1003)); have NB1006_1003 := nc_ hg (blk_lt (g := gb1003) (o := .cells #[.int .i64 t999, .int .i64 t1000] 25 (0, 0)) (kv_ BK1003)); replace BK1003 := kb_ BK1003 hb; clear hb hbox hg; have hnb265 := NB1006_909.out; have hnc265 := NB909_1006.out; have hnb266 := NB1006_968.out; have hnc266 := NB968_1006.out; have hnb267 := NB1006_998.out; have hnc267 := NB998_1006.out; have hnb268 := NB1006_1003.out; have hnc268 := NB1003_1006.out; obtain ⟨hcz269_0, hcz269_1, hfz269_0, hfz269_1⟩ := c2_ BK1006))
        have n0_ : Aside0 (Kd.R (Kd.int .i64) 3 ((w264.setCell ⟨gb1006, 0, none⟩ (.int .i64 t1004)).setCell ⟨gb1006, 1, none⟩ (.int .i64 t1005)) w.heap.size (fun _ => True) (.slice Ao241 t906.length co241) t906) := ⟨by (with_reducible repeat (first | apply Kd.R_alloc | apply Kd.R_drewN | apply Kd.R_drew)); exact Kd.R_mono (Kd.R_far (p := ⟨gb1006, 1, none⟩) (Kd.R_far (p := ⟨gb1006, 0, none⟩) (Kd.R_types HO908.out BK1006.out (by decide)) (fun _ hk => hk.2) (.int .i64 t1004)) (fun _ hk => hk.2) (.int .i64 t1005)) (fun _ hk => trivial)⟩
        have n1_ : Aside0 (((w264.setCell ⟨gb1006, 0, none⟩ (.int .i64 t1004)).setCell ⟨gb1006, 1, none⟩ (.int .i64 t1005)).heap[gb909]? = some (.cells #[.int .i64 t904, .int .i64 t905] 25 (0, 0))) := ⟨by (with_reducible repeat (first | refine blk_drewN ?_ _ | refine blk_drew ?_ | refine blk_alloc ?_ _)); refine blk_far ?_ NB909_1006.out _; (with_reducible repeat (first | refine blk_drewN ?_ _ | refine blk_drew ?_ | refine blk_alloc ?_ _)); refine blk_far ?_ NB909_1006.out _; (with_reducible repeat (first | refine blk_drewN ?_ _ | refine blk_drew ?_ | refine blk_alloc ?_ _)); exact BK909.out⟩
        have n2_ : Aside0 (((w264.setCell ⟨gb1006, 0, none⟩ (.int .i64 t1004)).setCell ⟨gb1006, 1, none⟩ (.int .i64 t1005)).heap[gb968]? = some (.cells #[.int .i64 t963, .int .i64 t964] 25 (0, 0))) := ⟨by (with_reducible repeat (first | refine blk_drewN ?_ _ | refine blk_drew ?_ | refine blk_alloc ?_ _)); refine blk_far ?_ NB968_1006.out _; (with_reducible repeat (first | refine blk_drewN ?_ _ | refine blk_drew ?_ | refine blk_alloc ?_ _)); refine blk_far ?_ NB968_1006.out _; (with_reducible repeat (first | refine blk_drewN ?_ _ | refine blk_drew ?_ | refine blk_alloc ?_ _)); exact BK968.out⟩
        have n3_ : Aside0 (((w264.setCell ⟨gb1006, 0, none⟩ (.int .i64 t1004)).setCell ⟨gb1006, 1, none⟩ (.int .i64 t1005)).heap[gb998]? = some (.cells #[.int .i64 t994, .int .i64 t995] 25 (0, 0))) := ⟨by (with_reducible repeat (first | refine blk_drewN ?_ _ | refine blk_drew ?_ | refine blk_alloc ?_ _)); refine blk_far ?_ NB998_1006.out _; (with_reducible repeat (first | refine blk_drewN ?_ _ | refine blk_drew ?_ | refine blk_alloc ?_ _)); refine blk_far ?_ NB998_1006.out _; (with_reducible repeat (first | refine blk_drewN ?_ _ | refine blk_drew ?_ | refine blk_alloc ?_ _)); exact BK998.out⟩
        have n4_ : Aside0 (((w264.setCell ⟨gb1006, 0, none⟩ (.int .i64 t1004)).setCell ⟨gb1006, 1, none⟩ (.int .i64 t1005)).heap[gb1003]? = some (.cells #[.int .i64 t999, .int .i64 t1000] 25 (0, 0))) := ⟨by (with_reducible repeat (first | refine blk_drewN ?_ _ | refine blk_drew ?_ | refine blk_alloc ?_ _)); refine blk_far ?_ NB1003_1006.out _; (with_reducible repeat (first | refine blk_drewN ?_ _ | refine blk_drew ?_ | refine blk_alloc ?_ _)); refine blk_far ?_ NB1003_1006.out _; (with_reducible repeat (first | refine blk_drewN ?_ _ | refine blk_drew ?_ | refine blk_alloc ?_ _)); exact BK1003.out⟩
        have n5_ : Aside0 (((w264.setCell ⟨gb1006, 0, none⟩ (.int .i64 t1004)).setCell ⟨gb1006, 1, none⟩ (.int .i64 t1005)).heap[gb1006]? = some (.cells #[.int .i64 t1004, .int .i64 t1005] 25 (0, 0))) := ⟨by (with_reducible repeat (first | refine blk_drewN ?_ _ | refine blk_drew ?_ | refine blk_alloc ?_ _)); refine blk_put (cs := #[.int .i64 t1004, .int .i64 0]) ?_ 1 _ rfl; (with_reducible repeat (first | refine blk_drewN ?_ _ | refine blk_drew ?_ | refine blk_alloc ?_ _)); refine blk_put (cs := #[.int .i64 0, .int .i64 0]) ?_ 0 _ rfl; (with_reducible repeat (first | refine blk_drewN ?_ _ | refine blk_drew ?_ | refine blk_alloc ?_ _)); exact BK1006.out⟩
        have n6_ : Aside0 (Below w.heap.size w ((w264.setCell ⟨gb1006, 0, none⟩ (.int .i64 t1004)).setCell ⟨gb1006, 1, none⟩ (.int .i64 t1005))) := ⟨bv5_ HB GE909 GE968 GE998 GE1003 GE1006⟩
        (try clear HO908)
        (try clear BK909)
        (try clear BK968)
        (try clear BK998)
        (try clear BK1003)
        (try clear BK1006)
        (try clear HB)
        generalize ((w264.setCell ⟨gb1006, 0, none⟩ (.int .i64 t1004)).setCell ⟨gb1006, 1, none⟩ (.int .i64 t1005)) = w270 at n0_ n1_ n2_ n3_ n4_ n5_ n6_ ⊢
        have HO908 := n0_
        have BK909 := n1_
        have BK968 := n2_
        have BK998 := n3_
        have BK1003 := n4_
        have BK1006 := n5_
        have HB := n6_
        clear n0_ n1_ n2_ n3_ n4_ n5_ n6_
        replace HO908 := Aside0.mk (Kd.R_drew HO908.out)
        replace BK909 := Aside0.mk (blk_drew BK909.out)
        replace BK968 := Aside0.mk (blk_drew BK968.out)
        replace BK998 := Aside0.mk (blk_drew BK998.out)
        replace BK1003 := Aside0.mk (blk_drew BK1003.out)
        replace BK1006 := Aside0.mk (blk_drew BK1006.out)
        replace HB := Aside0.mk (below_drew1 HB.out)
        refine start_ (n := 28) (S := fun w' => w'.cell? ⟨gb998, 0, none⟩ = some (.int .i64 t994) ∧ w'.cell? ⟨gb998, 1, none⟩ = some (.int .i64 t995) ∧ w'.cell? ⟨gb1003, 0, none⟩ = some (.int .i64 t999) ∧ w'.cell? ⟨gb1003, 1, none⟩ = some (.int .i64 t1000) ∧ w'.cell? ⟨gb1006, 0, none⟩ = some (.int .i64 t1004) ∧ w'.cell? ⟨gb1006, 1, none⟩ = some (.int .i64 t1005)) (ds := []) (bs 28 0) (by kernel_rfl) rfl (by kernel_rfl) ⟨(blk_cell BK998.out 0).trans rfl, (blk_cell BK998.out 1).trans rfl, (blk_cell BK1003.out 0).trans rfl, (blk_cell BK1003.out 1).trans rfl, (blk_cell BK1006.out 0).trans rfl, (blk_cell BK1006.out 1).trans rfl⟩ (fun hHeld => ?_); refine with_tabW laws_FnAdversaries.tab23 laws_FnAdversaries.bits23 (fun HT_ HW_ => ?_)
        generalize w270.drew = w271 at HO908 BK909 BK968 BK998 BK1003 BK1006 HB hHeld ⊢
        refine pu_ HT_ 1 134 (bs 28 2) ?_
        refine pu_ HT_ 2 135 (bs 28 6) ?_
        refine pu_ HT_ 5 138 (bs 28 38) ?_
        refine pu_ HT_ 6 139 (bs 28 102) ?_
        refine ta6_ HT_ HW_ 0 133 (bs 28 103) hHeld ?_
        refine ta6_ HT_ HW_ 4 137 (bs 28 119) hHeld ?_
        refine on_ HT_ 3 136 (bs 28 127) (fun K hK => ?_)
        refine goes_ Try.func13 (by kernel_rfl) rfl #[.agg #[.int .i64 t994, .int .i64 t995], .int .i64 t996, .int .i64 t997] (by rfl) rfl rfl mp_ ?_
        with_reducible refine (impl_AskedOf.calls t994 t995 t996 t997 t1007 _ A230.out).mono ?_
        rintro e w272 ⟨rfl, hb⟩
        refine ⟨_, rfl, ?_⟩
        replace HO908 := Aside0.mk (Kd.R_below (rv_ HO908) hb)
        replace BK909 := kb_ BK909 hb
        replace BK968 := kb_ BK968 hb
        replace BK998 := kb_ BK998 hb
        replace BK1003 := kb_ BK1003 hb
        replace BK1006 := kb_ BK1006 hb
        replace HB := Aside0.mk (below_step (bv5_ HB GE909 GE968 GE998 GE1003 GE1006) hb)
        (try clear hb)
        (try clear hb2)
        (try clear hk)
        (try clear hi)
        refine hK.out _ _ ⟨(blk_cell BK998.out 0).trans rfl, (blk_cell BK998.out 1).trans rfl, (blk_cell BK1003.out 0).trans rfl, (blk_cell BK1003.out 1).trans rfl, (blk_cell BK1006.out 0).trans rfl, (blk_cell BK1006.out 1).trans rfl⟩ (fun hHeld => ?_)
        clear hK K
        refine no_ 136 ?_
        refine on_ HT_ 7 140 (bs 28 255) (fun K hK => ?_)
        refine goes_ Try.func17 (by kernel_rfl) rfl #[.agg #[.int .i64 t994, .int .i64 t995], .int .i64 t996, .int .i64 t997] (by rfl) rfl rfl mp_ ?_
        with_reducible refine (spec_AskedOf.calls k t994 t995 t996 t997 t1008 _ A231.out).mono ?_
        rintro e w273 ⟨rfl, hb⟩
        refine ⟨_, rfl, ?_⟩
        replace HO908 := Aside0.mk (Kd.R_below (rv_ HO908) hb)
        replace BK909 := kb_ BK909 hb
        replace BK968 := kb_ BK968 hb
        replace BK998 := kb_ BK998 hb
        replace BK1003 := kb_ BK1003 hb
        replace BK1006 := kb_ BK1006 hb
        replace HB := Aside0.mk (below_step (bv5_ HB GE909 GE968 GE998 GE1003 GE1006) hb)
        (try clear hb)
        (try clear hb2)
        (try clear hk)
        (try clear hi)
        refine hK.out _ _ ⟨(blk_cell BK998.out 0).trans rfl, (blk_cell BK998.out 1).trans rfl, (blk_cell BK1003.out 0).trans rfl, (blk_cell BK1003.out 1).trans rfl, (blk_cell BK1006.out 0).trans rfl, (blk_cell BK1006.out 1).trans rfl⟩ (fun hHeld => ?_)
        clear hK K
        refine no_ 140 ?_
        refine pu_ HT_ 8 141 (bs 28 511) ?_
        refine pu_ HT_ 9 142 (bs 28 1023) ?_
        refine pu_ HT_ 11 144 (bs 28 3071) ?_
        refine pu_ HT_ 12 145 (bs 28 7167) ?_
        refine pu_ HT_ 15 148 (bs 28 39935) ?_
        refine pu_ HT_ 16 149 (bs 28 105471) ?_
        refine ta6_ HT_ HW_ 10 143 (bs 28 106495) hHeld ?_
        refine ta6_ HT_ HW_ 14 147 (bs 28 122879) hHeld ?_
        refine on_ HT_ 13 146 (bs 28 131071) (fun K hK => ?_)
        refine goes_ Try.func12 (by kernel_rfl) rfl #[.agg #[.int .i64 t999, .int .i64 t1000], .int .i64 t1001, .int .i64 t1002] (by rfl) rfl rfl mp_ ?_
        with_reducible refine (impl_ForcedLeft.calls t999 t1000 t1001 t1002 t1009 _ A233.out).mono ?_
        rintro e w274 ⟨rfl, hb⟩
        refine ⟨_, rfl, ?_⟩
        replace HO908 := Aside0.mk (Kd.R_below (rv_ HO908) hb)
        replace BK909 := kb_ BK909 hb
        replace BK968 := kb_ BK968 hb
        replace BK998 := kb_ BK998 hb
        replace BK1003 := kb_ BK1003 hb
        replace BK1006 := kb_ BK1006 hb
        replace HB := Aside0.mk (below_step (bv5_ HB GE909 GE968 GE998 GE1003 GE1006) hb)
        (try clear hb)
        (try clear hb2)
        (try clear hk)
        (try clear hi)
        refine hK.out _ _ ⟨(blk_cell BK998.out 0).trans rfl, (blk_cell BK998.out 1).trans rfl, (blk_cell BK1003.out 0).trans rfl, (blk_cell BK1003.out 1).trans rfl, (blk_cell BK1006.out 0).trans rfl, (blk_cell BK1006.out 1).trans rfl⟩ (fun hHeld => ?_)
        clear hK K
        refine no_ 146 ?_
        refine on_ HT_ 17 150 (bs 28 262143) (fun K hK => ?_)
        refine goes_ Try.func18 (by kernel_rfl) rfl #[.agg #[.int .i64 t999, .int .i64 t1000], .int .i64 t1001, .int .i64 t1002] (by rfl) rfl rfl mp_ ?_
        with_reducible refine (spec_ForcedLeft.calls k t999 t1000 t1001 t1002 t1010 _ A234.out).mono ?_
        rintro e w275 ⟨rfl, hb⟩
        refine ⟨_, rfl, ?_⟩
        replace HO908 := Aside0.mk (Kd.R_below (rv_ HO908) hb)
        replace BK909 := kb_ BK909 hb
        replace BK968 := kb_ BK968 hb
        replace BK998 := kb_ BK998 hb
        replace BK1003 := kb_ BK1003 hb
        replace BK1006 := kb_ BK1006 hb
        replace HB := Aside0.mk (below_step (bv5_ HB GE909 GE968 GE998 GE1003 GE1006) hb)
        (try clear hb)
        (try clear hb2)
        (try clear hk)
        (try clear hi)
        refine hK.out _ _ ⟨(blk_cell BK998.out 0).trans rfl, (blk_cell BK998.out 1).trans rfl, (blk_cell BK1003.out 0).trans rfl, (blk_cell BK1003.out 1).trans rfl, (blk_cell BK1006.out 0).trans rfl, (blk_cell BK1006.out 1).trans rfl⟩ (fun hHeld => ?_)
        clear hK K
        refine no_ 150 ?_
        refine pu_ HT_ 18 151 (bs 28 524287) ?_
        refine pu_ HT_ 19 152 (bs 28 1048575) ?_
        refine pu_ HT_ 20 153 (bs 28 2097151) ?_
        refine ta6_ HT_ HW_ 21 154 (bs 28 4194303) hHeld ?_
        refine ta6_ HT_ HW_ 23 156 (bs 28 12582911) hHeld ?_
        refine on_ HT_ 22 155 (bs 28 16777215) (fun K hK => ?_)
        refine goes_ Try.func19 (by kernel_rfl) rfl #[.agg #[.int .i64 t1004, .int .i64 t1005]] (by rfl) rfl rfl mp_ ?_
        with_reducible refine (impl_IsEvasive.calls t1004 t1005 t1011 _ A236.out).mono ?_
        rintro e w276 ⟨rfl, hb⟩
        refine ⟨_, rfl, ?_⟩
        replace HO908 := Aside0.mk (Kd.R_below (rv_ HO908) hb)
        replace BK909 := kb_ BK909 hb
        replace BK968 := kb_ BK968 hb
        replace BK998 := kb_ BK998 hb
        replace BK1003 := kb_ BK1003 hb
        replace BK1006 := kb_ BK1006 hb
        replace HB := Aside0.mk (below_step (bv5_ HB GE909 GE968 GE998 GE1003 GE1006) hb)
        (try clear hb)
        (try clear hb2)
        (try clear hk)
        (try clear hi)
        refine hK.out _ _ ⟨(blk_cell BK998.out 0).trans rfl, (blk_cell BK998.out 1).trans rfl, (blk_cell BK1003.out 0).trans rfl, (blk_cell BK1003.out 1).trans rfl, (blk_cell BK1006.out 0).trans rfl, (blk_cell BK1006.out 1).trans rfl⟩ (fun hHeld => ?_)
        clear hK K
        refine no_ 155 ?_
        refine on_ HT_ 24 157 (bs 28 33554431) (fun K hK => ?_)
        refine goes_ Try.func20 (by kernel_rfl) rfl #[.agg #[.int .i64 t1004, .int .i64 t1005]] (by rfl) rfl rfl mp_ ?_
        with_reducible refine (spec_IsEvasive.calls k t1004 t1005 t1012 _ A237.out).mono ?_
        rintro e w277 ⟨rfl, hb⟩
        refine ⟨_, rfl, ?_⟩
        replace HO908 := Aside0.mk (Kd.R_below (rv_ HO908) hb)
        replace BK909 := kb_ BK909 hb
        replace BK968 := kb_ BK968 hb
        replace BK998 := kb_ BK998 hb
        replace BK1003 := kb_ BK1003 hb
        replace BK1006 := kb_ BK1006 hb
        replace HB := Aside0.mk (below_step (bv5_ HB GE909 GE968 GE998 GE1003 GE1006) hb)
        (try clear hb)
        (try clear hb2)
        (try clear hk)
        (try clear hi)
        refine hK.out _ _ ⟨(blk_cell BK998.out 0).trans rfl, (blk_cell BK998.out 1).trans rfl, (blk_cell BK1003.out 0).trans rfl, (blk_cell BK1003.out 1).trans rfl, (blk_cell BK1006.out 0).trans rfl, (blk_cell BK1006.out 1).trans rfl⟩ (fun hHeld => ?_)
        clear hK K
        refine no_ 157 ?_
        refine pu_ HT_ 25 158 (bs 28 67108863) ?_
        refine pu_ HT_ 26 159 (bs 28 134217727) ?_
        refine pu_ HT_ 27 2 (bs 28 268435455) ?_
        refine done_ (done_of HT_.out (by kernel_rfl)) ?_
        try go_wp2
        go_ret
        exact ⟨by first | rfl | (simp [errW_none, errW_some] <;> rfl) | (simp [*, errW_none, errW_some] <;> rfl), bv5_ HB GE909 GE968 GE998 GE1003 GE1006⟩
       ·rw [if_neg c235] at H
        exact absurd H (by simp)
      ·rw [if_neg c232] at H
       exact absurd H (by simp)
    ·rw [if_neg c151] at H
     exact absurd H (by simp)
  ·rw [if_neg c7] at H
   exact absurd H (by simp)

/-- THE ONE PURE STATEMENT of laws_FnAdversaries: yours. -/
def laws_FnAdversaries.Pure : Prop := ∀ (l0 : List Int), l0.length ≤ maxLen → l0.length * 1 ≤ 140737488351232 → (∀ x ∈ l0, (Lit.int .u8 x).wf = true) → ∃ k, laws_FnAdversaries.f k l0 = some true
theorem laws_FnAdversaries.walk (P : laws_FnAdversaries.Pure) (a0 : Option Addr) (len0 cap0 : Nat) (z0 : List Int) (w : World) (w0 : (a0 = none ∧ len0 = 0 ∧ cap0 = 0 ∧ z0 = []) ∨ ∃ x, a0 = some x ∧ len0 ≤ cap0 ∧ cap0 ≤ maxLen ∧ z0.length = cap0 ∧ (∀ i, i < z0.length → w.cell? (x.add i) = some (.int .u8 (z0.getD i 0))) ∧ ∀ n ∈ z0, (Lit.int .u8 n).wf = true) (y0 : len0 * 1 ≤ 140737488351232) :
  Calls Try.prog 3 #[.slice a0 len0 cap0] w fun e w' => e = .returned (.bool true) ∧ Below w.heap.size w w' := by
 obtain ⟨l0, rfl, hr0, hm0, hw0, hc0⟩ := ReadsInt.ofRowC w0
 obtain ⟨k, h⟩ := P l0 hm0 y0 hw0
 refine (laws_FnAdversaries.calls k _ _ l0 true w (Kd.C_of_reads (d := (0 : Int)) (h1 := fun _ => rfl) hr0) hc0 h).mono ?_
 rintro e w' ⟨rfl, hd⟩
 exact ⟨rfl, hd⟩

end Go.Proofs.Ytflnlnkbepoimaa.P
