-- Out of the translation, by this session's program over the printer's; Lean checks it.
import Derived.Test.YtplnffhjpmnifaaSh
import Derived.Test.YtplnffhjpmnifaaQ0
import Derived.Test.YtplnffhjpmnifaaQ3
import Derived.Test.YtplnffhjpmnifaaQ4
import Derived.Test.YtplnffhjpmnifaaQ5
import Derived.Test.YtplnffhjpmnifaaQ6
import Derived.Test.YtplnffhjpmnifaaQ7
import Derived.Test.YtplnffhjpmnifaaQ8
import Derived.Test.YtplnffhjpmnifaaQ9
import Derived.Test.YtplnffhjpmnifaaQ10
import Derived.Test.YtplnffhjpmnifaaQ11
namespace Go.Proofs.Ytplnffhjpmnifaa.P
open Go.RowKit Go.Proofs.YtplnffhjpmnifaaW.PrintWords Go.Proofs.YtplnffhjpmnifaaW.PrintLast Go.Proofs.YtplnffhjpmnifaaW.PrintMore
attribute [local go_sem] max2_int min2_int max_two min_two max_three min_three max_four min_four
set_option linter.unusedVariables false
set_option linter.unusedSimpArgs false

/-! ### laws_FnCertificates: function 4 -/
theorem kbl_ {w W w1 : World} {g : Nat} {o : Obj} (h : Aside0 (w.heap[g]? = some o)) (hb : Below W.heap.size W w1) (e : w.heap[g]? = some o → W.heap[g]? = some o := by intro h_; (with_reducible repeat (first | refine blk_drewN ?_ _ | refine blk_drew ?_ | refine blk_alloc ?_ _)); exact h_) : Aside0 (w1.heap[g]? = some o) := ⟨blk_below (e h.out) hb⟩
def laws_FnCertificates.l0 : Nat → List Int → Int → Int → List Int → Int → Int → Int → Option (Bool)
 | 0, _, _, _, _, _, _, _ => none
 | k + 1, x0, x4, x7, x12, x14, x904000, x904001 => if x14 < (x12.length : Int) then (if 0 ≤ x14 then ((impl_IsSensitiveBlock.f x904000 x904001 x4 (rd x12 x14)).bind fun t921 => (if t921 = true then (if (Go.bits .and .i64 (rd x12 x14) x7) = 0 then (none) else (laws_FnCertificates.l0 k x0 x4 x7 x12 (wrap64 (x14 + 1)) x904000 x904001)) else (none))) else (none)) else ((spec_DrawMinimalBlocks.f k x0).bind fun bt923 => ((impl_MinimalBlocks.f k bt923.1 bt923.2.1 bt923.2.2).bind fun bt927 => ((spec_MinimalBlocks.f k bt923.1 bt923.2.1 bt923.2.2).bind fun bt931 => ((spec_DrawIsCertificate.f k x0).bind fun bt935 => ((spec_DrawIsSensitiveBlock.f k x0).bind fun bt940 => ((spec_DrawCertificateOf.f k x0).bind fun bt945 => ((spec_DrawBlockSensitivityOf.f k x0).bind fun bt949 => ((spec_DrawMeetingOf.f k x0).bind fun bt952 => ((spec_DrawBlockSensitivityAt.f k x0).bind fun bt955 => ((impl_SensitiveEdges.f k bt949.1 bt949.2).bind fun t959 => (if (bt927.2 == bt931.2) = true then ((laws_sameInts.f k bt927.1 bt931.1).bind fun t960 => (if t960 = true then ((impl_IsCertificate.f bt935.1 bt935.2.1 bt935.2.2.1 bt935.2.2.2).bind fun t961 => ((spec_IsCertificate.f k bt935.1 bt935.2.1 bt935.2.2.1 bt935.2.2.2).bind fun t962 => (if (t961 == t962) = true then ((impl_IsSensitiveBlock.f bt940.1 bt940.2.1 bt940.2.2.1 bt940.2.2.2).bind fun t963 => ((spec_IsSensitiveBlock.f bt940.1 bt940.2.1 bt940.2.2.1 bt940.2.2.2).bind fun t964 => (if (t963 == t964) = true then ((impl_CertificateOf.f k bt945.1 bt945.2.1 bt945.2.2).bind fun t965 => ((spec_CertificateOf.f k bt945.1 bt945.2.1 bt945.2.2).bind fun t966 => (if t965 = t966 then ((impl_BlockSensitivityOf.f k bt949.1 bt949.2).bind fun t967 => ((spec_BlockSensitivityOf.f k bt949.1 bt949.2).bind fun t968 => (if t967 = t968 then ((impl_SensitivityOf.f k bt949.1 bt949.2).bind fun t969 => ((spec_SensitivityOf.f k bt949.1 bt949.2).bind fun t970 => (if t969 = t970 then ((spec_SensitiveEdges.f k bt949.1 bt949.2).bind fun t971 => (if t959 = t971 then ((impl_MeetingOf.f k bt952.1 bt952.2).bind fun t972 => ((spec_MeetingOf.f k bt952.1 bt952.2).bind fun t973 => (if (t972 == t973) = true then ((impl_BlockSensitivityAt.f k bt955.1 bt955.2.1 bt955.2.2).bind fun t974 => ((spec_BlockSensitivityAt.f k bt955.1 bt955.2.1 bt955.2.2).bind fun t975 => (if t974 = t975 then ((impl_SensitivityAt.f k bt955.1 bt955.2.1 bt955.2.2).bind fun t976 => ((spec_SensitivityAt.f k bt955.1 bt955.2.1 bt955.2.2).bind fun t977 => (if t976 = t977 then ((impl_CertificateAt.f k bt955.1 bt955.2.1 bt955.2.2).bind fun t978 => ((spec_CertificateAt.f k bt955.1 bt955.2.1 bt955.2.2).bind fun t979 => (some (t978 == t979)))) else (none)))) else (none)))) else (none)))) else (none))) else (none)))) else (none)))) else (none)))) else (none)))) else (none)))) else (none))) else (none))))))))))))
def laws_FnCertificates.f (k : Nat) (l0 : List Int) : Option (Bool) := (laws_big.f l0).bind fun t899 => (if t899 = true then (some true) else ((spec_DrawCertificateSet.f k l0).bind fun bt900 => ((impl_CertificateSet.f k bt900.1 bt900.2.1 bt900.2.2).bind fun bt904 => ((spec_CertificateSet.f k bt900.1 bt900.2.1 bt900.2.2).bind fun bt906 => (if bt904.1 = bt906.1 then (if (bt904.2 != bt906.2) = true then (none) else (if bt904.2 = true then ((impl_CertificateAt.f k bt900.1 bt900.2.1 bt900.2.2).bind fun t908 => ((impl_BlockSensitivityAt.f k bt900.1 bt900.2.1 bt900.2.2).bind fun t909 => ((impl_SensitivityAt.f k bt900.1 bt900.2.1 bt900.2.2).bind fun t910 => ((impl_MinimalBlocks.f k bt900.1 bt900.2.1 bt900.2.2).bind fun bt911 => ((impl_IsCertificate.f bt900.1 bt900.2.1 bt900.2.2 bt906.1).bind fun t915 => (if t915 = true then ((impl_CountOnes.f 5 bt906.1).bind fun t916 => (if t908 = t916 then (if t910 > t909 then (none) else (if t909 > t908 then (none) else ((spec_ValueAt.f bt900.1 bt900.2.1 bt900.2.2).bind fun t917 => ((impl_CertificateOf.f k bt900.1 bt900.2.1 t917).bind fun t918 => (if t908 > t918 then (none) else ((impl_MeetingOf.f k bt900.1 bt900.2.1).bind fun t919 => (if t919 = true then (laws_FnCertificates.l0 k l0 bt900.2.2 bt906.1 bt911.1 0 bt900.1 bt900.2.1) else (none)))))))) else (none))) else (none))))))) else ((spec_DrawMinimalBlocks.f k l0).bind fun bt980 => ((impl_MinimalBlocks.f k bt980.1 bt980.2.1 bt980.2.2).bind fun bt984 => ((spec_MinimalBlocks.f k bt980.1 bt980.2.1 bt980.2.2).bind fun bt988 => ((spec_DrawIsCertificate.f k l0).bind fun bt992 => ((spec_DrawIsSensitiveBlock.f k l0).bind fun bt997 => ((spec_DrawCertificateOf.f k l0).bind fun bt1002 => ((spec_DrawBlockSensitivityOf.f k l0).bind fun bt1006 => ((spec_DrawMeetingOf.f k l0).bind fun bt1009 => ((spec_DrawBlockSensitivityAt.f k l0).bind fun bt1012 => ((impl_SensitiveEdges.f k bt1006.1 bt1006.2).bind fun t1016 => (if (bt984.2 == bt988.2) = true then ((laws_sameInts.f k bt984.1 bt988.1).bind fun t1017 => (if t1017 = true then ((impl_IsCertificate.f bt992.1 bt992.2.1 bt992.2.2.1 bt992.2.2.2).bind fun t1018 => ((spec_IsCertificate.f k bt992.1 bt992.2.1 bt992.2.2.1 bt992.2.2.2).bind fun t1019 => (if (t1018 == t1019) = true then ((impl_IsSensitiveBlock.f bt997.1 bt997.2.1 bt997.2.2.1 bt997.2.2.2).bind fun t1020 => ((spec_IsSensitiveBlock.f bt997.1 bt997.2.1 bt997.2.2.1 bt997.2.2.2).bind fun t1021 => (if (t1020 == t1021) = true then ((impl_CertificateOf.f k bt1002.1 bt1002.2.1 bt1002.2.2).bind fun t1022 => ((spec_CertificateOf.f k bt1002.1 bt1002.2.1 bt1002.2.2).bind fun t1023 => (if t1022 = t1023 then ((impl_BlockSensitivityOf.f k bt1006.1 bt1006.2).bind fun t1024 => ((spec_BlockSensitivityOf.f k bt1006.1 bt1006.2).bind fun t1025 => (if t1024 = t1025 then ((impl_SensitivityOf.f k bt1006.1 bt1006.2).bind fun t1026 => ((spec_SensitivityOf.f k bt1006.1 bt1006.2).bind fun t1027 => (if t1026 = t1027 then ((spec_SensitiveEdges.f k bt1006.1 bt1006.2).bind fun t1028 => (if t1016 = t1028 then ((impl_MeetingOf.f k bt1009.1 bt1009.2).bind fun t1029 => ((spec_MeetingOf.f k bt1009.1 bt1009.2).bind fun t1030 => (if (t1029 == t1030) = true then ((impl_BlockSensitivityAt.f k bt1012.1 bt1012.2.1 bt1012.2.2).bind fun t1031 => ((spec_BlockSensitivityAt.f k bt1012.1 bt1012.2.1 bt1012.2.2).bind fun t1032 => (if t1031 = t1032 then ((impl_SensitivityAt.f k bt1012.1 bt1012.2.1 bt1012.2.2).bind fun t1033 => ((spec_SensitivityAt.f k bt1012.1 bt1012.2.1 bt1012.2.2).bind fun t1034 => (if t1033 = t1034 then ((impl_CertificateAt.f k bt1012.1 bt1012.2.1 bt1012.2.2).bind fun t1035 => ((spec_CertificateAt.f k bt1012.1 bt1012.2.1 bt1012.2.2).bind fun t1036 => (some (t1035 == t1036)))) else (none)))) else (none)))) else (none)))) else (none))) else (none)))) else (none)))) else (none)))) else (none)))) else (none)))) else (none))) else (none)))))))))))))) else (none))))))
theorem laws_FnCertificates.mono_l : ∀ k, (∀ y0 y1 y2 y3 y4 y5 y6, LeO (laws_FnCertificates.l0 k y0 y1 y2 y3 y4 y5 y6) (laws_FnCertificates.l0 (k + 1) y0 y1 y2 y3 y4 y5 y6))
 | 0 => fun _ _ _ _ _ _ _ r h => by simp [laws_FnCertificates.l0] at h
 | k + 1 => by
  have ih0 := laws_FnCertificates.mono_l k
  ·intro y0 y1 y2 y3 y4 y5 y6
   unfold laws_FnCertificates.l0
   repeat' first
   | (with_reducible exact ih0 _ _ _ _ _ _ _)
   | (with_reducible exact impl_BlockSensitivityAt.mono _ _ _ _)
   | (with_reducible exact impl_BlockSensitivityOf.mono _ _ _)
   | (with_reducible exact impl_CertificateAt.mono _ _ _ _)
   | (with_reducible exact impl_CertificateOf.mono _ _ _ _)
   | (with_reducible exact impl_CertificateSet.mono _ _ _ _)
   | (with_reducible exact impl_MeetingOf.mono _ _ _)
   | (with_reducible exact impl_MinimalBlocks.mono _ _ _ _)
   | (with_reducible exact impl_SensitiveEdges.mono _ _ _)
   | (with_reducible exact impl_SensitivityAt.mono _ _ _ _)
   | (with_reducible exact impl_SensitivityOf.mono _ _ _)
   | (with_reducible exact laws_sameInts.mono _ _ _)
   | (with_reducible exact spec_BlockSensitivityAt.mono _ _ _ _)
   | (with_reducible exact spec_BlockSensitivityOf.mono _ _ _)
   | (with_reducible exact spec_CertificateAt.mono _ _ _ _)
   | (with_reducible exact spec_CertificateOf.mono _ _ _ _)
   | (with_reducible exact spec_CertificateSet.mono _ _ _ _)
   | (with_reducible exact spec_DrawBlockSensitivityAt.mono _ _)
   | (with_reducible exact spec_DrawBlockSensitivityOf.mono _ _)
   | (with_reducible exact spec_DrawCertificateOf.mono _ _)
   | (with_reducible exact spec_DrawCertificateSet.mono _ _)
   | (with_reducible exact spec_DrawIsCertificate.mono _ _)
   | (with_reducible exact spec_DrawIsSensitiveBlock.mono _ _)
   | (with_reducible exact spec_DrawMeetingOf.mono _ _)
   | (with_reducible exact spec_DrawMinimalBlocks.mono _ _)
   | (with_reducible exact spec_IsCertificate.mono _ _ _ _ _)
   | (with_reducible exact spec_MeetingOf.mono _ _ _)
   | (with_reducible exact spec_MinimalBlocks.mono _ _ _ _)
   | (with_reducible exact spec_SensitiveEdges.mono _ _ _)
   | (with_reducible exact spec_SensitivityAt.mono _ _ _ _)
   | (with_reducible exact spec_SensitivityOf.mono _ _ _)
   | (with_reducible exact LeO.refl _)
   | (with_reducible exact LeO.none _)
   | (with_reducible refine LeO.ite ?_ ?_)
   | (with_reducible refine LeO.bind ?_ (fun _ => ?_))
   | exact ih0 _ _ _ _ _ _ _
   | exact impl_BlockSensitivityAt.mono _ _ _ _
   | exact impl_BlockSensitivityOf.mono _ _ _
   | exact impl_CertificateAt.mono _ _ _ _
   | exact impl_CertificateOf.mono _ _ _ _
   | exact impl_CertificateSet.mono _ _ _ _
   | exact impl_MeetingOf.mono _ _ _
   | exact impl_MinimalBlocks.mono _ _ _ _
   | exact impl_SensitiveEdges.mono _ _ _
   | exact impl_SensitivityAt.mono _ _ _ _
   | exact impl_SensitivityOf.mono _ _ _
   | exact laws_sameInts.mono _ _ _
   | exact spec_BlockSensitivityAt.mono _ _ _ _
   | exact spec_BlockSensitivityOf.mono _ _ _
   | exact spec_CertificateAt.mono _ _ _ _
   | exact spec_CertificateOf.mono _ _ _ _
   | exact spec_CertificateSet.mono _ _ _ _
   | exact spec_DrawBlockSensitivityAt.mono _ _
   | exact spec_DrawBlockSensitivityOf.mono _ _
   | exact spec_DrawCertificateOf.mono _ _
   | exact spec_DrawCertificateSet.mono _ _
   | exact spec_DrawIsCertificate.mono _ _
   | exact spec_DrawIsSensitiveBlock.mono _ _
   | exact spec_DrawMeetingOf.mono _ _
   | exact spec_DrawMinimalBlocks.mono _ _
   | exact spec_IsCertificate.mono _ _ _ _ _
   | exact spec_MeetingOf.mono _ _ _
   | exact spec_MinimalBlocks.mono _ _ _ _
   | exact spec_SensitiveEdges.mono _ _ _
   | exact spec_SensitivityAt.mono _ _ _ _
   | exact spec_SensitivityOf.mono _ _ _
   | exact LeO.none _
   | refine LeO.ite ?_ ?_
   | refine LeO.bind ?_ (fun _ => ?_)
theorem laws_FnCertificates.mono : ∀ a0 k, LeO (laws_FnCertificates.f k a0) (laws_FnCertificates.f (k + 1) a0) := by
 intro a0 k
 have ih0 := laws_FnCertificates.mono_l k
 unfold laws_FnCertificates.f
 repeat' first
   | (with_reducible exact ih0 _ _ _ _ _ _ _)
   | (with_reducible exact impl_BlockSensitivityAt.mono _ _ _ _)
   | (with_reducible exact impl_BlockSensitivityOf.mono _ _ _)
   | (with_reducible exact impl_CertificateAt.mono _ _ _ _)
   | (with_reducible exact impl_CertificateOf.mono _ _ _ _)
   | (with_reducible exact impl_CertificateSet.mono _ _ _ _)
   | (with_reducible exact impl_MeetingOf.mono _ _ _)
   | (with_reducible exact impl_MinimalBlocks.mono _ _ _ _)
   | (with_reducible exact impl_SensitiveEdges.mono _ _ _)
   | (with_reducible exact impl_SensitivityAt.mono _ _ _ _)
   | (with_reducible exact impl_SensitivityOf.mono _ _ _)
   | (with_reducible exact laws_sameInts.mono _ _ _)
   | (with_reducible exact spec_BlockSensitivityAt.mono _ _ _ _)
   | (with_reducible exact spec_BlockSensitivityOf.mono _ _ _)
   | (with_reducible exact spec_CertificateAt.mono _ _ _ _)
   | (with_reducible exact spec_CertificateOf.mono _ _ _ _)
   | (with_reducible exact spec_CertificateSet.mono _ _ _ _)
   | (with_reducible exact spec_DrawBlockSensitivityAt.mono _ _)
   | (with_reducible exact spec_DrawBlockSensitivityOf.mono _ _)
   | (with_reducible exact spec_DrawCertificateOf.mono _ _)
   | (with_reducible exact spec_DrawCertificateSet.mono _ _)
   | (with_reducible exact spec_DrawIsCertificate.mono _ _)
   | (with_reducible exact spec_DrawIsSensitiveBlock.mono _ _)
   | (with_reducible exact spec_DrawMeetingOf.mono _ _)
   | (with_reducible exact spec_DrawMinimalBlocks.mono _ _)
   | (with_reducible exact spec_IsCertificate.mono _ _ _ _ _)
   | (with_reducible exact spec_MeetingOf.mono _ _ _)
   | (with_reducible exact spec_MinimalBlocks.mono _ _ _ _)
   | (with_reducible exact spec_SensitiveEdges.mono _ _ _)
   | (with_reducible exact spec_SensitivityAt.mono _ _ _ _)
   | (with_reducible exact spec_SensitivityOf.mono _ _ _)
   | (with_reducible exact LeO.refl _)
   | (with_reducible exact LeO.none _)
   | (with_reducible refine LeO.ite ?_ ?_)
   | (with_reducible refine LeO.bind ?_ (fun _ => ?_))
   | exact ih0 _ _ _ _ _ _ _
   | exact impl_BlockSensitivityAt.mono _ _ _ _
   | exact impl_BlockSensitivityOf.mono _ _ _
   | exact impl_CertificateAt.mono _ _ _ _
   | exact impl_CertificateOf.mono _ _ _ _
   | exact impl_CertificateSet.mono _ _ _ _
   | exact impl_MeetingOf.mono _ _ _
   | exact impl_MinimalBlocks.mono _ _ _ _
   | exact impl_SensitiveEdges.mono _ _ _
   | exact impl_SensitivityAt.mono _ _ _ _
   | exact impl_SensitivityOf.mono _ _ _
   | exact laws_sameInts.mono _ _ _
   | exact spec_BlockSensitivityAt.mono _ _ _ _
   | exact spec_BlockSensitivityOf.mono _ _ _
   | exact spec_CertificateAt.mono _ _ _ _
   | exact spec_CertificateOf.mono _ _ _ _
   | exact spec_CertificateSet.mono _ _ _ _
   | exact spec_DrawBlockSensitivityAt.mono _ _
   | exact spec_DrawBlockSensitivityOf.mono _ _
   | exact spec_DrawCertificateOf.mono _ _
   | exact spec_DrawCertificateSet.mono _ _
   | exact spec_DrawIsCertificate.mono _ _
   | exact spec_DrawIsSensitiveBlock.mono _ _
   | exact spec_DrawMeetingOf.mono _ _
   | exact spec_DrawMinimalBlocks.mono _ _
   | exact spec_IsCertificate.mono _ _ _ _ _
   | exact spec_MeetingOf.mono _ _ _
   | exact spec_MinimalBlocks.mono _ _ _ _
   | exact spec_SensitiveEdges.mono _ _ _
   | exact spec_SensitivityAt.mono _ _ _ _
   | exact spec_SensitivityOf.mono _ _ _
   | exact LeO.none _
   | refine LeO.ite ?_ ?_
   | refine LeO.bind ?_ (fun _ => ?_)
def laws_FnCertificates.T13 : Bool × List (List Nat × List Nat) := (true, [([], []), ([], []), ([], []), ([0, 1, 2], [0, 1, 2]), ([3], [3]), ([4, 3], [4]), ([5], [5]), ([5], [5]), ([7, 5], [5, 7]), ([8, 5, 5], [5, 8]), ([6, 9, 5], [5, 6, 9]), ([5, 10], [5, 10]), ([11, 9], [11]), ([12], [12]), ([12], [12]), ([13, 14, 12], [12, 13, 14]), ([12, 15], [12, 15]), ([16, 12], [16]), ([17], [17]), ([17], [17]), ([18, 19, 17], [17, 18, 19]), ([17, 20], [17, 20]), ([21, 17], [21]), ([22], [22]), ([22], [22]), ([22], [22]), ([22], [22]), ([25, 26, 22, 22], [22, 25, 26]), ([24, 27, 27, 22], [22, 24, 27]), ([23, 28, 22], [22, 23, 28]), ([22, 29], [22, 29]), ([30, 28], [30]), ([31], [31]), ([32, 31, 31], [31, 32]), ([33, 31], [31, 33]), ([31, 34], [31, 34])])
def laws_FnCertificates.B13 : List Nat := [0, 0, 0, 7, 15, 31, 63, 63, 191, 447, 1023, 2047, 4095, 8191, 8191, 32767, 65535, 131071, 262143, 262143, 1048575, 2097151, 4194303, 8388607, 8388607, 8388607, 8388607, 109051903, 260046847, 536870911, 1073741823, 2147483647, 4294967295, 8589934591, 17179869183, 34359738367]
theorem laws_FnCertificates.tab13 : rtab .any (opsOf Try.f4 13) = laws_FnCertificates.T13 := by kernel_rfl
theorem laws_FnCertificates.bits13 : waitsOk laws_FnCertificates.T13.2 laws_FnCertificates.B13 = true := by kernel_rfl
def laws_FnCertificates.T18 : Bool × List (List Nat × List Nat) := (true, [([], []), ([], []), ([], []), ([], []), ([2, 3], [2, 3]), ([4], [4]), ([0, 1, 5], [0, 1, 5]), ([6], [6]), ([7, 6], [7]), ([8], [8]), ([8], [8]), ([9, 10, 8], [8, 9, 10]), ([11, 8], [8, 11]), ([8], [8]), ([12, 13, 8], [8, 12, 13]), ([14, 8], [8, 14]), ([8, 15], [8, 15])])
def laws_FnCertificates.B18 : List Nat := [0, 0, 0, 0, 12, 28, 63, 127, 255, 511, 511, 2047, 4095, 511, 16383, 32767, 65535]
theorem laws_FnCertificates.tab18 : rtab .any (opsOf Try.f4 18) = laws_FnCertificates.T18 := by kernel_rfl
theorem laws_FnCertificates.bits18 : waitsOk laws_FnCertificates.T18.2 laws_FnCertificates.B18 = true := by kernel_rfl
def laws_FnCertificates.T30 : Bool × List (List Nat × List Nat) := (true, [([], []), ([], []), ([0, 1], [0, 1]), ([2], [2]), ([3], [3]), ([3], [3]), ([4, 5, 3, 3], [3, 4, 5]), ([3, 6], [3, 6]), ([7, 6], [7]), ([8], [8]), ([8], [8]), ([8], [8]), ([9, 10, 11, 8, 8], [8, 9, 10, 11]), ([8], [8]), ([8], [8]), ([8], [8]), ([13, 14, 15, 12, 8], [8, 13, 14, 15]), ([12, 16, 8], [8, 12, 16]), ([8, 17], [8, 17]), ([18, 16], [18]), ([19], [19]), ([19], [19]), ([19], [19]), ([20, 21, 22, 19, 19], [19, 20, 21, 22]), ([19], [19]), ([19], [19]), ([19], [19]), ([24, 25, 26, 23, 19], [19, 24, 25, 26]), ([23, 27, 19], [19, 23, 27]), ([19, 28], [19, 28]), ([29, 27], [29]), ([30], [30]), ([30], [30]), ([31, 32, 30, 30], [30, 31, 32]), ([30], [30]), ([30], [30]), ([34, 35, 33, 30], [30, 34, 35]), ([33, 36, 30], [30, 33, 36]), ([30, 37], [30, 37]), ([38, 36], [38]), ([39], [39]), ([40, 39, 39], [39, 40]), ([39], [39]), ([42, 41, 39], [39, 42]), ([41, 43, 39], [39, 41, 43]), ([39, 44], [39, 44]), ([45, 43], [45]), ([46], [46]), ([47, 46, 46], [46, 47]), ([46], [46]), ([49, 48, 46], [46, 49]), ([48, 50, 46], [46, 48, 50]), ([46, 51], [46, 51]), ([52, 50], [52]), ([53], [53]), ([53], [53]), ([55, 53, 53], [53, 55]), ([54, 56, 53], [53, 54, 56]), ([53, 57], [53, 57]), ([58, 56], [58]), ([59], [59]), ([60, 59, 59], [59, 60]), ([59], [59]), ([62, 61, 59], [59, 62]), ([61, 63, 59], [59, 61, 63]), ([59, 64], [59, 64]), ([65, 63], [65]), ([66], [66]), ([66], [66]), ([67, 68, 66, 66], [66, 67, 68]), ([66], [66]), ([66], [66]), ([70, 71, 69, 66], [66, 70, 71]), ([69, 72, 66], [66, 69, 72]), ([66, 73], [66, 73]), ([74, 72], [74]), ([75], [75]), ([75], [75]), ([76, 77, 75, 75], [75, 76, 77]), ([75], [75]), ([75], [75]), ([79, 80, 78, 75], [75, 79, 80]), ([78, 81, 75], [75, 78, 81]), ([75, 82], [75, 82]), ([83, 81], [83]), ([84], [84]), ([84], [84]), ([85, 86, 84, 84], [84, 85, 86]), ([84], [84]), ([84], [84]), ([88, 89, 87, 84], [84, 88, 89]), ([87, 90, 84], [84, 87, 90]), ([84, 91], [84, 91]), ([92, 90, 0, 1, 2, 3, 4, 5, 6, 7, 8, 9, 10, 11, 12, 13, 14, 15, 16, 17, 18, 19, 20, 21, 22, 23, 24, 25, 26, 27, 28, 29, 30, 31, 32, 33, 34, 35, 36, 37, 38, 39, 40, 41, 42, 43, 44, 45, 46, 47, 48, 49, 50, 51, 52, 53, 54, 55, 56, 57, 58, 59, 60, 61, 62, 63, 64, 65, 66, 67, 68, 69, 70, 71, 72, 73, 74, 75, 76, 77, 78, 79, 80, 81, 82, 83, 84, 85, 86, 87, 88, 89, 90, 91, 92], [92])])
def laws_FnCertificates.B30 : List Nat := [0, 0, 3, 7, 15, 15, 63, 127, 255, 511, 511, 511, 4095, 511, 511, 511, 65535, 131071, 262143, 524287, 1048575, 1048575, 1048575, 8388607, 1048575, 1048575, 1048575, 134217727, 268435455, 536870911, 1073741823, 2147483647, 2147483647, 8589934591, 2147483647, 2147483647, 68719476735, 137438953471, 274877906943, 549755813887, 1099511627775, 2199023255551, 1099511627775, 8796093022207, 17592186044415, 35184372088831, 70368744177663, 140737488355327, 281474976710655, 140737488355327, 1125899906842623, 2251799813685247, 4503599627370495, 9007199254740991, 18014398509481983, 18014398509481983, 54043195528445951, 144115188075855871, 288230376151711743, 576460752303423487, 1152921504606846975, 2305843009213693951, 1152921504606846975, 9223372036854775807, 18446744073709551615, 36893488147419103231, 73786976294838206463, 147573952589676412927, 147573952589676412927, 590295810358705651711, 147573952589676412927, 147573952589676412927, 4722366482869645213695, 9444732965739290427391, 18889465931478580854783, 37778931862957161709567, 75557863725914323419135, 75557863725914323419135, 302231454903657293676543, 75557863725914323419135, 75557863725914323419135, 2417851639229258349412351, 4835703278458516698824703, 9671406556917033397649407, 19342813113834066795298815, 38685626227668133590597631, 38685626227668133590597631, 154742504910672534362390527, 38685626227668133590597631, 38685626227668133590597631, 1237940039285380274899124223, 2475880078570760549798248447, 4951760157141521099596496895, 9903520314283042199192993791]
theorem laws_FnCertificates.tab30 : rtab .any (opsOf Try.f4 30) = laws_FnCertificates.T30 := by kernel_rfl
theorem laws_FnCertificates.bits30 : waitsOk laws_FnCertificates.T30.2 laws_FnCertificates.B30 = true := by kernel_rfl
set_option maxHeartbeats 8000000 in
set_option maxRecDepth 100000 in
theorem laws_FnCertificates.calls (k : Nat) (A0 : Option Addr) (c0 : Nat) (l0 : List Int) (r : Bool) (w : World) (hr0 : Kd.C (Kd.int .u8) w A0 l0.length l0) (hc0 : l0.length ≤ c0) (h : laws_FnCertificates.f k l0 = some r) :
  Calls Try.prog 4 #[.slice A0 l0.length c0] w fun e w' => e = .returned (.bool r) ∧ Below w.heap.size w w' := by
 have hu25 := Try.underlying25
 have HR0 := Aside0.mk hr0
 have HC0 := Aside0.mk hc0
 clear hr0 hc0
 have HB := Aside0.mk (Below.refl w.heap.size w)
 have H : ((laws_big.f l0).bind fun t899 => (if t899 = true then (some true) else ((spec_DrawCertificateSet.f k l0).bind fun bt900 => ((impl_CertificateSet.f k bt900.1 bt900.2.1 bt900.2.2).bind fun bt904 => ((spec_CertificateSet.f k bt900.1 bt900.2.1 bt900.2.2).bind fun bt906 => (if bt904.1 = bt906.1 then (if (bt904.2 != bt906.2) = true then (none) else (if bt904.2 = true then ((impl_CertificateAt.f k bt900.1 bt900.2.1 bt900.2.2).bind fun t908 => ((impl_BlockSensitivityAt.f k bt900.1 bt900.2.1 bt900.2.2).bind fun t909 => ((impl_SensitivityAt.f k bt900.1 bt900.2.1 bt900.2.2).bind fun t910 => ((impl_MinimalBlocks.f k bt900.1 bt900.2.1 bt900.2.2).bind fun bt911 => ((impl_IsCertificate.f bt900.1 bt900.2.1 bt900.2.2 bt906.1).bind fun t915 => (if t915 = true then ((impl_CountOnes.f 5 bt906.1).bind fun t916 => (if t908 = t916 then (if t910 > t909 then (none) else (if t909 > t908 then (none) else ((spec_ValueAt.f bt900.1 bt900.2.1 bt900.2.2).bind fun t917 => ((impl_CertificateOf.f k bt900.1 bt900.2.1 t917).bind fun t918 => (if t908 > t918 then (none) else ((impl_MeetingOf.f k bt900.1 bt900.2.1).bind fun t919 => (if t919 = true then (laws_FnCertificates.l0 k l0 bt900.2.2 bt906.1 bt911.1 0 bt900.1 bt900.2.1) else (none)))))))) else (none))) else (none))))))) else ((spec_DrawMinimalBlocks.f k l0).bind fun bt980 => ((impl_MinimalBlocks.f k bt980.1 bt980.2.1 bt980.2.2).bind fun bt984 => ((spec_MinimalBlocks.f k bt980.1 bt980.2.1 bt980.2.2).bind fun bt988 => ((spec_DrawIsCertificate.f k l0).bind fun bt992 => ((spec_DrawIsSensitiveBlock.f k l0).bind fun bt997 => ((spec_DrawCertificateOf.f k l0).bind fun bt1002 => ((spec_DrawBlockSensitivityOf.f k l0).bind fun bt1006 => ((spec_DrawMeetingOf.f k l0).bind fun bt1009 => ((spec_DrawBlockSensitivityAt.f k l0).bind fun bt1012 => ((impl_SensitiveEdges.f k bt1006.1 bt1006.2).bind fun t1016 => (if (bt984.2 == bt988.2) = true then ((laws_sameInts.f k bt984.1 bt988.1).bind fun t1017 => (if t1017 = true then ((impl_IsCertificate.f bt992.1 bt992.2.1 bt992.2.2.1 bt992.2.2.2).bind fun t1018 => ((spec_IsCertificate.f k bt992.1 bt992.2.1 bt992.2.2.1 bt992.2.2.2).bind fun t1019 => (if (t1018 == t1019) = true then ((impl_IsSensitiveBlock.f bt997.1 bt997.2.1 bt997.2.2.1 bt997.2.2.2).bind fun t1020 => ((spec_IsSensitiveBlock.f bt997.1 bt997.2.1 bt997.2.2.1 bt997.2.2.2).bind fun t1021 => (if (t1020 == t1021) = true then ((impl_CertificateOf.f k bt1002.1 bt1002.2.1 bt1002.2.2).bind fun t1022 => ((spec_CertificateOf.f k bt1002.1 bt1002.2.1 bt1002.2.2).bind fun t1023 => (if t1022 = t1023 then ((impl_BlockSensitivityOf.f k bt1006.1 bt1006.2).bind fun t1024 => ((spec_BlockSensitivityOf.f k bt1006.1 bt1006.2).bind fun t1025 => (if t1024 = t1025 then ((impl_SensitivityOf.f k bt1006.1 bt1006.2).bind fun t1026 => ((spec_SensitivityOf.f k bt1006.1 bt1006.2).bind fun t1027 => (if t1026 = t1027 then ((spec_SensitiveEdges.f k bt1006.1 bt1006.2).bind fun t1028 => (if t1016 = t1028 then ((impl_MeetingOf.f k bt1009.1 bt1009.2).bind fun t1029 => ((spec_MeetingOf.f k bt1009.1 bt1009.2).bind fun t1030 => (if (t1029 == t1030) = true then ((impl_BlockSensitivityAt.f k bt1012.1 bt1012.2.1 bt1012.2.2).bind fun t1031 => ((spec_BlockSensitivityAt.f k bt1012.1 bt1012.2.1 bt1012.2.2).bind fun t1032 => (if t1031 = t1032 then ((impl_SensitivityAt.f k bt1012.1 bt1012.2.1 bt1012.2.2).bind fun t1033 => ((spec_SensitivityAt.f k bt1012.1 bt1012.2.1 bt1012.2.2).bind fun t1034 => (if t1033 = t1034 then ((impl_CertificateAt.f k bt1012.1 bt1012.2.1 bt1012.2.2).bind fun t1035 => ((spec_CertificateAt.f k bt1012.1 bt1012.2.1 bt1012.2.2).bind fun t1036 => (some (t1035 == t1036)))) else (none)))) else (none)))) else (none)))) else (none))) else (none)))) else (none)))) else (none)))) else (none)))) else (none)))) else (none))) else (none)))))))))))))) else (none))))))) = some r := h
 clear h
 replace H := Option.bind_eq_some_iff.mp H
 obtain ⟨t899, A20, H⟩ := H
 have A2 := Aside0.mk A20
 clear A20
 by_cases c3 : t899 = true
 ·subst c3
  rw [if_pos rfl] at H
  obtain rfl := Option.some.inj H
  go_enter Try.func4, Try.ntmps4
  go_wp2_with (first | ((with_reducible refine gate_callee (f := 5) rfl ?_); refine gl_ 35 Try.func5 #[.slice A0 l0.length c0] rfl mp_ ?_; (with_reducible refine (laws_big.calls _ _ l0 true _ ?side1 ?side2 A2.out).mono ?_); (case side1 => exact cv_ HR0.out); (case side2 => exact HC0.out); rintro e w' ⟨rfl, ⟨nd, rfl⟩⟩; refine ⟨_, rfl, ?_⟩))
  go_ret
  exact ⟨by first | rfl | (simp [errW_none, errW_some] <;> rfl) | (simp [*, errW_none, errW_some] <;> rfl), bv_ HB⟩
 ·replace c3 := Bool.eq_false_iff.mpr c3
  subst c3
  rw [if_neg (show ¬ (false = true) by decide)] at H
  replace H := Option.bind_eq_some_iff.mp H
  obtain ⟨⟨t900, t901, t902⟩, A40, H⟩ := H
  dsimp only at H
  have A4 := Aside0.mk A40
  clear A40
  replace H := Option.bind_eq_some_iff.mp H
  obtain ⟨⟨t904, t905⟩, A50, H⟩ := H
  dsimp only at H
  have A5 := Aside0.mk A50
  clear A50
  replace H := Option.bind_eq_some_iff.mp H
  obtain ⟨⟨t906, t907⟩, A60, H⟩ := H
  dsimp only at H
  have A6 := Aside0.mk A60
  clear A60
  by_cases c7 : t904 = t906
  ·rw [if_pos c7] at H
   have c7b0 : (t904 == t906) = true := beq_iff_eq.mpr c7
   have c7b1 : (t904 != t906) = false := bne_eq_false_iff_eq.mpr c7
   clear c7
   by_cases c8 : (t905 != t907) = true
   ·rw [if_pos c8] at H
    exact absurd H (by simp)
   ·rw [if_neg c8] at H
    have c8b0 : (t905 != t907) = false := by simpa using c8
    (try (have c8b1 : decide (t905 = t907) = true := by simpa using c8))
    (try (have c8b2 : (t905 == t907) = true := by simpa using c8))
    clear c8
    by_cases c9 : t905 = true
    ·subst c9
     rw [if_pos rfl] at H
     replace H := Option.bind_eq_some_iff.mp H
     obtain ⟨t908, A100, H⟩ := H
     have A10 := Aside0.mk A100
     clear A100
     replace H := Option.bind_eq_some_iff.mp H
     obtain ⟨t909, A110, H⟩ := H
     have A11 := Aside0.mk A110
     clear A110
     replace H := Option.bind_eq_some_iff.mp H
     obtain ⟨t910, A120, H⟩ := H
     have A12 := Aside0.mk A120
     clear A120
     replace H := Option.bind_eq_some_iff.mp H
     obtain ⟨⟨t911, t914⟩, A130, H⟩ := H
     dsimp only at H
     have A13 := Aside0.mk A130
     clear A130
     replace H := Option.bind_eq_some_iff.mp H
     obtain ⟨t915, A140, H⟩ := H
     have A14 := Aside0.mk A140
     clear A140
     by_cases c15 : t915 = true
     ·subst c15
      rw [if_pos rfl] at H
      replace H := Option.bind_eq_some_iff.mp H
      obtain ⟨t916, A160, H⟩ := H
      have A16 := Aside0.mk A160
      clear A160
      by_cases c17 : t908 = t916
      ·rw [if_pos c17] at H
       have c17b0 : (t908 == t916) = true := beq_iff_eq.mpr c17
       have c17b1 : (t908 != t916) = false := bne_eq_false_iff_eq.mpr c17
       clear c17
       by_cases c18 : t910 > t909
       ·rw [if_pos c18] at H
        exact absurd H (by simp)
       ·rw [if_neg c18] at H
        have c18b0 : decide (t909 < t910) = false := decide_eq_false c18
        clear c18
        by_cases c19 : t909 > t908
        ·rw [if_pos c19] at H
         exact absurd H (by simp)
        ·rw [if_neg c19] at H
         have c19b0 : decide (t908 < t909) = false := decide_eq_false c19
         clear c19
         replace H := Option.bind_eq_some_iff.mp H
         obtain ⟨t917, A200, H⟩ := H
         have A20 := Aside0.mk A200
         clear A200
         replace H := Option.bind_eq_some_iff.mp H
         obtain ⟨t918, A210, H⟩ := H
         have A21 := Aside0.mk A210
         clear A210
         by_cases c22 : t908 > t918
         ·rw [if_pos c22] at H
          exact absurd H (by simp)
         ·rw [if_neg c22] at H
          have c22b0 : decide (t918 < t908) = false := decide_eq_false c22
          clear c22
          replace H := Option.bind_eq_some_iff.mp H
          obtain ⟨t919, A230, H⟩ := H
          have A23 := Aside0.mk A230
          clear A230
          by_cases c24 : t919 = true
          ·subst c24
           rw [if_pos rfl] at H
           have H' := Aside0.mk H
           clear H
           go_enter Try.func4, Try.ntmps4
           try go_wp2_with (first | ((with_reducible refine gate_callee (f := 5) rfl ?_); refine gl_ 35 Try.func5 #[.slice A0 l0.length c0] rfl mp_ ?_; (with_reducible refine (laws_big.calls _ _ l0 false _ ?side1 ?side2 A2.out).mono ?_); (case side1 => exact cv_ HR0.out); (case side2 => exact HC0.out); rintro e w' ⟨rfl, ⟨nd, rfl⟩⟩; refine ⟨_, rfl, ?_⟩) | ((with_reducible refine gate_callee (f := 25) rfl ?_); refine gl_ 38 Try.func25 #[.slice A0 l0.length c0] rfl mp_ ?_; (with_reducible refine (spec_DrawCertificateSet.calls k _ _ l0 t900 t901 t902 _ ?side1 ?side2 A4.out).mono ?_); (case side1 => exact cv_ HR0.out); (case side2 => exact HC0.out); rintro e w25 ⟨rfl, hb⟩; refine ⟨_, rfl, ?_⟩; replace HB := Aside0.mk (below_step (bv_ HB) hb); (try clear hb); (try clear hb2); (try clear hk); (try clear hi)) | ((with_reducible refine gate_dst (N := 3) rfl ?_); refine bx_ 3 #[.int .i64 0, .int .i64 0] 25 ?_; intro gb903 hg w26 hbox hb; have BK903 := Aside0.mk (hbox); have GW903 := gw_ hg (below_size (bv_ HB)); have GE903 := GW903; replace HB := Aside0.mk (below_step (bv_ HB) hb); clear hb hbox hg; obtain ⟨hcz27_0, hcz27_1, hfz27_0, hfz27_1⟩ := c2_ BK903) | ((with_reducible refine gate_callee (f := 26) rfl ?_); refine gl_ 44 Try.func26 #[.agg #[.int .i64 t900, .int .i64 t901], .int .i64 t902] rfl mp_ ?_; (with_reducible refine (impl_CertificateSet.calls k t900 t901 t902 t904 true _ A5.out).mono ?_); rintro e w28 ⟨rfl, hb⟩; refine ⟨_, rfl, ?_⟩; replace BK903 := Aside0.mk (blk_below (g := gb903) (o := .cells #[.int .i64 t900, .int .i64 t901] 25 (0, 0)) (by (with_reducible repeat (first | refine blk_drewN ?_ _ | refine blk_drew ?_ | refine blk_alloc ?_ _)); refine blk_put (cs := #[.int .i64 t900, .int .i64 0]) ?_ 1 _ rfl; (with_reducible repeat (first | refine blk_drewN ?_ _ | refine blk_drew ?_ | refine blk_alloc ?_ _)); refine blk_put (cs := #[.int .i64 0, .int .i64 0]) ?_ 0 _ rfl; (with_reducible repeat (first | refine blk_drewN ?_ _ | refine blk_drew ?_ | refine blk_alloc ?_ _)); exact BK903.out) hb); replace HB := Aside0.mk (below_step (bv1_ HB GE903) hb); (try clear hb); (try clear hb2); (try clear hk); (try clear hi); obtain ⟨hcz29_0, hcz29_1, hfz29_0, hfz29_1⟩ := c2_ BK903) | ((with_reducible refine gate_callee (f := 27) rfl ?_); refine gl_ 50 Try.func27 #[.agg #[.int .i64 t900, .int .i64 t901], .int .i64 t902] rfl mp_ ?_; (with_reducible refine (spec_CertificateSet.calls k t900 t901 t902 t906 t907 _ A6.out).mono ?_); rintro e w30 ⟨rfl, hb⟩; refine ⟨_, rfl, ?_⟩; replace BK903 := kbl_ BK903 hb; replace HB := Aside0.mk (below_step (bv1_ HB GE903) hb); (try clear hb); (try clear hb2); (try clear hk); (try clear hi); obtain ⟨hcz31_0, hcz31_1, hfz31_0, hfz31_1⟩ := c2_ BK903) | ((with_reducible refine gate_callee (f := 28) rfl ?_); refine gl_ 64 Try.func28 #[.agg #[.int .i64 t900, .int .i64 t901], .int .i64 t902] rfl mp_ ?_; (with_reducible refine (impl_CertificateAt.calls k t900 t901 t902 t908 _ A10.out).mono ?_); rintro e w32 ⟨rfl, hb⟩; refine ⟨_, rfl, ?_⟩; replace BK903 := kbl_ BK903 hb; replace HB := Aside0.mk (below_step (bv1_ HB GE903) hb); (try clear hb); (try clear hb2); (try clear hk); (try clear hi); obtain ⟨hcz33_0, hcz33_1, hfz33_0, hfz33_1⟩ := c2_ BK903) | ((with_reducible refine gate_callee (f := 29) rfl ?_); refine gl_ 67 Try.func29 #[.agg #[.int .i64 t900, .int .i64 t901], .int .i64 t902] rfl mp_ ?_; (with_reducible refine (impl_BlockSensitivityAt.calls k t900 t901 t902 t909 _ A11.out).mono ?_); rintro e w34 ⟨rfl, hb⟩; refine ⟨_, rfl, ?_⟩; replace BK903 := kbl_ BK903 hb; replace HB := Aside0.mk (below_step (bv1_ HB GE903) hb); (try clear hb); (try clear hb2); (try clear hk); (try clear hi); obtain ⟨hcz35_0, hcz35_1, hfz35_0, hfz35_1⟩ := c2_ BK903) | ((with_reducible refine gate_callee (f := 30) rfl ?_); refine gl_ 70 Try.func30 #[.agg #[.int .i64 t900, .int .i64 t901], .int .i64 t902] rfl mp_ ?_; (with_reducible refine (impl_SensitivityAt.calls k t900 t901 t902 t910 _ A12.out).mono ?_); rintro e w36 ⟨rfl, hb⟩; refine ⟨_, rfl, ?_⟩; replace BK903 := kbl_ BK903 hb; replace HB := Aside0.mk (below_step (bv1_ HB GE903) hb); (try clear hb); (try clear hb2); (try clear hk); (try clear hi); obtain ⟨hcz37_0, hcz37_1, hfz37_0, hfz37_1⟩ := c2_ BK903) | ((with_reducible refine gate_callee (f := 31) rfl ?_); refine gl_ 74 Try.func31 #[.agg #[.int .i64 t900, .int .i64 t901], .int .i64 t902] rfl mp_ ?_; (with_reducible refine (impl_MinimalBlocks.calls k t900 t901 t902 t911 t914 _ A13.out).mono ?_); rintro e w38 ⟨v912, rfl, ho0, hb⟩; refine ⟨_, rfl, ?_⟩; have HO913 := Aside0.mk (Kd.R_lower ho0 (below_size (bv1_ HB GE903))); replace BK903 := kbl_ BK903 hb; replace HB := Aside0.mk (below_step (bv1_ HB GE903) hb); (try clear hb); (try clear hb2); (try clear hk); (try clear hi); (try clear ho0)))
           replace HO913 := Aside0.mk (Kd.R_drew HO913.out)
           replace BK903 := Aside0.mk (blk_drew BK903.out)
           replace HB := Aside0.mk (below_drew1 HB.out)
           (try clear hcz27_0); (try clear hcz27_1); (try clear hfz27_0); (try clear hfz27_1); (try clear hcz29_0); (try clear hcz29_1); (try clear hfz29_0); (try clear hfz29_1); (try clear hcz31_0); (try clear hcz31_1); (try clear hfz31_0); (try clear hfz31_1)
           (try clear hcz33_0); (try clear hcz33_1); (try clear hfz33_0); (try clear hfz33_1); (try clear hcz35_0); (try clear hcz35_1); (try clear hfz35_0); (try clear hfz35_1); (try clear hcz37_0); (try clear hcz37_1); (try clear hfz37_0); (try clear hfz37_1)
           refine start_ (n := 36) (S := fun w' => w'.cell? ⟨gb903, 0, none⟩ = some (.int .i64 t900) ∧ w'.cell? ⟨gb903, 1, none⟩ = some (.int .i64 t901)) (ds := []) (bs 36 0) (by kernel_rfl) rfl (by kernel_rfl) ⟨(blk_cell BK903.out 0).trans rfl, (blk_cell BK903.out 1).trans rfl⟩ (fun hHeld => ?_); refine with_tabW laws_FnCertificates.tab13 laws_FnCertificates.bits13 (fun HT_ HW_ => ?_)
           generalize w38.drew = w39 at HO913 BK903 HB hHeld ⊢
           refine pu_ HT_ 1 78 (bs 36 2) ?_
           refine pu_ HT_ 2 79 (bs 36 6) ?_
           refine ta2_ HT_ HW_ 0 77 (bs 36 7) hHeld ?_
           refine on_ HT_ 3 80 (bs 36 15) (fun K hK => ?_)
           refine goes_ Try.func32 (by kernel_rfl) rfl #[.agg #[.int .i64 t900, .int .i64 t901], .int .i64 t902, .int .i64 t906] (by rfl) rfl rfl mp_ ?_
           with_reducible refine (impl_IsCertificate.calls t900 t901 t902 t906 true _ A14.out).mono ?_
           rintro e w40 ⟨rfl, hb⟩
           refine ⟨_, rfl, ?_⟩
           replace HO913 := Aside0.mk (Kd.R_below (rv_ HO913) hb)
           replace BK903 := kbl_ BK903 hb
           replace HB := Aside0.mk (below_step (bv1_ HB GE903) hb)
           (try clear hb)
           (try clear hb2)
           (try clear hk)
           (try clear hi)
           refine hK.out _ _ ⟨(blk_cell BK903.out 0).trans rfl, (blk_cell BK903.out 1).trans rfl⟩ (fun hHeld => ?_)
           clear hK K
           refine no_ 80 ?_
           refine pu_ HT_ 4 81 (bs 36 31) ?_
           refine pu_ HT_ 5 82 (bs 36 63) ?_
           refine pu_ HT_ 6 83 (bs 36 127) ?_
           refine pu_ HT_ 7 84 (bs 36 255) ?_
           refine pu_ HT_ 8 85 (bs 36 511) ?_
           refine on_ HT_ 9 86 (bs 36 1023) (fun K hK => ?_)
           refine goes_ Try.func33 (by kernel_rfl) rfl #[.agg #[.int .i64 5, .int .i64 t906]] (by rfl) rfl rfl mp_ ?_
           with_reducible refine (impl_CountOnes.calls 5 t906 t916 _ A16.out).mono ?_
           rintro e w41 ⟨rfl, hb⟩
           refine ⟨_, rfl, ?_⟩
           replace HO913 := Aside0.mk (Kd.R_below (rv_ HO913) hb)
           replace BK903 := kbl_ BK903 hb
           replace HB := Aside0.mk (below_step (bv1_ HB GE903) hb)
           (try clear hb)
           (try clear hb2)
           (try clear hk)
           (try clear hi)
           refine hK.out _ _ ⟨(blk_cell BK903.out 0).trans rfl, (blk_cell BK903.out 1).trans rfl⟩ (fun hHeld => ?_)
           clear hK K
           refine no_ 86 ?_
           refine pu_ HT_ 10 87 (bs 36 2047) ?_
           refine pu_ HT_ 11 88 (bs 36 4095) ?_
           refine pu_ HT_ 12 89 (bs 36 8191) ?_
           refine pu_ HT_ 13 90 (bs 36 16383) ?_
           refine pu_ HT_ 14 91 (bs 36 32767) ?_
           refine pu_ HT_ 15 92 (bs 36 65535) ?_
           refine pu_ HT_ 16 93 (bs 36 131071) ?_
           refine pu_ HT_ 17 94 (bs 36 262143) ?_
           refine pu_ HT_ 18 95 (bs 36 524287) ?_
           refine pu_ HT_ 19 96 (bs 36 1048575) ?_
           refine pu_ HT_ 20 97 (bs 36 2097151) ?_
           refine pu_ HT_ 21 98 (bs 36 4194303) ?_
           refine pu_ HT_ 22 99 (bs 36 8388607) ?_
           refine pu_ HT_ 23 100 (bs 36 16777215) ?_
           refine pu_ HT_ 26 103 (bs 36 83886079) ?_
           refine ta2_ HT_ HW_ 24 101 (bs 36 100663295) hHeld ?_
           refine ta2_ HT_ HW_ 25 102 (bs 36 134217727) hHeld ?_
           refine on_ HT_ 27 104 (bs 36 268435455) (fun K hK => ?_)
           refine goes_ Try.func35 (by kernel_rfl) rfl #[.agg #[.int .i64 t900, .int .i64 t901], .int .i64 t902] (by rfl) rfl rfl mp_ ?_
           with_reducible refine (spec_ValueAt.calls t900 t901 t902 t917 _ A20.out).mono ?_
           rintro e w42 ⟨rfl, hb⟩
           refine ⟨_, rfl, ?_⟩
           replace HO913 := Aside0.mk (Kd.R_below (rv_ HO913) hb)
           replace BK903 := kbl_ BK903 hb
           replace HB := Aside0.mk (below_step (bv1_ HB GE903) hb)
           (try clear hb)
           (try clear hb2)
           (try clear hk)
           (try clear hi)
           refine hK.out _ _ ⟨(blk_cell BK903.out 0).trans rfl, (blk_cell BK903.out 1).trans rfl⟩ (fun hHeld => ?_)
           clear hK K
           refine no_ 104 ?_
           refine on_ HT_ 28 105 (bs 36 536870911) (fun K hK => ?_)
           refine goes_ Try.func34 (by kernel_rfl) rfl #[.agg #[.int .i64 t900, .int .i64 t901], .int .i64 t917] (by rfl) rfl rfl mp_ ?_
           with_reducible refine (impl_CertificateOf.calls k t900 t901 t917 t918 _ A21.out).mono ?_
           rintro e w43 ⟨rfl, hb⟩
           refine ⟨_, rfl, ?_⟩
           replace HO913 := Aside0.mk (Kd.R_below (rv_ HO913) hb)
           replace BK903 := kbl_ BK903 hb
           replace HB := Aside0.mk (below_step (bv1_ HB GE903) hb)
           (try clear hb)
           (try clear hb2)
           (try clear hk)
           (try clear hi)
           refine hK.out _ _ ⟨(blk_cell BK903.out 0).trans rfl, (blk_cell BK903.out 1).trans rfl⟩ (fun hHeld => ?_)
           clear hK K
           refine no_ 105 ?_
           refine pu_ HT_ 29 106 (bs 36 1073741823) ?_
           refine pu_ HT_ 30 107 (bs 36 2147483647) ?_
           refine pu_ HT_ 31 108 (bs 36 4294967295) ?_
           refine ta2_ HT_ HW_ 32 109 (bs 36 8589934591) hHeld ?_
           refine on_ HT_ 33 110 (bs 36 17179869183) (fun K hK => ?_)
           refine goes_ Try.func36 (by kernel_rfl) rfl #[.agg #[.int .i64 t900, .int .i64 t901]] (by rfl) rfl rfl mp_ ?_
           with_reducible refine (impl_MeetingOf.calls k t900 t901 true _ A23.out).mono ?_
           rintro e w44 ⟨rfl, hb⟩
           refine ⟨_, rfl, ?_⟩
           replace HO913 := Aside0.mk (Kd.R_below (rv_ HO913) hb)
           replace BK903 := kbl_ BK903 hb
           replace HB := Aside0.mk (below_step (bv1_ HB GE903) hb)
           (try clear hb)
           (try clear hb2)
           (try clear hk)
           (try clear hi)
           refine hK.out _ _ ⟨(blk_cell BK903.out 0).trans rfl, (blk_cell BK903.out 1).trans rfl⟩ (fun hHeld => ?_)
           clear hK K
           refine no_ 110 ?_
           refine pu_ HT_ 34 111 (bs 36 34359738367) ?_
           refine pu_ HT_ 35 112 (bs 36 68719476735) ?_
           refine done_ (done_of HT_.out (by kernel_rfl)) ?_
           try go_wp2
           go_loopg [14] k (fun kq v14 w' => ∃ (x14_1 : Int), v14 = .int .i64 x14_1 ∧ Aside0 (laws_FnCertificates.l0 kq l0 t902 t906 t911 x14_1 t900 t901 = some r) ∧ Aside0 (kq ≤ k) ∧ Aside0 (Kd.R (Kd.int .i64) 3 w' w.heap.size (fun _ => True) v912 t911) ∧ Aside0 (w'.heap[gb903]? = some (.cells #[.int .i64 t900, .int .i64 t901] 25 (0, 0))) ∧ Aside0 (Below w.heap.size w w'))
           case atStart => exact ⟨(0), (by first | rfl | (simp; done) | (simp [*]; done)), H', ⟨Nat.le_refl _⟩, ⟨by (with_reducible repeat (first | apply Kd.R_alloc | apply Kd.R_drewN | apply Kd.R_drew)); exact HO913.out⟩, ⟨by (with_reducible repeat (first | refine blk_drewN ?_ _ | refine blk_drew ?_ | refine blk_alloc ?_ _)); exact BK903.out⟩, ⟨bv1_ HB GE903⟩⟩
           case round =>
            clear H'
            try clear c1
            try clear c2
            try clear p2
            try clear c3
            try clear c4
            try clear c5
            try clear c7
            try clear c7b0
            try clear c7b1
            try clear c8
            try clear c8b0
            try clear c8b1
            try clear c8b2
            try clear c9
            try clear c15
            try clear c17
            try clear c17b0
            try clear c17b1
            try clear c18
            try clear c18b0
            try clear c19
            try clear c19b0
            try clear c22
            try clear c22b0
            try clear c24
            try clear c25
            try clear c26
            try clear c27
            try clear c28
            try clear c29
            try clear c30
            try clear c31
            try clear c32
            try clear c33
            try clear c34
            try clear c35
            try clear c36
            try clear hcz27_0
            try clear hcz27_1
            try clear hcz29_0
            try clear hcz29_1
            try clear hcz31_0
            try clear hcz31_1
            try clear hcz33_0
            try clear hcz33_1
            try clear hcz35_0
            try clear hcz35_1
            try clear hcz37_0
            try clear hcz37_1
            try clear hfz27_0
            try clear hfz27_1
            try clear hfz29_0
            try clear hfz29_1
            try clear hfz31_0
            try clear hfz31_1
            try clear hfz33_0
            try clear hfz33_1
            try clear hfz35_0
            try clear hfz35_1
            try clear hfz37_0
            try clear hfz37_1
            obtain ⟨x14_1, rfl, HA, HK1, HO_12, BK903, HB⟩ := hrel
            cases gk with
            | zero => exact absurd HA.out (by simp [laws_FnCertificates.l0])
            | succ k1 =>
             have H := HA.out
             clear HA
             simp only [laws_FnCertificates.l0] at H
             by_cases c45 : x14_1 < (t911.length : Int)
             ·rw [if_pos c45] at H
              have c45b0 : decide (x14_1 < (t911.length : Int)) = true := decide_eq_true c45
              clear c45
              by_cases c46 : 0 ≤ x14_1
              ·rw [if_pos c46] at H
               have c46b0 : decide (0 ≤ x14_1) = true := decide_eq_true c46
               clear c46
               replace H := Option.bind_eq_some_iff.mp H
               obtain ⟨t921, A470, H⟩ := H
               have A47 := Aside0.mk A470
               clear A470
               by_cases c48 : t921 = true
               ·subst c48
                rw [if_pos rfl] at H
                by_cases c49 : (Go.bits .and .i64 (rd t911 x14_1) t906) = 0
                ·rw [if_pos c49] at H
                 exact absurd H (by simp)
                ·rw [if_neg c49] at H
                 have c49b0 : ((Go.bits .and .i64 (rd t911 x14_1) t906) == 0) = false := beq_eq_false_iff_ne.mpr c49
                 have c49b1 : ((Go.bits .and .i64 (rd t911 x14_1) t906) != 0) = true := bne_iff_ne.mpr c49
                 have H' := Aside0.mk H
                 clear H
                 obtain ⟨Ao50, co50, eo50⟩ := Kd.R_slice HO_12.out
                 subst eo50
                 try go_wp2
                 replace HO_12 := Aside0.mk (Kd.R_drew HO_12.out)
                 replace BK903 := Aside0.mk (blk_drew BK903.out)
                 replace HB := Aside0.mk (below_drew1 HB.out)
                 have p920 : 0 ≤ (x14_1 : Int) := of_decide_eq_true (by first | (with_reducible assumption) | assumption)
                 have q920 : x14_1 < (t911.length : Int) := of_decide_eq_true (by first | (with_reducible assumption) | assumption)
                 obtain ⟨ad920, e920, hx920_0⟩ := Kd.at_int (Kd.R_reads' HO_12.out).2.2 x14_1 p920 q920
                 cases e920
                 replace p920 := eq_true p920
                 replace q920 := eq_true q920
                 have p922 : 0 ≤ (x14_1 : Int) := of_decide_eq_true (by first | (with_reducible assumption) | assumption)
                 have q922 : x14_1 < (t911.length : Int) := of_decide_eq_true (by first | (with_reducible assumption) | assumption)
                 obtain ⟨ad922, e922, hx922_0⟩ := Kd.at_int (Kd.R_reads' HO_12.out).2.2 x14_1 p922 q922
                 obtain rfl : ad920 = ad922 := (by injection e922)
                 replace p922 := eq_true p922
                 replace q922 := eq_true q922
                 (try clear hcz27_0); (try clear hcz27_1); (try clear hfz27_0); (try clear hfz27_1); (try clear hcz29_0); (try clear hcz29_1); (try clear hfz29_0); (try clear hfz29_1); (try clear hcz31_0); (try clear hcz31_1); (try clear hfz31_0); (try clear hfz31_1)
                 (try clear hcz33_0); (try clear hcz33_1); (try clear hfz33_0); (try clear hfz33_1); (try clear hcz35_0); (try clear hcz35_1); (try clear hfz35_0); (try clear hfz35_1); (try clear hcz37_0); (try clear hcz37_1); (try clear hfz37_0); (try clear hfz37_1)
                 refine start_ (n := 17) (S := fun w' => w'.cell? ⟨gb903, 0, none⟩ = some (.int .i64 t900) ∧ w'.cell? ⟨gb903, 1, none⟩ = some (.int .i64 t901) ∧ w'.cell? (ad920.add (x14_1).toNat) = some (.int .i64 (rd t911 x14_1)) ∧ w'.cell? (ad920.add (x14_1).toNat) = some (.int .i64 (rd t911 x14_1))) (ds := []) (bs 17 0) (by kernel_rfl) rfl (by kernel_rfl) ⟨(blk_cell BK903.out 0).trans rfl, (blk_cell BK903.out 1).trans rfl, hx920_0, hx922_0⟩ (fun hHeld => ?_); refine with_tabW laws_FnCertificates.tab18 laws_FnCertificates.bits18 (fun HT_ HW_ => ?_)
                 generalize wr.drew = w51 at HO_12 BK903 HB hx920_0 hx922_0 hHeld ⊢
                 refine pu_ HT_ 1 120 (bs 17 2) ?_
                 refine pu_ HT_ 2 121 (bs 17 6) ?_
                 refine pu_ HT_ 3 122 (bs 17 14) ?_
                 refine pu_ HT_ 4 123 (bs 17 30) ?_
                 refine ta4_ HT_ HW_ 0 119 (bs 17 31) hHeld ?_
                 refine ta4_ HT_ HW_ 5 124 (bs 17 63) hHeld ?_
                 refine on_ HT_ 6 125 (bs 17 127) (fun K hK => ?_)
                 refine goes_ Try.func37 (by kernel_rfl) rfl #[.agg #[.int .i64 t900, .int .i64 t901], .int .i64 t902, .int .i64 (rd t911 x14_1)] (by rfl) rfl rfl mp_ ?_
                 with_reducible refine (impl_IsSensitiveBlock.calls t900 t901 t902 (rd t911 x14_1) true _ A47.out).mono ?_
                 rintro e w52 ⟨rfl, hb⟩
                 have HS2_ := (hb.cell (World.block_lt_of_cell? _ _ (hHeld.2.2.1))).trans (hHeld.2.2.1)
                 have HS3_ := (hb.cell (World.block_lt_of_cell? _ _ (hHeld.2.2.2))).trans (hHeld.2.2.2)
                 refine ⟨_, rfl, ?_⟩
                 replace HO_12 := Aside0.mk (Kd.R_below (rv_ HO_12) hb)
                 replace BK903 := kbl_ BK903 hb
                 replace HB := Aside0.mk (below_step (bv1_ HB GE903) hb)
                 (try clear hb)
                 (try clear hb2)
                 (try clear hk)
                 (try clear hi)
                 refine hK.out _ _ ⟨(blk_cell BK903.out 0).trans rfl, (blk_cell BK903.out 1).trans rfl, HS2_, HS3_⟩ (fun hHeld => ?_)
                 clear hK K
                 refine no_ 125 ?_
                 refine pu_ HT_ 7 126 (bs 17 255) ?_
                 refine pu_ HT_ 8 127 (bs 17 511) ?_
                 refine pu_ HT_ 9 128 (bs 17 1023) ?_
                 refine pu_ HT_ 10 129 (bs 17 2047) ?_
                 refine pu_ HT_ 11 130 (bs 17 4095) ?_
                 refine pu_ HT_ 13 132 (bs 17 12287) ?_
                 refine ta4_ HT_ HW_ 12 131 (bs 17 16383) hHeld ?_
                 refine pu_ HT_ 14 133 (bs 17 32767) ?_
                 refine pu_ HT_ 15 134 (bs 17 65535) ?_
                 refine pu_ HT_ 16 135 (bs 17 131071) ?_
                 refine done_ (done_of HT_.out (by kernel_rfl)) ?_
                 try go_wp2
                 go_roundg k1
                 case measure => have := HK1.out; omega
                 case rel => exact ⟨(wrap64 (x14_1 + 1)), (by first | rfl | (simp; done) | (simp [*]; done)), H', ⟨by have := HK1.out; omega⟩, ⟨by (with_reducible repeat (first | apply Kd.R_alloc | apply Kd.R_drewN | apply Kd.R_drew)); exact HO_12.out⟩, ⟨by (with_reducible repeat (first | refine blk_drewN ?_ _ | refine blk_drew ?_ | refine blk_alloc ?_ _)); exact BK903.out⟩, ⟨bv1_ HB GE903⟩⟩
               ·replace c48 := Bool.eq_false_iff.mpr c48
                subst c48
                rw [if_neg (show ¬ (false = true) by decide)] at H
                exact absurd H (by simp)
              ·rw [if_neg c46] at H
               exact absurd H (by simp)
             ·rw [if_neg c45] at H
              have c45b0 : decide (x14_1 < (t911.length : Int)) = false := decide_eq_false c45
              clear c45
              replace H := Option.bind_eq_some_iff.mp H
              obtain ⟨⟨t923, t924, t925⟩, A530, H⟩ := H
              dsimp only at H
              have A53 := Aside0.mk A530
              clear A530
              replace H := Option.bind_eq_some_iff.mp H
              obtain ⟨⟨t927, t930⟩, A540, H⟩ := H
              dsimp only at H
              have A54 := Aside0.mk A540
              clear A540
              replace H := Option.bind_eq_some_iff.mp H
              obtain ⟨⟨t931, t934⟩, A550, H⟩ := H
              dsimp only at H
              have A55 := Aside0.mk A550
              clear A550
              replace H := Option.bind_eq_some_iff.mp H
              obtain ⟨⟨t935, t936, t937, t938⟩, A560, H⟩ := H
              dsimp only at H
              have A56 := Aside0.mk A560
              clear A560
              replace H := Option.bind_eq_some_iff.mp H
              obtain ⟨⟨t940, t941, t942, t943⟩, A570, H⟩ := H
              dsimp only at H
              have A57 := Aside0.mk A570
              clear A570
              replace H := Option.bind_eq_some_iff.mp H
              obtain ⟨⟨t945, t946, t947⟩, A580, H⟩ := H
              dsimp only at H
              have A58 := Aside0.mk A580
              clear A580
              replace H := Option.bind_eq_some_iff.mp H
              obtain ⟨⟨t949, t950⟩, A590, H⟩ := H
              dsimp only at H
              have A59 := Aside0.mk A590
              clear A590
              replace H := Option.bind_eq_some_iff.mp H
              obtain ⟨⟨t952, t953⟩, A600, H⟩ := H
              dsimp only at H
              have A60 := Aside0.mk A600
              clear A600
              replace H := Option.bind_eq_some_iff.mp H
              obtain ⟨⟨t955, t956, t957⟩, A610, H⟩ := H
              dsimp only at H
              have A61 := Aside0.mk A610
              clear A610
              replace H := Option.bind_eq_some_iff.mp H
              obtain ⟨t959, A620, H⟩ := H
              have A62 := Aside0.mk A620
              clear A620
              by_cases c63 : (t930 == t934) = true
              ·rw [if_pos c63] at H
               have c63b0 : (t930 == t934) = true := c63
               (try (have c63b1 : decide (t930 = t934) = true := by simpa using c63))
               (try (have c63b2 : (t930 == t934) = true := by simpa using c63))
               clear c63
               replace H := Option.bind_eq_some_iff.mp H
               obtain ⟨t960, A640, H⟩ := H
               have A64 := Aside0.mk A640
               clear A640
               by_cases c65 : t960 = true
               ·subst c65
                rw [if_pos rfl] at H
                replace H := Option.bind_eq_some_iff.mp H
                obtain ⟨t961, A660, H⟩ := H
                have A66 := Aside0.mk A660
                clear A660
                replace H := Option.bind_eq_some_iff.mp H
                obtain ⟨t962, A670, H⟩ := H
                have A67 := Aside0.mk A670
                clear A670
                by_cases c68 : (t961 == t962) = true
                ·rw [if_pos c68] at H
                 have c68b0 : (t961 == t962) = true := c68
                 (try (have c68b1 : decide (t961 = t962) = true := by simpa using c68))
                 (try (have c68b2 : (t961 == t962) = true := by simpa using c68))
                 clear c68
                 replace H := Option.bind_eq_some_iff.mp H
                 obtain ⟨t963, A690, H⟩ := H
                 have A69 := Aside0.mk A690
                 clear A690
                 replace H := Option.bind_eq_some_iff.mp H
                 obtain ⟨t964, A700, H⟩ := H
                 have A70 := Aside0.mk A700
                 clear A700
                 by_cases c71 : (t963 == t964) = true
                 ·rw [if_pos c71] at H
                  have c71b0 : (t963 == t964) = true := c71
                  (try (have c71b1 : decide (t963 = t964) = true := by simpa using c71))
                  (try (have c71b2 : (t963 == t964) = true := by simpa using c71))
                  clear c71
                  replace H := Option.bind_eq_some_iff.mp H
                  obtain ⟨t965, A720, H⟩ := H
                  have A72 := Aside0.mk A720
                  clear A720
                  replace H := Option.bind_eq_some_iff.mp H
                  obtain ⟨t966, A730, H⟩ := H
                  have A73 := Aside0.mk A730
                  clear A730
                  by_cases c74 : t965 = t966
                  ·rw [if_pos c74] at H
                   have c74b0 : (t965 == t966) = true := beq_iff_eq.mpr c74
                   have c74b1 : (t965 != t966) = false := bne_eq_false_iff_eq.mpr c74
                   clear c74
                   replace H := Option.bind_eq_some_iff.mp H
                   obtain ⟨t967, A750, H⟩ := H
                   have A75 := Aside0.mk A750
                   clear A750
                   replace H := Option.bind_eq_some_iff.mp H
                   obtain ⟨t968, A760, H⟩ := H
                   have A76 := Aside0.mk A760
                   clear A760
                   by_cases c77 : t967 = t968
                   ·rw [if_pos c77] at H
                    have c77b0 : (t967 == t968) = true := beq_iff_eq.mpr c77
                    have c77b1 : (t967 != t968) = false := bne_eq_false_iff_eq.mpr c77
                    clear c77
                    replace H := Option.bind_eq_some_iff.mp H
                    obtain ⟨t969, A780, H⟩ := H
                    have A78 := Aside0.mk A780
                    clear A780
                    replace H := Option.bind_eq_some_iff.mp H
                    obtain ⟨t970, A790, H⟩ := H
                    have A79 := Aside0.mk A790
                    clear A790
                    by_cases c80 : t969 = t970
                    ·rw [if_pos c80] at H
                     have c80b0 : (t969 == t970) = true := beq_iff_eq.mpr c80
                     have c80b1 : (t969 != t970) = false := bne_eq_false_iff_eq.mpr c80
                     clear c80
                     replace H := Option.bind_eq_some_iff.mp H
                     obtain ⟨t971, A810, H⟩ := H
                     have A81 := Aside0.mk A810
                     clear A810
                     by_cases c82 : t959 = t971
                     ·rw [if_pos c82] at H
                      have c82b0 : (t959 == t971) = true := beq_iff_eq.mpr c82
                      have c82b1 : (t959 != t971) = false := bne_eq_false_iff_eq.mpr c82
                      clear c82
                      replace H := Option.bind_eq_some_iff.mp H
                      obtain ⟨t972, A830, H⟩ := H
                      have A83 := Aside0.mk A830
                      clear A830
                      replace H := Option.bind_eq_some_iff.mp H
                      obtain ⟨t973, A840, H⟩ := H
                      have A84 := Aside0.mk A840
                      clear A840
                      by_cases c85 : (t972 == t973) = true
                      ·rw [if_pos c85] at H
                       have c85b0 : (t972 == t973) = true := c85
                       (try (have c85b1 : decide (t972 = t973) = true := by simpa using c85))
                       (try (have c85b2 : (t972 == t973) = true := by simpa using c85))
                       clear c85
                       replace H := Option.bind_eq_some_iff.mp H
                       obtain ⟨t974, A860, H⟩ := H
                       have A86 := Aside0.mk A860
                       clear A860
                       replace H := Option.bind_eq_some_iff.mp H
                       obtain ⟨t975, A870, H⟩ := H
                       have A87 := Aside0.mk A870
                       clear A870
                       by_cases c88 : t974 = t975
                       ·rw [if_pos c88] at H
                        have c88b0 : (t974 == t975) = true := beq_iff_eq.mpr c88
                        have c88b1 : (t974 != t975) = false := bne_eq_false_iff_eq.mpr c88
                        clear c88
                        replace H := Option.bind_eq_some_iff.mp H
                        obtain ⟨t976, A890, H⟩ := H
                        have A89 := Aside0.mk A890
                        clear A890
                        replace H := Option.bind_eq_some_iff.mp H
                        obtain ⟨t977, A900, H⟩ := H
                        have A90 := Aside0.mk A900
                        clear A900
                        by_cases c91 : t976 = t977
                        ·rw [if_pos c91] at H
                         have c91b0 : (t976 == t977) = true := beq_iff_eq.mpr c91
                         have c91b1 : (t976 != t977) = false := bne_eq_false_iff_eq.mpr c91
                         clear c91
                         replace H := Option.bind_eq_some_iff.mp H
                         obtain ⟨t978, A920, H⟩ := H
                         have A92 := Aside0.mk A920
                         clear A920
                         replace H := Option.bind_eq_some_iff.mp H
                         obtain ⟨t979, A930, H⟩ := H
                         have A93 := Aside0.mk A930
                         clear A930
                         obtain rfl := Option.some.inj H
                         obtain ⟨Ao94, co94, eo94⟩ := Kd.R_slice HO_12.out
                         subst eo94
                         try go_wp2_with (first | ((with_reducible refine gate_callee (f := 38) rfl ?_); refine gl_ 138 Try.func38 #[.slice A0 l0.length c0] rfl mp_ ?_; (with_reducible refine (spec_DrawMinimalBlocks.calls k1 _ _ l0 t923 t924 t925 _ ?side1 ?side2 A53.out).mono ?_); (case side1 => exact cv_ (Kd.C_below HR0.out HB.out)); (case side2 => exact HC0.out); rintro e w95 ⟨rfl, hb⟩; refine ⟨_, rfl, ?_⟩; replace HO_12 := Aside0.mk (Kd.R_below (rv_ HO_12) hb); replace BK903 := kbl_ BK903 hb; replace HB := Aside0.mk (below_step (bv1_ HB GE903) hb); (try clear hb); (try clear hb2); (try clear hk); (try clear hi)) | ((with_reducible refine gate_dst (N := 15) rfl ?_); refine bx_ 15 #[.int .i64 0, .int .i64 0] 25 ?_; intro gb926 hg w96 hbox hb; replace HO_12 := Aside0.mk (Kd.R_below (rv_ HO_12) hb); have BK926 := Aside0.mk (hbox); have GW926 := gw_ hg (below_size (bv1_ HB GE903)); have GE926 := GW926; replace HB := Aside0.mk (below_step (bv1_ HB GE903) hb); have NB903_926 := nb_ hg (blk_lt (g := gb903) (o := .cells #[.int .i64 t900, .int .i64 t901] 25 (0, 0)) (kv_ BK903)); have NB926_903 := nc_ hg (blk_lt (g := gb903) (o := .cells #[.int .i64 t900, .int .i64 t901] 25 (0, 0)) (kv_ BK903)); replace BK903 := kbl_ BK903 hb; clear hb hbox hg; have hnb97 := NB926_903.out; have hnc97 := NB903_926.out; obtain ⟨hcz98_0, hcz98_1, hfz98_0, hfz98_1⟩ := c2_ BK926) | ((with_reducible refine gate_callee (f := 31) rfl ?_); refine gl_ 144 Try.func31 #[.agg #[.int .i64 t923, .int .i64 t924], .int .i64 t925] rfl mp_ ?_; (with_reducible refine (impl_MinimalBlocks.calls k1 t923 t924 t925 t927 t930 _ A54.out).mono ?_); rintro e w99 ⟨v928, rfl, ho0, hb⟩; refine ⟨_, rfl, ?_⟩; have HO929 := Aside0.mk (Kd.R_lower (Kd.R_new' ho0 (Kd.R_lt (by (with_reducible repeat (first | apply Kd.R_alloc | apply Kd.R_drewN | apply Kd.R_drew)); exact (Kd.R_mono (Kd.R_far (p := ⟨gb926, 1, none⟩) (Kd.R_far (p := ⟨gb926, 0, none⟩) (Kd.R_types HO_12.out BK926.out (by decide)) (fun _ hk => hk.2) (.int .i64 t923)) (fun _ hk => hk.2) (.int .i64 t924)) (fun _ h_ => h_.1))))) (below_size (bv2_ HB GE903 GE926))); replace HO_12 := Aside0.mk (Kd.R_elder' (by (with_reducible repeat (first | apply Kd.R_alloc | apply Kd.R_drewN | apply Kd.R_drew)); exact (Kd.R_mono (Kd.R_far (p := ⟨gb926, 1, none⟩) (Kd.R_far (p := ⟨gb926, 0, none⟩) (Kd.R_types HO_12.out BK926.out (by decide)) (fun _ hk => hk.2) (.int .i64 t923)) (fun _ hk => hk.2) (.int .i64 t924)) (fun _ h_ => h_.1))) (Kd.R_base ho0) hb); replace BK903 := Aside0.mk (blk_below (g := gb903) (o := .cells #[.int .i64 t900, .int .i64 t901] 25 (0, 0)) (by (with_reducible repeat (first | refine blk_drewN ?_ _ | refine blk_drew ?_ | refine blk_alloc ?_ _)); refine blk_far ?_ NB903_926.out _; (with_reducible repeat (first | refine blk_drewN ?_ _ | refine blk_drew ?_ | refine blk_alloc ?_ _)); refine blk_far ?_ NB903_926.out _; (with_reducible repeat (first | refine blk_drewN ?_ _ | refine blk_drew ?_ | refine blk_alloc ?_ _)); exact BK903.out) hb); replace BK926 := Aside0.mk (blk_below (g := gb926) (o := .cells #[.int .i64 t923, .int .i64 t924] 25 (0, 0)) (by (with_reducible repeat (first | refine blk_drewN ?_ _ | refine blk_drew ?_ | refine blk_alloc ?_ _)); refine blk_put (cs := #[.int .i64 t923, .int .i64 0]) ?_ 1 _ rfl; (with_reducible repeat (first | refine blk_drewN ?_ _ | refine blk_drew ?_ | refine blk_alloc ?_ _)); refine blk_put (cs := #[.int .i64 0, .int .i64 0]) ?_ 0 _ rfl; (with_reducible repeat (first | refine blk_drewN ?_ _ | refine blk_drew ?_ | refine blk_alloc ?_ _)); exact BK926.out) hb); replace HB := Aside0.mk (below_step (bv2_ HB GE903 GE926) hb); (try clear hb); (try clear hb2); (try clear hk); (try clear hi); (try clear ho0); obtain ⟨hcz100_0, hcz100_1, hfz100_0, hfz100_1⟩ := c2_ BK926) | ((with_reducible refine gate_callee (f := 39) rfl ?_); refine gl_ 150 Try.func39 #[.agg #[.int .i64 t923, .int .i64 t924], .int .i64 t925] rfl mp_ ?_; (with_reducible refine (spec_MinimalBlocks.calls k1 t923 t924 t925 t931 t934 _ A55.out).mono ?_); rintro e w101 ⟨v932, rfl, ho0, hb⟩; refine ⟨_, rfl, ?_⟩; have HO933 := Aside0.mk (Kd.R_lower (Kd.R_new' (Kd.R_new' ho0 (Kd.R_lt (rv_ HO_12))) (Kd.R_lt (rv_ HO929))) (below_size (bv2_ HB GE903 GE926))); replace HO_12 := Aside0.mk (Kd.R_elder' (rv_ HO_12) (Kd.R_base ho0) hb); replace HO929 := Aside0.mk (Kd.R_elder' (rv_ HO929) (Kd.R_base ho0) hb); replace BK903 := kbl_ BK903 hb; replace BK926 := kbl_ BK926 hb; replace HB := Aside0.mk (below_step (bv2_ HB GE903 GE926) hb); (try clear hb); (try clear hb2); (try clear hk); (try clear hi); (try clear ho0)) | ((with_reducible refine gate_callee (f := 40) rfl ?_); refine gl_ 155 Try.func40 #[.slice A0 l0.length c0] rfl mp_ ?_; (with_reducible refine (spec_DrawIsCertificate.calls k1 _ _ l0 t935 t936 t937 t938 _ ?side1 ?side2 A56.out).mono ?_); (case side1 => exact cv_ (Kd.C_below HR0.out HB.out)); (case side2 => exact HC0.out); rintro e w102 ⟨rfl, hb⟩; refine ⟨_, rfl, ?_⟩; replace HO_12 := Aside0.mk (Kd.R_below (rv_ HO_12) hb); replace HO929 := Aside0.mk (Kd.R_below (rv_ HO929) hb); replace HO933 := Aside0.mk (Kd.R_below (rv_ HO933) hb); replace BK903 := kbl_ BK903 hb; replace BK926 := kbl_ BK926 hb; replace HB := Aside0.mk (below_step (bv2_ HB GE903 GE926) hb); (try clear hb); (try clear hb2); (try clear hk); (try clear hi)) | ((with_reducible refine gate_dst (N := 21) rfl ?_); refine bx_ 21 #[.int .i64 0, .int .i64 0] 25 ?_; intro gb939 hg w103 hbox hb; replace HO_12 := Aside0.mk (Kd.R_below (rv_ HO_12) hb); replace HO929 := Aside0.mk (Kd.R_below (rv_ HO929) hb); replace HO933 := Aside0.mk (Kd.R_below (rv_ HO933) hb); have BK939 := Aside0.mk (hbox); have GW939 := gw_ hg (below_size (bv2_ HB GE903 GE926)); have GE939 := GW939; replace HB := Aside0.mk (below_step (bv2_ HB GE903 GE926) hb); have NB903_939 := nb_ hg (blk_lt (g := gb903) (o := .cells #[.int .i64 t900, .int .i64 t901] 25 (0, 0)) (kv_ BK903)); have NB939_903 := nc_ hg (blk_lt (g := gb903) (o := .cells #[.int .i64 t900, .int .i64 t901] 25 (0, 0)) (kv_ BK903)); replace BK903 := kbl_ BK903 hb; have NB926_939 := nb_ hg (blk_lt (g := gb926) (o := .cells #[.int .i64 t923, .int .i64 t924] 25 (0, 0)) (kv_ BK926)); have NB939_926 := nc_ hg (blk_lt (g := gb926) (o := .cells #[.int .i64 t923, .int .i64 t924] 25 (0, 0)) (kv_ BK926)); replace BK926 := kbl_ BK926 hb; clear hb hbox hg; have hnb104 := NB939_903.out; have hnc104 := NB903_939.out; have hnb105 := NB939_926.out; have hnc105 := NB926_939.out; obtain ⟨hcz106_0, hcz106_1, hfz106_0, hfz106_1⟩ := c2_ BK939) | ((with_reducible refine gate_callee (f := 41) rfl ?_); refine gl_ 161 Try.func41 #[.slice A0 l0.length c0] rfl mp_ ?_; (with_reducible refine (spec_DrawIsSensitiveBlock.calls k1 _ _ l0 t940 t941 t942 t943 _ ?side1 ?side2 A57.out).mono ?_); (case side1 => exact Kd.C_below HR0.out (bv3_ HB GE903 GE926 GE939)); (case side2 => exact HC0.out); rintro e w107 ⟨rfl, hb⟩; refine ⟨_, rfl, ?_⟩; replace HO_12 := Aside0.mk (Kd.R_below (by (with_reducible repeat (first | apply Kd.R_alloc | apply Kd.R_drewN | apply Kd.R_drew)); exact (Kd.R_mono (Kd.R_far (p := ⟨gb939, 1, none⟩) (Kd.R_far (p := ⟨gb939, 0, none⟩) (Kd.R_types HO_12.out BK939.out (by decide)) (fun _ hk => hk.2) (.int .i64 t935)) (fun _ hk => hk.2) (.int .i64 t936)) (fun _ h_ => h_.1))) hb); replace HO929 := Aside0.mk (Kd.R_below (by (with_reducible repeat (first | apply Kd.R_alloc | apply Kd.R_drewN | apply Kd.R_drew)); exact (Kd.R_mono (Kd.R_far (p := ⟨gb939, 1, none⟩) (Kd.R_far (p := ⟨gb939, 0, none⟩) (Kd.R_types HO929.out BK939.out (by decide)) (fun _ hk => hk.2) (.int .i64 t935)) (fun _ hk => hk.2) (.int .i64 t936)) (fun _ h_ => h_.1))) hb); replace HO933 := Aside0.mk (Kd.R_below (by (with_reducible repeat (first | apply Kd.R_alloc | apply Kd.R_drewN | apply Kd.R_drew)); exact (Kd.R_mono (Kd.R_far (p := ⟨gb939, 1, none⟩) (Kd.R_far (p := ⟨gb939, 0, none⟩) (Kd.R_types HO933.out BK939.out (by decide)) (fun _ hk => hk.2) (.int .i64 t935)) (fun _ hk => hk.2) (.int .i64 t936)) (fun _ h_ => h_.1))) hb); replace BK903 := Aside0.mk (blk_below (g := gb903) (o := .cells #[.int .i64 t900, .int .i64 t901] 25 (0, 0)) (by (with_reducible repeat (first | refine blk_drewN ?_ _ | refine blk_drew ?_ | refine blk_alloc ?_ _)); refine blk_far ?_ NB903_939.out _; (with_reducible repeat (first | refine blk_drewN ?_ _ | refine blk_drew ?_ | refine blk_alloc ?_ _)); refine blk_far ?_ NB903_939.out _; (with_reducible repeat (first | refine blk_drewN ?_ _ | refine blk_drew ?_ | refine blk_alloc ?_ _)); exact BK903.out) hb); replace BK926 := Aside0.mk (blk_below (g := gb926) (o := .cells #[.int .i64 t923, .int .i64 t924] 25 (0, 0)) (by (with_reducible repeat (first | refine blk_drewN ?_ _ | refine blk_drew ?_ | refine blk_alloc ?_ _)); refine blk_far ?_ NB926_939.out _; (with_reducible repeat (first | refine blk_drewN ?_ _ | refine blk_drew ?_ | refine blk_alloc ?_ _)); refine blk_far ?_ NB926_939.out _; (with_reducible repeat (first | refine blk_drewN ?_ _ | refine blk_drew ?_ | refine blk_alloc ?_ _)); exact BK926.out) hb); replace BK939 := Aside0.mk (blk_below (g := gb939) (o := .cells #[.int .i64 t935, .int .i64 t936] 25 (0, 0)) (by (with_reducible repeat (first | refine blk_drewN ?_ _ | refine blk_drew ?_ | refine blk_alloc ?_ _)); refine blk_put (cs := #[.int .i64 t935, .int .i64 0]) ?_ 1 _ rfl; (with_reducible repeat (first | refine blk_drewN ?_ _ | refine blk_drew ?_ | refine blk_alloc ?_ _)); refine blk_put (cs := #[.int .i64 0, .int .i64 0]) ?_ 0 _ rfl; (with_reducible repeat (first | refine blk_drewN ?_ _ | refine blk_drew ?_ | refine blk_alloc ?_ _)); exact BK939.out) hb); replace HB := Aside0.mk (below_step (bv3_ HB GE903 GE926 GE939) hb); (try clear hb); (try clear hb2); (try clear hk); (try clear hi)) | ((with_reducible refine gate_dst (N := 24) rfl ?_); refine bx_ 24 #[.int .i64 0, .int .i64 0] 25 ?_; intro gb944 hg w108 hbox hb; replace HO_12 := Aside0.mk (Kd.R_below (rv_ HO_12) hb); replace HO929 := Aside0.mk (Kd.R_below (rv_ HO929) hb); replace HO933 := Aside0.mk (Kd.R_below (rv_ HO933) hb); have BK944 := Aside0.mk (hbox); have GW944 := gw_ hg (below_size (bv3_ HB GE903 GE926 GE939)); have GE944 := GW944; replace HB := Aside0.mk (below_step (bv3_ HB GE903 GE926 GE939) hb); have NB903_944 := nb_ hg (blk_lt (g := gb903) (o := .cells #[.int .i64 t900, .int .i64 t901] 25 (0, 0)) (kv_ BK903)); have NB944_903 := nc_ hg (blk_lt (g := gb903) (o := .cells #[.int .i64 t900, .int .i64 t901] 25 (0, 0)) (kv_ BK903)); replace BK903 := kbl_ BK903 hb; have NB926_944 := nb_ hg (blk_lt (g := gb926) (o := .cells #[.int .i64 t923, .int .i64 t924] 25 (0, 0)) (kv_ BK926)); have NB944_926 := nc_ hg (blk_lt (g := gb926) (o := .cells #[.int .i64 t923, .int .i64 t924] 25 (0, 0)) (kv_ BK926)); replace BK926 := kbl_ BK926 hb; have NB939_944 := nb_ hg (blk_lt (g := gb939) (o := .cells #[.int .i64 t935, .int .i64 t936] 25 (0, 0)) (kv_ BK939)); have NB944_939 := nc_ hg (blk_lt (g := gb939) (o := .cells #[.int .i64 t935, .int .i64 t936] 25 (0, 0)) (kv_ BK939)); replace BK939 := kbl_ BK939 hb; clear hb hbox hg; have hnb109 := NB944_903.out; have hnc109 := NB903_944.out; have hnb110 := NB944_926.out; have hnc110 := NB926_944.out; have hnb111 := NB944_939.out; have hnc111 := NB939_944.out; obtain ⟨hcz112_0, hcz112_1, hfz112_0, hfz112_1⟩ := c2_ BK944) | ((with_reducible refine gate_callee (f := 42) rfl ?_); refine gl_ 167 Try.func42 #[.slice A0 l0.length c0] rfl mp_ ?_; (with_reducible refine (spec_DrawCertificateOf.calls k1 _ _ l0 t945 t946 t947 _ ?side1 ?side2 A58.out).mono ?_); (case side1 => exact Kd.C_below HR0.out (bv4_ HB GE903 GE926 GE939 GE944)); (case side2 => exact HC0.out); rintro e w113 ⟨rfl, hb⟩; refine ⟨_, rfl, ?_⟩; replace HO_12 := Aside0.mk (Kd.R_below (by (with_reducible repeat (first | apply Kd.R_alloc | apply Kd.R_drewN | apply Kd.R_drew)); exact (Kd.R_mono (Kd.R_far (p := ⟨gb944, 1, none⟩) (Kd.R_far (p := ⟨gb944, 0, none⟩) (Kd.R_types HO_12.out BK944.out (by decide)) (fun _ hk => hk.2) (.int .i64 t940)) (fun _ hk => hk.2) (.int .i64 t941)) (fun _ h_ => h_.1))) hb); replace HO929 := Aside0.mk (Kd.R_below (by (with_reducible repeat (first | apply Kd.R_alloc | apply Kd.R_drewN | apply Kd.R_drew)); exact (Kd.R_mono (Kd.R_far (p := ⟨gb944, 1, none⟩) (Kd.R_far (p := ⟨gb944, 0, none⟩) (Kd.R_types HO929.out BK944.out (by decide)) (fun _ hk => hk.2) (.int .i64 t940)) (fun _ hk => hk.2) (.int .i64 t941)) (fun _ h_ => h_.1))) hb); replace HO933 := Aside0.mk (Kd.R_below (by (with_reducible repeat (first | apply Kd.R_alloc | apply Kd.R_drewN | apply Kd.R_drew)); exact (Kd.R_mono (Kd.R_far (p := ⟨gb944, 1, none⟩) (Kd.R_far (p := ⟨gb944, 0, none⟩) (Kd.R_types HO933.out BK944.out (by decide)) (fun _ hk => hk.2) (.int .i64 t940)) (fun _ hk => hk.2) (.int .i64 t941)) (fun _ h_ => h_.1))) hb); replace BK903 := Aside0.mk (blk_below (g := gb903) (o := .cells #[.int .i64 t900, .int .i64 t901] 25 (0, 0)) (by (with_reducible repeat (first | refine blk_drewN ?_ _ | refine blk_drew ?_ | refine blk_alloc ?_ _)); refine blk_far ?_ NB903_944.out _; (with_reducible repeat (first | refine blk_drewN ?_ _ | refine blk_drew ?_ | refine blk_alloc ?_ _)); refine blk_far ?_ NB903_944.out _; (with_reducible repeat (first | refine blk_drewN ?_ _ | refine blk_drew ?_ | refine blk_alloc ?_ _)); exact BK903.out) hb); replace BK926 := Aside0.mk (blk_below (g := gb926) (o := .cells #[.int .i64 t923, .int .i64 t924] 25 (0, 0)) (by (with_reducible repeat (first | refine blk_drewN ?_ _ | refine blk_drew ?_ | refine blk_alloc ?_ _)); refine blk_far ?_ NB926_944.out _; (with_reducible repeat (first | refine blk_drewN ?_ _ | refine blk_drew ?_ | refine blk_alloc ?_ _)); refine blk_far ?_ NB926_944.out _; (with_reducible repeat (first | refine blk_drewN ?_ _ | refine blk_drew ?_ | refine blk_alloc ?_ _)); exact BK926.out) hb); replace BK939 := Aside0.mk (blk_below (g := gb939) (o := .cells #[.int .i64 t935, .int .i64 t936] 25 (0, 0)) (by (with_reducible repeat (first | refine blk_drewN ?_ _ | refine blk_drew ?_ | refine blk_alloc ?_ _)); refine blk_far ?_ NB939_944.out _; (with_reducible repeat (first | refine blk_drewN ?_ _ | refine blk_drew ?_ | refine blk_alloc ?_ _)); refine blk_far ?_ NB939_944.out _; (with_reducible repeat (first | refine blk_drewN ?_ _ | refine blk_drew ?_ | refine blk_alloc ?_ _)); exact BK939.out) hb); replace BK944 := Aside0.mk (blk_below (g := gb944) (o := .cells #[.int .i64 t940, .int .i64 t941] 25 (0, 0)) (by (with_reducible repeat (first | refine blk_drewN ?_ _ | refine blk_drew ?_ | refine blk_alloc ?_ _)); refine blk_put (cs := #[.int .i64 t940, .int .i64 0]) ?_ 1 _ rfl; (with_reducible repeat (first | refine blk_drewN ?_ _ | refine blk_drew ?_ | refine blk_alloc ?_ _)); refine blk_put (cs := #[.int .i64 0, .int .i64 0]) ?_ 0 _ rfl; (with_reducible repeat (first | refine blk_drewN ?_ _ | refine blk_drew ?_ | refine blk_alloc ?_ _)); exact BK944.out) hb); replace HB := Aside0.mk (below_step (bv4_ HB GE903 GE926 GE939 GE944) hb); (try clear hb); (try clear hb2); (try clear hk); (try clear hi)) | ((with_reducible refine gate_dst (N := 27) rfl ?_); refine bx_ 27 #[.int .i64 0, .int .i64 0] 25 ?_; intro gb948 hg w114 hbox hb; replace HO_12 := Aside0.mk (Kd.R_below (rv_ HO_12) hb); replace HO929 := Aside0.mk (Kd.R_below (rv_ HO929) hb); replace HO933 := Aside0.mk (Kd.R_below (rv_ HO933) hb); have BK948 := Aside0.mk (hbox); have GW948 := gw_ hg (below_size (bv4_ HB GE903 GE926 GE939 GE944)); have GE948 := GW948; replace HB := Aside0.mk (below_step (bv4_ HB GE903 GE926 GE939 GE944) hb); have NB903_948 := nb_ hg (blk_lt (g := gb903) (o := .cells #[.int .i64 t900, .int .i64 t901] 25 (0, 0)) (kv_ BK903)); have NB948_903 := nc_ hg (blk_lt (g := gb903) (o := .cells #[.int .i64 t900, .int .i64 t901] 25 (0, 0)) (kv_ BK903)); replace BK903 := kbl_ BK903 hb; have NB926_948 := nb_ hg (blk_lt (g := gb926) (o := .cells #[.int .i64 t923, .int .i64 t924] 25 (0, 0)) (kv_ BK926)); have NB948_926 := nc_ hg (blk_lt (g := gb926) (o := .cells #[.int .i64 t923, .int .i64 t924] 25 (0, 0)) (kv_ BK926)); replace BK926 := kbl_ BK926 hb; have NB939_948 := nb_ hg (blk_lt (g := gb939) (o := .cells #[.int .i64 t935, .int .i64 t936] 25 (0, 0)) (kv_ BK939)); have NB948_939 := nc_ hg (blk_lt (g := gb939) (o := .cells #[.int .i64 t935, .int .i64 t936] 25 (0, 0)) (kv_ BK939)); replace BK939 := kbl_ BK939 hb; have NB944_948 := nb_ hg (blk_lt (g := gb944) (o := .cells #[.int .i64 t940, .int .i64 t941] 25 (0, 0)) (kv_ BK944)); have NB948_944 := nc_ hg (blk_lt (g := gb944) (o := .cells #[.int .i64 t940, .int .i64 t941] 25 (0, 0)) (kv_ BK944)); replace BK944 := kbl_ BK944 hb; clear hb hbox hg; have hnb115 := NB948_903.out; have hnc115 := NB903_948.out; have hnb116 := NB948_926.out; have hnc116 := NB926_948.out; have hnb117 := NB948_939.out; have hnc117 := NB939_948.out; have hnb118 := NB948_944.out; have hnc118 := NB944_948.out; obtain ⟨hcz119_0, hcz119_1, hfz119_0, hfz119_1⟩ := c2_ BK948) | ((with_reducible refine gate_callee (f := 43) rfl ?_); refine gl_ 171 Try.func43 #[.slice A0 l0.length c0] rfl mp_ ?_; (with_reducible refine (spec_DrawBlockSensitivityOf.calls k1 _ _ l0 t949 t950 _ ?side1 ?side2 A59.out).mono ?_); (case side1 => exact Kd.C_below HR0.out (bv5_ HB GE903 GE926 GE939 GE944 GE948)); (case side2 => exact HC0.out); rintro e w120 ⟨rfl, hb⟩; refine ⟨_, rfl, ?_⟩; replace HO_12 := Aside0.mk (Kd.R_below (by (with_reducible repeat (first | apply Kd.R_alloc | apply Kd.R_drewN | apply Kd.R_drew)); exact (Kd.R_mono (Kd.R_far (p := ⟨gb948, 1, none⟩) (Kd.R_far (p := ⟨gb948, 0, none⟩) (Kd.R_types HO_12.out BK948.out (by decide)) (fun _ hk => hk.2) (.int .i64 t945)) (fun _ hk => hk.2) (.int .i64 t946)) (fun _ h_ => h_.1))) hb); replace HO929 := Aside0.mk (Kd.R_below (by (with_reducible repeat (first | apply Kd.R_alloc | apply Kd.R_drewN | apply Kd.R_drew)); exact (Kd.R_mono (Kd.R_far (p := ⟨gb948, 1, none⟩) (Kd.R_far (p := ⟨gb948, 0, none⟩) (Kd.R_types HO929.out BK948.out (by decide)) (fun _ hk => hk.2) (.int .i64 t945)) (fun _ hk => hk.2) (.int .i64 t946)) (fun _ h_ => h_.1))) hb); replace HO933 := Aside0.mk (Kd.R_below (by (with_reducible repeat (first | apply Kd.R_alloc | apply Kd.R_drewN | apply Kd.R_drew)); exact (Kd.R_mono (Kd.R_far (p := ⟨gb948, 1, none⟩) (Kd.R_far (p := ⟨gb948, 0, none⟩) (Kd.R_types HO933.out BK948.out (by decide)) (fun _ hk => hk.2) (.int .i64 t945)) (fun _ hk => hk.2) (.int .i64 t946)) (fun _ h_ => h_.1))) hb); replace BK903 := Aside0.mk (blk_below (g := gb903) (o := .cells #[.int .i64 t900, .int .i64 t901] 25 (0, 0)) (by (with_reducible repeat (first | refine blk_drewN ?_ _ | refine blk_drew ?_ | refine blk_alloc ?_ _)); refine blk_far ?_ NB903_948.out _; (with_reducible repeat (first | refine blk_drewN ?_ _ | refine blk_drew ?_ | refine blk_alloc ?_ _)); refine blk_far ?_ NB903_948.out _; (with_reducible repeat (first | refine blk_drewN ?_ _ | refine blk_drew ?_ | refine blk_alloc ?_ _)); exact BK903.out) hb); replace BK926 := Aside0.mk (blk_below (g := gb926) (o := .cells #[.int .i64 t923, .int .i64 t924] 25 (0, 0)) (by (with_reducible repeat (first | refine blk_drewN ?_ _ | refine blk_drew ?_ | refine blk_alloc ?_ _)); refine blk_far ?_ NB926_948.out _; (with_reducible repeat (first | refine blk_drewN ?_ _ | refine blk_drew ?_ | refine blk_alloc ?_ _)); refine blk_far ?_ NB926_948.out _; (with_reducible repeat (first | refine blk_drewN ?_ _ | refine blk_drew ?_ | refine blk_alloc ?_ _)); exact BK926.out) hb); replace BK939 := Aside0.mk (blk_below (g := gb939) (o := .cells #[.int .i64 t935, .int .i64 t936] 25 (0, 0)) (by (with_reducible repeat (first | refine blk_drewN ?_ _ | refine blk_drew ?_ | refine blk_alloc ?_ _)); refine blk_far ?_ NB939_948.out _; (with_reducible repeat (first | refine blk_drewN ?_ _ | refine blk_drew ?_ | refine blk_alloc ?_ _)); refine blk_far ?_ NB939_948.out _; (with_reducible repeat (first | refine blk_drewN ?_ _ | refine blk_drew ?_ | refine blk_alloc ?_ _)); exact BK939.out) hb); replace BK944 := Aside0.mk (blk_below (g := gb944) (o := .cells #[.int .i64 t940, .int .i64 t941] 25 (0, 0)) (by (with_reducible repeat (first | refine blk_drewN ?_ _ | refine blk_drew ?_ | refine blk_alloc ?_ _)); refine blk_far ?_ NB944_948.out _; (with_reducible repeat (first | refine blk_drewN ?_ _ | refine blk_drew ?_ | refine blk_alloc ?_ _)); refine blk_far ?_ NB944_948.out _; (with_reducible repeat (first | refine blk_drewN ?_ _ | refine blk_drew ?_ | refine blk_alloc ?_ _)); exact BK944.out) hb); replace BK948 := Aside0.mk (blk_below (g := gb948) (o := .cells #[.int .i64 t945, .int .i64 t946] 25 (0, 0)) (by (with_reducible repeat (first | refine blk_drewN ?_ _ | refine blk_drew ?_ | refine blk_alloc ?_ _)); refine blk_put (cs := #[.int .i64 t945, .int .i64 0]) ?_ 1 _ rfl; (with_reducible repeat (first | refine blk_drewN ?_ _ | refine blk_drew ?_ | refine blk_alloc ?_ _)); refine blk_put (cs := #[.int .i64 0, .int .i64 0]) ?_ 0 _ rfl; (with_reducible repeat (first | refine blk_drewN ?_ _ | refine blk_drew ?_ | refine blk_alloc ?_ _)); exact BK948.out) hb); replace HB := Aside0.mk (below_step (bv5_ HB GE903 GE926 GE939 GE944 GE948) hb); (try clear hb); (try clear hb2); (try clear hk); (try clear hi)) | ((with_reducible refine gate_dst (N := 29) rfl ?_); refine bx_ 29 #[.int .i64 0, .int .i64 0] 25 ?_; intro gb951 hg w121 hbox hb; replace HO_12 := Aside0.mk (Kd.R_below (rv_ HO_12) hb); replace HO929 := Aside0.mk (Kd.R_below (rv_ HO929) hb); replace HO933 := Aside0.mk (Kd.R_below (rv_ HO933) hb); have BK951 := Aside0.mk (hbox); have GW951 := gw_ hg (below_size (bv5_ HB GE903 GE926 GE939 GE944 GE948)); have GE951 := GW951; replace HB := Aside0.mk (below_step (bv5_ HB GE903 GE926 GE939 GE944 GE948) hb); have NB903_951 := nb_ hg (blk_lt (g := gb903) (o := .cells #[.int .i64 t900, .int .i64 t901] 25 (0, 0)) (kv_ BK903)); have NB951_903 := nc_ hg (blk_lt (g := gb903) (o := .cells #[.int .i64 t900, .int .i64 t901] 25 (0, 0)) (kv_ BK903)); replace BK903 := kbl_ BK903 hb; have NB926_951 := nb_ hg (blk_lt (g := gb926) (o := .cells #[.int .i64 t923, .int .i64 t924] 25 (0, 0)) (kv_ BK926)); have NB951_926 := nc_ hg (blk_lt (g := gb926) (o := .cells #[.int .i64 t923, .int .i64 t924] 25 (0, 0)) (kv_ BK926)); replace BK926 := kbl_ BK926 hb; have NB939_951 := nb_ hg (blk_lt (g := gb939) (o := .cells #[.int .i64 t935, .int .i64 t936] 25 (0, 0)) (kv_ BK939)); have NB951_939 := nc_ hg (blk_lt (g := gb939) (o := .cells #[.int .i64 t935, .int .i64 t936] 25 (0, 0)) (kv_ BK939)); replace BK939 := kbl_ BK939 hb; have NB944_951 := nb_ hg (blk_lt (g := gb944) (o := .cells #[.int .i64 t940, .int .i64 t941] 25 (0, 0)) (kv_ BK944)); have NB951_944 := nc_ hg (blk_lt (g := gb944) (o := .cells #[.int .i64 t940, .int .i64 t941] 25 (0, 0)) (kv_ BK944)); replace BK944 := kbl_ BK944 hb; have NB948_951 := nb_ hg (blk_lt (g := gb948) (o := .cells #[.int .i64 t945, .int .i64 t946] 25 (0, 0)) (kv_ BK948)); have NB951_948 := nc_ hg (blk_lt (g := gb948) (o := .cells #[.int .i64 t945, .int .i64 t946] 25 (0, 0)) (kv_ BK948)); replace BK948 := kbl_ BK948 hb; clear hb hbox hg; have hnb122 := NB951_903.out; have hnc122 := NB903_951.out; have hnb123 := NB951_926.out; have hnc123 := NB926_951.out; have hnb124 := NB951_939.out; have hnc124 := NB939_951.out; have hnb125 := NB951_944.out; have hnc125 := NB944_951.out; have hnb126 := NB951_948.out; have hnc126 := NB948_951.out; obtain ⟨hcz127_0, hcz127_1, hfz127_0, hfz127_1⟩ := c2_ BK951) | ((with_reducible refine gate_callee (f := 44) rfl ?_); refine gl_ 173 Try.func44 #[.slice A0 l0.length c0] rfl mp_ ?_; (with_reducible refine (spec_DrawMeetingOf.calls k1 _ _ l0 t952 t953 _ ?side1 ?side2 A60.out).mono ?_); (case side1 => exact Kd.C_below HR0.out (bv6_ HB GE903 GE926 GE939 GE944 GE948 GE951)); (case side2 => exact HC0.out); rintro e w128 ⟨rfl, hb⟩; refine ⟨_, rfl, ?_⟩; replace HO_12 := Aside0.mk (Kd.R_below (by (with_reducible repeat (first | apply Kd.R_alloc | apply Kd.R_drewN | apply Kd.R_drew)); exact (Kd.R_mono (Kd.R_far (p := ⟨gb951, 1, none⟩) (Kd.R_far (p := ⟨gb951, 0, none⟩) (Kd.R_types HO_12.out BK951.out (by decide)) (fun _ hk => hk.2) (.int .i64 t949)) (fun _ hk => hk.2) (.int .i64 t950)) (fun _ h_ => h_.1))) hb); replace HO929 := Aside0.mk (Kd.R_below (by (with_reducible repeat (first | apply Kd.R_alloc | apply Kd.R_drewN | apply Kd.R_drew)); exact (Kd.R_mono (Kd.R_far (p := ⟨gb951, 1, none⟩) (Kd.R_far (p := ⟨gb951, 0, none⟩) (Kd.R_types HO929.out BK951.out (by decide)) (fun _ hk => hk.2) (.int .i64 t949)) (fun _ hk => hk.2) (.int .i64 t950)) (fun _ h_ => h_.1))) hb); replace HO933 := Aside0.mk (Kd.R_below (by (with_reducible repeat (first | apply Kd.R_alloc | apply Kd.R_drewN | apply Kd.R_drew)); exact (Kd.R_mono (Kd.R_far (p := ⟨gb951, 1, none⟩) (Kd.R_far (p := ⟨gb951, 0, none⟩) (Kd.R_types HO933.out BK951.out (by decide)) (fun _ hk => hk.2) (.int .i64 t949)) (fun _ hk => hk.2) (.int .i64 t950)) (fun _ h_ => h_.1))) hb); replace BK903 := Aside0.mk (blk_below (g := gb903) (o := .cells #[.int .i64 t900, .int .i64 t901] 25 (0, 0)) (by (with_reducible repeat (first | refine blk_drewN ?_ _ | refine blk_drew ?_ | refine blk_alloc ?_ _)); refine blk_far ?_ NB903_951.out _; (with_reducible repeat (first | refine blk_drewN ?_ _ | refine blk_drew ?_ | refine blk_alloc ?_ _)); refine blk_far ?_ NB903_951.out _; (with_reducible repeat (first | refine blk_drewN ?_ _ | refine blk_drew ?_ | refine blk_alloc ?_ _)); exact BK903.out) hb); replace BK926 := Aside0.mk (blk_below (g := gb926) (o := .cells #[.int .i64 t923, .int .i64 t924] 25 (0, 0)) (by (with_reducible repeat (first | refine blk_drewN ?_ _ | refine blk_drew ?_ | refine blk_alloc ?_ _)); refine blk_far ?_ NB926_951.out _; (with_reducible repeat (first | refine blk_drewN ?_ _ | refine blk_drew ?_ | refine blk_alloc ?_ _)); refine blk_far ?_ NB926_951.out _; (with_reducible repeat (first | refine blk_drewN ?_ _ | refine blk_drew ?_ | refine blk_alloc ?_ _)); exact BK926.out) hb); replace BK939 := Aside0.mk (blk_below (g := gb939) (o := .cells #[.int .i64 t935, .int .i64 t936] 25 (0, 0)) (by (with_reducible repeat (first | refine blk_drewN ?_ _ | refine blk_drew ?_ | refine blk_alloc ?_ _)); refine blk_far ?_ NB939_951.out _; (with_reducible repeat (first | refine blk_drewN ?_ _ | refine blk_drew ?_ | refine blk_alloc ?_ _)); refine blk_far ?_ NB939_951.out _; (with_reducible repeat (first | refine blk_drewN ?_ _ | refine blk_drew ?_ | refine blk_alloc ?_ _)); exact BK939.out) hb); replace BK944 := Aside0.mk (blk_below (g := gb944) (o := .cells #[.int .i64 t940, .int .i64 t941] 25 (0, 0)) (by (with_reducible repeat (first | refine blk_drewN ?_ _ | refine blk_drew ?_ | refine blk_alloc ?_ _)); refine blk_far ?_ NB944_951.out _; (with_reducible repeat (first | refine blk_drewN ?_ _ | refine blk_drew ?_ | refine blk_alloc ?_ _)); refine blk_far ?_ NB944_951.out _; (with_reducible repeat (first | refine blk_drewN ?_ _ | refine blk_drew ?_ | refine blk_alloc ?_ _)); exact BK944.out) hb); replace BK948 := Aside0.mk (blk_below (g := gb948) (o := .cells #[.int .i64 t945, .int .i64 t946] 25 (0, 0)) (by (with_reducible repeat (first | refine blk_drewN ?_ _ | refine blk_drew ?_ | refine blk_alloc ?_ _)); refine blk_far ?_ NB948_951.out _; (with_reducible repeat (first | refine blk_drewN ?_ _ | refine blk_drew ?_ | refine blk_alloc ?_ _)); refine blk_far ?_ NB948_951.out _; (with_reducible repeat (first | refine blk_drewN ?_ _ | refine blk_drew ?_ | refine blk_alloc ?_ _)); exact BK948.out) hb); replace BK951 := Aside0.mk (blk_below (g := gb951) (o := .cells #[.int .i64 t949, .int .i64 t950] 25 (0, 0)) (by (with_reducible repeat (first | refine blk_drewN ?_ _ | refine blk_drew ?_ | refine blk_alloc ?_ _)); refine blk_put (cs := #[.int .i64 t949, .int .i64 0]) ?_ 1 _ rfl; (with_reducible repeat (first | refine blk_drewN ?_ _ | refine blk_drew ?_ | refine blk_alloc ?_ _)); refine blk_put (cs := #[.int .i64 0, .int .i64 0]) ?_ 0 _ rfl; (with_reducible repeat (first | refine blk_drewN ?_ _ | refine blk_drew ?_ | refine blk_alloc ?_ _)); exact BK951.out) hb); replace HB := Aside0.mk (below_step (bv6_ HB GE903 GE926 GE939 GE944 GE948 GE951) hb); (try clear hb); (try clear hb2); (try clear hk); (try clear hi)) | ((with_reducible refine gate_dst (N := 30) rfl ?_); refine bx_ 30 #[.int .i64 0, .int .i64 0] 25 ?_; intro gb954 hg w129 hbox hb; replace HO_12 := Aside0.mk (Kd.R_below (rv_ HO_12) hb); replace HO929 := Aside0.mk (Kd.R_below (rv_ HO929) hb); replace HO933 := Aside0.mk (Kd.R_below (rv_ HO933) hb); have BK954 := Aside0.mk (hbox); have GW954 := gw_ hg (below_size (bv6_ HB GE903 GE926 GE939 GE944 GE948 GE951)); have GE954 := GW954; replace HB := Aside0.mk (below_step (bv6_ HB GE903 GE926 GE939 GE944 GE948 GE951) hb); have NB903_954 := nb_ hg (blk_lt (g := gb903) (o := .cells #[.int .i64 t900, .int .i64 t901] 25 (0, 0)) (kv_ BK903)); have NB954_903 := nc_ hg (blk_lt (g := gb903) (o := .cells #[.int .i64 t900, .int .i64 t901] 25 (0, 0)) (kv_ BK903)); replace BK903 := kbl_ BK903 hb; have NB926_954 := nb_ hg (blk_lt (g := gb926) (o := .cells #[.int .i64 t923, .int .i64 t924] 25 (0, 0)) (kv_ BK926)); have NB954_926 := nc_ hg (blk_lt (g := gb926) (o := .cells #[.int .i64 t923, .int .i64 t924] 25 (0, 0)) (kv_ BK926)); replace BK926 := kbl_ BK926 hb; have NB939_954 := nb_ hg (blk_lt (g := gb939) (o := .cells #[.int .i64 t935, .int .i64 t936] 25 (0, 0)) (kv_ BK939)); have NB954_939 := nc_ hg (blk_lt (g := gb939) (o := .cells #[.int .i64 t935, .int .i64 t936] 25 (0, 0)) (kv_ BK939)); replace BK939 := kbl_ BK939 hb; have NB944_954 := nb_ hg (blk_lt (g := gb944) (o := .cells #[.int .i64 t940, .int .i64 t941] 25 (0, 0)) (kv_ BK944)); have NB954_944 := nc_ hg (blk_lt (g := gb944) (o := .cells #[.int .i64 t940, .int .i64 t941] 25 (0, 0)) (kv_ BK944)); replace BK944 := kbl_ BK944 hb; have NB948_954 := nb_ hg (blk_lt (g := gb948) (o := .cells #[.int .i64 t945, .int .i64 t946] 25 (0, 0)) (kv_ BK948)); have NB954_948 := nc_ hg (blk_lt (g := gb948) (o := .cells #[.int .i64 t945, .int .i64 t946] 25 (0, 0)) (kv_ BK948)); replace BK948 := kbl_ BK948 hb; have NB951_954 := nb_ hg (blk_lt (g := gb951) (o := .cells #[.int .i64 t949, .int .i64 t950] 25 (0, 0)) (kv_ BK951)); have NB954_951 := nc_ hg (blk_lt (g := gb951) (o := .cells #[.int .i64 t949, .int .i64 t950] 25 (0, 0)) (kv_ BK951)); replace BK951 := kbl_ BK951 hb; clear hb hbox hg; have hnb130 := NB954_903.out; have hnc130 := NB903_954.out; have hnb131 := NB954_926.out; have hnc131 := NB926_954.out; have hnb132 := NB954_939.out; have hnc132 := NB939_954.out; have hnb133 := NB954_944.out; have hnc133 := NB944_954.out; have hnb134 := NB954_948.out; have hnc134 := NB948_954.out; have hnb135 := NB954_951.out; have hnc135 := NB951_954.out; obtain ⟨hcz136_0, hcz136_1, hfz136_0, hfz136_1⟩ := c2_ BK954) | ((with_reducible refine gate_callee (f := 45) rfl ?_); refine gl_ 176 Try.func45 #[.slice A0 l0.length c0] rfl mp_ ?_; (with_reducible refine (spec_DrawBlockSensitivityAt.calls k1 _ _ l0 t955 t956 t957 _ ?side1 ?side2 A61.out).mono ?_); (case side1 => exact Kd.C_below HR0.out (bv7_ HB GE903 GE926 GE939 GE944 GE948 GE951 GE954)); (case side2 => exact HC0.out); rintro e w137 ⟨rfl, hb⟩; refine ⟨_, rfl, ?_⟩; replace HO_12 := Aside0.mk (Kd.R_below (by (with_reducible repeat (first | apply Kd.R_alloc | apply Kd.R_drewN | apply Kd.R_drew)); exact (Kd.R_mono (Kd.R_far (p := ⟨gb954, 1, none⟩) (Kd.R_far (p := ⟨gb954, 0, none⟩) (Kd.R_types HO_12.out BK954.out (by decide)) (fun _ hk => hk.2) (.int .i64 t952)) (fun _ hk => hk.2) (.int .i64 t953)) (fun _ h_ => h_.1))) hb); replace HO929 := Aside0.mk (Kd.R_below (by (with_reducible repeat (first | apply Kd.R_alloc | apply Kd.R_drewN | apply Kd.R_drew)); exact (Kd.R_mono (Kd.R_far (p := ⟨gb954, 1, none⟩) (Kd.R_far (p := ⟨gb954, 0, none⟩) (Kd.R_types HO929.out BK954.out (by decide)) (fun _ hk => hk.2) (.int .i64 t952)) (fun _ hk => hk.2) (.int .i64 t953)) (fun _ h_ => h_.1))) hb); replace HO933 := Aside0.mk (Kd.R_below (by (with_reducible repeat (first | apply Kd.R_alloc | apply Kd.R_drewN | apply Kd.R_drew)); exact (Kd.R_mono (Kd.R_far (p := ⟨gb954, 1, none⟩) (Kd.R_far (p := ⟨gb954, 0, none⟩) (Kd.R_types HO933.out BK954.out (by decide)) (fun _ hk => hk.2) (.int .i64 t952)) (fun _ hk => hk.2) (.int .i64 t953)) (fun _ h_ => h_.1))) hb); replace BK903 := Aside0.mk (blk_below (g := gb903) (o := .cells #[.int .i64 t900, .int .i64 t901] 25 (0, 0)) (by (with_reducible repeat (first | refine blk_drewN ?_ _ | refine blk_drew ?_ | refine blk_alloc ?_ _)); refine blk_far ?_ NB903_954.out _; (with_reducible repeat (first | refine blk_drewN ?_ _ | refine blk_drew ?_ | refine blk_alloc ?_ _)); refine blk_far ?_ NB903_954.out _; (with_reducible repeat (first | refine blk_drewN ?_ _ | refine blk_drew ?_ | refine blk_alloc ?_ _)); exact BK903.out) hb); replace BK926 := Aside0.mk (blk_below (g := gb926) (o := .cells #[.int .i64 t923, .int .i64 t924] 25 (0, 0)) (by (with_reducible repeat (first | refine blk_drewN ?_ _ | refine blk_drew ?_ | refine blk_alloc ?_ _)); refine blk_far ?_ NB926_954.out _; (with_reducible repeat (first | refine blk_drewN ?_ _ | refine blk_drew ?_ | refine blk_alloc ?_ _)); refine blk_far ?_ NB926_954.out _; (with_reducible repeat (first | refine blk_drewN ?_ _ | refine blk_drew ?_ | refine blk_alloc ?_ _)); exact BK926.out) hb); replace BK939 := Aside0.mk (blk_below (g := gb939) (o := .cells #[.int .i64 t935, .int .i64 t936] 25 (0, 0)) (by (with_reducible repeat (first | refine blk_drewN ?_ _ | refine blk_drew ?_ | refine blk_alloc ?_ _)); refine blk_far ?_ NB939_954.out _; (with_reducible repeat (first | refine blk_drewN ?_ _ | refine blk_drew ?_ | refine blk_alloc ?_ _)); refine blk_far ?_ NB939_954.out _; (with_reducible repeat (first | refine blk_drewN ?_ _ | refine blk_drew ?_ | refine blk_alloc ?_ _)); exact BK939.out) hb); replace BK944 := Aside0.mk (blk_below (g := gb944) (o := .cells #[.int .i64 t940, .int .i64 t941] 25 (0, 0)) (by (with_reducible repeat (first | refine blk_drewN ?_ _ | refine blk_drew ?_ | refine blk_alloc ?_ _)); refine blk_far ?_ NB944_954.out _; (with_reducible repeat (first | refine blk_drewN ?_ _ | refine blk_drew ?_ | refine blk_alloc ?_ _)); refine blk_far ?_ NB944_954.out _; (with_reducible repeat (first | refine blk_drewN ?_ _ | refine blk_drew ?_ | refine blk_alloc ?_ _)); exact BK944.out) hb); replace BK948 := Aside0.mk (blk_below (g := gb948) (o := .cells #[.int .i64 t945, .int .i64 t946] 25 (0, 0)) (by (with_reducible repeat (first | refine blk_drewN ?_ _ | refine blk_drew ?_ | refine blk_alloc ?_ _)); refine blk_far ?_ NB948_954.out _; (with_reducible repeat (first | refine blk_drewN ?_ _ | refine blk_drew ?_ | refine blk_alloc ?_ _)); refine blk_far ?_ NB948_954.out _; (with_reducible repeat (first | refine blk_drewN ?_ _ | refine blk_drew ?_ | refine blk_alloc ?_ _)); exact BK948.out) hb); replace BK951 := Aside0.mk (blk_below (g := gb951) (o := .cells #[.int .i64 t949, .int .i64 t950] 25 (0, 0)) (by (with_reducible repeat (first | refine blk_drewN ?_ _ | refine blk_drew ?_ | refine blk_alloc ?_ _)); refine blk_far ?_ NB951_954.out _; (with_reducible repeat (first | refine blk_drewN ?_ _ | refine blk_drew ?_ | refine blk_alloc ?_ _)); refine blk_far ?_ NB951_954.out _; (with_reducible repeat (first | refine blk_drewN ?_ _ | refine blk_drew ?_ | refine blk_alloc ?_ _)); exact BK951.out) hb); replace BK954 := Aside0.mk (blk_below (g := gb954) (o := .cells #[.int .i64 t952, .int .i64 t953] 25 (0, 0)) (by (with_reducible repeat (first | refine blk_drewN ?_ _ | refine blk_drew ?_ | refine blk_alloc ?_ _)); refine blk_put (cs := #[.int .i64 t952, .int .i64 0]) ?_ 1 _ rfl; (with_reducible repeat (first | refine blk_drewN ?_ _ | refine blk_drew ?_ | refine blk_alloc ?_ _)); refine blk_put (cs := #[.int .i64 0, .int .i64 0]) ?_ 0 _ rfl; (with_reducible repeat (first | refine blk_drewN ?_ _ | refine blk_drew ?_ | refine blk_alloc ?_ _)); exact BK954.out) hb); replace HB := Aside0.mk (below_step (bv7_ HB GE903 GE926 GE939 GE944 GE948 GE951 GE954) hb); (try clear hb); (try clear hb2); (try clear hk); (try clear hi)) | ((with_reducible refine gate_dst (N := 31) rfl ?_); refine bx_ 31 #[.int .i64 0, .int .i64 0] 25 ?_; intro gb958 hg w138 hbox hb; replace HO_12 := Aside0.mk (Kd.R_below (rv_ HO_12) hb); replace HO929 := Aside0.mk (Kd.R_below (rv_ HO929) hb); replace HO933 := Aside0.mk (Kd.R_below (rv_ HO933) hb); have BK958 := Aside0.mk (hbox); have GW958 := gw_ hg (below_size (bv7_ HB GE903 GE926 GE939 GE944 GE948 GE951 GE954)); have GE958 := GW958; replace HB := Aside0.mk (below_step (bv7_ HB GE903 GE926 GE939 GE944 GE948 GE951 GE954) hb); have NB903_958 := nb_ hg (blk_lt (g := gb903) (o := .cells #[.int .i64 t900, .int .i64 t901] 25 (0, 0)) (kv_ BK903)); have NB958_903 := nc_ hg (blk_lt (g := gb903) (o := .cells #[.int .i64 t900, .int .i64 t901] 25 (0, 0)) (kv_ BK903)); replace BK903 := kbl_ BK903 hb; have NB926_958 := nb_ hg (blk_lt (g := gb926) (o := .cells #[.int .i64 t923, .int .i64 t924] 25 (0, 0)) (kv_ BK926)); have NB958_926 := nc_ hg (blk_lt (g := gb926) (o := .cells #[.int .i64 t923, .int .i64 t924] 25 (0, 0)) (kv_ BK926)); replace BK926 := kbl_ BK926 hb; have NB939_958 := nb_ hg (blk_lt (g := gb939) (o := .cells #[.int .i64 t935, .int .i64 t936] 25 (0, 0)) (kv_ BK939)); have NB958_939 := nc_ hg (blk_lt (g := gb939) (o := .cells #[.int .i64 t935, .int .i64 t936] 25 (0, 0)) (kv_ BK939)); replace BK939 := kbl_ BK939 hb; have NB944_958 := nb_ hg (blk_lt (g := gb944) (o := .cells #[.int .i64 t940, .int .i64 t941] 25 (0, 0)) (kv_ BK944)); have NB958_944 := nc_ hg (blk_lt (g := gb944) (o := .cells #[.int .i64 t940, .int .i64 t941] 25 (0, 0)) (kv_ BK944)); replace BK944 := kbl_ BK944 hb; have NB948_958 := nb_ hg (blk_lt (g := gb948) (o := .cells #[.int .i64 t945, .int .i64 t946] 25 (0, 0)) (kv_ BK948)); have NB958_948 := nc_ hg (blk_lt (g := gb948) (o := .cells #[.int .i64 t945, .int .i64 t946] 25 (0, 0)) (kv_ BK948)); replace BK948 := kbl_ BK948 hb; have NB951_958 := nb_ hg (blk_lt (g := gb951) (o := .cells #[.int .i64 t949, .int .i64 t950] 25 (0, 0)) (kv_ BK951)); have NB958_951 := nc_ hg (blk_lt (g := gb951) (o := .cells #[.int .i64 t949, .int .i64 t950] 25 (0, 0)) (kv_ BK951)); replace BK951 := kbl_ BK951 hb; have NB954_958 := nb_ hg (blk_lt (g := gb954) (o := .cells #[.int .i64 t952, .int .i64 t953] 25 (0, 0)) (kv_ BK954)); have NB958_954 := nc_ hg (blk_lt (g := gb954) (o := .cells #[.int .i64 t952, .int .i64 t953] 25 (0, 0)) (kv_ BK954)); replace BK954 := kbl_ BK954 hb; clear hb hbox hg; have hnb139 := NB958_903.out; have hnc139 := NB903_958.out; have hnb140 := NB958_926.out; have hnc140 := NB926_958.out; have hnb141 := NB958_939.out; have hnc141 := NB939_958.out; have hnb142 := NB958_944.out; have hnc142 := NB944_958.out; have hnb143 := NB958_948.out; have hnc143 := NB948_958.out; have hnb144 := NB958_951.out; have hnc144 := NB951_958.out; have hnb145 := NB958_954.out; have hnc145 := NB954_958.out; obtain ⟨hcz146_0, hcz146_1, hfz146_0, hfz146_1⟩ := c2_ BK958; obtain ⟨hcz147_0, hcz147_1, hfz147_0, hfz147_1⟩ := c2_ BK951) | ((with_reducible refine gate_callee (f := 46) rfl ?_); refine gl_ 180 Try.func46 #[.agg #[.int .i64 t949, .int .i64 t950]] rfl mp_ ?_; (with_reducible refine (impl_SensitiveEdges.calls k1 t949 t950 t959 _ A62.out).mono ?_); rintro e w148 ⟨rfl, hb⟩; refine ⟨_, rfl, ?_⟩; replace HO_12 := Aside0.mk (Kd.R_below (by (with_reducible repeat (first | apply Kd.R_alloc | apply Kd.R_drewN | apply Kd.R_drew)); exact (Kd.R_mono (Kd.R_far (p := ⟨gb958, 1, none⟩) (Kd.R_far (p := ⟨gb958, 0, none⟩) (Kd.R_types HO_12.out BK958.out (by decide)) (fun _ hk => hk.2) (.int .i64 t955)) (fun _ hk => hk.2) (.int .i64 t956)) (fun _ h_ => h_.1))) hb); replace HO929 := Aside0.mk (Kd.R_below (by (with_reducible repeat (first | apply Kd.R_alloc | apply Kd.R_drewN | apply Kd.R_drew)); exact (Kd.R_mono (Kd.R_far (p := ⟨gb958, 1, none⟩) (Kd.R_far (p := ⟨gb958, 0, none⟩) (Kd.R_types HO929.out BK958.out (by decide)) (fun _ hk => hk.2) (.int .i64 t955)) (fun _ hk => hk.2) (.int .i64 t956)) (fun _ h_ => h_.1))) hb); replace HO933 := Aside0.mk (Kd.R_below (by (with_reducible repeat (first | apply Kd.R_alloc | apply Kd.R_drewN | apply Kd.R_drew)); exact (Kd.R_mono (Kd.R_far (p := ⟨gb958, 1, none⟩) (Kd.R_far (p := ⟨gb958, 0, none⟩) (Kd.R_types HO933.out BK958.out (by decide)) (fun _ hk => hk.2) (.int .i64 t955)) (fun _ hk => hk.2) (.int .i64 t956)) (fun _ h_ => h_.1))) hb); replace BK903 := Aside0.mk (blk_below (g := gb903) (o := .cells #[.int .i64 t900, .int .i64 t901] 25 (0, 0)) (by (with_reducible repeat (first | refine blk_drewN ?_ _ | refine blk_drew ?_ | refine blk_alloc ?_ _)); refine blk_far ?_ NB903_958.out _; (with_reducible repeat (first | refine blk_drewN ?_ _ | refine blk_drew ?_ | refine blk_alloc ?_ _)); refine blk_far ?_ NB903_958.out _; (with_reducible repeat (first | refine blk_drewN ?_ _ | refine blk_drew ?_ | refine blk_alloc ?_ _)); exact BK903.out) hb); replace BK926 := Aside0.mk (blk_below (g := gb926) (o := .cells #[.int .i64 t923, .int .i64 t924] 25 (0, 0)) (by (with_reducible repeat (first | refine blk_drewN ?_ _ | refine blk_drew ?_ | refine blk_alloc ?_ _)); refine blk_far ?_ NB926_958.out _; (with_reducible repeat (first | refine blk_drewN ?_ _ | refine blk_drew ?_ | refine blk_alloc ?_ _)); refine blk_far ?_ NB926_958.out _; (with_reducible repeat (first | refine blk_drewN ?_ _ | refine blk_drew ?_ | refine blk_alloc ?_ _)); exact BK926.out) hb); replace BK939 := Aside0.mk (blk_below (g := gb939) (o := .cells #[.int .i64 t935, .int .i64 t936] 25 (0, 0)) (by (with_reducible repeat (first | refine blk_drewN ?_ _ | refine blk_drew ?_ | refine blk_alloc ?_ _)); refine blk_far ?_ NB939_958.out _; (with_reducible repeat (first | refine blk_drewN ?_ _ | refine blk_drew ?_ | refine blk_alloc ?_ _)); refine blk_far ?_ NB939_958.out _; (with_reducible repeat (first | refine blk_drewN ?_ _ | refine blk_drew ?_ | refine blk_alloc ?_ _)); exact BK939.out) hb); replace BK944 := Aside0.mk (blk_below (g := gb944) (o := .cells #[.int .i64 t940, .int .i64 t941] 25 (0, 0)) (by (with_reducible repeat (first | refine blk_drewN ?_ _ | refine blk_drew ?_ | refine blk_alloc ?_ _)); refine blk_far ?_ NB944_958.out _; (with_reducible repeat (first | refine blk_drewN ?_ _ | refine blk_drew ?_ | refine blk_alloc ?_ _)); refine blk_far ?_ NB944_958.out _; (with_reducible repeat (first | refine blk_drewN ?_ _ | refine blk_drew ?_ | refine blk_alloc ?_ _)); exact BK944.out) hb); replace BK948 := Aside0.mk (blk_below (g := gb948) (o := .cells #[.int .i64 t945, .int .i64 t946] 25 (0, 0)) (by (with_reducible repeat (first | refine blk_drewN ?_ _ | refine blk_drew ?_ | refine blk_alloc ?_ _)); refine blk_far ?_ NB948_958.out _; (with_reducible repeat (first | refine blk_drewN ?_ _ | refine blk_drew ?_ | refine blk_alloc ?_ _)); refine blk_far ?_ NB948_958.out _; (with_reducible repeat (first | refine blk_drewN ?_ _ | refine blk_drew ?_ | refine blk_alloc ?_ _)); exact BK948.out) hb); replace BK951 := Aside0.mk (blk_below (g := gb951) (o := .cells #[.int .i64 t949, .int .i64 t950] 25 (0, 0)) (by (with_reducible repeat (first | refine blk_drewN ?_ _ | refine blk_drew ?_ | refine blk_alloc ?_ _)); refine blk_far ?_ NB951_958.out _; (with_reducible repeat (first | refine blk_drewN ?_ _ | refine blk_drew ?_ | refine blk_alloc ?_ _)); refine blk_far ?_ NB951_958.out _; (with_reducible repeat (first | refine blk_drewN ?_ _ | refine blk_drew ?_ | refine blk_alloc ?_ _)); exact BK951.out) hb); replace BK954 := Aside0.mk (blk_below (g := gb954) (o := .cells #[.int .i64 t952, .int .i64 t953] 25 (0, 0)) (by (with_reducible repeat (first | refine blk_drewN ?_ _ | refine blk_drew ?_ | refine blk_alloc ?_ _)); refine blk_far ?_ NB954_958.out _; (with_reducible repeat (first | refine blk_drewN ?_ _ | refine blk_drew ?_ | refine blk_alloc ?_ _)); refine blk_far ?_ NB954_958.out _; (with_reducible repeat (first | refine blk_drewN ?_ _ | refine blk_drew ?_ | refine blk_alloc ?_ _)); exact BK954.out) hb); replace BK958 := Aside0.mk (blk_below (g := gb958) (o := .cells #[.int .i64 t955, .int .i64 t956] 25 (0, 0)) (by (with_reducible repeat (first | refine blk_drewN ?_ _ | refine blk_drew ?_ | refine blk_alloc ?_ _)); refine blk_put (cs := #[.int .i64 t955, .int .i64 0]) ?_ 1 _ rfl; (with_reducible repeat (first | refine blk_drewN ?_ _ | refine blk_drew ?_ | refine blk_alloc ?_ _)); refine blk_put (cs := #[.int .i64 0, .int .i64 0]) ?_ 0 _ rfl; (with_reducible repeat (first | refine blk_drewN ?_ _ | refine blk_drew ?_ | refine blk_alloc ?_ _)); exact BK958.out) hb); replace HB := Aside0.mk (below_step (bv8_ HB GE903 GE926 GE939 GE944 GE948 GE951 GE954 GE958) hb); (try clear hb); (try clear hb2); (try clear hk); (try clear hi)))
                         replace HO_12 := Aside0.mk (Kd.R_drew HO_12.out)
                         replace HO929 := Aside0.mk (Kd.R_drew HO929.out)
                         replace HO933 := Aside0.mk (Kd.R_drew HO933.out)
                         replace BK903 := Aside0.mk (blk_drew BK903.out)
                         replace BK926 := Aside0.mk (blk_drew BK926.out)
                         replace BK939 := Aside0.mk (blk_drew BK939.out)
                         replace BK944 := Aside0.mk (blk_drew BK944.out)
                         replace BK948 := Aside0.mk (blk_drew BK948.out)
                         replace BK951 := Aside0.mk (blk_drew BK951.out)
                         replace BK954 := Aside0.mk (blk_drew BK954.out)
                         replace BK958 := Aside0.mk (blk_drew BK958.out)
                         replace HB := Aside0.mk (below_drew1 HB.out)
                         obtain ⟨Ao150, co150, eo150⟩ := Kd.R_slice HO929.out
                         (first | subst eo150 | (injection eo150 with f1_ f2_ f3_; have f4_ := f1_.symm; have f5_ := f3_.symm; clear f1_ f2_ f3_; subst f4_; subst f5_))
                         obtain ⟨Ao151, co151, eo151⟩ := Kd.R_slice HO933.out
                         (first | subst eo151 | (injection eo151 with f1_ f2_ f3_; have f4_ := f1_.symm; have f5_ := f3_.symm; clear f1_ f2_ f3_; subst f4_; subst f5_))
                         (try clear hcz27_0); (try clear hcz27_1); (try clear hfz27_0); (try clear hfz27_1); (try clear hcz29_0); (try clear hcz29_1); (try clear hfz29_0); (try clear hfz29_1); (try clear hcz31_0); (try clear hcz31_1); (try clear hfz31_0); (try clear hfz31_1)
                         (try clear hcz33_0); (try clear hcz33_1); (try clear hfz33_0); (try clear hfz33_1); (try clear hcz35_0); (try clear hcz35_1); (try clear hfz35_0); (try clear hfz35_1); (try clear hcz37_0); (try clear hcz37_1); (try clear hfz37_0); (try clear hfz37_1)
                         (try clear hnb97); (try clear hnc97); (try clear hcz98_0); (try clear hcz98_1); (try clear hfz98_0); (try clear hfz98_1); (try clear hcz100_0); (try clear hcz100_1); (try clear hfz100_0); (try clear hfz100_1); (try clear hnb104); (try clear hnc104)
                         (try clear hnb105); (try clear hnc105); (try clear hcz106_0); (try clear hcz106_1); (try clear hfz106_0); (try clear hfz106_1); (try clear hnb109); (try clear hnc109); (try clear hnb110); (try clear hnc110); (try clear hnb111); (try clear hnc111)
                         (try clear hcz112_0); (try clear hcz112_1); (try clear hfz112_0); (try clear hfz112_1); (try clear hnb115); (try clear hnc115); (try clear hnb116); (try clear hnc116); (try clear hnb117); (try clear hnc117); (try clear hnb118); (try clear hnc118)
                         (try clear hcz119_0); (try clear hcz119_1); (try clear hfz119_0); (try clear hfz119_1); (try clear hnb122); (try clear hnc122); (try clear hnb123); (try clear hnc123); (try clear hnb124); (try clear hnc124); (try clear hnb125); (try clear hnc125)
                         (try clear hnb126); (try clear hnc126); (try clear hcz127_0); (try clear hcz127_1); (try clear hfz127_0); (try clear hfz127_1); (try clear hnb130); (try clear hnc130); (try clear hnb131); (try clear hnc131); (try clear hnb132); (try clear hnc132)
                         (try clear hnb133); (try clear hnc133); (try clear hnb134); (try clear hnc134); (try clear hnb135); (try clear hnc135); (try clear hcz136_0); (try clear hcz136_1); (try clear hfz136_0); (try clear hfz136_1); (try clear hnb139); (try clear hnc139)
                         (try clear hnb140); (try clear hnc140); (try clear hnb141); (try clear hnc141); (try clear hnb142); (try clear hnc142); (try clear hnb143); (try clear hnc143); (try clear hnb144); (try clear hnc144); (try clear hnb145); (try clear hnc145)
                         (try clear hcz146_0); (try clear hcz146_1); (try clear hfz146_0); (try clear hfz146_1); (try clear hcz147_0); (try clear hcz147_1); (try clear hfz147_0); (try clear hfz147_1)
                         refine start_ (n := 94) (S := fun w' => w'.cell? ⟨gb939, 0, none⟩ = some (.int .i64 t935) ∧ w'.cell? ⟨gb939, 1, none⟩ = some (.int .i64 t936) ∧ w'.cell? ⟨gb944, 0, none⟩ = some (.int .i64 t940) ∧ w'.cell? ⟨gb944, 1, none⟩ = some (.int .i64 t941) ∧ w'.cell? ⟨gb948, 0, none⟩ = some (.int .i64 t945) ∧ w'.cell? ⟨gb948, 1, none⟩ = some (.int .i64 t946) ∧ w'.cell? ⟨gb951, 0, none⟩ = some (.int .i64 t949) ∧ w'.cell? ⟨gb951, 1, none⟩ = some (.int .i64 t950) ∧ w'.cell? ⟨gb954, 0, none⟩ = some (.int .i64 t952) ∧ w'.cell? ⟨gb954, 1, none⟩ = some (.int .i64 t953) ∧ w'.cell? ⟨gb958, 0, none⟩ = some (.int .i64 t955) ∧ w'.cell? ⟨gb958, 1, none⟩ = some (.int .i64 t956)) (ds := []) (bs 94 0) (by kernel_rfl) rfl (by kernel_rfl) ⟨(blk_cell BK939.out 0).trans rfl, (blk_cell BK939.out 1).trans rfl, (blk_cell BK944.out 0).trans rfl, (blk_cell BK944.out 1).trans rfl, (blk_cell BK948.out 0).trans rfl, (blk_cell BK948.out 1).trans rfl, (blk_cell BK951.out 0).trans rfl, (blk_cell BK951.out 1).trans rfl, (blk_cell BK954.out 0).trans rfl, (blk_cell BK954.out 1).trans rfl, (blk_cell BK958.out 0).trans rfl, (blk_cell BK958.out 1).trans rfl⟩ (fun hHeld => ?_); refine with_tabW laws_FnCertificates.tab30 laws_FnCertificates.bits30 (fun HT_ HW_ => ?_)
                         generalize w148.drew = w149 at HO_12 HO929 HO933 BK903 BK926 BK939 BK944 BK948 BK951 BK954 BK958 HB hHeld ⊢
                         refine pu_ HT_ 0 181 (bs 94 1) ?_
                         refine pu_ HT_ 1 182 (bs 94 3) ?_
                         refine pu_ HT_ 2 183 (bs 94 7) ?_
                         refine pu_ HT_ 3 184 (bs 94 15) ?_
                         refine pu_ HT_ 4 185 (bs 94 31) ?_
                         refine pu_ HT_ 5 186 (bs 94 63) ?_
                         refine on_ HT_ 6 187 (bs 94 127) (fun K hK => ?_)
                         refine goes_ Try.func11 (by kernel_rfl) rfl #[.slice Ao150 t927.length co150, .slice Ao151 t931.length co151] (by rfl) rfl rfl mp_ ?_
                         with_reducible refine (laws_sameInts.calls k1 _ _ t927 _ _ t931 true _ ?side1 ?side2 ?side3 ?side4 A64.out).mono ?_
                         (case side1 => repeat (first | exact (Kd.R_reads' HO929.out).2.2 | (with_reducible refine Kd.C_alloc ?_ _) | (with_reducible refine Kd.C_drewN ?_ _) | (with_reducible refine Kd.C_drew ?_)))
                         (case side2 => exact (Kd.R_reads' HO929.out).2.1)
                         (case side3 => repeat (first | exact (Kd.R_reads' HO933.out).2.2 | (with_reducible refine Kd.C_alloc ?_ _) | (with_reducible refine Kd.C_drewN ?_ _) | (with_reducible refine Kd.C_drew ?_)))
                         (case side4 => exact (Kd.R_reads' HO933.out).2.1)
                         rintro e w' ⟨rfl, ⟨nd, rfl⟩⟩
                         refine ⟨_, rfl, ?_⟩
                         refine hK.out _ _ ⟨(blk_cell BK939.out 0).trans rfl, (blk_cell BK939.out 1).trans rfl, (blk_cell BK944.out 0).trans rfl, (blk_cell BK944.out 1).trans rfl, (blk_cell BK948.out 0).trans rfl, (blk_cell BK948.out 1).trans rfl, (blk_cell BK951.out 0).trans rfl, (blk_cell BK951.out 1).trans rfl, (blk_cell BK954.out 0).trans rfl, (blk_cell BK954.out 1).trans rfl, (blk_cell BK958.out 0).trans rfl, (blk_cell BK958.out 1).trans rfl⟩ (fun hHeld => ?_)
                         clear hK K
                         refine no_ 187 ?_
                         refine pu_ HT_ 7 188 (bs 94 255) ?_
                         refine pu_ HT_ 8 189 (bs 94 511) ?_
                         refine pu_ HT_ 10 191 (bs 94 1535) ?_
                         refine pu_ HT_ 11 192 (bs 94 3583) ?_
                         refine pu_ HT_ 14 195 (bs 94 19967) ?_
                         refine pu_ HT_ 15 196 (bs 94 52735) ?_
                         refine ta12_ HT_ HW_ 9 190 (bs 94 53247) hHeld ?_
                         refine ta12_ HT_ HW_ 13 194 (bs 94 61439) hHeld ?_
                         refine on_ HT_ 12 193 (bs 94 65535) (fun K hK => ?_)
                         refine goes_ Try.func32 (by kernel_rfl) rfl #[.agg #[.int .i64 t935, .int .i64 t936], .int .i64 t937, .int .i64 t938] (by rfl) rfl rfl mp_ ?_
                         with_reducible refine (impl_IsCertificate.calls t935 t936 t937 t938 t961 _ A66.out).mono ?_
                         rintro e w152 ⟨rfl, hb⟩
                         refine ⟨_, rfl, ?_⟩
                         replace HO_12 := Aside0.mk (Kd.R_below (rv_ HO_12) hb)
                         replace HO929 := Aside0.mk (Kd.R_below (rv_ HO929) hb)
                         replace HO933 := Aside0.mk (Kd.R_below (rv_ HO933) hb)
                         replace BK903 := kbl_ BK903 hb
                         replace BK926 := kbl_ BK926 hb
                         replace BK939 := kbl_ BK939 hb
                         replace BK944 := kbl_ BK944 hb
                         replace BK948 := kbl_ BK948 hb
                         replace BK951 := kbl_ BK951 hb
                         replace BK954 := kbl_ BK954 hb
                         replace BK958 := kbl_ BK958 hb
                         replace HB := Aside0.mk (below_step (bv8_ HB GE903 GE926 GE939 GE944 GE948 GE951 GE954 GE958) hb)
                         (try clear hb)
                         (try clear hb2)
                         (try clear hk)
                         (try clear hi)
                         refine hK.out _ _ ⟨(blk_cell BK939.out 0).trans rfl, (blk_cell BK939.out 1).trans rfl, (blk_cell BK944.out 0).trans rfl, (blk_cell BK944.out 1).trans rfl, (blk_cell BK948.out 0).trans rfl, (blk_cell BK948.out 1).trans rfl, (blk_cell BK951.out 0).trans rfl, (blk_cell BK951.out 1).trans rfl, (blk_cell BK954.out 0).trans rfl, (blk_cell BK954.out 1).trans rfl, (blk_cell BK958.out 0).trans rfl, (blk_cell BK958.out 1).trans rfl⟩ (fun hHeld => ?_)
                         clear hK K
                         refine no_ 193 ?_
                         refine on_ HT_ 16 197 (bs 94 131071) (fun K hK => ?_)
                         refine goes_ Try.func47 (by kernel_rfl) rfl #[.agg #[.int .i64 t935, .int .i64 t936], .int .i64 t937, .int .i64 t938] (by rfl) rfl rfl mp_ ?_
                         with_reducible refine (spec_IsCertificate.calls k1 t935 t936 t937 t938 t962 _ A67.out).mono ?_
                         rintro e w153 ⟨rfl, hb⟩
                         refine ⟨_, rfl, ?_⟩
                         replace HO_12 := Aside0.mk (Kd.R_below (rv_ HO_12) hb)
                         replace HO929 := Aside0.mk (Kd.R_below (rv_ HO929) hb)
                         replace HO933 := Aside0.mk (Kd.R_below (rv_ HO933) hb)
                         replace BK903 := kbl_ BK903 hb
                         replace BK926 := kbl_ BK926 hb
                         replace BK939 := kbl_ BK939 hb
                         replace BK944 := kbl_ BK944 hb
                         replace BK948 := kbl_ BK948 hb
                         replace BK951 := kbl_ BK951 hb
                         replace BK954 := kbl_ BK954 hb
                         replace BK958 := kbl_ BK958 hb
                         replace HB := Aside0.mk (below_step (bv8_ HB GE903 GE926 GE939 GE944 GE948 GE951 GE954 GE958) hb)
                         (try clear hb)
                         (try clear hb2)
                         (try clear hk)
                         (try clear hi)
                         refine hK.out _ _ ⟨(blk_cell BK939.out 0).trans rfl, (blk_cell BK939.out 1).trans rfl, (blk_cell BK944.out 0).trans rfl, (blk_cell BK944.out 1).trans rfl, (blk_cell BK948.out 0).trans rfl, (blk_cell BK948.out 1).trans rfl, (blk_cell BK951.out 0).trans rfl, (blk_cell BK951.out 1).trans rfl, (blk_cell BK954.out 0).trans rfl, (blk_cell BK954.out 1).trans rfl, (blk_cell BK958.out 0).trans rfl, (blk_cell BK958.out 1).trans rfl⟩ (fun hHeld => ?_)
                         clear hK K
                         refine no_ 197 ?_
                         refine pu_ HT_ 17 198 (bs 94 262143) ?_
                         refine pu_ HT_ 18 199 (bs 94 524287) ?_
                         refine pu_ HT_ 19 200 (bs 94 1048575) ?_
                         refine pu_ HT_ 21 202 (bs 94 3145727) ?_
                         refine pu_ HT_ 22 203 (bs 94 7340031) ?_
                         refine pu_ HT_ 25 206 (bs 94 40894463) ?_
                         refine pu_ HT_ 26 207 (bs 94 108003327) ?_
                         refine ta12_ HT_ HW_ 20 201 (bs 94 109051903) hHeld ?_
                         refine ta12_ HT_ HW_ 24 205 (bs 94 125829119) hHeld ?_
                         refine on_ HT_ 23 204 (bs 94 134217727) (fun K hK => ?_)
                         refine goes_ Try.func37 (by kernel_rfl) rfl #[.agg #[.int .i64 t940, .int .i64 t941], .int .i64 t942, .int .i64 t943] (by rfl) rfl rfl mp_ ?_
                         with_reducible refine (impl_IsSensitiveBlock.calls t940 t941 t942 t943 t963 _ A69.out).mono ?_
                         rintro e w154 ⟨rfl, hb⟩
                         refine ⟨_, rfl, ?_⟩
                         replace HO_12 := Aside0.mk (Kd.R_below (rv_ HO_12) hb)
                         replace HO929 := Aside0.mk (Kd.R_below (rv_ HO929) hb)
                         replace HO933 := Aside0.mk (Kd.R_below (rv_ HO933) hb)
                         replace BK903 := kbl_ BK903 hb
                         replace BK926 := kbl_ BK926 hb
                         replace BK939 := kbl_ BK939 hb
                         replace BK944 := kbl_ BK944 hb
                         replace BK948 := kbl_ BK948 hb
                         replace BK951 := kbl_ BK951 hb
                         replace BK954 := kbl_ BK954 hb
                         replace BK958 := kbl_ BK958 hb
                         replace HB := Aside0.mk (below_step (bv8_ HB GE903 GE926 GE939 GE944 GE948 GE951 GE954 GE958) hb)
                         (try clear hb)
                         (try clear hb2)
                         (try clear hk)
                         (try clear hi)
                         refine hK.out _ _ ⟨(blk_cell BK939.out 0).trans rfl, (blk_cell BK939.out 1).trans rfl, (blk_cell BK944.out 0).trans rfl, (blk_cell BK944.out 1).trans rfl, (blk_cell BK948.out 0).trans rfl, (blk_cell BK948.out 1).trans rfl, (blk_cell BK951.out 0).trans rfl, (blk_cell BK951.out 1).trans rfl, (blk_cell BK954.out 0).trans rfl, (blk_cell BK954.out 1).trans rfl, (blk_cell BK958.out 0).trans rfl, (blk_cell BK958.out 1).trans rfl⟩ (fun hHeld => ?_)
                         clear hK K
                         refine no_ 204 ?_
                         refine on_ HT_ 27 208 (bs 94 268435455) (fun K hK => ?_)
                         refine goes_ Try.func48 (by kernel_rfl) rfl #[.agg #[.int .i64 t940, .int .i64 t941], .int .i64 t942, .int .i64 t943] (by rfl) rfl rfl mp_ ?_
                         with_reducible refine (spec_IsSensitiveBlock.calls t940 t941 t942 t943 t964 _ A70.out).mono ?_
                         rintro e w155 ⟨rfl, hb⟩
                         refine ⟨_, rfl, ?_⟩
                         replace HO_12 := Aside0.mk (Kd.R_below (rv_ HO_12) hb)
                         replace HO929 := Aside0.mk (Kd.R_below (rv_ HO929) hb)
                         replace HO933 := Aside0.mk (Kd.R_below (rv_ HO933) hb)
                         replace BK903 := kbl_ BK903 hb
                         replace BK926 := kbl_ BK926 hb
                         replace BK939 := kbl_ BK939 hb
                         replace BK944 := kbl_ BK944 hb
                         replace BK948 := kbl_ BK948 hb
                         replace BK951 := kbl_ BK951 hb
                         replace BK954 := kbl_ BK954 hb
                         replace BK958 := kbl_ BK958 hb
                         replace HB := Aside0.mk (below_step (bv8_ HB GE903 GE926 GE939 GE944 GE948 GE951 GE954 GE958) hb)
                         (try clear hb)
                         (try clear hb2)
                         (try clear hk)
                         (try clear hi)
                         refine hK.out _ _ ⟨(blk_cell BK939.out 0).trans rfl, (blk_cell BK939.out 1).trans rfl, (blk_cell BK944.out 0).trans rfl, (blk_cell BK944.out 1).trans rfl, (blk_cell BK948.out 0).trans rfl, (blk_cell BK948.out 1).trans rfl, (blk_cell BK951.out 0).trans rfl, (blk_cell BK951.out 1).trans rfl, (blk_cell BK954.out 0).trans rfl, (blk_cell BK954.out 1).trans rfl, (blk_cell BK958.out 0).trans rfl, (blk_cell BK958.out 1).trans rfl⟩ (fun hHeld => ?_)
                         clear hK K
                         refine no_ 208 ?_
                         refine pu_ HT_ 28 209 (bs 94 536870911) ?_
                         refine pu_ HT_ 29 210 (bs 94 1073741823) ?_
                         refine pu_ HT_ 30 211 (bs 94 2147483647) ?_
                         refine pu_ HT_ 32 213 (bs 94 6442450943) ?_
                         refine pu_ HT_ 35 216 (bs 94 40802189311) ?_
                         refine ta12_ HT_ HW_ 31 212 (bs 94 42949672959) hHeld ?_
                         refine ta12_ HT_ HW_ 34 215 (bs 94 60129542143) hHeld ?_
                         refine on_ HT_ 33 214 (bs 94 68719476735) (fun K hK => ?_)
                         refine goes_ Try.func34 (by kernel_rfl) rfl #[.agg #[.int .i64 t945, .int .i64 t946], .int .i64 t947] (by rfl) rfl rfl mp_ ?_
                         with_reducible refine (impl_CertificateOf.calls k1 t945 t946 t947 t965 _ A72.out).mono ?_
                         rintro e w156 ⟨rfl, hb⟩
                         refine ⟨_, rfl, ?_⟩
                         replace HO_12 := Aside0.mk (Kd.R_below (rv_ HO_12) hb)
                         replace HO929 := Aside0.mk (Kd.R_below (rv_ HO929) hb)
                         replace HO933 := Aside0.mk (Kd.R_below (rv_ HO933) hb)
                         replace BK903 := kbl_ BK903 hb
                         replace BK926 := kbl_ BK926 hb
                         replace BK939 := kbl_ BK939 hb
                         replace BK944 := kbl_ BK944 hb
                         replace BK948 := kbl_ BK948 hb
                         replace BK951 := kbl_ BK951 hb
                         replace BK954 := kbl_ BK954 hb
                         replace BK958 := kbl_ BK958 hb
                         replace HB := Aside0.mk (below_step (bv8_ HB GE903 GE926 GE939 GE944 GE948 GE951 GE954 GE958) hb)
                         (try clear hb)
                         (try clear hb2)
                         (try clear hk)
                         (try clear hi)
                         refine hK.out _ _ ⟨(blk_cell BK939.out 0).trans rfl, (blk_cell BK939.out 1).trans rfl, (blk_cell BK944.out 0).trans rfl, (blk_cell BK944.out 1).trans rfl, (blk_cell BK948.out 0).trans rfl, (blk_cell BK948.out 1).trans rfl, (blk_cell BK951.out 0).trans rfl, (blk_cell BK951.out 1).trans rfl, (blk_cell BK954.out 0).trans rfl, (blk_cell BK954.out 1).trans rfl, (blk_cell BK958.out 0).trans rfl, (blk_cell BK958.out 1).trans rfl⟩ (fun hHeld => ?_)
                         clear hK K
                         refine no_ 214 ?_
                         refine on_ HT_ 36 217 (bs 94 137438953471) (fun K hK => ?_)
                         refine goes_ Try.func49 (by kernel_rfl) rfl #[.agg #[.int .i64 t945, .int .i64 t946], .int .i64 t947] (by rfl) rfl rfl mp_ ?_
                         with_reducible refine (spec_CertificateOf.calls k1 t945 t946 t947 t966 _ A73.out).mono ?_
                         rintro e w157 ⟨rfl, hb⟩
                         refine ⟨_, rfl, ?_⟩
                         replace HO_12 := Aside0.mk (Kd.R_below (rv_ HO_12) hb)
                         replace HO929 := Aside0.mk (Kd.R_below (rv_ HO929) hb)
                         replace HO933 := Aside0.mk (Kd.R_below (rv_ HO933) hb)
                         replace BK903 := kbl_ BK903 hb
                         replace BK926 := kbl_ BK926 hb
                         replace BK939 := kbl_ BK939 hb
                         replace BK944 := kbl_ BK944 hb
                         replace BK948 := kbl_ BK948 hb
                         replace BK951 := kbl_ BK951 hb
                         replace BK954 := kbl_ BK954 hb
                         replace BK958 := kbl_ BK958 hb
                         replace HB := Aside0.mk (below_step (bv8_ HB GE903 GE926 GE939 GE944 GE948 GE951 GE954 GE958) hb)
                         (try clear hb)
                         (try clear hb2)
                         (try clear hk)
                         (try clear hi)
                         refine hK.out _ _ ⟨(blk_cell BK939.out 0).trans rfl, (blk_cell BK939.out 1).trans rfl, (blk_cell BK944.out 0).trans rfl, (blk_cell BK944.out 1).trans rfl, (blk_cell BK948.out 0).trans rfl, (blk_cell BK948.out 1).trans rfl, (blk_cell BK951.out 0).trans rfl, (blk_cell BK951.out 1).trans rfl, (blk_cell BK954.out 0).trans rfl, (blk_cell BK954.out 1).trans rfl, (blk_cell BK958.out 0).trans rfl, (blk_cell BK958.out 1).trans rfl⟩ (fun hHeld => ?_)
                         clear hK K
                         refine no_ 217 ?_
                         refine pu_ HT_ 37 218 (bs 94 274877906943) ?_
                         refine pu_ HT_ 38 219 (bs 94 549755813887) ?_
                         refine pu_ HT_ 39 220 (bs 94 1099511627775) ?_
                         refine ta12_ HT_ HW_ 40 221 (bs 94 2199023255551) hHeld ?_
                         refine ta12_ HT_ HW_ 42 223 (bs 94 6597069766655) hHeld ?_
                         refine on_ HT_ 41 222 (bs 94 8796093022207) (fun K hK => ?_)
                         refine goes_ Try.func50 (by kernel_rfl) rfl #[.agg #[.int .i64 t949, .int .i64 t950]] (by rfl) rfl rfl mp_ ?_
                         with_reducible refine (impl_BlockSensitivityOf.calls k1 t949 t950 t967 _ A75.out).mono ?_
                         rintro e w158 ⟨rfl, hb⟩
                         refine ⟨_, rfl, ?_⟩
                         replace HO_12 := Aside0.mk (Kd.R_below (rv_ HO_12) hb)
                         replace HO929 := Aside0.mk (Kd.R_below (rv_ HO929) hb)
                         replace HO933 := Aside0.mk (Kd.R_below (rv_ HO933) hb)
                         replace BK903 := kbl_ BK903 hb
                         replace BK926 := kbl_ BK926 hb
                         replace BK939 := kbl_ BK939 hb
                         replace BK944 := kbl_ BK944 hb
                         replace BK948 := kbl_ BK948 hb
                         replace BK951 := kbl_ BK951 hb
                         replace BK954 := kbl_ BK954 hb
                         replace BK958 := kbl_ BK958 hb
                         replace HB := Aside0.mk (below_step (bv8_ HB GE903 GE926 GE939 GE944 GE948 GE951 GE954 GE958) hb)
                         (try clear hb)
                         (try clear hb2)
                         (try clear hk)
                         (try clear hi)
                         refine hK.out _ _ ⟨(blk_cell BK939.out 0).trans rfl, (blk_cell BK939.out 1).trans rfl, (blk_cell BK944.out 0).trans rfl, (blk_cell BK944.out 1).trans rfl, (blk_cell BK948.out 0).trans rfl, (blk_cell BK948.out 1).trans rfl, (blk_cell BK951.out 0).trans rfl, (blk_cell BK951.out 1).trans rfl, (blk_cell BK954.out 0).trans rfl, (blk_cell BK954.out 1).trans rfl, (blk_cell BK958.out 0).trans rfl, (blk_cell BK958.out 1).trans rfl⟩ (fun hHeld => ?_)
                         clear hK K
                         refine no_ 222 ?_
                         refine on_ HT_ 43 224 (bs 94 17592186044415) (fun K hK => ?_)
                         refine goes_ Try.func51 (by kernel_rfl) rfl #[.agg #[.int .i64 t949, .int .i64 t950]] (by rfl) rfl rfl mp_ ?_
                         with_reducible refine (spec_BlockSensitivityOf.calls k1 t949 t950 t968 _ A76.out).mono ?_
                         rintro e w159 ⟨rfl, hb⟩
                         refine ⟨_, rfl, ?_⟩
                         replace HO_12 := Aside0.mk (Kd.R_below (rv_ HO_12) hb)
                         replace HO929 := Aside0.mk (Kd.R_below (rv_ HO929) hb)
                         replace HO933 := Aside0.mk (Kd.R_below (rv_ HO933) hb)
                         replace BK903 := kbl_ BK903 hb
                         replace BK926 := kbl_ BK926 hb
                         replace BK939 := kbl_ BK939 hb
                         replace BK944 := kbl_ BK944 hb
                         replace BK948 := kbl_ BK948 hb
                         replace BK951 := kbl_ BK951 hb
                         replace BK954 := kbl_ BK954 hb
                         replace BK958 := kbl_ BK958 hb
                         replace HB := Aside0.mk (below_step (bv8_ HB GE903 GE926 GE939 GE944 GE948 GE951 GE954 GE958) hb)
                         (try clear hb)
                         (try clear hb2)
                         (try clear hk)
                         (try clear hi)
                         refine hK.out _ _ ⟨(blk_cell BK939.out 0).trans rfl, (blk_cell BK939.out 1).trans rfl, (blk_cell BK944.out 0).trans rfl, (blk_cell BK944.out 1).trans rfl, (blk_cell BK948.out 0).trans rfl, (blk_cell BK948.out 1).trans rfl, (blk_cell BK951.out 0).trans rfl, (blk_cell BK951.out 1).trans rfl, (blk_cell BK954.out 0).trans rfl, (blk_cell BK954.out 1).trans rfl, (blk_cell BK958.out 0).trans rfl, (blk_cell BK958.out 1).trans rfl⟩ (fun hHeld => ?_)
                         clear hK K
                         refine no_ 224 ?_
                         refine pu_ HT_ 44 225 (bs 94 35184372088831) ?_
                         refine pu_ HT_ 45 226 (bs 94 70368744177663) ?_
                         refine pu_ HT_ 46 227 (bs 94 140737488355327) ?_
                         refine ta12_ HT_ HW_ 47 228 (bs 94 281474976710655) hHeld ?_
                         refine ta12_ HT_ HW_ 49 230 (bs 94 844424930131967) hHeld ?_
                         refine on_ HT_ 48 229 (bs 94 1125899906842623) (fun K hK => ?_)
                         refine goes_ Try.func52 (by kernel_rfl) rfl #[.agg #[.int .i64 t949, .int .i64 t950]] (by rfl) rfl rfl mp_ ?_
                         with_reducible refine (impl_SensitivityOf.calls k1 t949 t950 t969 _ A78.out).mono ?_
                         rintro e w160 ⟨rfl, hb⟩
                         refine ⟨_, rfl, ?_⟩
                         replace HO_12 := Aside0.mk (Kd.R_below (rv_ HO_12) hb)
                         replace HO929 := Aside0.mk (Kd.R_below (rv_ HO929) hb)
                         replace HO933 := Aside0.mk (Kd.R_below (rv_ HO933) hb)
                         replace BK903 := kbl_ BK903 hb
                         replace BK926 := kbl_ BK926 hb
                         replace BK939 := kbl_ BK939 hb
                         replace BK944 := kbl_ BK944 hb
                         replace BK948 := kbl_ BK948 hb
                         replace BK951 := kbl_ BK951 hb
                         replace BK954 := kbl_ BK954 hb
                         replace BK958 := kbl_ BK958 hb
                         replace HB := Aside0.mk (below_step (bv8_ HB GE903 GE926 GE939 GE944 GE948 GE951 GE954 GE958) hb)
                         (try clear hb)
                         (try clear hb2)
                         (try clear hk)
                         (try clear hi)
                         refine hK.out _ _ ⟨(blk_cell BK939.out 0).trans rfl, (blk_cell BK939.out 1).trans rfl, (blk_cell BK944.out 0).trans rfl, (blk_cell BK944.out 1).trans rfl, (blk_cell BK948.out 0).trans rfl, (blk_cell BK948.out 1).trans rfl, (blk_cell BK951.out 0).trans rfl, (blk_cell BK951.out 1).trans rfl, (blk_cell BK954.out 0).trans rfl, (blk_cell BK954.out 1).trans rfl, (blk_cell BK958.out 0).trans rfl, (blk_cell BK958.out 1).trans rfl⟩ (fun hHeld => ?_)
                         clear hK K
                         refine no_ 229 ?_
                         refine on_ HT_ 50 231 (bs 94 2251799813685247) (fun K hK => ?_)
                         refine goes_ Try.func53 (by kernel_rfl) rfl #[.agg #[.int .i64 t949, .int .i64 t950]] (by rfl) rfl rfl mp_ ?_
                         with_reducible refine (spec_SensitivityOf.calls k1 t949 t950 t970 _ A79.out).mono ?_
                         rintro e w161 ⟨rfl, hb⟩
                         refine ⟨_, rfl, ?_⟩
                         replace HO_12 := Aside0.mk (Kd.R_below (rv_ HO_12) hb)
                         replace HO929 := Aside0.mk (Kd.R_below (rv_ HO929) hb)
                         replace HO933 := Aside0.mk (Kd.R_below (rv_ HO933) hb)
                         replace BK903 := kbl_ BK903 hb
                         replace BK926 := kbl_ BK926 hb
                         replace BK939 := kbl_ BK939 hb
                         replace BK944 := kbl_ BK944 hb
                         replace BK948 := kbl_ BK948 hb
                         replace BK951 := kbl_ BK951 hb
                         replace BK954 := kbl_ BK954 hb
                         replace BK958 := kbl_ BK958 hb
                         replace HB := Aside0.mk (below_step (bv8_ HB GE903 GE926 GE939 GE944 GE948 GE951 GE954 GE958) hb)
                         (try clear hb)
                         (try clear hb2)
                         (try clear hk)
                         (try clear hi)
                         refine hK.out _ _ ⟨(blk_cell BK939.out 0).trans rfl, (blk_cell BK939.out 1).trans rfl, (blk_cell BK944.out 0).trans rfl, (blk_cell BK944.out 1).trans rfl, (blk_cell BK948.out 0).trans rfl, (blk_cell BK948.out 1).trans rfl, (blk_cell BK951.out 0).trans rfl, (blk_cell BK951.out 1).trans rfl, (blk_cell BK954.out 0).trans rfl, (blk_cell BK954.out 1).trans rfl, (blk_cell BK958.out 0).trans rfl, (blk_cell BK958.out 1).trans rfl⟩ (fun hHeld => ?_)
                         clear hK K
                         refine no_ 231 ?_
                         refine pu_ HT_ 51 232 (bs 94 4503599627370495) ?_
                         refine pu_ HT_ 52 233 (bs 94 9007199254740991) ?_
                         refine pu_ HT_ 53 234 (bs 94 18014398509481983) ?_
                         refine pu_ HT_ 54 235 (bs 94 36028797018963967) ?_
                         refine ta12_ HT_ HW_ 55 236 (bs 94 72057594037927935) hHeld ?_
                         refine on_ HT_ 56 237 (bs 94 144115188075855871) (fun K hK => ?_)
                         refine goes_ Try.func54 (by kernel_rfl) rfl #[.agg #[.int .i64 t949, .int .i64 t950]] (by rfl) rfl rfl mp_ ?_
                         with_reducible refine (spec_SensitiveEdges.calls k1 t949 t950 t971 _ A81.out).mono ?_
                         rintro e w162 ⟨rfl, hb⟩
                         refine ⟨_, rfl, ?_⟩
                         replace HO_12 := Aside0.mk (Kd.R_below (rv_ HO_12) hb)
                         replace HO929 := Aside0.mk (Kd.R_below (rv_ HO929) hb)
                         replace HO933 := Aside0.mk (Kd.R_below (rv_ HO933) hb)
                         replace BK903 := kbl_ BK903 hb
                         replace BK926 := kbl_ BK926 hb
                         replace BK939 := kbl_ BK939 hb
                         replace BK944 := kbl_ BK944 hb
                         replace BK948 := kbl_ BK948 hb
                         replace BK951 := kbl_ BK951 hb
                         replace BK954 := kbl_ BK954 hb
                         replace BK958 := kbl_ BK958 hb
                         replace HB := Aside0.mk (below_step (bv8_ HB GE903 GE926 GE939 GE944 GE948 GE951 GE954 GE958) hb)
                         (try clear hb)
                         (try clear hb2)
                         (try clear hk)
                         (try clear hi)
                         refine hK.out _ _ ⟨(blk_cell BK939.out 0).trans rfl, (blk_cell BK939.out 1).trans rfl, (blk_cell BK944.out 0).trans rfl, (blk_cell BK944.out 1).trans rfl, (blk_cell BK948.out 0).trans rfl, (blk_cell BK948.out 1).trans rfl, (blk_cell BK951.out 0).trans rfl, (blk_cell BK951.out 1).trans rfl, (blk_cell BK954.out 0).trans rfl, (blk_cell BK954.out 1).trans rfl, (blk_cell BK958.out 0).trans rfl, (blk_cell BK958.out 1).trans rfl⟩ (fun hHeld => ?_)
                         clear hK K
                         refine no_ 237 ?_
                         refine pu_ HT_ 57 238 (bs 94 288230376151711743) ?_
                         refine pu_ HT_ 58 239 (bs 94 576460752303423487) ?_
                         refine pu_ HT_ 59 240 (bs 94 1152921504606846975) ?_
                         refine ta12_ HT_ HW_ 60 241 (bs 94 2305843009213693951) hHeld ?_
                         refine ta12_ HT_ HW_ 62 243 (bs 94 6917529027641081855) hHeld ?_
                         refine on_ HT_ 61 242 (bs 94 9223372036854775807) (fun K hK => ?_)
                         refine goes_ Try.func36 (by kernel_rfl) rfl #[.agg #[.int .i64 t952, .int .i64 t953]] (by rfl) rfl rfl mp_ ?_
                         with_reducible refine (impl_MeetingOf.calls k1 t952 t953 t972 _ A83.out).mono ?_
                         rintro e w163 ⟨rfl, hb⟩
                         refine ⟨_, rfl, ?_⟩
                         replace HO_12 := Aside0.mk (Kd.R_below (rv_ HO_12) hb)
                         replace HO929 := Aside0.mk (Kd.R_below (rv_ HO929) hb)
                         replace HO933 := Aside0.mk (Kd.R_below (rv_ HO933) hb)
                         replace BK903 := kbl_ BK903 hb
                         replace BK926 := kbl_ BK926 hb
                         replace BK939 := kbl_ BK939 hb
                         replace BK944 := kbl_ BK944 hb
                         replace BK948 := kbl_ BK948 hb
                         replace BK951 := kbl_ BK951 hb
                         replace BK954 := kbl_ BK954 hb
                         replace BK958 := kbl_ BK958 hb
                         replace HB := Aside0.mk (below_step (bv8_ HB GE903 GE926 GE939 GE944 GE948 GE951 GE954 GE958) hb)
                         (try clear hb)
                         (try clear hb2)
                         (try clear hk)
                         (try clear hi)
                         refine hK.out _ _ ⟨(blk_cell BK939.out 0).trans rfl, (blk_cell BK939.out 1).trans rfl, (blk_cell BK944.out 0).trans rfl, (blk_cell BK944.out 1).trans rfl, (blk_cell BK948.out 0).trans rfl, (blk_cell BK948.out 1).trans rfl, (blk_cell BK951.out 0).trans rfl, (blk_cell BK951.out 1).trans rfl, (blk_cell BK954.out 0).trans rfl, (blk_cell BK954.out 1).trans rfl, (blk_cell BK958.out 0).trans rfl, (blk_cell BK958.out 1).trans rfl⟩ (fun hHeld => ?_)
                         clear hK K
                         refine no_ 242 ?_
                         refine on_ HT_ 63 244 (bs 94 18446744073709551615) (fun K hK => ?_)
                         refine goes_ Try.func55 (by kernel_rfl) rfl #[.agg #[.int .i64 t952, .int .i64 t953]] (by rfl) rfl rfl mp_ ?_
                         with_reducible refine (spec_MeetingOf.calls k1 t952 t953 t973 _ A84.out).mono ?_
                         rintro e w164 ⟨rfl, hb⟩
                         refine ⟨_, rfl, ?_⟩
                         replace HO_12 := Aside0.mk (Kd.R_below (rv_ HO_12) hb)
                         replace HO929 := Aside0.mk (Kd.R_below (rv_ HO929) hb)
                         replace HO933 := Aside0.mk (Kd.R_below (rv_ HO933) hb)
                         replace BK903 := kbl_ BK903 hb
                         replace BK926 := kbl_ BK926 hb
                         replace BK939 := kbl_ BK939 hb
                         replace BK944 := kbl_ BK944 hb
                         replace BK948 := kbl_ BK948 hb
                         replace BK951 := kbl_ BK951 hb
                         replace BK954 := kbl_ BK954 hb
                         replace BK958 := kbl_ BK958 hb
                         replace HB := Aside0.mk (below_step (bv8_ HB GE903 GE926 GE939 GE944 GE948 GE951 GE954 GE958) hb)
                         (try clear hb)
                         (try clear hb2)
                         (try clear hk)
                         (try clear hi)
                         refine hK.out _ _ ⟨(blk_cell BK939.out 0).trans rfl, (blk_cell BK939.out 1).trans rfl, (blk_cell BK944.out 0).trans rfl, (blk_cell BK944.out 1).trans rfl, (blk_cell BK948.out 0).trans rfl, (blk_cell BK948.out 1).trans rfl, (blk_cell BK951.out 0).trans rfl, (blk_cell BK951.out 1).trans rfl, (blk_cell BK954.out 0).trans rfl, (blk_cell BK954.out 1).trans rfl, (blk_cell BK958.out 0).trans rfl, (blk_cell BK958.out 1).trans rfl⟩ (fun hHeld => ?_)
                         clear hK K
                         refine no_ 244 ?_
                         refine pu_ HT_ 64 245 (bs 94 36893488147419103231) ?_
                         refine pu_ HT_ 65 246 (bs 94 73786976294838206463) ?_
                         refine pu_ HT_ 66 247 (bs 94 147573952589676412927) ?_
                         refine pu_ HT_ 68 249 (bs 94 442721857769029238783) ?_
                         refine pu_ HT_ 71 252 (bs 94 2803905099203851845631) ?_
                         refine ta12_ HT_ HW_ 67 248 (bs 94 2951479051793528258559) hHeld ?_
                         refine ta12_ HT_ HW_ 70 251 (bs 94 4132070672510939561983) hHeld ?_
                         refine on_ HT_ 69 250 (bs 94 4722366482869645213695) (fun K hK => ?_)
                         refine goes_ Try.func29 (by kernel_rfl) rfl #[.agg #[.int .i64 t955, .int .i64 t956], .int .i64 t957] (by rfl) rfl rfl mp_ ?_
                         with_reducible refine (impl_BlockSensitivityAt.calls k1 t955 t956 t957 t974 _ A86.out).mono ?_
                         rintro e w165 ⟨rfl, hb⟩
                         refine ⟨_, rfl, ?_⟩
                         replace HO_12 := Aside0.mk (Kd.R_below (rv_ HO_12) hb)
                         replace HO929 := Aside0.mk (Kd.R_below (rv_ HO929) hb)
                         replace HO933 := Aside0.mk (Kd.R_below (rv_ HO933) hb)
                         replace BK903 := kbl_ BK903 hb
                         replace BK926 := kbl_ BK926 hb
                         replace BK939 := kbl_ BK939 hb
                         replace BK944 := kbl_ BK944 hb
                         replace BK948 := kbl_ BK948 hb
                         replace BK951 := kbl_ BK951 hb
                         replace BK954 := kbl_ BK954 hb
                         replace BK958 := kbl_ BK958 hb
                         replace HB := Aside0.mk (below_step (bv8_ HB GE903 GE926 GE939 GE944 GE948 GE951 GE954 GE958) hb)
                         (try clear hb)
                         (try clear hb2)
                         (try clear hk)
                         (try clear hi)
                         refine hK.out _ _ ⟨(blk_cell BK939.out 0).trans rfl, (blk_cell BK939.out 1).trans rfl, (blk_cell BK944.out 0).trans rfl, (blk_cell BK944.out 1).trans rfl, (blk_cell BK948.out 0).trans rfl, (blk_cell BK948.out 1).trans rfl, (blk_cell BK951.out 0).trans rfl, (blk_cell BK951.out 1).trans rfl, (blk_cell BK954.out 0).trans rfl, (blk_cell BK954.out 1).trans rfl, (blk_cell BK958.out 0).trans rfl, (blk_cell BK958.out 1).trans rfl⟩ (fun hHeld => ?_)
                         clear hK K
                         refine no_ 250 ?_
                         refine on_ HT_ 72 253 (bs 94 9444732965739290427391) (fun K hK => ?_)
                         refine goes_ Try.func56 (by kernel_rfl) rfl #[.agg #[.int .i64 t955, .int .i64 t956], .int .i64 t957] (by rfl) rfl rfl mp_ ?_
                         with_reducible refine (spec_BlockSensitivityAt.calls k1 t955 t956 t957 t975 _ A87.out).mono ?_
                         rintro e w166 ⟨rfl, hb⟩
                         refine ⟨_, rfl, ?_⟩
                         replace HO_12 := Aside0.mk (Kd.R_below (rv_ HO_12) hb)
                         replace HO929 := Aside0.mk (Kd.R_below (rv_ HO929) hb)
                         replace HO933 := Aside0.mk (Kd.R_below (rv_ HO933) hb)
                         replace BK903 := kbl_ BK903 hb
                         replace BK926 := kbl_ BK926 hb
                         replace BK939 := kbl_ BK939 hb
                         replace BK944 := kbl_ BK944 hb
                         replace BK948 := kbl_ BK948 hb
                         replace BK951 := kbl_ BK951 hb
                         replace BK954 := kbl_ BK954 hb
                         replace BK958 := kbl_ BK958 hb
                         replace HB := Aside0.mk (below_step (bv8_ HB GE903 GE926 GE939 GE944 GE948 GE951 GE954 GE958) hb)
                         (try clear hb)
                         (try clear hb2)
                         (try clear hk)
                         (try clear hi)
                         refine hK.out _ _ ⟨(blk_cell BK939.out 0).trans rfl, (blk_cell BK939.out 1).trans rfl, (blk_cell BK944.out 0).trans rfl, (blk_cell BK944.out 1).trans rfl, (blk_cell BK948.out 0).trans rfl, (blk_cell BK948.out 1).trans rfl, (blk_cell BK951.out 0).trans rfl, (blk_cell BK951.out 1).trans rfl, (blk_cell BK954.out 0).trans rfl, (blk_cell BK954.out 1).trans rfl, (blk_cell BK958.out 0).trans rfl, (blk_cell BK958.out 1).trans rfl⟩ (fun hHeld => ?_)
                         clear hK K
                         refine no_ 253 ?_
                         refine pu_ HT_ 73 254 (bs 94 18889465931478580854783) ?_
                         refine pu_ HT_ 74 255 (bs 94 37778931862957161709567) ?_
                         refine pu_ HT_ 75 256 (bs 94 75557863725914323419135) ?_
                         refine pu_ HT_ 77 258 (bs 94 226673591177742970257407) ?_
                         refine pu_ HT_ 80 261 (bs 94 1435599410792372144963583) ?_
                         refine ta12_ HT_ HW_ 76 257 (bs 94 1511157274518286468382719) hHeld ?_
                         refine ta12_ HT_ HW_ 79 260 (bs 94 2115620184325601055735807) hHeld ?_
                         refine on_ HT_ 78 259 (bs 94 2417851639229258349412351) (fun K hK => ?_)
                         refine goes_ Try.func30 (by kernel_rfl) rfl #[.agg #[.int .i64 t955, .int .i64 t956], .int .i64 t957] (by rfl) rfl rfl mp_ ?_
                         with_reducible refine (impl_SensitivityAt.calls k1 t955 t956 t957 t976 _ A89.out).mono ?_
                         rintro e w167 ⟨rfl, hb⟩
                         refine ⟨_, rfl, ?_⟩
                         replace HO_12 := Aside0.mk (Kd.R_below (rv_ HO_12) hb)
                         replace HO929 := Aside0.mk (Kd.R_below (rv_ HO929) hb)
                         replace HO933 := Aside0.mk (Kd.R_below (rv_ HO933) hb)
                         replace BK903 := kbl_ BK903 hb
                         replace BK926 := kbl_ BK926 hb
                         replace BK939 := kbl_ BK939 hb
                         replace BK944 := kbl_ BK944 hb
                         replace BK948 := kbl_ BK948 hb
                         replace BK951 := kbl_ BK951 hb
                         replace BK954 := kbl_ BK954 hb
                         replace BK958 := kbl_ BK958 hb
                         replace HB := Aside0.mk (below_step (bv8_ HB GE903 GE926 GE939 GE944 GE948 GE951 GE954 GE958) hb)
                         (try clear hb)
                         (try clear hb2)
                         (try clear hk)
                         (try clear hi)
                         refine hK.out _ _ ⟨(blk_cell BK939.out 0).trans rfl, (blk_cell BK939.out 1).trans rfl, (blk_cell BK944.out 0).trans rfl, (blk_cell BK944.out 1).trans rfl, (blk_cell BK948.out 0).trans rfl, (blk_cell BK948.out 1).trans rfl, (blk_cell BK951.out 0).trans rfl, (blk_cell BK951.out 1).trans rfl, (blk_cell BK954.out 0).trans rfl, (blk_cell BK954.out 1).trans rfl, (blk_cell BK958.out 0).trans rfl, (blk_cell BK958.out 1).trans rfl⟩ (fun hHeld => ?_)
                         clear hK K
                         refine no_ 259 ?_
                         refine on_ HT_ 81 262 (bs 94 4835703278458516698824703) (fun K hK => ?_)
                         refine goes_ Try.func57 (by kernel_rfl) rfl #[.agg #[.int .i64 t955, .int .i64 t956], .int .i64 t957] (by rfl) rfl rfl mp_ ?_
                         with_reducible refine (spec_SensitivityAt.calls k1 t955 t956 t957 t977 _ A90.out).mono ?_
                         rintro e w168 ⟨rfl, hb⟩
                         refine ⟨_, rfl, ?_⟩
                         replace HO_12 := Aside0.mk (Kd.R_below (rv_ HO_12) hb)
                         replace HO929 := Aside0.mk (Kd.R_below (rv_ HO929) hb)
                         replace HO933 := Aside0.mk (Kd.R_below (rv_ HO933) hb)
                         replace BK903 := kbl_ BK903 hb
                         replace BK926 := kbl_ BK926 hb
                         replace BK939 := kbl_ BK939 hb
                         replace BK944 := kbl_ BK944 hb
                         replace BK948 := kbl_ BK948 hb
                         replace BK951 := kbl_ BK951 hb
                         replace BK954 := kbl_ BK954 hb
                         replace BK958 := kbl_ BK958 hb
                         replace HB := Aside0.mk (below_step (bv8_ HB GE903 GE926 GE939 GE944 GE948 GE951 GE954 GE958) hb)
                         (try clear hb)
                         (try clear hb2)
                         (try clear hk)
                         (try clear hi)
                         refine hK.out _ _ ⟨(blk_cell BK939.out 0).trans rfl, (blk_cell BK939.out 1).trans rfl, (blk_cell BK944.out 0).trans rfl, (blk_cell BK944.out 1).trans rfl, (blk_cell BK948.out 0).trans rfl, (blk_cell BK948.out 1).trans rfl, (blk_cell BK951.out 0).trans rfl, (blk_cell BK951.out 1).trans rfl, (blk_cell BK954.out 0).trans rfl, (blk_cell BK954.out 1).trans rfl, (blk_cell BK958.out 0).trans rfl, (blk_cell BK958.out 1).trans rfl⟩ (fun hHeld => ?_)
                         clear hK K
                         refine no_ 262 ?_
                         refine pu_ HT_ 82 263 (bs 94 9671406556917033397649407) ?_
                         refine pu_ HT_ 83 264 (bs 94 19342813113834066795298815) ?_
                         refine pu_ HT_ 84 265 (bs 94 38685626227668133590597631) ?_
                         refine pu_ HT_ 86 267 (bs 94 116056878683004400771792895) ?_
                         refine pu_ HT_ 89 270 (bs 94 735026898325694538221355007) ?_
                         refine ta12_ HT_ HW_ 85 266 (bs 94 773712524553362671811952639) hHeld ?_
                         refine ta12_ HT_ HW_ 88 269 (bs 94 1083197534374707740536733695) hHeld ?_
                         refine on_ HT_ 87 268 (bs 94 1237940039285380274899124223) (fun K hK => ?_)
                         refine goes_ Try.func28 (by kernel_rfl) rfl #[.agg #[.int .i64 t955, .int .i64 t956], .int .i64 t957] (by rfl) rfl rfl mp_ ?_
                         with_reducible refine (impl_CertificateAt.calls k1 t955 t956 t957 t978 _ A92.out).mono ?_
                         rintro e w169 ⟨rfl, hb⟩
                         refine ⟨_, rfl, ?_⟩
                         replace HO_12 := Aside0.mk (Kd.R_below (rv_ HO_12) hb)
                         replace HO929 := Aside0.mk (Kd.R_below (rv_ HO929) hb)
                         replace HO933 := Aside0.mk (Kd.R_below (rv_ HO933) hb)
                         replace BK903 := kbl_ BK903 hb
                         replace BK926 := kbl_ BK926 hb
                         replace BK939 := kbl_ BK939 hb
                         replace BK944 := kbl_ BK944 hb
                         replace BK948 := kbl_ BK948 hb
                         replace BK951 := kbl_ BK951 hb
                         replace BK954 := kbl_ BK954 hb
                         replace BK958 := kbl_ BK958 hb
                         replace HB := Aside0.mk (below_step (bv8_ HB GE903 GE926 GE939 GE944 GE948 GE951 GE954 GE958) hb)
                         (try clear hb)
                         (try clear hb2)
                         (try clear hk)
                         (try clear hi)
                         refine hK.out _ _ ⟨(blk_cell BK939.out 0).trans rfl, (blk_cell BK939.out 1).trans rfl, (blk_cell BK944.out 0).trans rfl, (blk_cell BK944.out 1).trans rfl, (blk_cell BK948.out 0).trans rfl, (blk_cell BK948.out 1).trans rfl, (blk_cell BK951.out 0).trans rfl, (blk_cell BK951.out 1).trans rfl, (blk_cell BK954.out 0).trans rfl, (blk_cell BK954.out 1).trans rfl, (blk_cell BK958.out 0).trans rfl, (blk_cell BK958.out 1).trans rfl⟩ (fun hHeld => ?_)
                         clear hK K
                         refine no_ 268 ?_
                         refine on_ HT_ 90 271 (bs 94 2475880078570760549798248447) (fun K hK => ?_)
                         refine goes_ Try.func58 (by kernel_rfl) rfl #[.agg #[.int .i64 t955, .int .i64 t956], .int .i64 t957] (by rfl) rfl rfl mp_ ?_
                         with_reducible refine (spec_CertificateAt.calls k1 t955 t956 t957 t979 _ A93.out).mono ?_
                         rintro e w170 ⟨rfl, hb⟩
                         refine ⟨_, rfl, ?_⟩
                         replace HO_12 := Aside0.mk (Kd.R_below (rv_ HO_12) hb)
                         replace HO929 := Aside0.mk (Kd.R_below (rv_ HO929) hb)
                         replace HO933 := Aside0.mk (Kd.R_below (rv_ HO933) hb)
                         replace BK903 := kbl_ BK903 hb
                         replace BK926 := kbl_ BK926 hb
                         replace BK939 := kbl_ BK939 hb
                         replace BK944 := kbl_ BK944 hb
                         replace BK948 := kbl_ BK948 hb
                         replace BK951 := kbl_ BK951 hb
                         replace BK954 := kbl_ BK954 hb
                         replace BK958 := kbl_ BK958 hb
                         replace HB := Aside0.mk (below_step (bv8_ HB GE903 GE926 GE939 GE944 GE948 GE951 GE954 GE958) hb)
                         (try clear hb)
                         (try clear hb2)
                         (try clear hk)
                         (try clear hi)
                         refine hK.out _ _ ⟨(blk_cell BK939.out 0).trans rfl, (blk_cell BK939.out 1).trans rfl, (blk_cell BK944.out 0).trans rfl, (blk_cell BK944.out 1).trans rfl, (blk_cell BK948.out 0).trans rfl, (blk_cell BK948.out 1).trans rfl, (blk_cell BK951.out 0).trans rfl, (blk_cell BK951.out 1).trans rfl, (blk_cell BK954.out 0).trans rfl, (blk_cell BK954.out 1).trans rfl, (blk_cell BK958.out 0).trans rfl, (blk_cell BK958.out 1).trans rfl⟩ (fun hHeld => ?_)
                         clear hK K
                         refine no_ 271 ?_
                         refine pu_ HT_ 91 272 (bs 94 4951760157141521099596496895) ?_
                         refine pu_ HT_ 92 273 (bs 94 9903520314283042199192993791) ?_
                         refine pu_ HT_ 93 2 (bs 94 19807040628566084398385987583) ?_
                         refine done_ (done_of HT_.out (by kernel_rfl)) ?_
                         try go_wp2
                         go_ret
                         exact ⟨by first | rfl | (simp [errW_none, errW_some] <;> rfl) | (simp [*, errW_none, errW_some] <;> rfl), bv8_ HB GE903 GE926 GE939 GE944 GE948 GE951 GE954 GE958⟩
                        ·rw [if_neg c91] at H
                         exact absurd H (by simp)
                       ·rw [if_neg c88] at H
                        exact absurd H (by simp)
                      ·rw [if_neg c85] at H
                       exact absurd H (by simp)
                     ·rw [if_neg c82] at H
                      exact absurd H (by simp)
                    ·rw [if_neg c80] at H
                     exact absurd H (by simp)
                   ·rw [if_neg c77] at H
                    exact absurd H (by simp)
                  ·rw [if_neg c74] at H
                   exact absurd H (by simp)
                 ·rw [if_neg c71] at H
                  exact absurd H (by simp)
                ·rw [if_neg c68] at H
                 exact absurd H (by simp)
               ·replace c65 := Bool.eq_false_iff.mpr c65
                subst c65
                rw [if_neg (show ¬ (false = true) by decide)] at H
                exact absurd H (by simp)
              ·rw [if_neg c63] at H
               exact absurd H (by simp)
          ·replace c24 := Bool.eq_false_iff.mpr c24
           subst c24
           rw [if_neg (show ¬ (false = true) by decide)] at H
           exact absurd H (by simp)
      ·rw [if_neg c17] at H
       exact absurd H (by simp)
     ·replace c15 := Bool.eq_false_iff.mpr c15
      subst c15
      rw [if_neg (show ¬ (false = true) by decide)] at H
      exact absurd H (by simp)
    ·replace c9 := Bool.eq_false_iff.mpr c9
     subst c9
     rw [if_neg (show ¬ (false = true) by decide)] at H
     replace H := Option.bind_eq_some_iff.mp H
     obtain ⟨⟨t980, t981, t982⟩, A1710, H⟩ := H
     dsimp only at H
     have A171 := Aside0.mk A1710
     clear A1710
     replace H := Option.bind_eq_some_iff.mp H
     obtain ⟨⟨t984, t987⟩, A1720, H⟩ := H
     dsimp only at H
     have A172 := Aside0.mk A1720
     clear A1720
     replace H := Option.bind_eq_some_iff.mp H
     obtain ⟨⟨t988, t991⟩, A1730, H⟩ := H
     dsimp only at H
     have A173 := Aside0.mk A1730
     clear A1730
     replace H := Option.bind_eq_some_iff.mp H
     obtain ⟨⟨t992, t993, t994, t995⟩, A1740, H⟩ := H
     dsimp only at H
     have A174 := Aside0.mk A1740
     clear A1740
     replace H := Option.bind_eq_some_iff.mp H
     obtain ⟨⟨t997, t998, t999, t1000⟩, A1750, H⟩ := H
     dsimp only at H
     have A175 := Aside0.mk A1750
     clear A1750
     replace H := Option.bind_eq_some_iff.mp H
     obtain ⟨⟨t1002, t1003, t1004⟩, A1760, H⟩ := H
     dsimp only at H
     have A176 := Aside0.mk A1760
     clear A1760
     replace H := Option.bind_eq_some_iff.mp H
     obtain ⟨⟨t1006, t1007⟩, A1770, H⟩ := H
     dsimp only at H
     have A177 := Aside0.mk A1770
     clear A1770
     replace H := Option.bind_eq_some_iff.mp H
     obtain ⟨⟨t1009, t1010⟩, A1780, H⟩ := H
     dsimp only at H
     have A178 := Aside0.mk A1780
     clear A1780
     replace H := Option.bind_eq_some_iff.mp H
     obtain ⟨⟨t1012, t1013, t1014⟩, A1790, H⟩ := H
     dsimp only at H
     have A179 := Aside0.mk A1790
     clear A1790
     replace H := Option.bind_eq_some_iff.mp H
     obtain ⟨t1016, A1800, H⟩ := H
     have A180 := Aside0.mk A1800
     clear A1800
     by_cases c181 : (t987 == t991) = true
     ·rw [if_pos c181] at H
      have c181b0 : (t987 == t991) = true := c181
      (try (have c181b1 : decide (t987 = t991) = true := by simpa using c181))
      (try (have c181b2 : (t987 == t991) = true := by simpa using c181))
      clear c181
      replace H := Option.bind_eq_some_iff.mp H
      obtain ⟨t1017, A1820, H⟩ := H
      have A182 := Aside0.mk A1820
      clear A1820
      by_cases c183 : t1017 = true
      ·subst c183
       rw [if_pos rfl] at H
       replace H := Option.bind_eq_some_iff.mp H
       obtain ⟨t1018, A1840, H⟩ := H
       have A184 := Aside0.mk A1840
       clear A1840
       replace H := Option.bind_eq_some_iff.mp H
       obtain ⟨t1019, A1850, H⟩ := H
       have A185 := Aside0.mk A1850
       clear A1850
       by_cases c186 : (t1018 == t1019) = true
       ·rw [if_pos c186] at H
        have c186b0 : (t1018 == t1019) = true := c186
        (try (have c186b1 : decide (t1018 = t1019) = true := by simpa using c186))
        (try (have c186b2 : (t1018 == t1019) = true := by simpa using c186))
        clear c186
        replace H := Option.bind_eq_some_iff.mp H
        obtain ⟨t1020, A1870, H⟩ := H
        have A187 := Aside0.mk A1870
        clear A1870
        replace H := Option.bind_eq_some_iff.mp H
        obtain ⟨t1021, A1880, H⟩ := H
        have A188 := Aside0.mk A1880
        clear A1880
        by_cases c189 : (t1020 == t1021) = true
        ·rw [if_pos c189] at H
         have c189b0 : (t1020 == t1021) = true := c189
         (try (have c189b1 : decide (t1020 = t1021) = true := by simpa using c189))
         (try (have c189b2 : (t1020 == t1021) = true := by simpa using c189))
         clear c189
         replace H := Option.bind_eq_some_iff.mp H
         obtain ⟨t1022, A1900, H⟩ := H
         have A190 := Aside0.mk A1900
         clear A1900
         replace H := Option.bind_eq_some_iff.mp H
         obtain ⟨t1023, A1910, H⟩ := H
         have A191 := Aside0.mk A1910
         clear A1910
         by_cases c192 : t1022 = t1023
         ·rw [if_pos c192] at H
          have c192b0 : (t1022 == t1023) = true := beq_iff_eq.mpr c192
          have c192b1 : (t1022 != t1023) = false := bne_eq_false_iff_eq.mpr c192
          clear c192
          replace H := Option.bind_eq_some_iff.mp H
          obtain ⟨t1024, A1930, H⟩ := H
          have A193 := Aside0.mk A1930
          clear A1930
          replace H := Option.bind_eq_some_iff.mp H
          obtain ⟨t1025, A1940, H⟩ := H
          have A194 := Aside0.mk A1940
          clear A1940
          by_cases c195 : t1024 = t1025
          ·rw [if_pos c195] at H
           have c195b0 : (t1024 == t1025) = true := beq_iff_eq.mpr c195
           have c195b1 : (t1024 != t1025) = false := bne_eq_false_iff_eq.mpr c195
           clear c195
           replace H := Option.bind_eq_some_iff.mp H
           obtain ⟨t1026, A1960, H⟩ := H
           have A196 := Aside0.mk A1960
           clear A1960
           replace H := Option.bind_eq_some_iff.mp H
           obtain ⟨t1027, A1970, H⟩ := H
           have A197 := Aside0.mk A1970
           clear A1970
           by_cases c198 : t1026 = t1027
           ·rw [if_pos c198] at H
            have c198b0 : (t1026 == t1027) = true := beq_iff_eq.mpr c198
            have c198b1 : (t1026 != t1027) = false := bne_eq_false_iff_eq.mpr c198
            clear c198
            replace H := Option.bind_eq_some_iff.mp H
            obtain ⟨t1028, A1990, H⟩ := H
            have A199 := Aside0.mk A1990
            clear A1990
            by_cases c200 : t1016 = t1028
            ·rw [if_pos c200] at H
             have c200b0 : (t1016 == t1028) = true := beq_iff_eq.mpr c200
             have c200b1 : (t1016 != t1028) = false := bne_eq_false_iff_eq.mpr c200
             clear c200
             replace H := Option.bind_eq_some_iff.mp H
             obtain ⟨t1029, A2010, H⟩ := H
             have A201 := Aside0.mk A2010
             clear A2010
             replace H := Option.bind_eq_some_iff.mp H
             obtain ⟨t1030, A2020, H⟩ := H
             have A202 := Aside0.mk A2020
             clear A2020
             by_cases c203 : (t1029 == t1030) = true
             ·rw [if_pos c203] at H
              have c203b0 : (t1029 == t1030) = true := c203
              (try (have c203b1 : decide (t1029 = t1030) = true := by simpa using c203))
              (try (have c203b2 : (t1029 == t1030) = true := by simpa using c203))
              clear c203
              replace H := Option.bind_eq_some_iff.mp H
              obtain ⟨t1031, A2040, H⟩ := H
              have A204 := Aside0.mk A2040
              clear A2040
              replace H := Option.bind_eq_some_iff.mp H
              obtain ⟨t1032, A2050, H⟩ := H
              have A205 := Aside0.mk A2050
              clear A2050
              by_cases c206 : t1031 = t1032
              ·rw [if_pos c206] at H
               have c206b0 : (t1031 == t1032) = true := beq_iff_eq.mpr c206
               have c206b1 : (t1031 != t1032) = false := bne_eq_false_iff_eq.mpr c206
               clear c206
               replace H := Option.bind_eq_some_iff.mp H
               obtain ⟨t1033, A2070, H⟩ := H
               have A207 := Aside0.mk A2070
               clear A2070
               replace H := Option.bind_eq_some_iff.mp H
               obtain ⟨t1034, A2080, H⟩ := H
               have A208 := Aside0.mk A2080
               clear A2080
               by_cases c209 : t1033 = t1034
               ·rw [if_pos c209] at H
                have c209b0 : (t1033 == t1034) = true := beq_iff_eq.mpr c209
                have c209b1 : (t1033 != t1034) = false := bne_eq_false_iff_eq.mpr c209
                clear c209
                replace H := Option.bind_eq_some_iff.mp H
                obtain ⟨t1035, A2100, H⟩ := H
                have A210 := Aside0.mk A2100
                clear A2100
                replace H := Option.bind_eq_some_iff.mp H
                obtain ⟨t1036, A2110, H⟩ := H
                have A211 := Aside0.mk A2110
                clear A2110
                obtain rfl := Option.some.inj H
                go_enter Try.func4, Try.ntmps4
                try go_wp2_with (first | ((with_reducible refine gate_callee (f := 5) rfl ?_); refine gl_ 35 Try.func5 #[.slice A0 l0.length c0] rfl mp_ ?_; (with_reducible refine (laws_big.calls _ _ l0 false _ ?side1 ?side2 A2.out).mono ?_); (case side1 => exact cv_ HR0.out); (case side2 => exact HC0.out); rintro e w' ⟨rfl, ⟨nd, rfl⟩⟩; refine ⟨_, rfl, ?_⟩) | ((with_reducible refine gate_callee (f := 25) rfl ?_); refine gl_ 38 Try.func25 #[.slice A0 l0.length c0] rfl mp_ ?_; (with_reducible refine (spec_DrawCertificateSet.calls k _ _ l0 t900 t901 t902 _ ?side1 ?side2 A4.out).mono ?_); (case side1 => exact cv_ HR0.out); (case side2 => exact HC0.out); rintro e w212 ⟨rfl, hb⟩; refine ⟨_, rfl, ?_⟩; replace HB := Aside0.mk (below_step (bv_ HB) hb); (try clear hb); (try clear hb2); (try clear hk); (try clear hi)) | ((with_reducible refine gate_dst (N := 3) rfl ?_); refine bx_ 3 #[.int .i64 0, .int .i64 0] 25 ?_; intro gb903 hg w213 hbox hb; have BK903 := Aside0.mk (hbox); have GW903 := gw_ hg (below_size (bv_ HB)); have GE903 := GW903; replace HB := Aside0.mk (below_step (bv_ HB) hb); clear hb hbox hg; obtain ⟨hcz214_0, hcz214_1, hfz214_0, hfz214_1⟩ := c2_ BK903) | ((with_reducible refine gate_callee (f := 26) rfl ?_); refine gl_ 44 Try.func26 #[.agg #[.int .i64 t900, .int .i64 t901], .int .i64 t902] rfl mp_ ?_; (with_reducible refine (impl_CertificateSet.calls k t900 t901 t902 t904 false _ A5.out).mono ?_); rintro e w215 ⟨rfl, hb⟩; refine ⟨_, rfl, ?_⟩; replace BK903 := Aside0.mk (blk_below (g := gb903) (o := .cells #[.int .i64 t900, .int .i64 t901] 25 (0, 0)) (by (with_reducible repeat (first | refine blk_drewN ?_ _ | refine blk_drew ?_ | refine blk_alloc ?_ _)); refine blk_put (cs := #[.int .i64 t900, .int .i64 0]) ?_ 1 _ rfl; (with_reducible repeat (first | refine blk_drewN ?_ _ | refine blk_drew ?_ | refine blk_alloc ?_ _)); refine blk_put (cs := #[.int .i64 0, .int .i64 0]) ?_ 0 _ rfl; (with_reducible repeat (first | refine blk_drewN ?_ _ | refine blk_drew ?_ | refine blk_alloc ?_ _)); exact BK903.out) hb); replace HB := Aside0.mk (below_step (bv1_ HB GE903) hb); (try clear hb); (try clear hb2); (try clear hk); (try clear hi); obtain ⟨hcz216_0, hcz216_1, hfz216_0, hfz216_1⟩ := c2_ BK903) | ((with_reducible refine gate_callee (f := 27) rfl ?_); refine gl_ 50 Try.func27 #[.agg #[.int .i64 t900, .int .i64 t901], .int .i64 t902] rfl mp_ ?_; (with_reducible refine (spec_CertificateSet.calls k t900 t901 t902 t906 t907 _ A6.out).mono ?_); rintro e w217 ⟨rfl, hb⟩; refine ⟨_, rfl, ?_⟩; replace BK903 := kbl_ BK903 hb; replace HB := Aside0.mk (below_step (bv1_ HB GE903) hb); (try clear hb); (try clear hb2); (try clear hk); (try clear hi)) | ((with_reducible refine gate_callee (f := 38) rfl ?_); refine gl_ 138 Try.func38 #[.slice A0 l0.length c0] rfl mp_ ?_; (with_reducible refine (spec_DrawMinimalBlocks.calls k _ _ l0 t980 t981 t982 _ ?side1 ?side2 A171.out).mono ?_); (case side1 => exact cv_ (Kd.C_below HR0.out HB.out)); (case side2 => exact HC0.out); rintro e w218 ⟨rfl, hb⟩; refine ⟨_, rfl, ?_⟩; replace BK903 := kbl_ BK903 hb; replace HB := Aside0.mk (below_step (bv1_ HB GE903) hb); (try clear hb); (try clear hb2); (try clear hk); (try clear hi)) | ((with_reducible refine gate_dst (N := 15) rfl ?_); refine bx_ 15 #[.int .i64 0, .int .i64 0] 25 ?_; intro gb983 hg w219 hbox hb; have BK983 := Aside0.mk (hbox); have GW983 := gw_ hg (below_size (bv1_ HB GE903)); have GE983 := GW983; replace HB := Aside0.mk (below_step (bv1_ HB GE903) hb); have NB903_983 := nb_ hg (blk_lt (g := gb903) (o := .cells #[.int .i64 t900, .int .i64 t901] 25 (0, 0)) (kv_ BK903)); have NB983_903 := nc_ hg (blk_lt (g := gb903) (o := .cells #[.int .i64 t900, .int .i64 t901] 25 (0, 0)) (kv_ BK903)); replace BK903 := kbl_ BK903 hb; clear hb hbox hg; have hnb220 := NB983_903.out; have hnc220 := NB903_983.out; obtain ⟨hcz221_0, hcz221_1, hfz221_0, hfz221_1⟩ := c2_ BK983) | ((with_reducible refine gate_callee (f := 31) rfl ?_); refine gl_ 144 Try.func31 #[.agg #[.int .i64 t980, .int .i64 t981], .int .i64 t982] rfl mp_ ?_; (with_reducible refine (impl_MinimalBlocks.calls k t980 t981 t982 t984 t987 _ A172.out).mono ?_); rintro e w222 ⟨v985, rfl, ho0, hb⟩; refine ⟨_, rfl, ?_⟩; have HO986 := Aside0.mk (Kd.R_lower ho0 (below_size (bv2_ HB GE903 GE983))); replace BK903 := Aside0.mk (blk_below (g := gb903) (o := .cells #[.int .i64 t900, .int .i64 t901] 25 (0, 0)) (by (with_reducible repeat (first | refine blk_drewN ?_ _ | refine blk_drew ?_ | refine blk_alloc ?_ _)); refine blk_far ?_ NB903_983.out _; (with_reducible repeat (first | refine blk_drewN ?_ _ | refine blk_drew ?_ | refine blk_alloc ?_ _)); refine blk_far ?_ NB903_983.out _; (with_reducible repeat (first | refine blk_drewN ?_ _ | refine blk_drew ?_ | refine blk_alloc ?_ _)); exact BK903.out) hb); replace BK983 := Aside0.mk (blk_below (g := gb983) (o := .cells #[.int .i64 t980, .int .i64 t981] 25 (0, 0)) (by (with_reducible repeat (first | refine blk_drewN ?_ _ | refine blk_drew ?_ | refine blk_alloc ?_ _)); refine blk_put (cs := #[.int .i64 t980, .int .i64 0]) ?_ 1 _ rfl; (with_reducible repeat (first | refine blk_drewN ?_ _ | refine blk_drew ?_ | refine blk_alloc ?_ _)); refine blk_put (cs := #[.int .i64 0, .int .i64 0]) ?_ 0 _ rfl; (with_reducible repeat (first | refine blk_drewN ?_ _ | refine blk_drew ?_ | refine blk_alloc ?_ _)); exact BK983.out) hb); replace HB := Aside0.mk (below_step (bv2_ HB GE903 GE983) hb); (try clear hb); (try clear hb2); (try clear hk); (try clear hi); (try clear ho0); obtain ⟨hcz223_0, hcz223_1, hfz223_0, hfz223_1⟩ := c2_ BK983) | ((with_reducible refine gate_callee (f := 39) rfl ?_); refine gl_ 150 Try.func39 #[.agg #[.int .i64 t980, .int .i64 t981], .int .i64 t982] rfl mp_ ?_; (with_reducible refine (spec_MinimalBlocks.calls k t980 t981 t982 t988 t991 _ A173.out).mono ?_); rintro e w224 ⟨v989, rfl, ho0, hb⟩; refine ⟨_, rfl, ?_⟩; have HO990 := Aside0.mk (Kd.R_lower (Kd.R_new' ho0 (Kd.R_lt (rv_ HO986))) (below_size (bv2_ HB GE903 GE983))); replace HO986 := Aside0.mk (Kd.R_elder' (rv_ HO986) (Kd.R_base ho0) hb); replace BK903 := kbl_ BK903 hb; replace BK983 := kbl_ BK983 hb; replace HB := Aside0.mk (below_step (bv2_ HB GE903 GE983) hb); (try clear hb); (try clear hb2); (try clear hk); (try clear hi); (try clear ho0)) | ((with_reducible refine gate_callee (f := 40) rfl ?_); refine gl_ 155 Try.func40 #[.slice A0 l0.length c0] rfl mp_ ?_; (with_reducible refine (spec_DrawIsCertificate.calls k _ _ l0 t992 t993 t994 t995 _ ?side1 ?side2 A174.out).mono ?_); (case side1 => exact cv_ (Kd.C_below HR0.out HB.out)); (case side2 => exact HC0.out); rintro e w225 ⟨rfl, hb⟩; refine ⟨_, rfl, ?_⟩; replace HO986 := Aside0.mk (Kd.R_below (rv_ HO986) hb); replace HO990 := Aside0.mk (Kd.R_below (rv_ HO990) hb); replace BK903 := kbl_ BK903 hb; replace BK983 := kbl_ BK983 hb; replace HB := Aside0.mk (below_step (bv2_ HB GE903 GE983) hb); (try clear hb); (try clear hb2); (try clear hk); (try clear hi)) | ((with_reducible refine gate_dst (N := 21) rfl ?_); refine bx_ 21 #[.int .i64 0, .int .i64 0] 25 ?_; intro gb996 hg w226 hbox hb; replace HO986 := Aside0.mk (Kd.R_below (rv_ HO986) hb); replace HO990 := Aside0.mk (Kd.R_below (rv_ HO990) hb); have BK996 := Aside0.mk (hbox); have GW996 := gw_ hg (below_size (bv2_ HB GE903 GE983)); have GE996 := GW996; replace HB := Aside0.mk (below_step (bv2_ HB GE903 GE983) hb); have NB903_996 := nb_ hg (blk_lt (g := gb903) (o := .cells #[.int .i64 t900, .int .i64 t901] 25 (0, 0)) (kv_ BK903)); have NB996_903 := nc_ hg (blk_lt (g := gb903) (o := .cells #[.int .i64 t900, .int .i64 t901] 25 (0, 0)) (kv_ BK903)); replace BK903 := kbl_ BK903 hb; have NB983_996 := nb_ hg (blk_lt (g := gb983) (o := .cells #[.int .i64 t980, .int .i64 t981] 25 (0, 0)) (kv_ BK983)); have NB996_983 := nc_ hg (blk_lt (g := gb983) (o := .cells #[.int .i64 t980, .int .i64 t981] 25 (0, 0)) (kv_ BK983)); replace BK983 := kbl_ BK983 hb; clear hb hbox hg; have hnb227 := NB996_903.out; have hnc227 := NB903_996.out; have hnb228 := NB996_983.out; have hnc228 := NB983_996.out; obtain ⟨hcz229_0, hcz229_1, hfz229_0, hfz229_1⟩ := c2_ BK996) | ((with_reducible refine gate_callee (f := 41) rfl ?_); refine gl_ 161 Try.func41 #[.slice A0 l0.length c0] rfl mp_ ?_; (with_reducible refine (spec_DrawIsSensitiveBlock.calls k _ _ l0 t997 t998 t999 t1000 _ ?side1 ?side2 A175.out).mono ?_); (case side1 => exact Kd.C_below HR0.out (bv3_ HB GE903 GE983 GE996)); (case side2 => exact HC0.out); rintro e w230 ⟨rfl, hb⟩; refine ⟨_, rfl, ?_⟩; replace HO986 := Aside0.mk (Kd.R_below (by (with_reducible repeat (first | apply Kd.R_alloc | apply Kd.R_drewN | apply Kd.R_drew)); exact (Kd.R_mono (Kd.R_far (p := ⟨gb996, 1, none⟩) (Kd.R_far (p := ⟨gb996, 0, none⟩) (Kd.R_types HO986.out BK996.out (by decide)) (fun _ hk => hk.2) (.int .i64 t992)) (fun _ hk => hk.2) (.int .i64 t993)) (fun _ h_ => h_.1))) hb); replace HO990 := Aside0.mk (Kd.R_below (by (with_reducible repeat (first | apply Kd.R_alloc | apply Kd.R_drewN | apply Kd.R_drew)); exact (Kd.R_mono (Kd.R_far (p := ⟨gb996, 1, none⟩) (Kd.R_far (p := ⟨gb996, 0, none⟩) (Kd.R_types HO990.out BK996.out (by decide)) (fun _ hk => hk.2) (.int .i64 t992)) (fun _ hk => hk.2) (.int .i64 t993)) (fun _ h_ => h_.1))) hb); replace BK903 := Aside0.mk (blk_below (g := gb903) (o := .cells #[.int .i64 t900, .int .i64 t901] 25 (0, 0)) (by (with_reducible repeat (first | refine blk_drewN ?_ _ | refine blk_drew ?_ | refine blk_alloc ?_ _)); refine blk_far ?_ NB903_996.out _; (with_reducible repeat (first | refine blk_drewN ?_ _ | refine blk_drew ?_ | refine blk_alloc ?_ _)); refine blk_far ?_ NB903_996.out _; (with_reducible repeat (first | refine blk_drewN ?_ _ | refine blk_drew ?_ | refine blk_alloc ?_ _)); exact BK903.out) hb); replace BK983 := Aside0.mk (blk_below (g := gb983) (o := .cells #[.int .i64 t980, .int .i64 t981] 25 (0, 0)) (by (with_reducible repeat (first | refine blk_drewN ?_ _ | refine blk_drew ?_ | refine blk_alloc ?_ _)); refine blk_far ?_ NB983_996.out _; (with_reducible repeat (first | refine blk_drewN ?_ _ | refine blk_drew ?_ | refine blk_alloc ?_ _)); refine blk_far ?_ NB983_996.out _; (with_reducible repeat (first | refine blk_drewN ?_ _ | refine blk_drew ?_ | refine blk_alloc ?_ _)); exact BK983.out) hb); replace BK996 := Aside0.mk (blk_below (g := gb996) (o := .cells #[.int .i64 t992, .int .i64 t993] 25 (0, 0)) (by (with_reducible repeat (first | refine blk_drewN ?_ _ | refine blk_drew ?_ | refine blk_alloc ?_ _)); refine blk_put (cs := #[.int .i64 t992, .int .i64 0]) ?_ 1 _ rfl; (with_reducible repeat (first | refine blk_drewN ?_ _ | refine blk_drew ?_ | refine blk_alloc ?_ _)); refine blk_put (cs := #[.int .i64 0, .int .i64 0]) ?_ 0 _ rfl; (with_reducible repeat (first | refine blk_drewN ?_ _ | refine blk_drew ?_ | refine blk_alloc ?_ _)); exact BK996.out) hb); replace HB := Aside0.mk (below_step (bv3_ HB GE903 GE983 GE996) hb); (try clear hb); (try clear hb2); (try clear hk); (try clear hi)) | ((with_reducible refine gate_dst (N := 24) rfl ?_); refine bx_ 24 #[.int .i64 0, .int .i64 0] 25 ?_; intro gb1001 hg w231 hbox hb; replace HO986 := Aside0.mk (Kd.R_below (rv_ HO986) hb); replace HO990 := Aside0.mk (Kd.R_below (rv_ HO990) hb); have BK1001 := Aside0.mk (hbox); have GW1001 := gw_ hg (below_size (bv3_ HB GE903 GE983 GE996)); have GE1001 := GW1001; replace HB := Aside0.mk (below_step (bv3_ HB GE903 GE983 GE996) hb); have NB903_1001 := nb_ hg (blk_lt (g := gb903) (o := .cells #[.int .i64 t900, .int .i64 t901] 25 (0, 0)) (kv_ BK903)); have NB1001_903 := nc_ hg (blk_lt (g := gb903) (o := .cells #[.int .i64 t900, .int .i64 t901] 25 (0, 0)) (kv_ BK903)); replace BK903 := kbl_ BK903 hb; have NB983_1001 := nb_ hg (blk_lt (g := gb983) (o := .cells #[.int .i64 t980, .int .i64 t981] 25 (0, 0)) (kv_ BK983)); have NB1001_983 := nc_ hg (blk_lt (g := gb983) (o := .cells #[.int .i64 t980, .int .i64 t981] 25 (0, 0)) (kv_ BK983)); replace BK983 := kbl_ BK983 hb; have NB996_1001 := nb_ hg (blk_lt (g := gb996) (o := .cells #[.int .i64 t992, .int .i64 t993] 25 (0, 0)) (kv_ BK996)); have NB1001_996 := nc_ hg (blk_lt (g := gb996) (o := .cells #[.int .i64 t992, .int .i64 t993] 25 (0, 0)) (kv_ BK996)); replace BK996 := kbl_ BK996 hb; clear hb hbox hg; have hnb232 := NB1001_903.out; have hnc232 := NB903_1001.out; have hnb233 := NB1001_983.out; have hnc233 := NB983_1001.out; have hnb234 := NB1001_996.out; have hnc234 := NB996_1001.out; obtain ⟨hcz235_0, hcz235_1, hfz235_0, hfz235_1⟩ := c2_ BK1001) | ((with_reducible refine gate_callee (f := 42) rfl ?_); refine gl_ 167 Try.func42 #[.slice A0 l0.length c0] rfl mp_ ?_; (with_reducible refine (spec_DrawCertificateOf.calls k _ _ l0 t1002 t1003 t1004 _ ?side1 ?side2 A176.out).mono ?_); (case side1 => exact Kd.C_below HR0.out (bv4_ HB GE903 GE983 GE996 GE1001)); (case side2 => exact HC0.out); rintro e w236 ⟨rfl, hb⟩; refine ⟨_, rfl, ?_⟩; replace HO986 := Aside0.mk (Kd.R_below (by (with_reducible repeat (first | apply Kd.R_alloc | apply Kd.R_drewN | apply Kd.R_drew)); exact (Kd.R_mono (Kd.R_far (p := ⟨gb1001, 1, none⟩) (Kd.R_far (p := ⟨gb1001, 0, none⟩) (Kd.R_types HO986.out BK1001.out (by decide)) (fun _ hk => hk.2) (.int .i64 t997)) (fun _ hk => hk.2) (.int .i64 t998)) (fun _ h_ => h_.1))) hb); replace HO990 := Aside0.mk (Kd.R_below (by (with_reducible repeat (first | apply Kd.R_alloc | apply Kd.R_drewN | apply Kd.R_drew)); exact (Kd.R_mono (Kd.R_far (p := ⟨gb1001, 1, none⟩) (Kd.R_far (p := ⟨gb1001, 0, none⟩) (Kd.R_types HO990.out BK1001.out (by decide)) (fun _ hk => hk.2) (.int .i64 t997)) (fun _ hk => hk.2) (.int .i64 t998)) (fun _ h_ => h_.1))) hb); replace BK903 := Aside0.mk (blk_below (g := gb903) (o := .cells #[.int .i64 t900, .int .i64 t901] 25 (0, 0)) (by (with_reducible repeat (first | refine blk_drewN ?_ _ | refine blk_drew ?_ | refine blk_alloc ?_ _)); refine blk_far ?_ NB903_1001.out _; (with_reducible repeat (first | refine blk_drewN ?_ _ | refine blk_drew ?_ | refine blk_alloc ?_ _)); refine blk_far ?_ NB903_1001.out _; (with_reducible repeat (first | refine blk_drewN ?_ _ | refine blk_drew ?_ | refine blk_alloc ?_ _)); exact BK903.out) hb); replace BK983 := Aside0.mk (blk_below (g := gb983) (o := .cells #[.int .i64 t980, .int .i64 t981] 25 (0, 0)) (by (with_reducible repeat (first | refine blk_drewN ?_ _ | refine blk_drew ?_ | refine blk_alloc ?_ _)); refine blk_far ?_ NB983_1001.out _; (with_reducible repeat (first | refine blk_drewN ?_ _ | refine blk_drew ?_ | refine blk_alloc ?_ _)); refine blk_far ?_ NB983_1001.out _; (with_reducible repeat (first | refine blk_drewN ?_ _ | refine blk_drew ?_ | refine blk_alloc ?_ _)); exact BK983.out) hb); replace BK996 := Aside0.mk (blk_below (g := gb996) (o := .cells #[.int .i64 t992, .int .i64 t993] 25 (0, 0)) (by (with_reducible repeat (first | refine blk_drewN ?_ _ | refine blk_drew ?_ | refine blk_alloc ?_ _)); refine blk_far ?_ NB996_1001.out _; (with_reducible repeat (first | refine blk_drewN ?_ _ | refine blk_drew ?_ | refine blk_alloc ?_ _)); refine blk_far ?_ NB996_1001.out _; (with_reducible repeat (first | refine blk_drewN ?_ _ | refine blk_drew ?_ | refine blk_alloc ?_ _)); exact BK996.out) hb); replace BK1001 := Aside0.mk (blk_below (g := gb1001) (o := .cells #[.int .i64 t997, .int .i64 t998] 25 (0, 0)) (by (with_reducible repeat (first | refine blk_drewN ?_ _ | refine blk_drew ?_ | refine blk_alloc ?_ _)); refine blk_put (cs := #[.int .i64 t997, .int .i64 0]) ?_ 1 _ rfl; (with_reducible repeat (first | refine blk_drewN ?_ _ | refine blk_drew ?_ | refine blk_alloc ?_ _)); refine blk_put (cs := #[.int .i64 0, .int .i64 0]) ?_ 0 _ rfl; (with_reducible repeat (first | refine blk_drewN ?_ _ | refine blk_drew ?_ | refine blk_alloc ?_ _)); exact BK1001.out) hb); replace HB := Aside0.mk (below_step (bv4_ HB GE903 GE983 GE996 GE1001) hb); (try clear hb); (try clear hb2); (try clear hk); (try clear hi)) | ((with_reducible refine gate_dst (N := 27) rfl ?_); refine bx_ 27 #[.int .i64 0, .int .i64 0] 25 ?_; intro gb1005 hg w237 hbox hb; replace HO986 := Aside0.mk (Kd.R_below (rv_ HO986) hb); replace HO990 := Aside0.mk (Kd.R_below (rv_ HO990) hb); have BK1005 := Aside0.mk (hbox); have GW1005 := gw_ hg (below_size (bv4_ HB GE903 GE983 GE996 GE1001)); have GE1005 := GW1005; replace HB := Aside0.mk (below_step (bv4_ HB GE903 GE983 GE996 GE1001) hb); have NB903_1005 := nb_ hg (blk_lt (g := gb903) (o := .cells #[.int .i64 t900, .int .i64 t901] 25 (0, 0)) (kv_ BK903)); have NB1005_903 := nc_ hg (blk_lt (g := gb903) (o := .cells #[.int .i64 t900, .int .i64 t901] 25 (0, 0)) (kv_ BK903)); replace BK903 := kbl_ BK903 hb; have NB983_1005 := nb_ hg (blk_lt (g := gb983) (o := .cells #[.int .i64 t980, .int .i64 t981] 25 (0, 0)) (kv_ BK983)); have NB1005_983 := nc_ hg (blk_lt (g := gb983) (o := .cells #[.int .i64 t980, .int .i64 t981] 25 (0, 0)) (kv_ BK983)); replace BK983 := kbl_ BK983 hb; have NB996_1005 := nb_ hg (blk_lt (g := gb996) (o := .cells #[.int .i64 t992, .int .i64 t993] 25 (0, 0)) (kv_ BK996)); have NB1005_996 := nc_ hg (blk_lt (g := gb996) (o := .cells #[.int .i64 t992, .int .i64 t993] 25 (0, 0)) (kv_ BK996)); replace BK996 := kbl_ BK996 hb; have NB1001_1005 := nb_ hg (blk_lt (g := gb1001) (o := .cells #[.int .i64 t997, .int .i64 t998] 25 (0, 0)) (kv_ BK1001)); have NB1005_1001 := nc_ hg (blk_lt (g := gb1001) (o := .cells #[.int .i64 t997, .int .i64 t998] 25 (0, 0)) (kv_ BK1001)); replace BK1001 := kbl_ BK1001 hb; clear hb hbox hg; have hnb238 := NB1005_903.out; have hnc238 := NB903_1005.out; have hnb239 := NB1005_983.out; have hnc239 := NB983_1005.out; have hnb240 := NB1005_996.out; have hnc240 := NB996_1005.out; have hnb241 := NB1005_1001.out; have hnc241 := NB1001_1005.out; obtain ⟨hcz242_0, hcz242_1, hfz242_0, hfz242_1⟩ := c2_ BK1005) | ((with_reducible refine gate_callee (f := 43) rfl ?_); refine gl_ 171 Try.func43 #[.slice A0 l0.length c0] rfl mp_ ?_; (with_reducible refine (spec_DrawBlockSensitivityOf.calls k _ _ l0 t1006 t1007 _ ?side1 ?side2 A177.out).mono ?_); (case side1 => exact Kd.C_below HR0.out (bv5_ HB GE903 GE983 GE996 GE1001 GE1005)); (case side2 => exact HC0.out); rintro e w243 ⟨rfl, hb⟩; refine ⟨_, rfl, ?_⟩; replace HO986 := Aside0.mk (Kd.R_below (by (with_reducible repeat (first | apply Kd.R_alloc | apply Kd.R_drewN | apply Kd.R_drew)); exact (Kd.R_mono (Kd.R_far (p := ⟨gb1005, 1, none⟩) (Kd.R_far (p := ⟨gb1005, 0, none⟩) (Kd.R_types HO986.out BK1005.out (by decide)) (fun _ hk => hk.2) (.int .i64 t1002)) (fun _ hk => hk.2) (.int .i64 t1003)) (fun _ h_ => h_.1))) hb); replace HO990 := Aside0.mk (Kd.R_below (by (with_reducible repeat (first | apply Kd.R_alloc | apply Kd.R_drewN | apply Kd.R_drew)); exact (Kd.R_mono (Kd.R_far (p := ⟨gb1005, 1, none⟩) (Kd.R_far (p := ⟨gb1005, 0, none⟩) (Kd.R_types HO990.out BK1005.out (by decide)) (fun _ hk => hk.2) (.int .i64 t1002)) (fun _ hk => hk.2) (.int .i64 t1003)) (fun _ h_ => h_.1))) hb); replace BK903 := Aside0.mk (blk_below (g := gb903) (o := .cells #[.int .i64 t900, .int .i64 t901] 25 (0, 0)) (by (with_reducible repeat (first | refine blk_drewN ?_ _ | refine blk_drew ?_ | refine blk_alloc ?_ _)); refine blk_far ?_ NB903_1005.out _; (with_reducible repeat (first | refine blk_drewN ?_ _ | refine blk_drew ?_ | refine blk_alloc ?_ _)); refine blk_far ?_ NB903_1005.out _; (with_reducible repeat (first | refine blk_drewN ?_ _ | refine blk_drew ?_ | refine blk_alloc ?_ _)); exact BK903.out) hb); replace BK983 := Aside0.mk (blk_below (g := gb983) (o := .cells #[.int .i64 t980, .int .i64 t981] 25 (0, 0)) (by (with_reducible repeat (first | refine blk_drewN ?_ _ | refine blk_drew ?_ | refine blk_alloc ?_ _)); refine blk_far ?_ NB983_1005.out _; (with_reducible repeat (first | refine blk_drewN ?_ _ | refine blk_drew ?_ | refine blk_alloc ?_ _)); refine blk_far ?_ NB983_1005.out _; (with_reducible repeat (first | refine blk_drewN ?_ _ | refine blk_drew ?_ | refine blk_alloc ?_ _)); exact BK983.out) hb); replace BK996 := Aside0.mk (blk_below (g := gb996) (o := .cells #[.int .i64 t992, .int .i64 t993] 25 (0, 0)) (by (with_reducible repeat (first | refine blk_drewN ?_ _ | refine blk_drew ?_ | refine blk_alloc ?_ _)); refine blk_far ?_ NB996_1005.out _; (with_reducible repeat (first | refine blk_drewN ?_ _ | refine blk_drew ?_ | refine blk_alloc ?_ _)); refine blk_far ?_ NB996_1005.out _; (with_reducible repeat (first | refine blk_drewN ?_ _ | refine blk_drew ?_ | refine blk_alloc ?_ _)); exact BK996.out) hb); replace BK1001 := Aside0.mk (blk_below (g := gb1001) (o := .cells #[.int .i64 t997, .int .i64 t998] 25 (0, 0)) (by (with_reducible repeat (first | refine blk_drewN ?_ _ | refine blk_drew ?_ | refine blk_alloc ?_ _)); refine blk_far ?_ NB1001_1005.out _; (with_reducible repeat (first | refine blk_drewN ?_ _ | refine blk_drew ?_ | refine blk_alloc ?_ _)); refine blk_far ?_ NB1001_1005.out _; (with_reducible repeat (first | refine blk_drewN ?_ _ | refine blk_drew ?_ | refine blk_alloc ?_ _)); exact BK1001.out) hb); replace BK1005 := Aside0.mk (blk_below (g := gb1005) (o := .cells #[.int .i64 t1002, .int .i64 t1003] 25 (0, 0)) (by (with_reducible repeat (first | refine blk_drewN ?_ _ | refine blk_drew ?_ | refine blk_alloc ?_ _)); refine blk_put (cs := #[.int .i64 t1002, .int .i64 0]) ?_ 1 _ rfl; (with_reducible repeat (first | refine blk_drewN ?_ _ | refine blk_drew ?_ | refine blk_alloc ?_ _)); refine blk_put (cs := #[.int .i64 0, .int .i64 0]) ?_ 0 _ rfl; (with_reducible repeat (first | refine blk_drewN ?_ _ | refine blk_drew ?_ | refine blk_alloc ?_ _)); exact BK1005.out) hb); replace HB := Aside0.mk (below_step (bv5_ HB GE903 GE983 GE996 GE1001 GE1005) hb); (try clear hb); (try clear hb2); (try clear hk); (try clear hi)) | ((with_reducible refine gate_dst (N := 29) rfl ?_); refine bx_ 29 #[.int .i64 0, .int .i64 0] 25 ?_; intro gb1008 hg w244 hbox hb; replace HO986 := Aside0.mk (Kd.R_below (rv_ HO986) hb); replace HO990 := Aside0.mk (Kd.R_below (rv_ HO990) hb); have BK1008 := Aside0.mk (hbox); have GW1008 := gw_ hg (below_size (bv5_ HB GE903 GE983 GE996 GE1001 GE1005)); have GE1008 := GW1008; replace HB := Aside0.mk (below_step (bv5_ HB GE903 GE983 GE996 GE1001 GE1005) hb); have NB903_1008 := nb_ hg (blk_lt (g := gb903) (o := .cells #[.int .i64 t900, .int .i64 t901] 25 (0, 0)) (kv_ BK903)); have NB1008_903 := nc_ hg (blk_lt (g := gb903) (o := .cells #[.int .i64 t900, .int .i64 t901] 25 (0, 0)) (kv_ BK903)); replace BK903 := kbl_ BK903 hb; have NB983_1008 := nb_ hg (blk_lt (g := gb983) (o := .cells #[.int .i64 t980, .int .i64 t981] 25 (0, 0)) (kv_ BK983)); have NB1008_983 := nc_ hg (blk_lt (g := gb983) (o := .cells #[.int .i64 t980, .int .i64 t981] 25 (0, 0)) (kv_ BK983)); replace BK983 := kbl_ BK983 hb; have NB996_1008 := nb_ hg (blk_lt (g := gb996) (o := .cells #[.int .i64 t992, .int .i64 t993] 25 (0, 0)) (kv_ BK996)); have NB1008_996 := nc_ hg (blk_lt (g := gb996) (o := .cells #[.int .i64 t992, .int .i64 t993] 25 (0, 0)) (kv_ BK996)); replace BK996 := kbl_ BK996 hb; have NB1001_1008 := nb_ hg (blk_lt (g := gb1001) (o := .cells #[.int .i64 t997, .int .i64 t998] 25 (0, 0)) (kv_ BK1001)); have NB1008_1001 := nc_ hg (blk_lt (g := gb1001) (o := .cells #[.int .i64 t997, .int .i64 t998] 25 (0, 0)) (kv_ BK1001)); replace BK1001 := kbl_ BK1001 hb; have NB1005_1008 := nb_ hg (blk_lt (g := gb1005) (o := .cells #[.int .i64 t1002, .int .i64 t1003] 25 (0, 0)) (kv_ BK1005)); have NB1008_1005 := nc_ hg (blk_lt (g := gb1005) (o := .cells #[.int .i64 t1002, .int .i64 t1003] 25 (0, 0)) (kv_ BK1005)); replace BK1005 := kbl_ BK1005 hb; clear hb hbox hg; have hnb245 := NB1008_903.out; have hnc245 := NB903_1008.out; have hnb246 := NB1008_983.out; have hnc246 := NB983_1008.out; have hnb247 := NB1008_996.out; have hnc247 := NB996_1008.out; have hnb248 := NB1008_1001.out; have hnc248 := NB1001_1008.out; have hnb249 := NB1008_1005.out; have hnc249 := NB1005_1008.out; obtain ⟨hcz250_0, hcz250_1, hfz250_0, hfz250_1⟩ := c2_ BK1008) | ((with_reducible refine gate_callee (f := 44) rfl ?_); refine gl_ 173 Try.func44 #[.slice A0 l0.length c0] rfl mp_ ?_; (with_reducible refine (spec_DrawMeetingOf.calls k _ _ l0 t1009 t1010 _ ?side1 ?side2 A178.out).mono ?_); (case side1 => exact Kd.C_below HR0.out (bv6_ HB GE903 GE983 GE996 GE1001 GE1005 GE1008)); (case side2 => exact HC0.out); rintro e w251 ⟨rfl, hb⟩; refine ⟨_, rfl, ?_⟩; replace HO986 := Aside0.mk (Kd.R_below (by (with_reducible repeat (first | apply Kd.R_alloc | apply Kd.R_drewN | apply Kd.R_drew)); exact (Kd.R_mono (Kd.R_far (p := ⟨gb1008, 1, none⟩) (Kd.R_far (p := ⟨gb1008, 0, none⟩) (Kd.R_types HO986.out BK1008.out (by decide)) (fun _ hk => hk.2) (.int .i64 t1006)) (fun _ hk => hk.2) (.int .i64 t1007)) (fun _ h_ => h_.1))) hb); replace HO990 := Aside0.mk (Kd.R_below (by (with_reducible repeat (first | apply Kd.R_alloc | apply Kd.R_drewN | apply Kd.R_drew)); exact (Kd.R_mono (Kd.R_far (p := ⟨gb1008, 1, none⟩) (Kd.R_far (p := ⟨gb1008, 0, none⟩) (Kd.R_types HO990.out BK1008.out (by decide)) (fun _ hk => hk.2) (.int .i64 t1006)) (fun _ hk => hk.2) (.int .i64 t1007)) (fun _ h_ => h_.1))) hb); replace BK903 := Aside0.mk (blk_below (g := gb903) (o := .cells #[.int .i64 t900, .int .i64 t901] 25 (0, 0)) (by (with_reducible repeat (first | refine blk_drewN ?_ _ | refine blk_drew ?_ | refine blk_alloc ?_ _)); refine blk_far ?_ NB903_1008.out _; (with_reducible repeat (first | refine blk_drewN ?_ _ | refine blk_drew ?_ | refine blk_alloc ?_ _)); refine blk_far ?_ NB903_1008.out _; (with_reducible repeat (first | refine blk_drewN ?_ _ | refine blk_drew ?_ | refine blk_alloc ?_ _)); exact BK903.out) hb); replace BK983 := Aside0.mk (blk_below (g := gb983) (o := .cells #[.int .i64 t980, .int .i64 t981] 25 (0, 0)) (by (with_reducible repeat (first | refine blk_drewN ?_ _ | refine blk_drew ?_ | refine blk_alloc ?_ _)); refine blk_far ?_ NB983_1008.out _; (with_reducible repeat (first | refine blk_drewN ?_ _ | refine blk_drew ?_ | refine blk_alloc ?_ _)); refine blk_far ?_ NB983_1008.out _; (with_reducible repeat (first | refine blk_drewN ?_ _ | refine blk_drew ?_ | refine blk_alloc ?_ _)); exact BK983.out) hb); replace BK996 := Aside0.mk (blk_below (g := gb996) (o := .cells #[.int .i64 t992, .int .i64 t993] 25 (0, 0)) (by (with_reducible repeat (first | refine blk_drewN ?_ _ | refine blk_drew ?_ | refine blk_alloc ?_ _)); refine blk_far ?_ NB996_1008.out _; (with_reducible repeat (first | refine blk_drewN ?_ _ | refine blk_drew ?_ | refine blk_alloc ?_ _)); refine blk_far ?_ NB996_1008.out _; (with_reducible repeat (first | refine blk_drewN ?_ _ | refine blk_drew ?_ | refine blk_alloc ?_ _)); exact BK996.out) hb); replace BK1001 := Aside0.mk (blk_below (g := gb1001) (o := .cells #[.int .i64 t997, .int .i64 t998] 25 (0, 0)) (by (with_reducible repeat (first | refine blk_drewN ?_ _ | refine blk_drew ?_ | refine blk_alloc ?_ _)); refine blk_far ?_ NB1001_1008.out _; (with_reducible repeat (first | refine blk_drewN ?_ _ | refine blk_drew ?_ | refine blk_alloc ?_ _)); refine blk_far ?_ NB1001_1008.out _; (with_reducible repeat (first | refine blk_drewN ?_ _ | refine blk_drew ?_ | refine blk_alloc ?_ _)); exact BK1001.out) hb); replace BK1005 := Aside0.mk (blk_below (g := gb1005) (o := .cells #[.int .i64 t1002, .int .i64 t1003] 25 (0, 0)) (by (with_reducible repeat (first | refine blk_drewN ?_ _ | refine blk_drew ?_ | refine blk_alloc ?_ _)); refine blk_far ?_ NB1005_1008.out _; (with_reducible repeat (first | refine blk_drewN ?_ _ | refine blk_drew ?_ | refine blk_alloc ?_ _)); refine blk_far ?_ NB1005_1008.out _; (with_reducible repeat (first | refine blk_drewN ?_ _ | refine blk_drew ?_ | refine blk_alloc ?_ _)); exact BK1005.out) hb); replace BK1008 := Aside0.mk (blk_below (g := gb1008) (o := .cells #[.int .i64 t1006, .int .i64 t1007] 25 (0, 0)) (by (with_reducible repeat (first | refine blk_drewN ?_ _ | refine blk_drew ?_ | refine blk_alloc ?_ _)); refine blk_put (cs := #[.int .i64 t1006, .int .i64 0]) ?_ 1 _ rfl; (with_reducible repeat (first | refine blk_drewN ?_ _ | refine blk_drew ?_ | refine blk_alloc ?_ _)); refine blk_put (cs := #[.int .i64 0, .int .i64 0]) ?_ 0 _ rfl; (with_reducible repeat (first | refine blk_drewN ?_ _ | refine blk_drew ?_ | refine blk_alloc ?_ _)); exact BK1008.out) hb); replace HB := Aside0.mk (below_step (bv6_ HB GE903 GE983 GE996 GE1001 GE1005 GE1008) hb); (try clear hb); (try clear hb2); (try clear hk); (try clear hi)) | ((with_reducible refine gate_dst (N := 30) rfl ?_); refine bx_ 30 #[.int .i64 0, .int .i64 0] 25 ?_; intro gb1011 hg w252 hbox hb; replace HO986 := Aside0.mk (Kd.R_below (rv_ HO986) hb); replace HO990 := Aside0.mk (Kd.R_below (rv_ HO990) hb); have BK1011 := Aside0.mk (hbox); have GW1011 := gw_ hg (below_size (bv6_ HB GE903 GE983 GE996 GE1001 GE1005 GE1008)); have GE1011 := GW1011; replace HB := Aside0.mk (below_step (bv6_ HB GE903 GE983 GE996 GE1001 GE1005 GE1008) hb); have NB903_1011 := nb_ hg (blk_lt (g := gb903) (o := .cells #[.int .i64 t900, .int .i64 t901] 25 (0, 0)) (kv_ BK903)); have NB1011_903 := nc_ hg (blk_lt (g := gb903) (o := .cells #[.int .i64 t900, .int .i64 t901] 25 (0, 0)) (kv_ BK903)); replace BK903 := kbl_ BK903 hb; have NB983_1011 := nb_ hg (blk_lt (g := gb983) (o := .cells #[.int .i64 t980, .int .i64 t981] 25 (0, 0)) (kv_ BK983)); have NB1011_983 := nc_ hg (blk_lt (g := gb983) (o := .cells #[.int .i64 t980, .int .i64 t981] 25 (0, 0)) (kv_ BK983)); replace BK983 := kbl_ BK983 hb; have NB996_1011 := nb_ hg (blk_lt (g := gb996) (o := .cells #[.int .i64 t992, .int .i64 t993] 25 (0, 0)) (kv_ BK996)); have NB1011_996 := nc_ hg (blk_lt (g := gb996) (o := .cells #[.int .i64 t992, .int .i64 t993] 25 (0, 0)) (kv_ BK996)); replace BK996 := kbl_ BK996 hb; have NB1001_1011 := nb_ hg (blk_lt (g := gb1001) (o := .cells #[.int .i64 t997, .int .i64 t998] 25 (0, 0)) (kv_ BK1001)); have NB1011_1001 := nc_ hg (blk_lt (g := gb1001) (o := .cells #[.int .i64 t997, .int .i64 t998] 25 (0, 0)) (kv_ BK1001)); replace BK1001 := kbl_ BK1001 hb; have NB1005_1011 := nb_ hg (blk_lt (g := gb1005) (o := .cells #[.int .i64 t1002, .int .i64 t1003] 25 (0, 0)) (kv_ BK1005)); have NB1011_1005 := nc_ hg (blk_lt (g := gb1005) (o := .cells #[.int .i64 t1002, .int .i64 t1003] 25 (0, 0)) (kv_ BK1005)); replace BK1005 := kbl_ BK1005 hb; have NB1008_1011 := nb_ hg (blk_lt (g := gb1008) (o := .cells #[.int .i64 t1006, .int .i64 t1007] 25 (0, 0)) (kv_ BK1008)); have NB1011_1008 := nc_ hg (blk_lt (g := gb1008) (o := .cells #[.int .i64 t1006, .int .i64 t1007] 25 (0, 0)) (kv_ BK1008)); replace BK1008 := kbl_ BK1008 hb; clear hb hbox hg; have hnb253 := NB1011_903.out; have hnc253 := NB903_1011.out; have hnb254 := NB1011_983.out; have hnc254 := NB983_1011.out; have hnb255 := NB1011_996.out; have hnc255 := NB996_1011.out; have hnb256 := NB1011_1001.out; have hnc256 := NB1001_1011.out; have hnb257 := NB1011_1005.out; have hnc257 := NB1005_1011.out; have hnb258 := NB1011_1008.out; have hnc258 := NB1008_1011.out; obtain ⟨hcz259_0, hcz259_1, hfz259_0, hfz259_1⟩ := c2_ BK1011) | ((with_reducible refine gate_callee (f := 45) rfl ?_); refine gl_ 176 Try.func45 #[.slice A0 l0.length c0] rfl mp_ ?_; (with_reducible refine (spec_DrawBlockSensitivityAt.calls k _ _ l0 t1012 t1013 t1014 _ ?side1 ?side2 A179.out).mono ?_); (case side1 => exact Kd.C_below HR0.out (bv7_ HB GE903 GE983 GE996 GE1001 GE1005 GE1008 GE1011)); (case side2 => exact HC0.out); rintro e w260 ⟨rfl, hb⟩; refine ⟨_, rfl, ?_⟩; replace HO986 := Aside0.mk (Kd.R_below (by (with_reducible repeat (first | apply Kd.R_alloc | apply Kd.R_drewN | apply Kd.R_drew)); exact (Kd.R_mono (Kd.R_far (p := ⟨gb1011, 1, none⟩) (Kd.R_far (p := ⟨gb1011, 0, none⟩) (Kd.R_types HO986.out BK1011.out (by decide)) (fun _ hk => hk.2) (.int .i64 t1009)) (fun _ hk => hk.2) (.int .i64 t1010)) (fun _ h_ => h_.1))) hb); replace HO990 := Aside0.mk (Kd.R_below (by (with_reducible repeat (first | apply Kd.R_alloc | apply Kd.R_drewN | apply Kd.R_drew)); exact (Kd.R_mono (Kd.R_far (p := ⟨gb1011, 1, none⟩) (Kd.R_far (p := ⟨gb1011, 0, none⟩) (Kd.R_types HO990.out BK1011.out (by decide)) (fun _ hk => hk.2) (.int .i64 t1009)) (fun _ hk => hk.2) (.int .i64 t1010)) (fun _ h_ => h_.1))) hb); replace BK903 := Aside0.mk (blk_below (g := gb903) (o := .cells #[.int .i64 t900, .int .i64 t901] 25 (0, 0)) (by (with_reducible repeat (first | refine blk_drewN ?_ _ | refine blk_drew ?_ | refine blk_alloc ?_ _)); refine blk_far ?_ NB903_1011.out _; (with_reducible repeat (first | refine blk_drewN ?_ _ | refine blk_drew ?_ | refine blk_alloc ?_ _)); refine blk_far ?_ NB903_1011.out _; (with_reducible repeat (first | refine blk_drewN ?_ _ | refine blk_drew ?_ | refine blk_alloc ?_ _)); exact BK903.out) hb); replace BK983 := Aside0.mk (blk_below (g := gb983) (o := .cells #[.int .i64 t980, .int .i64 t981] 25 (0, 0)) (by (with_reducible repeat (first | refine blk_drewN ?_ _ | refine blk_drew ?_ | refine blk_alloc ?_ _)); refine blk_far ?_ NB983_1011.out _; (with_reducible repeat (first | refine blk_drewN ?_ _ | refine blk_drew ?_ | refine blk_alloc ?_ _)); refine blk_far ?_ NB983_1011.out _; (with_reducible repeat (first | refine blk_drewN ?_ _ | refine blk_drew ?_ | refine blk_alloc ?_ _)); exact BK983.out) hb); replace BK996 := Aside0.mk (blk_below (g := gb996) (o := .cells #[.int .i64 t992, .int .i64 t993] 25 (0, 0)) (by (with_reducible repeat (first | refine blk_drewN ?_ _ | refine blk_drew ?_ | refine blk_alloc ?_ _)); refine blk_far ?_ NB996_1011.out _; (with_reducible repeat (first | refine blk_drewN ?_ _ | refine blk_drew ?_ | refine blk_alloc ?_ _)); refine blk_far ?_ NB996_1011.out _; (with_reducible repeat (first | refine blk_drewN ?_ _ | refine blk_drew ?_ | refine blk_alloc ?_ _)); exact BK996.out) hb); replace BK1001 := Aside0.mk (blk_below (g := gb1001) (o := .cells #[.int .i64 t997, .int .i64 t998] 25 (0, 0)) (by (with_reducible repeat (first | refine blk_drewN ?_ _ | refine blk_drew ?_ | refine blk_alloc ?_ _)); refine blk_far ?_ NB1001_1011.out _; (with_reducible repeat (first | refine blk_drewN ?_ _ | refine blk_drew ?_ | refine blk_alloc ?_ _)); refine blk_far ?_ NB1001_1011.out _; (with_reducible repeat (first | refine blk_drewN ?_ _ | refine blk_drew ?_ | refine blk_alloc ?_ _)); exact BK1001.out) hb); replace BK1005 := Aside0.mk (blk_below (g := gb1005) (o := .cells #[.int .i64 t1002, .int .i64 t1003] 25 (0, 0)) (by (with_reducible repeat (first | refine blk_drewN ?_ _ | refine blk_drew ?_ | refine blk_alloc ?_ _)); refine blk_far ?_ NB1005_1011.out _; (with_reducible repeat (first | refine blk_drewN ?_ _ | refine blk_drew ?_ | refine blk_alloc ?_ _)); refine blk_far ?_ NB1005_1011.out _; (with_reducible repeat (first | refine blk_drewN ?_ _ | refine blk_drew ?_ | refine blk_alloc ?_ _)); exact BK1005.out) hb); replace BK1008 := Aside0.mk (blk_below (g := gb1008) (o := .cells #[.int .i64 t1006, .int .i64 t1007] 25 (0, 0)) (by (with_reducible repeat (first | refine blk_drewN ?_ _ | refine blk_drew ?_ | refine blk_alloc ?_ _)); refine blk_far ?_ NB1008_1011.out _; (with_reducible repeat (first | refine blk_drewN ?_ _ | refine blk_drew ?_ | refine blk_alloc ?_ _)); refine blk_far ?_ NB1008_1011.out _; (with_reducible repeat (first | refine blk_drewN ?_ _ | refine blk_drew ?_ | refine blk_alloc ?_ _)); exact BK1008.out) hb); replace BK1011 := Aside0.mk (blk_below (g := gb1011) (o := .cells #[.int .i64 t1009, .int .i64 t1010] 25 (0, 0)) (by (with_reducible repeat (first | refine blk_drewN ?_ _ | refine blk_drew ?_ | refine blk_alloc ?_ _)); refine blk_put (cs := #[.int .i64 t1009, .int .i64 0]) ?_ 1 _ rfl; (with_reducible repeat (first | refine blk_drewN ?_ _ | refine blk_drew ?_ | refine blk_alloc ?_ _)); refine blk_put (cs := #[.int .i64 0, .int .i64 0]) ?_ 0 _ rfl; (with_reducible repeat (first | refine blk_drewN ?_ _ | refine blk_drew ?_ | refine blk_alloc ?_ _)); exact BK1011.out) hb); replace HB := Aside0.mk (below_step (bv7_ HB GE903 GE983 GE996 GE1001 GE1005 GE1008 GE1011) hb); (try clear hb); (try clear hb2); (try clear hk); (try clear hi)) | ((with_reducible refine gate_dst (N := 31) rfl ?_); refine bx_ 31 #[.int .i64 0, .int .i64 0] 25 ?_; intro gb1015 hg w261 hbox hb; replace HO986 := Aside0.mk (Kd.R_below (rv_ HO986) hb); replace HO990 := Aside0.mk (Kd.R_below (rv_ HO990) hb); have BK1015 := Aside0.mk (hbox); have GW1015 := gw_ hg (below_size (bv7_ HB GE903 GE983 GE996 GE1001 GE1005 GE1008 GE1011)); have GE1015 := GW1015; replace HB := Aside0.mk (below_step (bv7_ HB GE903 GE983 GE996 GE1001 GE1005 GE1008 GE1011) hb); have NB903_1015 := nb_ hg (blk_lt (g := gb903) (o := .cells #[.int .i64 t900, .int .i64 t901] 25 (0, 0)) (kv_ BK903)); have NB1015_903 := nc_ hg (blk_lt (g := gb903) (o := .cells #[.int .i64 t900, .int .i64 t901] 25 (0, 0)) (kv_ BK903)); replace BK903 := kbl_ BK903 hb; have NB983_1015 := nb_ hg (blk_lt (g := gb983) (o := .cells #[.int .i64 t980, .int .i64 t981] 25 (0, 0)) (kv_ BK983)); have NB1015_983 := nc_ hg (blk_lt (g := gb983) (o := .cells #[.int .i64 t980, .int .i64 t981] 25 (0, 0)) (kv_ BK983)); replace BK983 := kbl_ BK983 hb; have NB996_1015 := nb_ hg (blk_lt (g := gb996) (o := .cells #[.int .i64 t992, .int .i64 t993] 25 (0, 0)) (kv_ BK996)); have NB1015_996 := nc_ hg (blk_lt (g := gb996) (o := .cells #[.int .i64 t992, .int .i64 t993] 25 (0, 0)) (kv_ BK996)); replace BK996 := kbl_ BK996 hb; have NB1001_1015 := nb_ hg (blk_lt (g := gb1001) (o := .cells #[.int .i64 t997, .int .i64 t998] 25 (0, 0)) (kv_ BK1001)); have NB1015_1001 := nc_ hg (blk_lt (g := gb1001) (o := .cells #[.int .i64 t997, .int .i64 t998] 25 (0, 0)) (kv_ BK1001)); replace BK1001 := kbl_ BK1001 hb; have NB1005_1015 := nb_ hg (blk_lt (g := gb1005) (o := .cells #[.int .i64 t1002, .int .i64 t1003] 25 (0, 0)) (kv_ BK1005)); have NB1015_1005 := nc_ hg (blk_lt (g := gb1005) (o := .cells #[.int .i64 t1002, .int .i64 t1003] 25 (0, 0)) (kv_ BK1005)); replace BK1005 := kbl_ BK1005 hb; have NB1008_1015 := nb_ hg (blk_lt (g := gb1008) (o := .cells #[.int .i64 t1006, .int .i64 t1007] 25 (0, 0)) (kv_ BK1008)); have NB1015_1008 := nc_ hg (blk_lt (g := gb1008) (o := .cells #[.int .i64 t1006, .int .i64 t1007] 25 (0, 0)) (kv_ BK1008)); replace BK1008 := kbl_ BK1008 hb; have NB1011_1015 := nb_ hg (blk_lt (g := gb1011) (o := .cells #[.int .i64 t1009, .int .i64 t1010] 25 (0, 0)) (kv_ BK1011)); have NB1015_1011 := nc_ hg (blk_lt (g := gb1011) (o := .cells #[.int .i64 t1009, .int .i64 t1010] 25 (0, 0)) (kv_ BK1011)); replace BK1011 := kbl_ BK1011 hb; clear hb hbox hg; have hnb262 := NB1015_903.out; have hnc262 := NB903_1015.out; have hnb263 := NB1015_983.out; have hnc263 := NB983_1015.out; have hnb264 := NB1015_996.out; have hnc264 := NB996_1015.out; have hnb265 := NB1015_1001.out; have hnc265 := NB1001_1015.out; have hnb266 := NB1015_1005.out; have hnc266 := NB1005_1015.out; have hnb267 := NB1015_1008.out; have hnc267 := NB1008_1015.out; have hnb268 := NB1015_1011.out; have hnc268 := NB1011_1015.out; obtain ⟨hcz269_0, hcz269_1, hfz269_0, hfz269_1⟩ := c2_ BK1015; obtain ⟨hcz270_0, hcz270_1, hfz270_0, hfz270_1⟩ := c2_ BK1008) | ((with_reducible refine gate_callee (f := 46) rfl ?_); refine gl_ 180 Try.func46 #[.agg #[.int .i64 t1006, .int .i64 t1007]] rfl mp_ ?_; (with_reducible refine (impl_SensitiveEdges.calls k t1006 t1007 t1016 _ A180.out).mono ?_); rintro e w271 ⟨rfl, hb⟩; refine ⟨_, rfl, ?_⟩; replace HO986 := Aside0.mk (Kd.R_below (by (with_reducible repeat (first | apply Kd.R_alloc | apply Kd.R_drewN | apply Kd.R_drew)); exact (Kd.R_mono (Kd.R_far (p := ⟨gb1015, 1, none⟩) (Kd.R_far (p := ⟨gb1015, 0, none⟩) (Kd.R_types HO986.out BK1015.out (by decide)) (fun _ hk => hk.2) (.int .i64 t1012)) (fun _ hk => hk.2) (.int .i64 t1013)) (fun _ h_ => h_.1))) hb); replace HO990 := Aside0.mk (Kd.R_below (by (with_reducible repeat (first | apply Kd.R_alloc | apply Kd.R_drewN | apply Kd.R_drew)); exact (Kd.R_mono (Kd.R_far (p := ⟨gb1015, 1, none⟩) (Kd.R_far (p := ⟨gb1015, 0, none⟩) (Kd.R_types HO990.out BK1015.out (by decide)) (fun _ hk => hk.2) (.int .i64 t1012)) (fun _ hk => hk.2) (.int .i64 t1013)) (fun _ h_ => h_.1))) hb); replace BK903 := Aside0.mk (blk_below (g := gb903) (o := .cells #[.int .i64 t900, .int .i64 t901] 25 (0, 0)) (by (with_reducible repeat (first | refine blk_drewN ?_ _ | refine blk_drew ?_ | refine blk_alloc ?_ _)); refine blk_far ?_ NB903_1015.out _; (with_reducible repeat (first | refine blk_drewN ?_ _ | refine blk_drew ?_ | refine blk_alloc ?_ _)); refine blk_far ?_ NB903_1015.out _; (with_reducible repeat (first | refine blk_drewN ?_ _ | refine blk_drew ?_ | refine blk_alloc ?_ _)); exact BK903.out) hb); replace BK983 := Aside0.mk (blk_below (g := gb983) (o := .cells #[.int .i64 t980, .int .i64 t981] 25 (0, 0)) (by (with_reducible repeat (first | refine blk_drewN ?_ _ | refine blk_drew ?_ | refine blk_alloc ?_ _)); refine blk_far ?_ NB983_1015.out _; (with_reducible repeat (first | refine blk_drewN ?_ _ | refine blk_drew ?_ | refine blk_alloc ?_ _)); refine blk_far ?_ NB983_1015.out _; (with_reducible repeat (first | refine blk_drewN ?_ _ | refine blk_drew ?_ | refine blk_alloc ?_ _)); exact BK983.out) hb); replace BK996 := Aside0.mk (blk_below (g := gb996) (o := .cells #[.int .i64 t992, .int .i64 t993] 25 (0, 0)) (by (with_reducible repeat (first | refine blk_drewN ?_ _ | refine blk_drew ?_ | refine blk_alloc ?_ _)); refine blk_far ?_ NB996_1015.out _; (with_reducible repeat (first | refine blk_drewN ?_ _ | refine blk_drew ?_ | refine blk_alloc ?_ _)); refine blk_far ?_ NB996_1015.out _; (with_reducible repeat (first | refine blk_drewN ?_ _ | refine blk_drew ?_ | refine blk_alloc ?_ _)); exact BK996.out) hb); replace BK1001 := Aside0.mk (blk_below (g := gb1001) (o := .cells #[.int .i64 t997, .int .i64 t998] 25 (0, 0)) (by (with_reducible repeat (first | refine blk_drewN ?_ _ | refine blk_drew ?_ | refine blk_alloc ?_ _)); refine blk_far ?_ NB1001_1015.out _; (with_reducible repeat (first | refine blk_drewN ?_ _ | refine blk_drew ?_ | refine blk_alloc ?_ _)); refine blk_far ?_ NB1001_1015.out _; (with_reducible repeat (first | refine blk_drewN ?_ _ | refine blk_drew ?_ | refine blk_alloc ?_ _)); exact BK1001.out) hb); replace BK1005 := Aside0.mk (blk_below (g := gb1005) (o := .cells #[.int .i64 t1002, .int .i64 t1003] 25 (0, 0)) (by (with_reducible repeat (first | refine blk_drewN ?_ _ | refine blk_drew ?_ | refine blk_alloc ?_ _)); refine blk_far ?_ NB1005_1015.out _; (with_reducible repeat (first | refine blk_drewN ?_ _ | refine blk_drew ?_ | refine blk_alloc ?_ _)); refine blk_far ?_ NB1005_1015.out _; (with_reducible repeat (first | refine blk_drewN ?_ _ | refine blk_drew ?_ | refine blk_alloc ?_ _)); exact BK1005.out) hb); replace BK1008 := Aside0.mk (blk_below (g := gb1008) (o := .cells #[.int .i64 t1006, .int .i64 t1007] 25 (0, 0)) (by (with_reducible repeat (first | refine blk_drewN ?_ _ | refine blk_drew ?_ | refine blk_alloc ?_ _)); refine blk_far ?_ NB1008_1015.out _; (with_reducible repeat (first | refine blk_drewN ?_ _ | refine blk_drew ?_ | refine blk_alloc ?_ _)); refine blk_far ?_ NB1008_1015.out _; (with_reducible repeat (first | refine blk_drewN ?_ _ | refine blk_drew ?_ | refine blk_alloc ?_ _)); exact BK1008.out) hb); replace BK1011 := Aside0.mk (blk_below (g := gb1011) (o := .cells #[.int .i64 t1009, .int .i64 t1010] 25 (0, 0)) (by (with_reducible repeat (first | refine blk_drewN ?_ _ | refine blk_drew ?_ | refine blk_alloc ?_ _)); refine blk_far ?_ NB1011_1015.out _; (with_reducible repeat (first | refine blk_drewN ?_ _ | refine blk_drew ?_ | refine blk_alloc ?_ _)); refine blk_far ?_ NB1011_1015.out _; (with_reducible repeat (first | refine blk_drewN ?_ _ | refine blk_drew ?_ | refine blk_alloc ?_ _)); exact BK1011.out) hb); replace BK1015 := Aside0.mk (blk_below (g := gb1015) (o := .cells #[.int .i64 t1012, .int .i64 t1013] 25 (0, 0)) (by (with_reducible repeat (first | refine blk_drewN ?_ _ | refine blk_drew ?_ | refine blk_alloc ?_ _)); refine blk_put (cs := #[.int .i64 t1012, .int .i64 0]) ?_ 1 _ rfl; (with_reducible repeat (first | refine blk_drewN ?_ _ | refine blk_drew ?_ | refine blk_alloc ?_ _)); refine blk_put (cs := #[.int .i64 0, .int .i64 0]) ?_ 0 _ rfl; (with_reducible repeat (first | refine blk_drewN ?_ _ | refine blk_drew ?_ | refine blk_alloc ?_ _)); exact BK1015.out) hb); replace HB := Aside0.mk (below_step (bv8_ HB GE903 GE983 GE996 GE1001 GE1005 GE1008 GE1011 GE1015) hb); (try clear hb); (try clear hb2); (try clear hk); (try clear hi)))
                replace HO986 := Aside0.mk (Kd.R_drew HO986.out)
                replace HO990 := Aside0.mk (Kd.R_drew HO990.out)
                replace BK903 := Aside0.mk (blk_drew BK903.out)
                replace BK983 := Aside0.mk (blk_drew BK983.out)
                replace BK996 := Aside0.mk (blk_drew BK996.out)
                replace BK1001 := Aside0.mk (blk_drew BK1001.out)
                replace BK1005 := Aside0.mk (blk_drew BK1005.out)
                replace BK1008 := Aside0.mk (blk_drew BK1008.out)
                replace BK1011 := Aside0.mk (blk_drew BK1011.out)
                replace BK1015 := Aside0.mk (blk_drew BK1015.out)
                replace HB := Aside0.mk (below_drew1 HB.out)
                obtain ⟨Ao273, co273, eo273⟩ := Kd.R_slice HO986.out
                (first | subst eo273 | (injection eo273 with f1_ f2_ f3_; have f4_ := f1_.symm; have f5_ := f3_.symm; clear f1_ f2_ f3_; subst f4_; subst f5_))
                obtain ⟨Ao274, co274, eo274⟩ := Kd.R_slice HO990.out
                (first | subst eo274 | (injection eo274 with f1_ f2_ f3_; have f4_ := f1_.symm; have f5_ := f3_.symm; clear f1_ f2_ f3_; subst f4_; subst f5_))
                (try clear hcz214_0); (try clear hcz214_1); (try clear hfz214_0); (try clear hfz214_1); (try clear hcz216_0); (try clear hcz216_1); (try clear hfz216_0); (try clear hfz216_1); (try clear hnb220); (try clear hnc220); (try clear hcz221_0); (try clear hcz221_1)
                (try clear hfz221_0); (try clear hfz221_1); (try clear hcz223_0); (try clear hcz223_1); (try clear hfz223_0); (try clear hfz223_1); (try clear hnb227); (try clear hnc227); (try clear hnb228); (try clear hnc228); (try clear hcz229_0); (try clear hcz229_1)
                (try clear hfz229_0); (try clear hfz229_1); (try clear hnb232); (try clear hnc232); (try clear hnb233); (try clear hnc233); (try clear hnb234); (try clear hnc234); (try clear hcz235_0); (try clear hcz235_1); (try clear hfz235_0); (try clear hfz235_1)
                (try clear hnb238); (try clear hnc238); (try clear hnb239); (try clear hnc239); (try clear hnb240); (try clear hnc240); (try clear hnb241); (try clear hnc241); (try clear hcz242_0); (try clear hcz242_1); (try clear hfz242_0); (try clear hfz242_1)
                (try clear hnb245); (try clear hnc245); (try clear hnb246); (try clear hnc246); (try clear hnb247); (try clear hnc247); (try clear hnb248); (try clear hnc248); (try clear hnb249); (try clear hnc249); (try clear hcz250_0); (try clear hcz250_1)
                (try clear hfz250_0); (try clear hfz250_1); (try clear hnb253); (try clear hnc253); (try clear hnb254); (try clear hnc254); (try clear hnb255); (try clear hnc255); (try clear hnb256); (try clear hnc256); (try clear hnb257); (try clear hnc257)
                (try clear hnb258); (try clear hnc258); (try clear hcz259_0); (try clear hcz259_1); (try clear hfz259_0); (try clear hfz259_1); (try clear hnb262); (try clear hnc262); (try clear hnb263); (try clear hnc263); (try clear hnb264); (try clear hnc264)
                (try clear hnb265); (try clear hnc265); (try clear hnb266); (try clear hnc266); (try clear hnb267); (try clear hnc267); (try clear hnb268); (try clear hnc268); (try clear hcz269_0); (try clear hcz269_1); (try clear hfz269_0); (try clear hfz269_1)
                (try clear hcz270_0); (try clear hcz270_1); (try clear hfz270_0); (try clear hfz270_1)
                refine start_ (n := 94) (S := fun w' => w'.cell? ⟨gb996, 0, none⟩ = some (.int .i64 t992) ∧ w'.cell? ⟨gb996, 1, none⟩ = some (.int .i64 t993) ∧ w'.cell? ⟨gb1001, 0, none⟩ = some (.int .i64 t997) ∧ w'.cell? ⟨gb1001, 1, none⟩ = some (.int .i64 t998) ∧ w'.cell? ⟨gb1005, 0, none⟩ = some (.int .i64 t1002) ∧ w'.cell? ⟨gb1005, 1, none⟩ = some (.int .i64 t1003) ∧ w'.cell? ⟨gb1008, 0, none⟩ = some (.int .i64 t1006) ∧ w'.cell? ⟨gb1008, 1, none⟩ = some (.int .i64 t1007) ∧ w'.cell? ⟨gb1011, 0, none⟩ = some (.int .i64 t1009) ∧ w'.cell? ⟨gb1011, 1, none⟩ = some (.int .i64 t1010) ∧ w'.cell? ⟨gb1015, 0, none⟩ = some (.int .i64 t1012) ∧ w'.cell? ⟨gb1015, 1, none⟩ = some (.int .i64 t1013)) (ds := []) (bs 94 0) (by kernel_rfl) rfl (by kernel_rfl) ⟨(blk_cell BK996.out 0).trans rfl, (blk_cell BK996.out 1).trans rfl, (blk_cell BK1001.out 0).trans rfl, (blk_cell BK1001.out 1).trans rfl, (blk_cell BK1005.out 0).trans rfl, (blk_cell BK1005.out 1).trans rfl, (blk_cell BK1008.out 0).trans rfl, (blk_cell BK1008.out 1).trans rfl, (blk_cell BK1011.out 0).trans rfl, (blk_cell BK1011.out 1).trans rfl, (blk_cell BK1015.out 0).trans rfl, (blk_cell BK1015.out 1).trans rfl⟩ (fun hHeld => ?_); refine with_tabW laws_FnCertificates.tab30 laws_FnCertificates.bits30 (fun HT_ HW_ => ?_)
                generalize w271.drew = w272 at HO986 HO990 BK903 BK983 BK996 BK1001 BK1005 BK1008 BK1011 BK1015 HB hHeld ⊢
                refine pu_ HT_ 0 181 (bs 94 1) ?_
                refine pu_ HT_ 1 182 (bs 94 3) ?_
                refine pu_ HT_ 2 183 (bs 94 7) ?_
                refine pu_ HT_ 3 184 (bs 94 15) ?_
                refine pu_ HT_ 4 185 (bs 94 31) ?_
                refine pu_ HT_ 5 186 (bs 94 63) ?_
                refine on_ HT_ 6 187 (bs 94 127) (fun K hK => ?_)
                refine goes_ Try.func11 (by kernel_rfl) rfl #[.slice Ao273 t984.length co273, .slice Ao274 t988.length co274] (by rfl) rfl rfl mp_ ?_
                with_reducible refine (laws_sameInts.calls k _ _ t984 _ _ t988 true _ ?side1 ?side2 ?side3 ?side4 A182.out).mono ?_
                (case side1 => repeat (first | exact (Kd.R_reads' HO986.out).2.2 | (with_reducible refine Kd.C_alloc ?_ _) | (with_reducible refine Kd.C_drewN ?_ _) | (with_reducible refine Kd.C_drew ?_)))
                (case side2 => exact (Kd.R_reads' HO986.out).2.1)
                (case side3 => repeat (first | exact (Kd.R_reads' HO990.out).2.2 | (with_reducible refine Kd.C_alloc ?_ _) | (with_reducible refine Kd.C_drewN ?_ _) | (with_reducible refine Kd.C_drew ?_)))
                (case side4 => exact (Kd.R_reads' HO990.out).2.1)
                rintro e w' ⟨rfl, ⟨nd, rfl⟩⟩
                refine ⟨_, rfl, ?_⟩
                refine hK.out _ _ ⟨(blk_cell BK996.out 0).trans rfl, (blk_cell BK996.out 1).trans rfl, (blk_cell BK1001.out 0).trans rfl, (blk_cell BK1001.out 1).trans rfl, (blk_cell BK1005.out 0).trans rfl, (blk_cell BK1005.out 1).trans rfl, (blk_cell BK1008.out 0).trans rfl, (blk_cell BK1008.out 1).trans rfl, (blk_cell BK1011.out 0).trans rfl, (blk_cell BK1011.out 1).trans rfl, (blk_cell BK1015.out 0).trans rfl, (blk_cell BK1015.out 1).trans rfl⟩ (fun hHeld => ?_)
                clear hK K
                refine no_ 187 ?_
                refine pu_ HT_ 7 188 (bs 94 255) ?_
                refine pu_ HT_ 8 189 (bs 94 511) ?_
                refine pu_ HT_ 10 191 (bs 94 1535) ?_
                refine pu_ HT_ 11 192 (bs 94 3583) ?_
                refine pu_ HT_ 14 195 (bs 94 19967) ?_
                refine pu_ HT_ 15 196 (bs 94 52735) ?_
                refine ta12_ HT_ HW_ 9 190 (bs 94 53247) hHeld ?_
                refine ta12_ HT_ HW_ 13 194 (bs 94 61439) hHeld ?_
                refine on_ HT_ 12 193 (bs 94 65535) (fun K hK => ?_)
                refine goes_ Try.func32 (by kernel_rfl) rfl #[.agg #[.int .i64 t992, .int .i64 t993], .int .i64 t994, .int .i64 t995] (by rfl) rfl rfl mp_ ?_
                with_reducible refine (impl_IsCertificate.calls t992 t993 t994 t995 t1018 _ A184.out).mono ?_
                rintro e w275 ⟨rfl, hb⟩
                refine ⟨_, rfl, ?_⟩
                replace HO986 := Aside0.mk (Kd.R_below (rv_ HO986) hb)
                replace HO990 := Aside0.mk (Kd.R_below (rv_ HO990) hb)
                replace BK903 := kbl_ BK903 hb
                replace BK983 := kbl_ BK983 hb
                replace BK996 := kbl_ BK996 hb
                replace BK1001 := kbl_ BK1001 hb
                replace BK1005 := kbl_ BK1005 hb
                replace BK1008 := kbl_ BK1008 hb
                replace BK1011 := kbl_ BK1011 hb
                replace BK1015 := kbl_ BK1015 hb
                replace HB := Aside0.mk (below_step (bv8_ HB GE903 GE983 GE996 GE1001 GE1005 GE1008 GE1011 GE1015) hb)
                (try clear hb)
                (try clear hb2)
                (try clear hk)
                (try clear hi)
                refine hK.out _ _ ⟨(blk_cell BK996.out 0).trans rfl, (blk_cell BK996.out 1).trans rfl, (blk_cell BK1001.out 0).trans rfl, (blk_cell BK1001.out 1).trans rfl, (blk_cell BK1005.out 0).trans rfl, (blk_cell BK1005.out 1).trans rfl, (blk_cell BK1008.out 0).trans rfl, (blk_cell BK1008.out 1).trans rfl, (blk_cell BK1011.out 0).trans rfl, (blk_cell BK1011.out 1).trans rfl, (blk_cell BK1015.out 0).trans rfl, (blk_cell BK1015.out 1).trans rfl⟩ (fun hHeld => ?_)
                clear hK K
                refine no_ 193 ?_
                refine on_ HT_ 16 197 (bs 94 131071) (fun K hK => ?_)
                refine goes_ Try.func47 (by kernel_rfl) rfl #[.agg #[.int .i64 t992, .int .i64 t993], .int .i64 t994, .int .i64 t995] (by rfl) rfl rfl mp_ ?_
                with_reducible refine (spec_IsCertificate.calls k t992 t993 t994 t995 t1019 _ A185.out).mono ?_
                rintro e w276 ⟨rfl, hb⟩
                refine ⟨_, rfl, ?_⟩
                replace HO986 := Aside0.mk (Kd.R_below (rv_ HO986) hb)
                replace HO990 := Aside0.mk (Kd.R_below (rv_ HO990) hb)
                replace BK903 := kbl_ BK903 hb
                replace BK983 := kbl_ BK983 hb
                replace BK996 := kbl_ BK996 hb
                replace BK1001 := kbl_ BK1001 hb
                replace BK1005 := kbl_ BK1005 hb
                replace BK1008 := kbl_ BK1008 hb
                replace BK1011 := kbl_ BK1011 hb
                replace BK1015 := kbl_ BK1015 hb
                replace HB := Aside0.mk (below_step (bv8_ HB GE903 GE983 GE996 GE1001 GE1005 GE1008 GE1011 GE1015) hb)
                (try clear hb)
                (try clear hb2)
                (try clear hk)
                (try clear hi)
                refine hK.out _ _ ⟨(blk_cell BK996.out 0).trans rfl, (blk_cell BK996.out 1).trans rfl, (blk_cell BK1001.out 0).trans rfl, (blk_cell BK1001.out 1).trans rfl, (blk_cell BK1005.out 0).trans rfl, (blk_cell BK1005.out 1).trans rfl, (blk_cell BK1008.out 0).trans rfl, (blk_cell BK1008.out 1).trans rfl, (blk_cell BK1011.out 0).trans rfl, (blk_cell BK1011.out 1).trans rfl, (blk_cell BK1015.out 0).trans rfl, (blk_cell BK1015.out 1).trans rfl⟩ (fun hHeld => ?_)
                clear hK K
                refine no_ 197 ?_
                refine pu_ HT_ 17 198 (bs 94 262143) ?_
                refine pu_ HT_ 18 199 (bs 94 524287) ?_
                refine pu_ HT_ 19 200 (bs 94 1048575) ?_
                refine pu_ HT_ 21 202 (bs 94 3145727) ?_
                refine pu_ HT_ 22 203 (bs 94 7340031) ?_
                refine pu_ HT_ 25 206 (bs 94 40894463) ?_
                refine pu_ HT_ 26 207 (bs 94 108003327) ?_
                refine ta12_ HT_ HW_ 20 201 (bs 94 109051903) hHeld ?_
                refine ta12_ HT_ HW_ 24 205 (bs 94 125829119) hHeld ?_
                refine on_ HT_ 23 204 (bs 94 134217727) (fun K hK => ?_)
                refine goes_ Try.func37 (by kernel_rfl) rfl #[.agg #[.int .i64 t997, .int .i64 t998], .int .i64 t999, .int .i64 t1000] (by rfl) rfl rfl mp_ ?_
                with_reducible refine (impl_IsSensitiveBlock.calls t997 t998 t999 t1000 t1020 _ A187.out).mono ?_
                rintro e w277 ⟨rfl, hb⟩
                refine ⟨_, rfl, ?_⟩
                replace HO986 := Aside0.mk (Kd.R_below (rv_ HO986) hb)
                replace HO990 := Aside0.mk (Kd.R_below (rv_ HO990) hb)
                replace BK903 := kbl_ BK903 hb
                replace BK983 := kbl_ BK983 hb
                replace BK996 := kbl_ BK996 hb
                replace BK1001 := kbl_ BK1001 hb
                replace BK1005 := kbl_ BK1005 hb
                replace BK1008 := kbl_ BK1008 hb
                replace BK1011 := kbl_ BK1011 hb
                replace BK1015 := kbl_ BK1015 hb
                replace HB := Aside0.mk (below_step (bv8_ HB GE903 GE983 GE996 GE1001 GE1005 GE1008 GE1011 GE1015) hb)
                (try clear hb)
                (try clear hb2)
                (try clear hk)
                (try clear hi)
                refine hK.out _ _ ⟨(blk_cell BK996.out 0).trans rfl, (blk_cell BK996.out 1).trans rfl, (blk_cell BK1001.out 0).trans rfl, (blk_cell BK1001.out 1).trans rfl, (blk_cell BK1005.out 0).trans rfl, (blk_cell BK1005.out 1).trans rfl, (blk_cell BK1008.out 0).trans rfl, (blk_cell BK1008.out 1).trans rfl, (blk_cell BK1011.out 0).trans rfl, (blk_cell BK1011.out 1).trans rfl, (blk_cell BK1015.out 0).trans rfl, (blk_cell BK1015.out 1).trans rfl⟩ (fun hHeld => ?_)
                clear hK K
                refine no_ 204 ?_
                refine on_ HT_ 27 208 (bs 94 268435455) (fun K hK => ?_)
                refine goes_ Try.func48 (by kernel_rfl) rfl #[.agg #[.int .i64 t997, .int .i64 t998], .int .i64 t999, .int .i64 t1000] (by rfl) rfl rfl mp_ ?_
                with_reducible refine (spec_IsSensitiveBlock.calls t997 t998 t999 t1000 t1021 _ A188.out).mono ?_
                rintro e w278 ⟨rfl, hb⟩
                refine ⟨_, rfl, ?_⟩
                replace HO986 := Aside0.mk (Kd.R_below (rv_ HO986) hb)
                replace HO990 := Aside0.mk (Kd.R_below (rv_ HO990) hb)
                replace BK903 := kbl_ BK903 hb
                replace BK983 := kbl_ BK983 hb
                replace BK996 := kbl_ BK996 hb
                replace BK1001 := kbl_ BK1001 hb
                replace BK1005 := kbl_ BK1005 hb
                replace BK1008 := kbl_ BK1008 hb
                replace BK1011 := kbl_ BK1011 hb
                replace BK1015 := kbl_ BK1015 hb
                replace HB := Aside0.mk (below_step (bv8_ HB GE903 GE983 GE996 GE1001 GE1005 GE1008 GE1011 GE1015) hb)
                (try clear hb)
                (try clear hb2)
                (try clear hk)
                (try clear hi)
                refine hK.out _ _ ⟨(blk_cell BK996.out 0).trans rfl, (blk_cell BK996.out 1).trans rfl, (blk_cell BK1001.out 0).trans rfl, (blk_cell BK1001.out 1).trans rfl, (blk_cell BK1005.out 0).trans rfl, (blk_cell BK1005.out 1).trans rfl, (blk_cell BK1008.out 0).trans rfl, (blk_cell BK1008.out 1).trans rfl, (blk_cell BK1011.out 0).trans rfl, (blk_cell BK1011.out 1).trans rfl, (blk_cell BK1015.out 0).trans rfl, (blk_cell BK1015.out 1).trans rfl⟩ (fun hHeld => ?_)
                clear hK K
                refine no_ 208 ?_
                refine pu_ HT_ 28 209 (bs 94 536870911) ?_
                refine pu_ HT_ 29 210 (bs 94 1073741823) ?_
                refine pu_ HT_ 30 211 (bs 94 2147483647) ?_
                refine pu_ HT_ 32 213 (bs 94 6442450943) ?_
                refine pu_ HT_ 35 216 (bs 94 40802189311) ?_
                refine ta12_ HT_ HW_ 31 212 (bs 94 42949672959) hHeld ?_
                refine ta12_ HT_ HW_ 34 215 (bs 94 60129542143) hHeld ?_
                refine on_ HT_ 33 214 (bs 94 68719476735) (fun K hK => ?_)
                refine goes_ Try.func34 (by kernel_rfl) rfl #[.agg #[.int .i64 t1002, .int .i64 t1003], .int .i64 t1004] (by rfl) rfl rfl mp_ ?_
                with_reducible refine (impl_CertificateOf.calls k t1002 t1003 t1004 t1022 _ A190.out).mono ?_
                rintro e w279 ⟨rfl, hb⟩
                refine ⟨_, rfl, ?_⟩
                replace HO986 := Aside0.mk (Kd.R_below (rv_ HO986) hb)
                replace HO990 := Aside0.mk (Kd.R_below (rv_ HO990) hb)
                replace BK903 := kbl_ BK903 hb
                replace BK983 := kbl_ BK983 hb
                replace BK996 := kbl_ BK996 hb
                replace BK1001 := kbl_ BK1001 hb
                replace BK1005 := kbl_ BK1005 hb
                replace BK1008 := kbl_ BK1008 hb
                replace BK1011 := kbl_ BK1011 hb
                replace BK1015 := kbl_ BK1015 hb
                replace HB := Aside0.mk (below_step (bv8_ HB GE903 GE983 GE996 GE1001 GE1005 GE1008 GE1011 GE1015) hb)
                (try clear hb)
                (try clear hb2)
                (try clear hk)
                (try clear hi)
                refine hK.out _ _ ⟨(blk_cell BK996.out 0).trans rfl, (blk_cell BK996.out 1).trans rfl, (blk_cell BK1001.out 0).trans rfl, (blk_cell BK1001.out 1).trans rfl, (blk_cell BK1005.out 0).trans rfl, (blk_cell BK1005.out 1).trans rfl, (blk_cell BK1008.out 0).trans rfl, (blk_cell BK1008.out 1).trans rfl, (blk_cell BK1011.out 0).trans rfl, (blk_cell BK1011.out 1).trans rfl, (blk_cell BK1015.out 0).trans rfl, (blk_cell BK1015.out 1).trans rfl⟩ (fun hHeld => ?_)
                clear hK K
                refine no_ 214 ?_
                refine on_ HT_ 36 217 (bs 94 137438953471) (fun K hK => ?_)
                refine goes_ Try.func49 (by kernel_rfl) rfl #[.agg #[.int .i64 t1002, .int .i64 t1003], .int .i64 t1004] (by rfl) rfl rfl mp_ ?_
                with_reducible refine (spec_CertificateOf.calls k t1002 t1003 t1004 t1023 _ A191.out).mono ?_
                rintro e w280 ⟨rfl, hb⟩
                refine ⟨_, rfl, ?_⟩
                replace HO986 := Aside0.mk (Kd.R_below (rv_ HO986) hb)
                replace HO990 := Aside0.mk (Kd.R_below (rv_ HO990) hb)
                replace BK903 := kbl_ BK903 hb
                replace BK983 := kbl_ BK983 hb
                replace BK996 := kbl_ BK996 hb
                replace BK1001 := kbl_ BK1001 hb
                replace BK1005 := kbl_ BK1005 hb
                replace BK1008 := kbl_ BK1008 hb
                replace BK1011 := kbl_ BK1011 hb
                replace BK1015 := kbl_ BK1015 hb
                replace HB := Aside0.mk (below_step (bv8_ HB GE903 GE983 GE996 GE1001 GE1005 GE1008 GE1011 GE1015) hb)
                (try clear hb)
                (try clear hb2)
                (try clear hk)
                (try clear hi)
                refine hK.out _ _ ⟨(blk_cell BK996.out 0).trans rfl, (blk_cell BK996.out 1).trans rfl, (blk_cell BK1001.out 0).trans rfl, (blk_cell BK1001.out 1).trans rfl, (blk_cell BK1005.out 0).trans rfl, (blk_cell BK1005.out 1).trans rfl, (blk_cell BK1008.out 0).trans rfl, (blk_cell BK1008.out 1).trans rfl, (blk_cell BK1011.out 0).trans rfl, (blk_cell BK1011.out 1).trans rfl, (blk_cell BK1015.out 0).trans rfl, (blk_cell BK1015.out 1).trans rfl⟩ (fun hHeld => ?_)
                clear hK K
                refine no_ 217 ?_
                refine pu_ HT_ 37 218 (bs 94 274877906943) ?_
                refine pu_ HT_ 38 219 (bs 94 549755813887) ?_
                refine pu_ HT_ 39 220 (bs 94 1099511627775) ?_
                refine ta12_ HT_ HW_ 40 221 (bs 94 2199023255551) hHeld ?_
                refine ta12_ HT_ HW_ 42 223 (bs 94 6597069766655) hHeld ?_
                refine on_ HT_ 41 222 (bs 94 8796093022207) (fun K hK => ?_)
                refine goes_ Try.func50 (by kernel_rfl) rfl #[.agg #[.int .i64 t1006, .int .i64 t1007]] (by rfl) rfl rfl mp_ ?_
                with_reducible refine (impl_BlockSensitivityOf.calls k t1006 t1007 t1024 _ A193.out).mono ?_
                rintro e w281 ⟨rfl, hb⟩
                refine ⟨_, rfl, ?_⟩
                replace HO986 := Aside0.mk (Kd.R_below (rv_ HO986) hb)
                replace HO990 := Aside0.mk (Kd.R_below (rv_ HO990) hb)
                replace BK903 := kbl_ BK903 hb
                replace BK983 := kbl_ BK983 hb
                replace BK996 := kbl_ BK996 hb
                replace BK1001 := kbl_ BK1001 hb
                replace BK1005 := kbl_ BK1005 hb
                replace BK1008 := kbl_ BK1008 hb
                replace BK1011 := kbl_ BK1011 hb
                replace BK1015 := kbl_ BK1015 hb
                replace HB := Aside0.mk (below_step (bv8_ HB GE903 GE983 GE996 GE1001 GE1005 GE1008 GE1011 GE1015) hb)
                (try clear hb)
                (try clear hb2)
                (try clear hk)
                (try clear hi)
                refine hK.out _ _ ⟨(blk_cell BK996.out 0).trans rfl, (blk_cell BK996.out 1).trans rfl, (blk_cell BK1001.out 0).trans rfl, (blk_cell BK1001.out 1).trans rfl, (blk_cell BK1005.out 0).trans rfl, (blk_cell BK1005.out 1).trans rfl, (blk_cell BK1008.out 0).trans rfl, (blk_cell BK1008.out 1).trans rfl, (blk_cell BK1011.out 0).trans rfl, (blk_cell BK1011.out 1).trans rfl, (blk_cell BK1015.out 0).trans rfl, (blk_cell BK1015.out 1).trans rfl⟩ (fun hHeld => ?_)
                clear hK K
                refine no_ 222 ?_
                refine on_ HT_ 43 224 (bs 94 17592186044415) (fun K hK => ?_)
                refine goes_ Try.func51 (by kernel_rfl) rfl #[.agg #[.int .i64 t1006, .int .i64 t1007]] (by rfl) rfl rfl mp_ ?_
                with_reducible refine (spec_BlockSensitivityOf.calls k t1006 t1007 t1025 _ A194.out).mono ?_
                rintro e w282 ⟨rfl, hb⟩
                refine ⟨_, rfl, ?_⟩
                replace HO986 := Aside0.mk (Kd.R_below (rv_ HO986) hb)
                replace HO990 := Aside0.mk (Kd.R_below (rv_ HO990) hb)
                replace BK903 := kbl_ BK903 hb
                replace BK983 := kbl_ BK983 hb
                replace BK996 := kbl_ BK996 hb
                replace BK1001 := kbl_ BK1001 hb
                replace BK1005 := kbl_ BK1005 hb
                replace BK1008 := kbl_ BK1008 hb
                replace BK1011 := kbl_ BK1011 hb
                replace BK1015 := kbl_ BK1015 hb
                replace HB := Aside0.mk (below_step (bv8_ HB GE903 GE983 GE996 GE1001 GE1005 GE1008 GE1011 GE1015) hb)
                (try clear hb)
                (try clear hb2)
                (try clear hk)
                (try clear hi)
                refine hK.out _ _ ⟨(blk_cell BK996.out 0).trans rfl, (blk_cell BK996.out 1).trans rfl, (blk_cell BK1001.out 0).trans rfl, (blk_cell BK1001.out 1).trans rfl, (blk_cell BK1005.out 0).trans rfl, (blk_cell BK1005.out 1).trans rfl, (blk_cell BK1008.out 0).trans rfl, (blk_cell BK1008.out 1).trans rfl, (blk_cell BK1011.out 0).trans rfl, (blk_cell BK1011.out 1).trans rfl, (blk_cell BK1015.out 0).trans rfl, (blk_cell BK1015.out 1).trans rfl⟩ (fun hHeld => ?_)
                clear hK K
                refine no_ 224 ?_
                refine pu_ HT_ 44 225 (bs 94 35184372088831) ?_
                refine pu_ HT_ 45 226 (bs 94 70368744177663) ?_
                refine pu_ HT_ 46 227 (bs 94 140737488355327) ?_
                refine ta12_ HT_ HW_ 47 228 (bs 94 281474976710655) hHeld ?_
                refine ta12_ HT_ HW_ 49 230 (bs 94 844424930131967) hHeld ?_
                refine on_ HT_ 48 229 (bs 94 1125899906842623) (fun K hK => ?_)
                refine goes_ Try.func52 (by kernel_rfl) rfl #[.agg #[.int .i64 t1006, .int .i64 t1007]] (by rfl) rfl rfl mp_ ?_
                with_reducible refine (impl_SensitivityOf.calls k t1006 t1007 t1026 _ A196.out).mono ?_
                rintro e w283 ⟨rfl, hb⟩
                refine ⟨_, rfl, ?_⟩
                replace HO986 := Aside0.mk (Kd.R_below (rv_ HO986) hb)
                replace HO990 := Aside0.mk (Kd.R_below (rv_ HO990) hb)
                replace BK903 := kbl_ BK903 hb
                replace BK983 := kbl_ BK983 hb
                replace BK996 := kbl_ BK996 hb
                replace BK1001 := kbl_ BK1001 hb
                replace BK1005 := kbl_ BK1005 hb
                replace BK1008 := kbl_ BK1008 hb
                replace BK1011 := kbl_ BK1011 hb
                replace BK1015 := kbl_ BK1015 hb
                replace HB := Aside0.mk (below_step (bv8_ HB GE903 GE983 GE996 GE1001 GE1005 GE1008 GE1011 GE1015) hb)
                (try clear hb)
                (try clear hb2)
                (try clear hk)
                (try clear hi)
                refine hK.out _ _ ⟨(blk_cell BK996.out 0).trans rfl, (blk_cell BK996.out 1).trans rfl, (blk_cell BK1001.out 0).trans rfl, (blk_cell BK1001.out 1).trans rfl, (blk_cell BK1005.out 0).trans rfl, (blk_cell BK1005.out 1).trans rfl, (blk_cell BK1008.out 0).trans rfl, (blk_cell BK1008.out 1).trans rfl, (blk_cell BK1011.out 0).trans rfl, (blk_cell BK1011.out 1).trans rfl, (blk_cell BK1015.out 0).trans rfl, (blk_cell BK1015.out 1).trans rfl⟩ (fun hHeld => ?_)
                clear hK K
                refine no_ 229 ?_
                refine on_ HT_ 50 231 (bs 94 2251799813685247) (fun K hK => ?_)
                refine goes_ Try.func53 (by kernel_rfl) rfl #[.agg #[.int .i64 t1006, .int .i64 t1007]] (by rfl) rfl rfl mp_ ?_
                with_reducible refine (spec_SensitivityOf.calls k t1006 t1007 t1027 _ A197.out).mono ?_
                rintro e w284 ⟨rfl, hb⟩
                refine ⟨_, rfl, ?_⟩
                replace HO986 := Aside0.mk (Kd.R_below (rv_ HO986) hb)
                replace HO990 := Aside0.mk (Kd.R_below (rv_ HO990) hb)
                replace BK903 := kbl_ BK903 hb
                replace BK983 := kbl_ BK983 hb
                replace BK996 := kbl_ BK996 hb
                replace BK1001 := kbl_ BK1001 hb
                replace BK1005 := kbl_ BK1005 hb
                replace BK1008 := kbl_ BK1008 hb
                replace BK1011 := kbl_ BK1011 hb
                replace BK1015 := kbl_ BK1015 hb
                replace HB := Aside0.mk (below_step (bv8_ HB GE903 GE983 GE996 GE1001 GE1005 GE1008 GE1011 GE1015) hb)
                (try clear hb)
                (try clear hb2)
                (try clear hk)
                (try clear hi)
                refine hK.out _ _ ⟨(blk_cell BK996.out 0).trans rfl, (blk_cell BK996.out 1).trans rfl, (blk_cell BK1001.out 0).trans rfl, (blk_cell BK1001.out 1).trans rfl, (blk_cell BK1005.out 0).trans rfl, (blk_cell BK1005.out 1).trans rfl, (blk_cell BK1008.out 0).trans rfl, (blk_cell BK1008.out 1).trans rfl, (blk_cell BK1011.out 0).trans rfl, (blk_cell BK1011.out 1).trans rfl, (blk_cell BK1015.out 0).trans rfl, (blk_cell BK1015.out 1).trans rfl⟩ (fun hHeld => ?_)
                clear hK K
                refine no_ 231 ?_
                refine pu_ HT_ 51 232 (bs 94 4503599627370495) ?_
                refine pu_ HT_ 52 233 (bs 94 9007199254740991) ?_
                refine pu_ HT_ 53 234 (bs 94 18014398509481983) ?_
                refine pu_ HT_ 54 235 (bs 94 36028797018963967) ?_
                refine ta12_ HT_ HW_ 55 236 (bs 94 72057594037927935) hHeld ?_
                refine on_ HT_ 56 237 (bs 94 144115188075855871) (fun K hK => ?_)
                refine goes_ Try.func54 (by kernel_rfl) rfl #[.agg #[.int .i64 t1006, .int .i64 t1007]] (by rfl) rfl rfl mp_ ?_
                with_reducible refine (spec_SensitiveEdges.calls k t1006 t1007 t1028 _ A199.out).mono ?_
                rintro e w285 ⟨rfl, hb⟩
                refine ⟨_, rfl, ?_⟩
                replace HO986 := Aside0.mk (Kd.R_below (rv_ HO986) hb)
                replace HO990 := Aside0.mk (Kd.R_below (rv_ HO990) hb)
                replace BK903 := kbl_ BK903 hb
                replace BK983 := kbl_ BK983 hb
                replace BK996 := kbl_ BK996 hb
                replace BK1001 := kbl_ BK1001 hb
                replace BK1005 := kbl_ BK1005 hb
                replace BK1008 := kbl_ BK1008 hb
                replace BK1011 := kbl_ BK1011 hb
                replace BK1015 := kbl_ BK1015 hb
                replace HB := Aside0.mk (below_step (bv8_ HB GE903 GE983 GE996 GE1001 GE1005 GE1008 GE1011 GE1015) hb)
                (try clear hb)
                (try clear hb2)
                (try clear hk)
                (try clear hi)
                refine hK.out _ _ ⟨(blk_cell BK996.out 0).trans rfl, (blk_cell BK996.out 1).trans rfl, (blk_cell BK1001.out 0).trans rfl, (blk_cell BK1001.out 1).trans rfl, (blk_cell BK1005.out 0).trans rfl, (blk_cell BK1005.out 1).trans rfl, (blk_cell BK1008.out 0).trans rfl, (blk_cell BK1008.out 1).trans rfl, (blk_cell BK1011.out 0).trans rfl, (blk_cell BK1011.out 1).trans rfl, (blk_cell BK1015.out 0).trans rfl, (blk_cell BK1015.out 1).trans rfl⟩ (fun hHeld => ?_)
                clear hK K
                refine no_ 237 ?_
                refine pu_ HT_ 57 238 (bs 94 288230376151711743) ?_
                refine pu_ HT_ 58 239 (bs 94 576460752303423487) ?_
                refine pu_ HT_ 59 240 (bs 94 1152921504606846975) ?_
                refine ta12_ HT_ HW_ 60 241 (bs 94 2305843009213693951) hHeld ?_
                refine ta12_ HT_ HW_ 62 243 (bs 94 6917529027641081855) hHeld ?_
                refine on_ HT_ 61 242 (bs 94 9223372036854775807) (fun K hK => ?_)
                refine goes_ Try.func36 (by kernel_rfl) rfl #[.agg #[.int .i64 t1009, .int .i64 t1010]] (by rfl) rfl rfl mp_ ?_
                with_reducible refine (impl_MeetingOf.calls k t1009 t1010 t1029 _ A201.out).mono ?_
                rintro e w286 ⟨rfl, hb⟩
                refine ⟨_, rfl, ?_⟩
                replace HO986 := Aside0.mk (Kd.R_below (rv_ HO986) hb)
                replace HO990 := Aside0.mk (Kd.R_below (rv_ HO990) hb)
                replace BK903 := kbl_ BK903 hb
                replace BK983 := kbl_ BK983 hb
                replace BK996 := kbl_ BK996 hb
                replace BK1001 := kbl_ BK1001 hb
                replace BK1005 := kbl_ BK1005 hb
                replace BK1008 := kbl_ BK1008 hb
                replace BK1011 := kbl_ BK1011 hb
                replace BK1015 := kbl_ BK1015 hb
                replace HB := Aside0.mk (below_step (bv8_ HB GE903 GE983 GE996 GE1001 GE1005 GE1008 GE1011 GE1015) hb)
                (try clear hb)
                (try clear hb2)
                (try clear hk)
                (try clear hi)
                refine hK.out _ _ ⟨(blk_cell BK996.out 0).trans rfl, (blk_cell BK996.out 1).trans rfl, (blk_cell BK1001.out 0).trans rfl, (blk_cell BK1001.out 1).trans rfl, (blk_cell BK1005.out 0).trans rfl, (blk_cell BK1005.out 1).trans rfl, (blk_cell BK1008.out 0).trans rfl, (blk_cell BK1008.out 1).trans rfl, (blk_cell BK1011.out 0).trans rfl, (blk_cell BK1011.out 1).trans rfl, (blk_cell BK1015.out 0).trans rfl, (blk_cell BK1015.out 1).trans rfl⟩ (fun hHeld => ?_)
                clear hK K
                refine no_ 242 ?_
                refine on_ HT_ 63 244 (bs 94 18446744073709551615) (fun K hK => ?_)
                refine goes_ Try.func55 (by kernel_rfl) rfl #[.agg #[.int .i64 t1009, .int .i64 t1010]] (by rfl) rfl rfl mp_ ?_
                with_reducible refine (spec_MeetingOf.calls k t1009 t1010 t1030 _ A202.out).mono ?_
                rintro e w287 ⟨rfl, hb⟩
                refine ⟨_, rfl, ?_⟩
                replace HO986 := Aside0.mk (Kd.R_below (rv_ HO986) hb)
                replace HO990 := Aside0.mk (Kd.R_below (rv_ HO990) hb)
                replace BK903 := kbl_ BK903 hb
                replace BK983 := kbl_ BK983 hb
                replace BK996 := kbl_ BK996 hb
                replace BK1001 := kbl_ BK1001 hb
                replace BK1005 := kbl_ BK1005 hb
                replace BK1008 := kbl_ BK1008 hb
                replace BK1011 := kbl_ BK1011 hb
                replace BK1015 := kbl_ BK1015 hb
                replace HB := Aside0.mk (below_step (bv8_ HB GE903 GE983 GE996 GE1001 GE1005 GE1008 GE1011 GE1015) hb)
                (try clear hb)
                (try clear hb2)
                (try clear hk)
                (try clear hi)
                refine hK.out _ _ ⟨(blk_cell BK996.out 0).trans rfl, (blk_cell BK996.out 1).trans rfl, (blk_cell BK1001.out 0).trans rfl, (blk_cell BK1001.out 1).trans rfl, (blk_cell BK1005.out 0).trans rfl, (blk_cell BK1005.out 1).trans rfl, (blk_cell BK1008.out 0).trans rfl, (blk_cell BK1008.out 1).trans rfl, (blk_cell BK1011.out 0).trans rfl, (blk_cell BK1011.out 1).trans rfl, (blk_cell BK1015.out 0).trans rfl, (blk_cell BK1015.out 1).trans rfl⟩ (fun hHeld => ?_)
                clear hK K
                refine no_ 244 ?_
                refine pu_ HT_ 64 245 (bs 94 36893488147419103231) ?_
                refine pu_ HT_ 65 246 (bs 94 73786976294838206463) ?_
                refine pu_ HT_ 66 247 (bs 94 147573952589676412927) ?_
                refine pu_ HT_ 68 249 (bs 94 442721857769029238783) ?_
                refine pu_ HT_ 71 252 (bs 94 2803905099203851845631) ?_
                refine ta12_ HT_ HW_ 67 248 (bs 94 2951479051793528258559) hHeld ?_
                refine ta12_ HT_ HW_ 70 251 (bs 94 4132070672510939561983) hHeld ?_
                refine on_ HT_ 69 250 (bs 94 4722366482869645213695) (fun K hK => ?_)
                refine goes_ Try.func29 (by kernel_rfl) rfl #[.agg #[.int .i64 t1012, .int .i64 t1013], .int .i64 t1014] (by rfl) rfl rfl mp_ ?_
                with_reducible refine (impl_BlockSensitivityAt.calls k t1012 t1013 t1014 t1031 _ A204.out).mono ?_
                rintro e w288 ⟨rfl, hb⟩
                refine ⟨_, rfl, ?_⟩
                replace HO986 := Aside0.mk (Kd.R_below (rv_ HO986) hb)
                replace HO990 := Aside0.mk (Kd.R_below (rv_ HO990) hb)
                replace BK903 := kbl_ BK903 hb
                replace BK983 := kbl_ BK983 hb
                replace BK996 := kbl_ BK996 hb
                replace BK1001 := kbl_ BK1001 hb
                replace BK1005 := kbl_ BK1005 hb
                replace BK1008 := kbl_ BK1008 hb
                replace BK1011 := kbl_ BK1011 hb
                replace BK1015 := kbl_ BK1015 hb
                replace HB := Aside0.mk (below_step (bv8_ HB GE903 GE983 GE996 GE1001 GE1005 GE1008 GE1011 GE1015) hb)
                (try clear hb)
                (try clear hb2)
                (try clear hk)
                (try clear hi)
                refine hK.out _ _ ⟨(blk_cell BK996.out 0).trans rfl, (blk_cell BK996.out 1).trans rfl, (blk_cell BK1001.out 0).trans rfl, (blk_cell BK1001.out 1).trans rfl, (blk_cell BK1005.out 0).trans rfl, (blk_cell BK1005.out 1).trans rfl, (blk_cell BK1008.out 0).trans rfl, (blk_cell BK1008.out 1).trans rfl, (blk_cell BK1011.out 0).trans rfl, (blk_cell BK1011.out 1).trans rfl, (blk_cell BK1015.out 0).trans rfl, (blk_cell BK1015.out 1).trans rfl⟩ (fun hHeld => ?_)
                clear hK K
                refine no_ 250 ?_
                refine on_ HT_ 72 253 (bs 94 9444732965739290427391) (fun K hK => ?_)
                refine goes_ Try.func56 (by kernel_rfl) rfl #[.agg #[.int .i64 t1012, .int .i64 t1013], .int .i64 t1014] (by rfl) rfl rfl mp_ ?_
                with_reducible refine (spec_BlockSensitivityAt.calls k t1012 t1013 t1014 t1032 _ A205.out).mono ?_
                rintro e w289 ⟨rfl, hb⟩
                refine ⟨_, rfl, ?_⟩
                replace HO986 := Aside0.mk (Kd.R_below (rv_ HO986) hb)
                replace HO990 := Aside0.mk (Kd.R_below (rv_ HO990) hb)
                replace BK903 := kbl_ BK903 hb
                replace BK983 := kbl_ BK983 hb
                replace BK996 := kbl_ BK996 hb
                replace BK1001 := kbl_ BK1001 hb
                replace BK1005 := kbl_ BK1005 hb
                replace BK1008 := kbl_ BK1008 hb
                replace BK1011 := kbl_ BK1011 hb
                replace BK1015 := kbl_ BK1015 hb
                replace HB := Aside0.mk (below_step (bv8_ HB GE903 GE983 GE996 GE1001 GE1005 GE1008 GE1011 GE1015) hb)
                (try clear hb)
                (try clear hb2)
                (try clear hk)
                (try clear hi)
                refine hK.out _ _ ⟨(blk_cell BK996.out 0).trans rfl, (blk_cell BK996.out 1).trans rfl, (blk_cell BK1001.out 0).trans rfl, (blk_cell BK1001.out 1).trans rfl, (blk_cell BK1005.out 0).trans rfl, (blk_cell BK1005.out 1).trans rfl, (blk_cell BK1008.out 0).trans rfl, (blk_cell BK1008.out 1).trans rfl, (blk_cell BK1011.out 0).trans rfl, (blk_cell BK1011.out 1).trans rfl, (blk_cell BK1015.out 0).trans rfl, (blk_cell BK1015.out 1).trans rfl⟩ (fun hHeld => ?_)
                clear hK K
                refine no_ 253 ?_
                refine pu_ HT_ 73 254 (bs 94 18889465931478580854783) ?_
                refine pu_ HT_ 74 255 (bs 94 37778931862957161709567) ?_
                refine pu_ HT_ 75 256 (bs 94 75557863725914323419135) ?_
                refine pu_ HT_ 77 258 (bs 94 226673591177742970257407) ?_
                refine pu_ HT_ 80 261 (bs 94 1435599410792372144963583) ?_
                refine ta12_ HT_ HW_ 76 257 (bs 94 1511157274518286468382719) hHeld ?_
                refine ta12_ HT_ HW_ 79 260 (bs 94 2115620184325601055735807) hHeld ?_
                refine on_ HT_ 78 259 (bs 94 2417851639229258349412351) (fun K hK => ?_)
                refine goes_ Try.func30 (by kernel_rfl) rfl #[.agg #[.int .i64 t1012, .int .i64 t1013], .int .i64 t1014] (by rfl) rfl rfl mp_ ?_
                with_reducible refine (impl_SensitivityAt.calls k t1012 t1013 t1014 t1033 _ A207.out).mono ?_
                rintro e w290 ⟨rfl, hb⟩
                refine ⟨_, rfl, ?_⟩
                replace HO986 := Aside0.mk (Kd.R_below (rv_ HO986) hb)
                replace HO990 := Aside0.mk (Kd.R_below (rv_ HO990) hb)
                replace BK903 := kbl_ BK903 hb
                replace BK983 := kbl_ BK983 hb
                replace BK996 := kbl_ BK996 hb
                replace BK1001 := kbl_ BK1001 hb
                replace BK1005 := kbl_ BK1005 hb
                replace BK1008 := kbl_ BK1008 hb
                replace BK1011 := kbl_ BK1011 hb
                replace BK1015 := kbl_ BK1015 hb
                replace HB := Aside0.mk (below_step (bv8_ HB GE903 GE983 GE996 GE1001 GE1005 GE1008 GE1011 GE1015) hb)
                (try clear hb)
                (try clear hb2)
                (try clear hk)
                (try clear hi)
                refine hK.out _ _ ⟨(blk_cell BK996.out 0).trans rfl, (blk_cell BK996.out 1).trans rfl, (blk_cell BK1001.out 0).trans rfl, (blk_cell BK1001.out 1).trans rfl, (blk_cell BK1005.out 0).trans rfl, (blk_cell BK1005.out 1).trans rfl, (blk_cell BK1008.out 0).trans rfl, (blk_cell BK1008.out 1).trans rfl, (blk_cell BK1011.out 0).trans rfl, (blk_cell BK1011.out 1).trans rfl, (blk_cell BK1015.out 0).trans rfl, (blk_cell BK1015.out 1).trans rfl⟩ (fun hHeld => ?_)
                clear hK K
                refine no_ 259 ?_
                refine on_ HT_ 81 262 (bs 94 4835703278458516698824703) (fun K hK => ?_)
                refine goes_ Try.func57 (by kernel_rfl) rfl #[.agg #[.int .i64 t1012, .int .i64 t1013], .int .i64 t1014] (by rfl) rfl rfl mp_ ?_
                with_reducible refine (spec_SensitivityAt.calls k t1012 t1013 t1014 t1034 _ A208.out).mono ?_
                rintro e w291 ⟨rfl, hb⟩
                refine ⟨_, rfl, ?_⟩
                replace HO986 := Aside0.mk (Kd.R_below (rv_ HO986) hb)
                replace HO990 := Aside0.mk (Kd.R_below (rv_ HO990) hb)
                replace BK903 := kbl_ BK903 hb
                replace BK983 := kbl_ BK983 hb
                replace BK996 := kbl_ BK996 hb
                replace BK1001 := kbl_ BK1001 hb
                replace BK1005 := kbl_ BK1005 hb
                replace BK1008 := kbl_ BK1008 hb
                replace BK1011 := kbl_ BK1011 hb
                replace BK1015 := kbl_ BK1015 hb
                replace HB := Aside0.mk (below_step (bv8_ HB GE903 GE983 GE996 GE1001 GE1005 GE1008 GE1011 GE1015) hb)
                (try clear hb)
                (try clear hb2)
                (try clear hk)
                (try clear hi)
                refine hK.out _ _ ⟨(blk_cell BK996.out 0).trans rfl, (blk_cell BK996.out 1).trans rfl, (blk_cell BK1001.out 0).trans rfl, (blk_cell BK1001.out 1).trans rfl, (blk_cell BK1005.out 0).trans rfl, (blk_cell BK1005.out 1).trans rfl, (blk_cell BK1008.out 0).trans rfl, (blk_cell BK1008.out 1).trans rfl, (blk_cell BK1011.out 0).trans rfl, (blk_cell BK1011.out 1).trans rfl, (blk_cell BK1015.out 0).trans rfl, (blk_cell BK1015.out 1).trans rfl⟩ (fun hHeld => ?_)
                clear hK K
                refine no_ 262 ?_
                refine pu_ HT_ 82 263 (bs 94 9671406556917033397649407) ?_
                refine pu_ HT_ 83 264 (bs 94 19342813113834066795298815) ?_
                refine pu_ HT_ 84 265 (bs 94 38685626227668133590597631) ?_
                refine pu_ HT_ 86 267 (bs 94 116056878683004400771792895) ?_
                refine pu_ HT_ 89 270 (bs 94 735026898325694538221355007) ?_
                refine ta12_ HT_ HW_ 85 266 (bs 94 773712524553362671811952639) hHeld ?_
                refine ta12_ HT_ HW_ 88 269 (bs 94 1083197534374707740536733695) hHeld ?_
                refine on_ HT_ 87 268 (bs 94 1237940039285380274899124223) (fun K hK => ?_)
                refine goes_ Try.func28 (by kernel_rfl) rfl #[.agg #[.int .i64 t1012, .int .i64 t1013], .int .i64 t1014] (by rfl) rfl rfl mp_ ?_
                with_reducible refine (impl_CertificateAt.calls k t1012 t1013 t1014 t1035 _ A210.out).mono ?_
                rintro e w292 ⟨rfl, hb⟩
                refine ⟨_, rfl, ?_⟩
                replace HO986 := Aside0.mk (Kd.R_below (rv_ HO986) hb)
                replace HO990 := Aside0.mk (Kd.R_below (rv_ HO990) hb)
                replace BK903 := kbl_ BK903 hb
                replace BK983 := kbl_ BK983 hb
                replace BK996 := kbl_ BK996 hb
                replace BK1001 := kbl_ BK1001 hb
                replace BK1005 := kbl_ BK1005 hb
                replace BK1008 := kbl_ BK1008 hb
                replace BK1011 := kbl_ BK1011 hb
                replace BK1015 := kbl_ BK1015 hb
                replace HB := Aside0.mk (below_step (bv8_ HB GE903 GE983 GE996 GE1001 GE1005 GE1008 GE1011 GE1015) hb)
                (try clear hb)
                (try clear hb2)
                (try clear hk)
                (try clear hi)
                refine hK.out _ _ ⟨(blk_cell BK996.out 0).trans rfl, (blk_cell BK996.out 1).trans rfl, (blk_cell BK1001.out 0).trans rfl, (blk_cell BK1001.out 1).trans rfl, (blk_cell BK1005.out 0).trans rfl, (blk_cell BK1005.out 1).trans rfl, (blk_cell BK1008.out 0).trans rfl, (blk_cell BK1008.out 1).trans rfl, (blk_cell BK1011.out 0).trans rfl, (blk_cell BK1011.out 1).trans rfl, (blk_cell BK1015.out 0).trans rfl, (blk_cell BK1015.out 1).trans rfl⟩ (fun hHeld => ?_)
                clear hK K
                refine no_ 268 ?_
                refine on_ HT_ 90 271 (bs 94 2475880078570760549798248447) (fun K hK => ?_)
                refine goes_ Try.func58 (by kernel_rfl) rfl #[.agg #[.int .i64 t1012, .int .i64 t1013], .int .i64 t1014] (by rfl) rfl rfl mp_ ?_
                with_reducible refine (spec_CertificateAt.calls k t1012 t1013 t1014 t1036 _ A211.out).mono ?_
                rintro e w293 ⟨rfl, hb⟩
                refine ⟨_, rfl, ?_⟩
                replace HO986 := Aside0.mk (Kd.R_below (rv_ HO986) hb)
                replace HO990 := Aside0.mk (Kd.R_below (rv_ HO990) hb)
                replace BK903 := kbl_ BK903 hb
                replace BK983 := kbl_ BK983 hb
                replace BK996 := kbl_ BK996 hb
                replace BK1001 := kbl_ BK1001 hb
                replace BK1005 := kbl_ BK1005 hb
                replace BK1008 := kbl_ BK1008 hb
                replace BK1011 := kbl_ BK1011 hb
                replace BK1015 := kbl_ BK1015 hb
                replace HB := Aside0.mk (below_step (bv8_ HB GE903 GE983 GE996 GE1001 GE1005 GE1008 GE1011 GE1015) hb)
                (try clear hb)
                (try clear hb2)
                (try clear hk)
                (try clear hi)
                refine hK.out _ _ ⟨(blk_cell BK996.out 0).trans rfl, (blk_cell BK996.out 1).trans rfl, (blk_cell BK1001.out 0).trans rfl, (blk_cell BK1001.out 1).trans rfl, (blk_cell BK1005.out 0).trans rfl, (blk_cell BK1005.out 1).trans rfl, (blk_cell BK1008.out 0).trans rfl, (blk_cell BK1008.out 1).trans rfl, (blk_cell BK1011.out 0).trans rfl, (blk_cell BK1011.out 1).trans rfl, (blk_cell BK1015.out 0).trans rfl, (blk_cell BK1015.out 1).trans rfl⟩ (fun hHeld => ?_)
                clear hK K
                refine no_ 271 ?_
                refine pu_ HT_ 91 272 (bs 94 4951760157141521099596496895) ?_
                refine pu_ HT_ 92 273 (bs 94 9903520314283042199192993791) ?_
                refine pu_ HT_ 93 2 (bs 94 19807040628566084398385987583) ?_
                refine done_ (done_of HT_.out (by kernel_rfl)) ?_
                try go_wp2
                go_ret
                exact ⟨by first | rfl | (simp [errW_none, errW_some] <;> rfl) | (simp [*, errW_none, errW_some] <;> rfl), bv8_ HB GE903 GE983 GE996 GE1001 GE1005 GE1008 GE1011 GE1015⟩
               ·rw [if_neg c209] at H
                exact absurd H (by simp)
              ·rw [if_neg c206] at H
               exact absurd H (by simp)
             ·rw [if_neg c203] at H
              exact absurd H (by simp)
            ·rw [if_neg c200] at H
             exact absurd H (by simp)
           ·rw [if_neg c198] at H
            exact absurd H (by simp)
          ·rw [if_neg c195] at H
           exact absurd H (by simp)
         ·rw [if_neg c192] at H
          exact absurd H (by simp)
        ·rw [if_neg c189] at H
         exact absurd H (by simp)
       ·rw [if_neg c186] at H
        exact absurd H (by simp)
      ·replace c183 := Bool.eq_false_iff.mpr c183
       subst c183
       rw [if_neg (show ¬ (false = true) by decide)] at H
       exact absurd H (by simp)
     ·rw [if_neg c181] at H
      exact absurd H (by simp)
  ·rw [if_neg c7] at H
   exact absurd H (by simp)

/-- THE ONE PURE STATEMENT of laws_FnCertificates: yours. -/
def laws_FnCertificates.Pure : Prop := ∀ (l0 : List Int), l0.length ≤ maxLen → l0.length * 1 ≤ 140737488351232 → (∀ x ∈ l0, (Lit.int .u8 x).wf = true) → ∃ k, laws_FnCertificates.f k l0 = some true
theorem laws_FnCertificates.walk (P : laws_FnCertificates.Pure) (a0 : Option Addr) (len0 cap0 : Nat) (z0 : List Int) (w : World) (w0 : (a0 = none ∧ len0 = 0 ∧ cap0 = 0 ∧ z0 = []) ∨ ∃ x, a0 = some x ∧ len0 ≤ cap0 ∧ cap0 ≤ maxLen ∧ z0.length = cap0 ∧ (∀ i, i < z0.length → w.cell? (x.add i) = some (.int .u8 (z0.getD i 0))) ∧ ∀ n ∈ z0, (Lit.int .u8 n).wf = true) (y0 : len0 * 1 ≤ 140737488351232) :
  Calls Try.prog 4 #[.slice a0 len0 cap0] w fun e w' => e = .returned (.bool true) ∧ Below w.heap.size w w' := by
 obtain ⟨l0, rfl, hr0, hm0, hw0, hc0⟩ := ReadsInt.ofRowC w0
 obtain ⟨k, h⟩ := P l0 hm0 y0 hw0
 refine (laws_FnCertificates.calls k _ _ l0 true w (Kd.C_of_reads (d := (0 : Int)) (h1 := fun _ => rfl) hr0) hc0 h).mono ?_
 rintro e w' ⟨rfl, hd⟩
 exact ⟨rfl, hd⟩

end Go.Proofs.Ytplnffhjpmnifaa.P
