-- Out of the translation, by this session's program over the printer's; Lean checks it.
import Derived.Test.YteljkpglgjjnlaaDoorSh
import Derived.Test.YteljkpglgjjnlaaDoorQ0
import Derived.Test.YteljkpglgjjnlaaDoorQ4
import Derived.Test.YteljkpglgjjnlaaDoorQ6
import Derived.Test.YteljkpglgjjnlaaDoorQ7
import Derived.Test.YteljkpglgjjnlaaDoorQ14
namespace Go.Proofs.YteljkpglgjjnlaaDoor.P
open Go.RowKit Go.Proofs.YteljkpglgjjnlaaDoorW.PrintWords Go.Proofs.YteljkpglgjjnlaaDoorW.PrintLast Go.Proofs.YteljkpglgjjnlaaDoorW.PrintMore
attribute [local go_sem] max2_int min2_int max_two min_two max_three min_three max_four min_four
set_option linter.unusedVariables false
set_option linter.unusedSimpArgs false

/-! ### spec_l1Spoil: function 55 -/
def spec_l1Spoil.f (k : Nat) (s0_0 : List Int) (s0_1 : Int) (s0_2 : Int) (a1 : ByteArray) : Option (ByteArray × Int × Int) := if (a1.size : Int) = 0 then ((spec_l1Text.f k s0_0 s0_1 s0_2 3).bind fun bt843 => (some (bt843.1, bt843.2.1, bt843.2.2))) else ((spec_l1Below.f s0_0 s0_1 s0_2 (a1.size : Int)).bind fun bt846 => ((spec_l1Below.f s0_0 bt846.2.1 bt846.2.2 4).bind fun bt849 => (if bt849.1 = 0 then (if 0 ≤ bt846.1 then (if bt846.1 ≤ (a1.size : Int) then (if 0 ≤ (wrap64 (bt846.1 + 1)) then (if (wrap64 (bt846.1 + 1)) ≤ (a1.size : Int) then (if (a1.extract 0 (bt846.1 : Int).toNat).size + (a1.extract ((wrap64 (bt846.1 + 1)) : Int).toNat a1.size).size ≤ 9223372036854775807 then (some ((a1.extract 0 (bt846.1 : Int).toNat) ++ (a1.extract ((wrap64 (bt846.1 + 1)) : Int).toNat a1.size), bt849.2.1, bt849.2.2)) else (none)) else (none)) else (none)) else (none)) else (none)) else (if bt849.1 = 1 then (if 0 ≤ bt846.1 then (if bt846.1 ≤ (a1.size : Int) then ((spec_l1Byte.f s0_0 bt849.2.1 bt849.2.2).bind fun bt852 => ((some (([(bt852.1) % 256] : List Int) : List Int)).bind fun y855 => (if (a1.extract 0 (bt846.1 : Int).toNat).size + (strOfNums y855).size ≤ 9223372036854775807 then (if ((a1.extract 0 (bt846.1 : Int).toNat) ++ (strOfNums y855)).size + (a1.extract (bt846.1 : Int).toNat a1.size).size ≤ 9223372036854775807 then (some (((a1.extract 0 (bt846.1 : Int).toNat) ++ (strOfNums y855)) ++ (a1.extract (bt846.1 : Int).toNat a1.size), bt852.2.1, bt852.2.2)) else (none)) else (none)))) else (none)) else (none)) else (if bt849.1 = 2 then (if 0 ≤ bt846.1 then (if bt846.1 ≤ (a1.size : Int) then (some (a1.extract 0 (bt846.1 : Int).toNat, bt849.2.1, bt849.2.2)) else (none)) else (none)) else (if 0 ≤ bt846.1 then (if bt846.1 ≤ (a1.size : Int) then (if bt846.1 < (a1.size : Int) then ((spec_l1Below.f s0_0 bt849.2.1 bt849.2.2 255).bind fun bt858 => ((some (([(Go.bits .xor .i64 (wrap64 (bt a1 bt846.1)) (wrap64 (1 + bt858.1))) % 256] : List Int) : List Int)).bind fun y861 => (if (a1.extract 0 (bt846.1 : Int).toNat).size + (strOfNums y861).size ≤ 9223372036854775807 then (if 0 ≤ (wrap64 (bt846.1 + 1)) then (if (wrap64 (bt846.1 + 1)) ≤ (a1.size : Int) then (if ((a1.extract 0 (bt846.1 : Int).toNat) ++ (strOfNums y861)).size + (a1.extract ((wrap64 (bt846.1 + 1)) : Int).toNat a1.size).size ≤ 9223372036854775807 then (some (((a1.extract 0 (bt846.1 : Int).toNat) ++ (strOfNums y861)) ++ (a1.extract ((wrap64 (bt846.1 + 1)) : Int).toNat a1.size), bt858.2.1, bt858.2.2)) else (none)) else (none)) else (none)) else (none)))) else (none)) else (none)) else (none)))))))
theorem spec_l1Spoil.mono : ∀ a0 a1 a2 a3 k, LeO (spec_l1Spoil.f k a0 a1 a2 a3) (spec_l1Spoil.f (k + 1) a0 a1 a2 a3) := by
 intro a0 a1 a2 a3 k
 unfold spec_l1Spoil.f
 repeat' first
   | (with_reducible exact spec_l1Text.mono _ _ _ _ _)
   | (with_reducible exact LeO.refl _)
   | (with_reducible exact LeO.none _)
   | (with_reducible refine LeO.ite ?_ ?_)
   | (with_reducible refine LeO.bind ?_ (fun _ => ?_))
   | exact spec_l1Text.mono _ _ _ _ _
   | exact LeO.none _
   | refine LeO.ite ?_ ?_
   | refine LeO.bind ?_ (fun _ => ?_)
def spec_l1Spoil.T6 : Bool × List (List Nat × List Nat) := (true, [([], []), ([], []), ([0, 1], [0, 1]), ([], []), ([], []), ([4], [4]), ([3, 5], [3, 5]), ([2, 6], [2, 6]), ([7, 0, 1, 2, 3, 4, 5, 6, 7], [7])])
def spec_l1Spoil.B6 : List Nat := [0, 0, 3, 0, 0, 16, 56, 127, 255]
theorem spec_l1Spoil.tab6 : rtab .any (opsOf Tryd.f55 6) = spec_l1Spoil.T6 := by kernel_rfl
theorem spec_l1Spoil.bits6 : waitsOk spec_l1Spoil.T6.2 spec_l1Spoil.B6 = true := by kernel_rfl
def spec_l1Spoil.T8 : Bool × List (List Nat × List Nat) := (true, [([], []), ([], []), ([0, 1], [0, 1]), ([], []), ([3], [3]), ([4], [4]), ([5], [5]), ([6], [6]), ([2, 7], [2, 7]), ([], []), ([], []), ([9, 10], [9, 10]), ([8, 11], [8, 11]), ([12, 4, 0, 1, 2, 3, 4, 5, 6, 7, 8, 9, 10, 11, 12], [12])])
def spec_l1Spoil.B8 : List Nat := [0, 0, 3, 0, 8, 24, 56, 120, 255, 0, 0, 1536, 4095, 8191]
theorem spec_l1Spoil.tab8 : rtab .any (opsOf Tryd.f55 8) = spec_l1Spoil.T8 := by kernel_rfl
theorem spec_l1Spoil.bits8 : waitsOk spec_l1Spoil.T8.2 spec_l1Spoil.B8 = true := by kernel_rfl
def spec_l1Spoil.T11 : Bool × List (List Nat × List Nat) := (true, [([], []), ([], []), ([0, 1], [0, 1]), ([], []), ([], []), ([3, 4], [3, 4]), ([5], [5]), ([], []), ([7], [7]), ([8], [8]), ([6, 9], [6, 9]), ([10], [10]), ([11], [11]), ([12], [12]), ([2, 13], [2, 13]), ([], []), ([], []), ([16], [16]), ([15, 17], [15, 17]), ([14, 18], [14, 18]), ([19, 8, 0, 1, 2, 3, 4, 5, 6, 7, 8, 9, 10, 11, 12, 13, 14, 15, 16, 17, 18, 19], [19])])
def spec_l1Spoil.B11 : List Nat := [0, 0, 3, 0, 0, 24, 56, 0, 128, 384, 1016, 2040, 4088, 8184, 16383, 0, 0, 65536, 229376, 524287, 1048575]
theorem spec_l1Spoil.tab11 : rtab .any (opsOf Tryd.f55 11) = spec_l1Spoil.T11 := by kernel_rfl
theorem spec_l1Spoil.bits11 : waitsOk spec_l1Spoil.T11.2 spec_l1Spoil.B11 = true := by kernel_rfl
set_option maxHeartbeats 8000000 in
set_option maxRecDepth 100000 in
theorem spec_l1Spoil.calls (k : Nat) (g : Nat) (s0_0 : List Int) (s0_1 : Int) (s0_2 : Int) (a1 : ByteArray) (r1 : ByteArray) (r2 : Int) (r3 : Int) (w0 w : World) (hI : IsS75 w0 w g s0_0 s0_1 s0_2) (hB : Below w0.heap.size w0 w) (h : spec_l1Spoil.f k s0_0 s0_1 s0_2 a1 = some (r1, r2, r3)) :
  Calls Tryd.prog 55 #[.pointer (some ⟨g, 0, none⟩), .string a1] w fun e w' => e = .returned (.string r1) ∧ IsS75 w0 w' g s0_0 r2 r3 ∧ Below w0.heap.size w0 w' ∧ KeepBut w w' g none := by
 have HI0 := Aside0.mk hI
 have HK := Aside0.mk (KeepBut.refl w g none)
 have HL := Aside0.mk hB.size
 clear hI
 have HW0 := Aside0.mk hB.size
 have HB := Aside0.mk hB
 clear hB
 have H : (if (a1.size : Int) = 0 then ((spec_l1Text.f k s0_0 s0_1 s0_2 3).bind fun bt843 => (some (bt843.1, bt843.2.1, bt843.2.2))) else ((spec_l1Below.f s0_0 s0_1 s0_2 (a1.size : Int)).bind fun bt846 => ((spec_l1Below.f s0_0 bt846.2.1 bt846.2.2 4).bind fun bt849 => (if bt849.1 = 0 then (if 0 ≤ bt846.1 then (if bt846.1 ≤ (a1.size : Int) then (if 0 ≤ (wrap64 (bt846.1 + 1)) then (if (wrap64 (bt846.1 + 1)) ≤ (a1.size : Int) then (if (a1.extract 0 (bt846.1 : Int).toNat).size + (a1.extract ((wrap64 (bt846.1 + 1)) : Int).toNat a1.size).size ≤ 9223372036854775807 then (some ((a1.extract 0 (bt846.1 : Int).toNat) ++ (a1.extract ((wrap64 (bt846.1 + 1)) : Int).toNat a1.size), bt849.2.1, bt849.2.2)) else (none)) else (none)) else (none)) else (none)) else (none)) else (if bt849.1 = 1 then (if 0 ≤ bt846.1 then (if bt846.1 ≤ (a1.size : Int) then ((spec_l1Byte.f s0_0 bt849.2.1 bt849.2.2).bind fun bt852 => ((some (([(bt852.1) % 256] : List Int) : List Int)).bind fun y855 => (if (a1.extract 0 (bt846.1 : Int).toNat).size + (strOfNums y855).size ≤ 9223372036854775807 then (if ((a1.extract 0 (bt846.1 : Int).toNat) ++ (strOfNums y855)).size + (a1.extract (bt846.1 : Int).toNat a1.size).size ≤ 9223372036854775807 then (some (((a1.extract 0 (bt846.1 : Int).toNat) ++ (strOfNums y855)) ++ (a1.extract (bt846.1 : Int).toNat a1.size), bt852.2.1, bt852.2.2)) else (none)) else (none)))) else (none)) else (none)) else (if bt849.1 = 2 then (if 0 ≤ bt846.1 then (if bt846.1 ≤ (a1.size : Int) then (some (a1.extract 0 (bt846.1 : Int).toNat, bt849.2.1, bt849.2.2)) else (none)) else (none)) else (if 0 ≤ bt846.1 then (if bt846.1 ≤ (a1.size : Int) then (if bt846.1 < (a1.size : Int) then ((spec_l1Below.f s0_0 bt849.2.1 bt849.2.2 255).bind fun bt858 => ((some (([(Go.bits .xor .i64 (wrap64 (bt a1 bt846.1)) (wrap64 (1 + bt858.1))) % 256] : List Int) : List Int)).bind fun y861 => (if (a1.extract 0 (bt846.1 : Int).toNat).size + (strOfNums y861).size ≤ 9223372036854775807 then (if 0 ≤ (wrap64 (bt846.1 + 1)) then (if (wrap64 (bt846.1 + 1)) ≤ (a1.size : Int) then (if ((a1.extract 0 (bt846.1 : Int).toNat) ++ (strOfNums y861)).size + (a1.extract ((wrap64 (bt846.1 + 1)) : Int).toNat a1.size).size ≤ 9223372036854775807 then (some (((a1.extract 0 (bt846.1 : Int).toNat) ++ (strOfNums y861)) ++ (a1.extract ((wrap64 (bt846.1 + 1)) : Int).toNat a1.size), bt858.2.1, bt858.2.2)) else (none)) else (none)) else (none)) else (none)))) else (none)) else (none)) else (none)))))))) = some (r1, r2, r3) := h
 clear h
 by_cases c3 : (a1.size : Int) = 0
 ·rw [if_pos c3] at H
  have c3b0 : ((a1.size : Int) == 0) = true := beq_iff_eq.mpr c3
  have c3b1 : ((a1.size : Int) != 0) = false := bne_eq_false_iff_eq.mpr c3
  clear c3
  replace H := Option.bind_eq_some_iff.mp H
  obtain ⟨⟨t843, t844, t845⟩, A40, H⟩ := H
  replace H : (some (t843, t844, t845)) = some (r1, r2, r3) := H
  have A4 := Aside0.mk A40
  clear A40
  simp only [Option.some.injEq, Prod.mk.injEq] at H
  obtain ⟨rfl, rfl, rfl⟩ := H
  go_enter Tryd.func55, Tryd.ntmps55
  go_wp2_with (first | ((with_reducible refine gate_callee (f := 68) rfl ?_); refine gl_ 10 Tryd.func68 #[.pointer (some ⟨g, 0, none⟩), .int .i64 3] rfl mp_ ?_; (with_reducible refine (spec_l1Text.calls k g s0_0 s0_1 s0_2 3 t843 t844 t845 w0 _ ?side1 ?side2 A4.out).mono ?_); (case side1 => exact ia_ HI0); (case side2 => exact bi_ HB HI0); rintro e w5 ⟨rfl, hi, hb, hk⟩; refine ⟨_, rfl, ?_⟩; replace HK := Aside0.mk (KeepBut.trans (ka_ HK) hk (.inl rfl)); replace HB := Aside0.mk (hb); replace HI0 := Aside0.mk (hi); (try clear hb); (try clear hb2); (try clear hk); (try clear hi)))
  go_ret
  exact ⟨er_, ia_ HI0, bi_ HB HI0, ka_ HK⟩
 ·rw [if_neg c3] at H
  have c3b0 : ((a1.size : Int) == 0) = false := beq_eq_false_iff_ne.mpr c3
  have c3b1 : ((a1.size : Int) != 0) = true := bne_iff_ne.mpr c3
  replace H := Option.bind_eq_some_iff.mp H
  obtain ⟨⟨t846, t847, t848⟩, A60, H⟩ := H
  dsimp only at H
  have A6 := Aside0.mk A60
  clear A60
  replace H := Option.bind_eq_some_iff.mp H
  obtain ⟨⟨t849, t850, t851⟩, A70, H⟩ := H
  dsimp only at H
  have A7 := Aside0.mk A70
  clear A70
  by_cases c8 : t849 = 0
  ·rw [if_pos c8] at H
   have c8b0 : (t849 == 0) = true := beq_iff_eq.mpr c8
   have c8b1 : (t849 != 0) = false := bne_eq_false_iff_eq.mpr c8
   clear c8
   by_cases c9 : 0 ≤ t846
   ·rw [if_pos c9] at H
    have c9b0 := eq_true c9
    have c9b1 : decide (0 ≤ t846) = true := decide_eq_true c9
    clear c9
    by_cases c10 : t846 ≤ (a1.size : Int)
    ·rw [if_pos c10] at H
     have c10b0 := eq_true c10
     have c10b1 : decide (t846 ≤ (a1.size : Int)) = true := decide_eq_true c10
     clear c10
     obtain ⟨ji11, hji11⟩ : ∃ j_ : Int, (wrap64 (t846 + 1)) = j_ := ⟨_, rfl⟩
     replace H : (if 0 ≤ (ji11) then (if (ji11) ≤ (a1.size : Int) then (if (a1.extract 0 (t846 : Int).toNat).size + (a1.extract ((ji11) : Int).toNat a1.size).size ≤ 9223372036854775807 then (some ((a1.extract 0 (t846 : Int).toNat) ++ (a1.extract ((ji11) : Int).toNat a1.size), t850, t851)) else (none)) else (none)) else (none)) = some (r1, r2, r3) := by first | (rw [hji11] at H; exact H) | (simp only [hji11] at H ⊢; exact H)
     (try rw [hji11] at A6)
     (try rw [hji11] at A7)
     have hji11w : (IntKind.i64.wrap (t846 + 1)) = ji11 := (i64_w _).trans hji11
     by_cases c12 : 0 ≤ (ji11)
     ·rw [if_pos c12] at H
      have c12b0 := eq_true c12
      have c12b1 : decide (0 ≤ (ji11)) = true := decide_eq_true c12
      clear c12
      by_cases c13 : (ji11) ≤ (a1.size : Int)
      ·rw [if_pos c13] at H
       have c13b0 := eq_true c13
       have c13b1 : decide ((ji11) ≤ (a1.size : Int)) = true := decide_eq_true c13
       clear c13
       by_cases c14 : (a1.extract 0 (t846 : Int).toNat).size + (a1.extract ((ji11) : Int).toNat a1.size).size ≤ 9223372036854775807
       ·rw [if_pos c14] at H
        have c14b0 := eq_true c14
        have c14b1 : decide ((a1.extract 0 (t846 : Int).toNat).size + (a1.extract ((ji11) : Int).toNat a1.size).size ≤ 9223372036854775807) = true := decide_eq_true c14
        try have c14b2 : (9223372036854775807 < (a1.extract 0 (t846 : Int).toNat).size + (a1.extract ((ji11) : Int).toNat a1.size).size) = False := eq_false (Nat.not_lt.2 c14)
        have c14b3 : (9223372036854775807 < (t846 : Int).toNat + (a1.size - (ji11 : Int).toNat)) = False := by
         have h_ := c14b2
         (try simp only [ByteArray.size_append] at h_)
         have hle_ : t846 ≤ (a1.size : Int) := of_decide_eq_true (by assumption)
         have hsz_ : (a1.extract 0 (t846 : Int).toNat).size = (t846 : Int).toNat := by
          rw [ByteArray.size_extract]
          omega
         rw [hsz_] at h_
         have hsy_ : (a1.extract (ji11 : Int).toNat a1.size).size = a1.size - (ji11 : Int).toNat := by rw [ByteArray.size_extract, Nat.min_self]
         rw [hsy_] at h_
         exact h_
        simp only [Option.some.injEq, Prod.mk.injEq] at H
        obtain ⟨rfl, rfl, rfl⟩ := H
        go_enter Tryd.func55, Tryd.ntmps55
        try go_wp2_with (first | ((with_reducible refine gate_callee (f := 54) rfl ?_); refine gl_ 14 Tryd.func54 #[.pointer (some ⟨g, 0, none⟩), .int .i64 (a1.size : Int)] rfl mp_ ?_; (with_reducible refine (spec_l1Below.calls g s0_0 s0_1 s0_2 (a1.size : Int) t846 t847 t848 w0 _ ?side1 ?side2 A6.out).mono ?_); (case side1 => exact ia_ HI0); (case side2 => exact bi_ HB HI0); rintro e w15 ⟨rfl, hi, hb, hk⟩; refine ⟨_, rfl, ?_⟩; replace HK := Aside0.mk (KeepBut.trans (ka_ HK) hk (.inl rfl)); replace HB := Aside0.mk (hb); replace HI0 := Aside0.mk (hi); (try clear hb); (try clear hb2); (try clear hk); (try clear hi)) | ((with_reducible refine gate_callee (f := 54) rfl ?_); refine gl_ 16 Tryd.func54 #[.pointer (some ⟨g, 0, none⟩), .int .i64 4] rfl mp_ ?_; (with_reducible refine (spec_l1Below.calls g s0_0 t847 t848 4 t849 t850 t851 w0 _ ?side1 ?side2 A7.out).mono ?_); (case side1 => exact ia_ HI0); (case side2 => exact bi_ HB HI0); rintro e w16 ⟨rfl, hi, hb, hk⟩; refine ⟨_, rfl, ?_⟩; replace HK := Aside0.mk (KeepBut.trans (ka_ HK) hk (.inl rfl)); replace HB := Aside0.mk (hb); replace HI0 := Aside0.mk (hi); (try clear hb); (try clear hb2); (try clear hk); (try clear hi)))
        replace HI0 := Aside0.mk (IsS75.drew HI0.out)
        replace HK := Aside0.mk (keep_drew HK.out)
        replace HB := Aside0.mk (below_drew1 HB.out)
        refine start_ (n := 9) (S := fun w' => True) (ds := []) (bs 9 0) (by kernel_rfl) rfl (by kernel_rfl) trivial (fun hHeld => ?_); refine with_tabW spec_l1Spoil.tab6 spec_l1Spoil.bits6 (fun HT_ HW_ => ?_)
        generalize w16.drew = w17 at HI0 HK HB hHeld ⊢
        refine pu_ HT_ 0 19 (bs 9 1) ?_
        refine pu_ HT_ 1 20 (bs 9 3) ?_
        refine pu_ HT_ 2 21 (bs 9 7) ?_
        refine pu_ HT_ 3 22 (bs 9 15) ?_
        refine pu_ HT_ 4 23 (bs 9 31) ?_
        refine pu_ HT_ 5 24 (bs 9 63) ?_
        refine pu_ HT_ 6 25 (bs 9 127) ?_
        refine pu_ HT_ 7 26 (bs 9 255) ?_
        refine pu_ HT_ 8 4 (bs 9 511) ?_
        refine done_ (done_of HT_.out (by kernel_rfl)) ?_
        try go_wp2
        go_ret
        exact ⟨by first | rfl | (simp [errW_none, errW_some] <;> rfl) | (simp only [← hji11]; first | rfl | (simp [errW_none, errW_some] <;> rfl)) | (simp [*, errW_none, errW_some] <;> rfl), ia_ HI0, bi_ HB HI0, ka_ HK⟩
       ·rw [if_neg c14] at H
        exact absurd H (by simp)
      ·rw [if_neg c13] at H
       exact absurd H (by simp)
     ·rw [if_neg c12] at H
      exact absurd H (by simp)
    ·rw [if_neg c10] at H
     exact absurd H (by simp)
   ·rw [if_neg c9] at H
    exact absurd H (by simp)
  ·rw [if_neg c8] at H
   have c8b0 : (t849 == 0) = false := beq_eq_false_iff_ne.mpr c8
   have c8b1 : (t849 != 0) = true := bne_iff_ne.mpr c8
   by_cases c18 : t849 = 1
   ·rw [if_pos c18] at H
    have c18b0 : (t849 == 1) = true := beq_iff_eq.mpr c18
    have c18b1 : (t849 != 1) = false := bne_eq_false_iff_eq.mpr c18
    clear c18
    by_cases c19 : 0 ≤ t846
    ·rw [if_pos c19] at H
     have c19b0 := eq_true c19
     have c19b1 : decide (0 ≤ t846) = true := decide_eq_true c19
     clear c19
     by_cases c20 : t846 ≤ (a1.size : Int)
     ·rw [if_pos c20] at H
      have c20b0 := eq_true c20
      have c20b1 : decide (t846 ≤ (a1.size : Int)) = true := decide_eq_true c20
      clear c20
      replace H := Option.bind_eq_some_iff.mp H
      obtain ⟨⟨t852, t853, t854⟩, A210, H⟩ := H
      dsimp only at H
      have A21 := Aside0.mk A210
      clear A210
      obtain ⟨y855, hy855⟩ : ∃ y_ : List Int, y_ = (([(t852) % 256] : List Int)) := ⟨_, rfl⟩
      replace H : (if (a1.extract 0 (t846 : Int).toNat).size + (strOfNums y855).size ≤ 9223372036854775807 then (if ((a1.extract 0 (t846 : Int).toNat) ++ (strOfNums y855)).size + (a1.extract (t846 : Int).toNat a1.size).size ≤ 9223372036854775807 then (some (((a1.extract 0 (t846 : Int).toNat) ++ (strOfNums y855)) ++ (a1.extract (t846 : Int).toNat a1.size), t853, t854)) else (none)) else (none)) = some (r1, r2, r3) := by first | (rw [hy855]; with_reducible exact H) | (have H2_ := (Option.bind_some _ _).symm.trans H; rw [hy855]; with_reducible exact H2_) | (have H2_ := (Option.bind_some _ _).symm.trans H; with_reducible exact H2_) | with_reducible exact H | (rw [hy855]; exact H) | exact H
      have Ny855 := Aside0.mk hy855
      clear hy855
      by_cases c22 : (a1.extract 0 (t846 : Int).toNat).size + (strOfNums y855).size ≤ 9223372036854775807
      ·rw [if_pos c22] at H
       have c22b0 := eq_true c22
       have c22b1 : decide ((a1.extract 0 (t846 : Int).toNat).size + (strOfNums y855).size ≤ 9223372036854775807) = true := decide_eq_true c22
       try have c22b2 : (9223372036854775807 < (a1.extract 0 (t846 : Int).toNat).size + (strOfNums y855).size) = False := eq_false (Nat.not_lt.2 c22)
       have c22b3 : (9223372036854775807 < (t846 : Int).toNat + (strOfNums y855).size) = False := by
        have h_ := c22b2
        (try simp only [ByteArray.size_append] at h_)
        have hle_ : t846 ≤ (a1.size : Int) := of_decide_eq_true (by assumption)
        have hsz_ : (a1.extract 0 (t846 : Int).toNat).size = (t846 : Int).toNat := by
         rw [ByteArray.size_extract]
         omega
        rw [hsz_] at h_
        exact h_
       have c23b0 := eq_true (of_decide_eq_true (by first | (with_reducible assumption) | assumption) : 0 ≤ t846)
       have c24b0 := eq_true (of_decide_eq_true (by first | (with_reducible assumption) | assumption) : t846 ≤ (a1.size : Int))
       by_cases c25 : ((a1.extract 0 (t846 : Int).toNat) ++ (strOfNums y855)).size + (a1.extract (t846 : Int).toNat a1.size).size ≤ 9223372036854775807
       ·rw [if_pos c25] at H
        have c25b0 := eq_true c25
        have c25b1 : decide (((a1.extract 0 (t846 : Int).toNat) ++ (strOfNums y855)).size + (a1.extract (t846 : Int).toNat a1.size).size ≤ 9223372036854775807) = true := decide_eq_true c25
        try have c25b2 : (9223372036854775807 < ((a1.extract 0 (t846 : Int).toNat) ++ (strOfNums y855)).size + (a1.extract (t846 : Int).toNat a1.size).size) = False := eq_false (Nat.not_lt.2 c25)
        have c25b3 : (9223372036854775807 < (t846 : Int).toNat + (strOfNums y855).size + (a1.size - (t846 : Int).toNat)) = False := by
         have h_ := c25b2
         (try simp only [ByteArray.size_append] at h_)
         have hle_ : t846 ≤ (a1.size : Int) := of_decide_eq_true (by assumption)
         have hsz_ : (a1.extract 0 (t846 : Int).toNat).size = (t846 : Int).toNat := by
          rw [ByteArray.size_extract]
          omega
         rw [hsz_] at h_
         have hsy_ : (a1.extract (t846 : Int).toNat a1.size).size = a1.size - (t846 : Int).toNat := by rw [ByteArray.size_extract, Nat.min_self]
         rw [hsy_] at h_
         exact h_
        simp only [Option.some.injEq, Prod.mk.injEq] at H
        obtain ⟨rfl, rfl, rfl⟩ := H
        go_enter Tryd.func55, Tryd.ntmps55
        try go_wp2_with (first | ((with_reducible refine gate_callee (f := 54) rfl ?_); refine gl_ 14 Tryd.func54 #[.pointer (some ⟨g, 0, none⟩), .int .i64 (a1.size : Int)] rfl mp_ ?_; (with_reducible refine (spec_l1Below.calls g s0_0 s0_1 s0_2 (a1.size : Int) t846 t847 t848 w0 _ ?side1 ?side2 A6.out).mono ?_); (case side1 => exact ia_ HI0); (case side2 => exact bi_ HB HI0); rintro e w26 ⟨rfl, hi, hb, hk⟩; refine ⟨_, rfl, ?_⟩; replace HK := Aside0.mk (KeepBut.trans (ka_ HK) hk (.inl rfl)); replace HB := Aside0.mk (hb); replace HI0 := Aside0.mk (hi); (try clear hb); (try clear hb2); (try clear hk); (try clear hi)) | ((with_reducible refine gate_callee (f := 54) rfl ?_); refine gl_ 16 Tryd.func54 #[.pointer (some ⟨g, 0, none⟩), .int .i64 4] rfl mp_ ?_; (with_reducible refine (spec_l1Below.calls g s0_0 t847 t848 4 t849 t850 t851 w0 _ ?side1 ?side2 A7.out).mono ?_); (case side1 => exact ia_ HI0); (case side2 => exact bi_ HB HI0); rintro e w27 ⟨rfl, hi, hb, hk⟩; refine ⟨_, rfl, ?_⟩; replace HK := Aside0.mk (KeepBut.trans (ka_ HK) hk (.inl rfl)); replace HB := Aside0.mk (hb); replace HI0 := Aside0.mk (hi); (try clear hb); (try clear hb2); (try clear hk); (try clear hi)))
        replace HI0 := Aside0.mk (IsS75.drew HI0.out)
        replace HK := Aside0.mk (keep_drew HK.out)
        replace HB := Aside0.mk (below_drew1 HB.out)
        refine start_ (n := 14) (S := fun w' => True) (ds := []) (bs 14 0) (by kernel_rfl) rfl (by kernel_rfl) trivial (fun hHeld => ?_); refine with_tabW spec_l1Spoil.tab8 spec_l1Spoil.bits8 (fun HT_ HW_ => ?_)
        generalize w27.drew = w28 at HI0 HK HB hHeld ⊢
        refine pu_ HT_ 0 29 (bs 14 1) ?_
        refine pu_ HT_ 1 30 (bs 14 3) ?_
        refine pu_ HT_ 2 31 (bs 14 7) ?_
        refine pu_ HT_ 3 32 (bs 14 15) ?_
        refine pu_ HT_ 9 38 (bs 14 527) ?_
        refine pu_ HT_ 10 39 (bs 14 1551) ?_
        refine pu_ HT_ 11 40 (bs 14 3599) ?_
        refine on_ HT_ 4 33 (bs 14 3615) (fun K hK => ?_)
        refine goes_ Tryd.func67 (by kernel_rfl) rfl #[.pointer (some ⟨g, 0, none⟩)] (by rfl) rfl rfl mp_ ?_
        with_reducible refine (spec_l1Byte.calls g s0_0 t850 t851 t852 t853 t854 w0 _ ?side1 ?side2 A21.out).mono ?_
        (case side1 => exact ia_ HI0)
        (case side2 => exact bi_ HB HI0)
        rintro e w29 ⟨rfl, hi, hb, hk⟩
        refine ⟨_, rfl, ?_⟩
        replace HK := Aside0.mk (KeepBut.trans (ka_ HK) hk (.inl rfl))
        replace HB := Aside0.mk (hb)
        replace HI0 := Aside0.mk (hi)
        (try clear hb)
        (try clear hb2)
        (try clear hk)
        (try clear hi)
        refine hK.out _ _ trivial (fun hHeld => ?_)
        clear hK K
        refine no_ 33 ?_
        refine pu_ HT_ 5 34 (bs 14 3647) ?_
        refine on_ HT_ 6 35 (bs 14 3711) (fun K hK => ?_)
        refine Kd.R_lit_step (Kd.int .u8) _ 5 ?hg (N := 35) ?hd (xs := ([(t852) % 256] : List Int)) (inner := [.int .u8 ((t852) % 256)]) (ok := fun _ => True) (okp := fun _ => True) ?hr ?hp (fun _ hk => hk) trivial (Below.refl _ _) (Nat.le_refl _) (by simp) ?_; (case hd => rfl); (case hg => rfl); (case hr => first | (go_simp; done) | (go_simp; rfl)); (case hp => exact (Reps.one (show Kd.M (Kd.int .u8) _ _ _ ((t852) % 256) [.int .u8 ((t852) % 256)] from rfl) (Reps.none _ _)))
        intro v856 w30 ho31 hb hg_ hnew_
        clear hg_ hnew_
        (first | rw [← Ny855.out] at ho31 | (simp only [Int.reduceToNat] at ho31; rw [← Ny855.out] at ho31))
        have HO857 := Aside0.mk (Kd.R_lower ho31 (keep_size (w := w) (g := g) (row := none) (ka_ HK)))
        replace HK := Aside0.mk (KeepBut.trans (ka_ HK) (KeepBut.of_below hb g none) (.inl rfl))
        replace HB := Aside0.mk (below_step (bi_ HB HI0) hb)
        replace HI0 := Aside0.mk (IsS75.below (ia_ HI0) hb)
        clear hb ho31
        refine hK.out _ _ trivial (fun hHeld => ?_)
        clear hK K
        refine no_ 35 ?_
        refine on_ HT_ 7 36 (bs 14 3839) (fun K hK => ?_)
        have hcv32 := own_string (P := Tryd.prog) Tryd.underlying28 Tryd.underlying5 Tryd.underlying9 (Kd.own_of_R HO857.out)
        refine value_ (w1 := ?_) (v := ?_) (by rfl) rfl ?_ ?_
        rotate_left 2
        ·go_simp
         constructor
         ·rfl
         ·rfl
        clear hcv32
        refine hK.out _ _ trivial (fun hHeld => ?_)
        clear hK K
        refine no_ 36 ?_
        refine pu_ HT_ 8 37 (bs 14 4095) ?_
        refine pu_ HT_ 12 41 (bs 14 8191) ?_
        refine pu_ HT_ 13 4 (bs 14 16383) ?_
        refine done_ (done_of HT_.out (by kernel_rfl)) ?_
        try go_wp2
        go_ret
        exact ⟨er_, ia_ HI0, bi_ HB HI0, ka_ HK⟩
       ·rw [if_neg c25] at H
        exact absurd H (by simp)
      ·rw [if_neg c22] at H
       exact absurd H (by simp)
     ·rw [if_neg c20] at H
      exact absurd H (by simp)
    ·rw [if_neg c19] at H
     exact absurd H (by simp)
   ·rw [if_neg c18] at H
    have c18b0 : (t849 == 1) = false := beq_eq_false_iff_ne.mpr c18
    have c18b1 : (t849 != 1) = true := bne_iff_ne.mpr c18
    by_cases c33 : t849 = 2
    ·rw [if_pos c33] at H
     have c33b0 : (t849 == 2) = true := beq_iff_eq.mpr c33
     have c33b1 : (t849 != 2) = false := bne_eq_false_iff_eq.mpr c33
     clear c33
     by_cases c34 : 0 ≤ t846
     ·rw [if_pos c34] at H
      have c34b0 := eq_true c34
      have c34b1 : decide (0 ≤ t846) = true := decide_eq_true c34
      clear c34
      by_cases c35 : t846 ≤ (a1.size : Int)
      ·rw [if_pos c35] at H
       have c35b0 := eq_true c35
       have c35b1 : decide (t846 ≤ (a1.size : Int)) = true := decide_eq_true c35
       clear c35
       simp only [Option.some.injEq, Prod.mk.injEq] at H
       obtain ⟨rfl, rfl, rfl⟩ := H
       go_enter Tryd.func55, Tryd.ntmps55
       go_wp2_with (first | ((with_reducible refine gate_callee (f := 54) rfl ?_); refine gl_ 14 Tryd.func54 #[.pointer (some ⟨g, 0, none⟩), .int .i64 (a1.size : Int)] rfl mp_ ?_; (with_reducible refine (spec_l1Below.calls g s0_0 s0_1 s0_2 (a1.size : Int) t846 t847 t848 w0 _ ?side1 ?side2 A6.out).mono ?_); (case side1 => exact ia_ HI0); (case side2 => exact bi_ HB HI0); rintro e w36 ⟨rfl, hi, hb, hk⟩; refine ⟨_, rfl, ?_⟩; replace HK := Aside0.mk (KeepBut.trans (ka_ HK) hk (.inl rfl)); replace HB := Aside0.mk (hb); replace HI0 := Aside0.mk (hi); (try clear hb); (try clear hb2); (try clear hk); (try clear hi)) | ((with_reducible refine gate_callee (f := 54) rfl ?_); refine gl_ 16 Tryd.func54 #[.pointer (some ⟨g, 0, none⟩), .int .i64 4] rfl mp_ ?_; (with_reducible refine (spec_l1Below.calls g s0_0 t847 t848 4 t849 t850 t851 w0 _ ?side1 ?side2 A7.out).mono ?_); (case side1 => exact ia_ HI0); (case side2 => exact bi_ HB HI0); rintro e w37 ⟨rfl, hi, hb, hk⟩; refine ⟨_, rfl, ?_⟩; replace HK := Aside0.mk (KeepBut.trans (ka_ HK) hk (.inl rfl)); replace HB := Aside0.mk (hb); replace HI0 := Aside0.mk (hi); (try clear hb); (try clear hb2); (try clear hk); (try clear hi)))
       go_ret
       exact ⟨er_, ia_ HI0, bi_ HB HI0, ka_ HK⟩
      ·rw [if_neg c35] at H
       exact absurd H (by simp)
     ·rw [if_neg c34] at H
      exact absurd H (by simp)
    ·rw [if_neg c33] at H
     have c33b0 : (t849 == 2) = false := beq_eq_false_iff_ne.mpr c33
     have c33b1 : (t849 != 2) = true := bne_iff_ne.mpr c33
     by_cases c38 : 0 ≤ t846
     ·rw [if_pos c38] at H
      have c38b0 := eq_true c38
      have c38b1 : decide (0 ≤ t846) = true := decide_eq_true c38
      clear c38
      by_cases c39 : t846 ≤ (a1.size : Int)
      ·rw [if_pos c39] at H
       have c39b0 := eq_true c39
       have c39b1 : decide (t846 ≤ (a1.size : Int)) = true := decide_eq_true c39
       clear c39
       by_cases c40 : t846 < (a1.size : Int)
       ·rw [if_pos c40] at H
        have c40b0 : decide (t846 < (a1.size : Int)) = true := decide_eq_true c40
        clear c40
        replace H := Option.bind_eq_some_iff.mp H
        obtain ⟨⟨t858, t859, t860⟩, A420, H⟩ := H
        dsimp only at H
        have A42 := Aside0.mk A420
        clear A420
        obtain ⟨y861, hy861⟩ : ∃ y_ : List Int, y_ = (([(Go.bits .xor .i64 (wrap64 (bt a1 t846)) (wrap64 (1 + t858))) % 256] : List Int)) := ⟨_, rfl⟩
        replace H : (if (a1.extract 0 (t846 : Int).toNat).size + (strOfNums y861).size ≤ 9223372036854775807 then (if 0 ≤ (wrap64 (t846 + 1)) then (if (wrap64 (t846 + 1)) ≤ (a1.size : Int) then (if ((a1.extract 0 (t846 : Int).toNat) ++ (strOfNums y861)).size + (a1.extract ((wrap64 (t846 + 1)) : Int).toNat a1.size).size ≤ 9223372036854775807 then (some (((a1.extract 0 (t846 : Int).toNat) ++ (strOfNums y861)) ++ (a1.extract ((wrap64 (t846 + 1)) : Int).toNat a1.size), t859, t860)) else (none)) else (none)) else (none)) else (none)) = some (r1, r2, r3) := by first | (rw [hy861]; with_reducible exact H) | (have H2_ := (Option.bind_some _ _).symm.trans H; rw [hy861]; with_reducible exact H2_) | (have H2_ := (Option.bind_some _ _).symm.trans H; with_reducible exact H2_) | with_reducible exact H | (rw [hy861]; exact H) | exact H
        have Ny861 := Aside0.mk hy861
        clear hy861
        by_cases c43 : (a1.extract 0 (t846 : Int).toNat).size + (strOfNums y861).size ≤ 9223372036854775807
        ·rw [if_pos c43] at H
         have c43b0 := eq_true c43
         have c43b1 : decide ((a1.extract 0 (t846 : Int).toNat).size + (strOfNums y861).size ≤ 9223372036854775807) = true := decide_eq_true c43
         try have c43b2 : (9223372036854775807 < (a1.extract 0 (t846 : Int).toNat).size + (strOfNums y861).size) = False := eq_false (Nat.not_lt.2 c43)
         have c43b3 : (9223372036854775807 < (t846 : Int).toNat + (strOfNums y861).size) = False := by
          have h_ := c43b2
          (try simp only [ByteArray.size_append] at h_)
          have hle_ : t846 ≤ (a1.size : Int) := of_decide_eq_true (by assumption)
          have hsz_ : (a1.extract 0 (t846 : Int).toNat).size = (t846 : Int).toNat := by
           rw [ByteArray.size_extract]
           omega
          rw [hsz_] at h_
          exact h_
         obtain ⟨ji44, hji44⟩ : ∃ j_ : Int, (wrap64 (t846 + 1)) = j_ := ⟨_, rfl⟩
         replace H : (if 0 ≤ (ji44) then (if (ji44) ≤ (a1.size : Int) then (if ((a1.extract 0 (t846 : Int).toNat) ++ (strOfNums y861)).size + (a1.extract ((ji44) : Int).toNat a1.size).size ≤ 9223372036854775807 then (some (((a1.extract 0 (t846 : Int).toNat) ++ (strOfNums y861)) ++ (a1.extract ((ji44) : Int).toNat a1.size), t859, t860)) else (none)) else (none)) else (none)) = some (r1, r2, r3) := by first | (rw [hji44] at H; exact H) | (simp only [hji44] at H ⊢; exact H)
         (try rw [hji44] at A6)
         (try rw [hji44] at A7)
         (try rw [hji44] at A42)
         have hji44w : (IntKind.i64.wrap (t846 + 1)) = ji44 := (i64_w _).trans hji44
         by_cases c45 : 0 ≤ (ji44)
         ·rw [if_pos c45] at H
          have c45b0 := eq_true c45
          have c45b1 : decide (0 ≤ (ji44)) = true := decide_eq_true c45
          clear c45
          by_cases c46 : (ji44) ≤ (a1.size : Int)
          ·rw [if_pos c46] at H
           have c46b0 := eq_true c46
           have c46b1 : decide ((ji44) ≤ (a1.size : Int)) = true := decide_eq_true c46
           clear c46
           by_cases c47 : ((a1.extract 0 (t846 : Int).toNat) ++ (strOfNums y861)).size + (a1.extract ((ji44) : Int).toNat a1.size).size ≤ 9223372036854775807
           ·rw [if_pos c47] at H
            have c47b0 := eq_true c47
            have c47b1 : decide (((a1.extract 0 (t846 : Int).toNat) ++ (strOfNums y861)).size + (a1.extract ((ji44) : Int).toNat a1.size).size ≤ 9223372036854775807) = true := decide_eq_true c47
            try have c47b2 : (9223372036854775807 < ((a1.extract 0 (t846 : Int).toNat) ++ (strOfNums y861)).size + (a1.extract ((ji44) : Int).toNat a1.size).size) = False := eq_false (Nat.not_lt.2 c47)
            have c47b3 : (9223372036854775807 < (t846 : Int).toNat + (strOfNums y861).size + (a1.size - (ji44 : Int).toNat)) = False := by
             have h_ := c47b2
             (try simp only [ByteArray.size_append] at h_)
             have hle_ : t846 ≤ (a1.size : Int) := of_decide_eq_true (by assumption)
             have hsz_ : (a1.extract 0 (t846 : Int).toNat).size = (t846 : Int).toNat := by
              rw [ByteArray.size_extract]
              omega
             rw [hsz_] at h_
             have hsy_ : (a1.extract (ji44 : Int).toNat a1.size).size = a1.size - (ji44 : Int).toNat := by rw [ByteArray.size_extract, Nat.min_self]
             rw [hsy_] at h_
             exact h_
            simp only [Option.some.injEq, Prod.mk.injEq] at H
            obtain ⟨rfl, rfl, rfl⟩ := H
            go_enter Tryd.func55, Tryd.ntmps55
            try go_wp2_with (first | ((with_reducible refine gate_callee (f := 54) rfl ?_); refine gl_ 14 Tryd.func54 #[.pointer (some ⟨g, 0, none⟩), .int .i64 (a1.size : Int)] rfl mp_ ?_; (with_reducible refine (spec_l1Below.calls g s0_0 s0_1 s0_2 (a1.size : Int) t846 t847 t848 w0 _ ?side1 ?side2 A6.out).mono ?_); (case side1 => exact ia_ HI0); (case side2 => exact bi_ HB HI0); rintro e w48 ⟨rfl, hi, hb, hk⟩; refine ⟨_, rfl, ?_⟩; replace HK := Aside0.mk (KeepBut.trans (ka_ HK) hk (.inl rfl)); replace HB := Aside0.mk (hb); replace HI0 := Aside0.mk (hi); (try clear hb); (try clear hb2); (try clear hk); (try clear hi)) | ((with_reducible refine gate_callee (f := 54) rfl ?_); refine gl_ 16 Tryd.func54 #[.pointer (some ⟨g, 0, none⟩), .int .i64 4] rfl mp_ ?_; (with_reducible refine (spec_l1Below.calls g s0_0 t847 t848 4 t849 t850 t851 w0 _ ?side1 ?side2 A7.out).mono ?_); (case side1 => exact ia_ HI0); (case side2 => exact bi_ HB HI0); rintro e w49 ⟨rfl, hi, hb, hk⟩; refine ⟨_, rfl, ?_⟩; replace HK := Aside0.mk (KeepBut.trans (ka_ HK) hk (.inl rfl)); replace HB := Aside0.mk (hb); replace HI0 := Aside0.mk (hi); (try clear hb); (try clear hb2); (try clear hk); (try clear hi)))
            replace HI0 := Aside0.mk (IsS75.drew HI0.out)
            replace HK := Aside0.mk (keep_drew HK.out)
            replace HB := Aside0.mk (below_drew1 HB.out)
            have p41 : 0 ≤ (t846 : Int) := of_decide_eq_true (by first | (with_reducible assumption) | assumption)
            have q41 : t846 < (a1.size : Int) := of_decide_eq_true (by first | (with_reducible assumption) | assumption)
            have hx41 := bt_at a1 t846
            replace p41 := eq_true p41
            replace q41 := eq_true q41
            refine start_ (n := 21) (S := fun w' => True) (ds := []) (bs 21 0) (by kernel_rfl) rfl (by kernel_rfl) trivial (fun hHeld => ?_); refine with_tabW spec_l1Spoil.tab11 spec_l1Spoil.bits11 (fun HT_ HW_ => ?_)
            generalize w49.drew = w50 at HI0 HK HB hHeld ⊢
            refine pu_ HT_ 0 47 (bs 21 1) ?_
            refine pu_ HT_ 1 48 (bs 21 3) ?_
            refine pu_ HT_ 2 49 (bs 21 7) ?_
            refine pu_ HT_ 3 50 (bs 21 15) ?_
            refine pu_ HT_ 4 51 (bs 21 31) ?_
            refine pu_ HT_ 7 54 (bs 21 159) ?_
            refine pu_ HT_ 15 62 (bs 21 32927) ?_
            refine pu_ HT_ 16 63 (bs 21 98463) ?_
            refine pu_ HT_ 17 64 (bs 21 229535) ?_
            refine pu_ HT_ 18 65 (bs 21 491679) ?_
            refine take_ (i := 5) (N := some 52) (v := ?_) (a' := ?_) (bs 21 491711) rfl rfl (take_ofW HT_.out HW_.out (by kernel_rfl)) (fun _ _ _ h => h) (Or.inl ⟨by rfl, ?_⟩) hHeld ?_ ?_
            rotate_left
            ·intro w' _
             go_simp
             with_reducible rfl
            rotate_left
            ·simp only [Act.put, List.setIfInBounds_toArray, List.set_cons_zero, List.set_cons_succ, i64_w, i32_w]
             rfl
            refine pu_ HT_ 6 53 (bs 21 491775) ?_
            refine on_ HT_ 8 55 (bs 21 492031) (fun K hK => ?_)
            refine goes_ Tryd.func54 (by kernel_rfl) rfl #[.pointer (some ⟨g, 0, none⟩), .int .i64 255] (by rfl) rfl rfl mp_ ?_
            with_reducible refine (spec_l1Below.calls g s0_0 t850 t851 255 t858 t859 t860 w0 _ ?side1 ?side2 A42.out).mono ?_
            (case side1 => exact ia_ HI0)
            (case side2 => exact bi_ HB HI0)
            rintro e w51 ⟨rfl, hi, hb, hk⟩
            refine ⟨_, rfl, ?_⟩
            replace HK := Aside0.mk (KeepBut.trans (ka_ HK) hk (.inl rfl))
            replace HB := Aside0.mk (hb)
            replace HI0 := Aside0.mk (hi)
            (try clear hb)
            (try clear hb2)
            (try clear hk)
            (try clear hi)
            refine hK.out _ _ trivial (fun hHeld => ?_)
            clear hK K
            refine no_ 55 ?_
            refine pu_ HT_ 9 56 (bs 21 492543) ?_
            refine pu_ HT_ 10 57 (bs 21 493567) ?_
            refine pu_ HT_ 11 58 (bs 21 495615) ?_
            refine on_ HT_ 12 59 (bs 21 499711) (fun K hK => ?_)
            refine Kd.R_lit_step (Kd.int .u8) _ 5 ?hg (N := 59) ?hd (xs := ([(Go.bits .xor .i64 (wrap64 (bt a1 t846)) (wrap64 (1 + t858))) % 256] : List Int)) (inner := [.int .u8 ((Go.bits .xor .i64 (wrap64 (bt a1 t846)) (wrap64 (1 + t858))) % 256)]) (ok := fun _ => True) (okp := fun _ => True) ?hr ?hp (fun _ hk => hk) trivial (Below.refl _ _) (Nat.le_refl _) (by simp) ?_; (case hd => rfl); (case hg => rfl); (case hr => first | (go_simp; done) | (go_simp; rfl)); (case hp => exact (Reps.one (show Kd.M (Kd.int .u8) _ _ _ ((Go.bits .xor .i64 (wrap64 (bt a1 t846)) (wrap64 (1 + t858))) % 256) [.int .u8 ((Go.bits .xor .i64 (wrap64 (bt a1 t846)) (wrap64 (1 + t858))) % 256)] from rfl) (Reps.none _ _)))
            intro v862 w52 ho53 hb hg_ hnew_
            clear hg_ hnew_
            (first | rw [← Ny861.out] at ho53 | (simp only [Int.reduceToNat] at ho53; rw [← Ny861.out] at ho53))
            have HO863 := Aside0.mk (Kd.R_lower ho53 (keep_size (w := w) (g := g) (row := none) (ka_ HK)))
            replace HK := Aside0.mk (KeepBut.trans (ka_ HK) (KeepBut.of_below hb g none) (.inl rfl))
            replace HB := Aside0.mk (below_step (bi_ HB HI0) hb)
            replace HI0 := Aside0.mk (IsS75.below (ia_ HI0) hb)
            clear hb ho53
            refine hK.out _ _ trivial (fun hHeld => ?_)
            clear hK K
            refine no_ 59 ?_
            refine on_ HT_ 13 60 (bs 21 507903) (fun K hK => ?_)
            have hcv54 := own_string (P := Tryd.prog) Tryd.underlying28 Tryd.underlying5 Tryd.underlying9 (Kd.own_of_R HO863.out)
            refine value_ (w1 := ?_) (v := ?_) (by rfl) rfl ?_ ?_
            rotate_left 2
            ·go_simp
             constructor
             ·rfl
             ·rfl
            clear hcv54
            refine hK.out _ _ trivial (fun hHeld => ?_)
            clear hK K
            refine no_ 60 ?_
            refine pu_ HT_ 14 61 (bs 21 524287) ?_
            refine pu_ HT_ 19 66 (bs 21 1048575) ?_
            refine pu_ HT_ 20 4 (bs 21 2097151) ?_
            refine done_ (done_of HT_.out (by kernel_rfl)) ?_
            try go_wp2
            go_ret
            exact ⟨by first | rfl | (simp [errW_none, errW_some] <;> rfl) | (simp only [← hji44]; first | rfl | (simp [errW_none, errW_some] <;> rfl)) | (simp [*, errW_none, errW_some] <;> rfl), ia_ HI0, bi_ HB HI0, ka_ HK⟩
           ·rw [if_neg c47] at H
            exact absurd H (by simp)
          ·rw [if_neg c46] at H
           exact absurd H (by simp)
         ·rw [if_neg c45] at H
          exact absurd H (by simp)
        ·rw [if_neg c43] at H
         exact absurd H (by simp)
       ·rw [if_neg c40] at H
        exact absurd H (by simp)
      ·rw [if_neg c39] at H
       exact absurd H (by simp)
     ·rw [if_neg c38] at H
      exact absurd H (by simp)


/-! ### spec_l1Pick: function 56 -/
def spec_l1Pick.f (s0_0 : List Int) (s0_1 : Int) (s0_2 : Int) (l1 : List ByteArray) : Option (ByteArray × Int × Int) := (spec_l1Below.f s0_0 s0_1 s0_2 (l1.length : Int)).bind fun bt864 => (if 0 ≤ bt864.1 then (if bt864.1 < (l1.length : Int) then (some (rdOf ByteArray.empty l1 bt864.1, bt864.2.1, bt864.2.2)) else (none)) else (none))
set_option maxHeartbeats 8000000 in
set_option maxRecDepth 100000 in
theorem spec_l1Pick.calls (g : Nat) (s0_0 : List Int) (s0_1 : Int) (s0_2 : Int) (A1 : Option Addr) (c1 : Nat) (l1 : List ByteArray) (r1 : ByteArray) (r2 : Int) (r3 : Int) (w0 w : World) (hI : IsS75 w0 w g s0_0 s0_1 s0_2) (hB : Below w0.heap.size w0 w) (hr1 : Kd.C Kd.string w A1 l1.length l1) (hc1 : l1.length ≤ c1) (hf1 : ∀ ad, A1 = some ad → 0 < l1.length → ad.block ≠ g) (h : spec_l1Pick.f s0_0 s0_1 s0_2 l1 = some (r1, r2, r3)) :
  Calls Tryd.prog 56 #[.pointer (some ⟨g, 0, none⟩), .slice A1 l1.length c1] w fun e w' => e = .returned (.string r1) ∧ IsS75 w0 w' g s0_0 r2 r3 ∧ Below w0.heap.size w0 w' ∧ KeepBut w w' g none := by
 have HR1 := Aside0.mk hr1
 have HC1 := Aside0.mk hc1
 clear hr1 hc1
 have HI0 := Aside0.mk hI
 have HK := Aside0.mk (KeepBut.refl w g none)
 have HL := Aside0.mk hB.size
 clear hI
 have HW0 := Aside0.mk hB.size
 have HB := Aside0.mk hB
 clear hB
 have H : ((spec_l1Below.f s0_0 s0_1 s0_2 (l1.length : Int)).bind fun bt864 => (if 0 ≤ bt864.1 then (if bt864.1 < (l1.length : Int) then (some (rdOf ByteArray.empty l1 bt864.1, bt864.2.1, bt864.2.2)) else (none)) else (none))) = some (r1, r2, r3) := h
 clear h
 replace H := Option.bind_eq_some_iff.mp H
 obtain ⟨⟨t864, t865, t866⟩, A30, H⟩ := H
 dsimp only at H
 have A3 := Aside0.mk A30
 clear A30
 by_cases c4 : 0 ≤ t864
 ·rw [if_pos c4] at H
  have c4b0 : decide (0 ≤ t864) = true := decide_eq_true c4
  clear c4
  by_cases c5 : t864 < (l1.length : Int)
  ·rw [if_pos c5] at H
   have c5b0 : decide (t864 < (l1.length : Int)) = true := decide_eq_true c5
   clear c5
   simp only [Option.some.injEq, Prod.mk.injEq] at H
   obtain ⟨rfl, rfl, rfl⟩ := H
   go_enter Tryd.func56, Tryd.ntmps56
   go_wp2_with (first | ((with_reducible refine gate_callee (f := 54) rfl ?_); refine gl_ 9 Tryd.func54 #[.pointer (some ⟨g, 0, none⟩), .int .i64 (l1.length : Int)] rfl mp_ ?_; (with_reducible refine (spec_l1Below.calls g s0_0 s0_1 s0_2 (l1.length : Int) t864 t865 t866 w0 _ ?side1 ?side2 A3.out).mono ?_); (case side1 => exact ia_ HI0); (case side2 => exact bi_ HB HI0); rintro e w6 ⟨rfl, hi, hb, hk⟩; refine ⟨_, rfl, ?_⟩; replace HK := Aside0.mk (KeepBut.trans (ka_ HK) hk (.inl rfl)); replace HB := Aside0.mk (hb); replace HI0 := Aside0.mk (hi); (try clear hb); (try clear hb2); (try clear hk); (try clear hi); have p867 : 0 ≤ (t864 : Int) := of_decide_eq_true (by first | (with_reducible assumption) | assumption); have q867 : t864 < (l1.length : Int) := of_decide_eq_true (by first | (with_reducible assumption) | assumption); obtain ⟨ad867, e867, hx867_0⟩ := Kd.at_string HR1.out t864 p867 q867; cases e867; replace hx867_0 := keep_cell HK.out hx867_0 (by first | (rw [add_block]; exact hf1 _ rfl (by omega)) | exact hf1 _ rfl (by omega) | exact hf1 ad867 rfl (by omega)); replace p867 := eq_true p867; replace q867 := eq_true q867))
   go_ret
   exact ⟨er_, ia_ HI0, bi_ HB HI0, ka_ HK⟩
  ·rw [if_neg c5] at H
   exact absurd H (by simp)
 ·rw [if_neg c4] at H
  exact absurd H (by simp)


end Go.Proofs.YteljkpglgjjnlaaDoor.P
