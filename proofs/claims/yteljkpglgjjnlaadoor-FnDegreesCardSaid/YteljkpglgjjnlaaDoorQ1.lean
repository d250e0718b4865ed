-- Out of the translation, by this session's program over the printer's; Lean checks it.
import Derived.Test.YteljkpglgjjnlaaDoorSh
import Derived.Test.YteljkpglgjjnlaaDoorQ0
namespace Go.Proofs.YteljkpglgjjnlaaDoor.P
open Go.RowKit Go.Proofs.YteljkpglgjjnlaaDoorW.PrintWords Go.Proofs.YteljkpglgjjnlaaDoorW.PrintLast Go.Proofs.YteljkpglgjjnlaaDoorW.PrintMore
attribute [local go_sem] max2_int min2_int max_two min_two max_three min_three max_four min_four
set_option linter.unusedVariables false
set_option linter.unusedSimpArgs false

/-! ### spec_FormatTerm: function 49 -/
mutual
def spec_FormatTerm.l0 : Nat → Int → ByteArray → Int → Int → Int → Option (ByteArray)
 | 0, _, _, _, _, _ => none
 | k + 1, x0, x5, x6, x186000, x186001 => (spec_IsTerm.f x0 x186000 x186001).bind fun t186 => (if t186 = true then (spec_FormatTerm.j1 k x0 x5 x6 (decide (x6 < x0)) x186000 x186001) else (spec_FormatTerm.j1 k x0 x5 x6 false x186000 x186001))
def spec_FormatTerm.j1 : Nat → Int → ByteArray → Int → Bool → Int → Int → Option (ByteArray)
 | 0, _, _, _, _, _, _ => none
 | k + 1, x0, x5, x6, x14, x186000, x186001 => if x14 = true then (if 0 ≤ x6 then (if (Go.bits .and .i64 (shr .i64 x186000 x6) 1) = 0 then (spec_FormatTerm.l0 k x0 x5 (wrap64 (x6 + 1)) x186000 x186001) else (if (Go.bits .and .i64 (shr .i64 x186001 x6) 1) = 0 then (if x5.size + 1 ≤ 9223372036854775807 then (if x6 ≤ (wrap64 (x6 + 1)) then (if (wrap64 (x6 + 1)) ≤ 5 then (if (x5 ++ (⟨#[33]⟩ : ByteArray)).size + ((⟨#[97, 98, 99, 100, 101]⟩ : ByteArray).extract (x6 : Int).toNat ((wrap64 (x6 + 1)) : Int).toNat).size ≤ 9223372036854775807 then (spec_FormatTerm.l0 k x0 ((x5 ++ (⟨#[33]⟩ : ByteArray)) ++ ((⟨#[97, 98, 99, 100, 101]⟩ : ByteArray).extract (x6 : Int).toNat ((wrap64 (x6 + 1)) : Int).toNat)) (wrap64 (x6 + 1)) x186000 x186001) else (none)) else (none)) else (none)) else (none)) else (if x6 ≤ (wrap64 (x6 + 1)) then (if (wrap64 (x6 + 1)) ≤ 5 then (if x5.size + ((⟨#[97, 98, 99, 100, 101]⟩ : ByteArray).extract (x6 : Int).toNat ((wrap64 (x6 + 1)) : Int).toNat).size ≤ 9223372036854775807 then (spec_FormatTerm.l0 k x0 (x5 ++ ((⟨#[97, 98, 99, 100, 101]⟩ : ByteArray).extract (x6 : Int).toNat ((wrap64 (x6 + 1)) : Int).toNat)) (wrap64 (x6 + 1)) x186000 x186001) else (none)) else (none)) else (none)))) else (none)) else (if x5.toList = ([] : List UInt8) then ((spec_IsTerm.f x0 x186000 x186001).bind fun t187 => (if t187 = true then (some (⟨#[49]⟩ : ByteArray)) else (some x5))) else (some x5))
end
def spec_FormatTerm.f (k : Nat) (a0 : Int) (a1_0 : Int) (a1_1 : Int) : Option (ByteArray) := spec_FormatTerm.l0 k a0 (⟨#[]⟩ : ByteArray) 0 a1_0 a1_1
theorem spec_FormatTerm.mono_l : ∀ k, (∀ y0 y1 y2 y3 y4, LeO (spec_FormatTerm.l0 k y0 y1 y2 y3 y4) (spec_FormatTerm.l0 (k + 1) y0 y1 y2 y3 y4)) ∧ (∀ y0 y1 y2 y3 y4 y5, LeO (spec_FormatTerm.j1 k y0 y1 y2 y3 y4 y5) (spec_FormatTerm.j1 (k + 1) y0 y1 y2 y3 y4 y5))
 | 0 => ⟨fun _ _ _ _ _ r h => by simp [spec_FormatTerm.l0] at h, fun _ _ _ _ _ _ r h => by simp [spec_FormatTerm.j1] at h⟩
 | k + 1 => by
  obtain ⟨ih0, ih1⟩ := spec_FormatTerm.mono_l k
  refine ⟨?_, ?_⟩
  ·intro y0 y1 y2 y3 y4
   unfold spec_FormatTerm.l0
   repeat' first
   | (with_reducible exact ih0 _ _ _ _ _)
   | (with_reducible exact ih1 _ _ _ _ _ _)
   | (with_reducible exact LeO.refl _)
   | (with_reducible exact LeO.none _)
   | (with_reducible refine LeO.ite ?_ ?_)
   | (with_reducible refine LeO.bind ?_ (fun _ => ?_))
   | exact ih0 _ _ _ _ _
   | exact ih1 _ _ _ _ _ _
   | exact LeO.none _
   | refine LeO.ite ?_ ?_
   | refine LeO.bind ?_ (fun _ => ?_)
  ·intro y0 y1 y2 y3 y4 y5
   unfold spec_FormatTerm.j1
   repeat' first
   | (with_reducible exact ih0 _ _ _ _ _)
   | (with_reducible exact ih1 _ _ _ _ _ _)
   | (with_reducible exact LeO.refl _)
   | (with_reducible exact LeO.none _)
   | (with_reducible refine LeO.ite ?_ ?_)
   | (with_reducible refine LeO.bind ?_ (fun _ => ?_))
   | exact ih0 _ _ _ _ _
   | exact ih1 _ _ _ _ _ _
   | exact LeO.none _
   | refine LeO.ite ?_ ?_
   | refine LeO.bind ?_ (fun _ => ?_)
theorem spec_FormatTerm.mono : ∀ a0 a1 a2 k, LeO (spec_FormatTerm.f k a0 a1 a2) (spec_FormatTerm.f (k + 1) a0 a1 a2) := by
 intro a0 a1 a2 k
 obtain ⟨ih0, ih1⟩ := spec_FormatTerm.mono_l k
 unfold spec_FormatTerm.f
 repeat' first
   | (with_reducible exact ih0 _ _ _ _ _)
   | (with_reducible exact ih1 _ _ _ _ _ _)
   | (with_reducible exact LeO.refl _)
   | (with_reducible exact LeO.none _)
   | (with_reducible refine LeO.ite ?_ ?_)
   | (with_reducible refine LeO.bind ?_ (fun _ => ?_))
   | exact ih0 _ _ _ _ _
   | exact ih1 _ _ _ _ _ _
   | exact LeO.none _
   | refine LeO.ite ?_ ?_
   | refine LeO.bind ?_ (fun _ => ?_)
set_option maxHeartbeats 8000000 in
set_option maxRecDepth 100000 in
theorem spec_FormatTerm.calls (k : Nat) (a0 : Int) (a1_0 : Int) (a1_1 : Int) (r : ByteArray) (w : World) (h : spec_FormatTerm.f k a0 a1_0 a1_1 = some r) :
  Calls Tryd.prog 49 #[.int .i64 a0, .agg #[.int .i64 a1_0, .int .i64 a1_1]] w fun e w' => e = .returned (.string r) ∧ Below w.heap.size w w' := by
 have hu44 := Tryd.underlying44
 have HB := Aside0.mk (Below.refl w.heap.size w)
 have H : (spec_FormatTerm.l0 k a0 (⟨#[]⟩ : ByteArray) 0 a1_0 a1_1) = some r := h
 clear h
 have H' := Aside0.mk H
 clear H
 go_enter Tryd.func49, Tryd.ntmps49
 go_wp2_with (first | ((with_reducible refine gate_dst (N := 3) rfl ?_); refine bx_ 3 #[.int .i64 a1_0, .int .i64 a1_1] 44 ?_; intro gb185 hg w3 hbox hb; have BK185 := Aside0.mk (hbox); have GW185 := gw_ hg (below_size (bv_ HB)); have GE185 := GW185; replace HB := Aside0.mk (below_step (bv_ HB) hb); clear hb hbox hg))
 go_loopg [5, 6] k (fun kq v5 v6 w' => ∃ (x5_1 : ByteArray) (x6_1 : Int), v5 = .string x5_1 ∧ v6 = .int .i64 x6_1 ∧ Aside0 (spec_FormatTerm.l0 kq a0 x5_1 x6_1 a1_0 a1_1 = some r) ∧ Aside0 (kq ≤ k) ∧ Aside0 (w'.heap[gb185]? = some (.cells #[.int .i64 a1_0, .int .i64 a1_1] 44 (0, 0))) ∧ Aside0 (Below w.heap.size w w'))
 case atStart => exact ⟨((⟨#[]⟩ : ByteArray)), (0), (by first | rfl | (simp; done) | (simp [*]; done)), (by first | rfl | (simp; done) | (simp [*]; done)), H', ⟨Nat.le_refl _⟩, ⟨by (with_reducible repeat (first | refine blk_drewN ?_ _ | refine blk_drew ?_ | refine blk_alloc ?_ _)); exact BK185.out⟩, ⟨bv1_ HB GE185⟩⟩
 case round =>
  clear H'
  try clear p2
  obtain ⟨x5_1, x6_1, rfl, rfl, HA, HK1, BK185, HB⟩ := hrel
  cases gk with
  | zero => exact absurd HA.out (by simp [spec_FormatTerm.l0])
  | succ k1 =>
   have H := HA.out
   clear HA
   simp only [spec_FormatTerm.l0] at H
   have HC4 := Aside0.mk H
   clear H
   go_upto_region 3 with (fail)
   go_cut [14] (fun v14 wc => ∃ (kq : Nat) (x14_3 : Bool), v14 = .bool x14_3 ∧ Aside0 (spec_FormatTerm.j1 kq a0 x5_1 x6_1 x14_3 a1_0 a1_1 = some r) ∧ Aside0 (kq ≤ k1) ∧ Aside0 (wc.heap[gb185]? = some (.cells #[.int .i64 a1_0, .int .i64 a1_1] 44 (0, 0))) ∧ Aside0 (Below w.heap.size w wc))
   case first =>
    have H := HC4.out
    clear HC4
    replace H := Option.bind_eq_some_iff.mp H
    obtain ⟨t186, A50, H⟩ := H
    have A5 := Aside0.mk A50
    clear A50
    by_cases c6 : t186 = true
    ·subst c6
     rw [if_pos rfl] at H
     have H' := Aside0.mk H
     clear H
     obtain ⟨hcz7_0, hcz7_1, hfz7_0, hfz7_1⟩ := c2_ BK185
     go_wp2_with (first | ((with_reducible refine gate_callee (f := 64) rfl ?_); refine gl_ 9 Tryd.func64 #[.int .i64 a0, .agg #[.int .i64 a1_0, .int .i64 a1_1]] rfl mp_ ?_; (with_reducible refine (spec_IsTerm.calls a0 a1_0 a1_1 true _ A5.out).mono ?_); rintro e w8 ⟨rfl, hb⟩; refine ⟨_, rfl, ?_⟩; have n0_ := kb_ BK185 hb; have n1_ := Aside0.mk (below_step (bv1_ HB GE185) hb); clear BK185; clear HB; have BK185 := n0_; have HB := n1_; clear n0_ n1_; (try clear hb); (try clear hb2); (try clear hk); (try clear hi)))
     go_meet
     case rel => exact ⟨_, (decide (x6_1 < a0)), (by first | rfl | (simp; done) | (simp [*]; done)), H', ⟨by have := HK1.out; first | omega | exact Nat.le_refl _⟩, ⟨by (with_reducible repeat (first | refine blk_drewN ?_ _ | refine blk_drew ?_ | refine blk_alloc ?_ _)); exact BK185.out⟩, ⟨bv1_ HB GE185⟩⟩
    ·replace c6 := Bool.eq_false_iff.mpr c6
     subst c6
     rw [if_neg (show ¬ (false = true) by decide)] at H
     have H' := Aside0.mk H
     clear H
     obtain ⟨hcz9_0, hcz9_1, hfz9_0, hfz9_1⟩ := c2_ BK185
     go_wp2_with (first | ((with_reducible refine gate_callee (f := 64) rfl ?_); refine gl_ 9 Tryd.func64 #[.int .i64 a0, .agg #[.int .i64 a1_0, .int .i64 a1_1]] rfl mp_ ?_; (with_reducible refine (spec_IsTerm.calls a0 a1_0 a1_1 false _ A5.out).mono ?_); rintro e w10 ⟨rfl, hb⟩; refine ⟨_, rfl, ?_⟩; have n0_ := kb_ BK185 hb; have n1_ := Aside0.mk (below_step (bv1_ HB GE185) hb); clear BK185; clear HB; have BK185 := n0_; have HB := n1_; clear n0_ n1_; (try clear hb); (try clear hb2); (try clear hk); (try clear hi)))
     go_meet
     case rel => exact ⟨_, (false), (by first | rfl | (simp; done) | (simp [*]; done)), H', ⟨by have := HK1.out; first | omega | exact Nat.le_refl _⟩, ⟨by (with_reducible repeat (first | refine blk_drewN ?_ _ | refine blk_drew ?_ | refine blk_alloc ?_ _)); exact BK185.out⟩, ⟨bv1_ HB GE185⟩⟩
   case rest =>
    clear HC4
    try clear p2
    try clear c4
    try clear c6
    try clear hcz7_0
    try clear hcz7_1
    try clear hcz9_0
    try clear hcz9_1
    try clear hfz7_0
    try clear hfz7_1
    try clear hfz9_0
    try clear hfz9_1
    try clear p2
    obtain ⟨kq, x14_3, rfl, HA, HJ3, BK185, HB⟩ := hcut
    cases kq with
    | zero => exact absurd HA.out (by simp [spec_FormatTerm.j1])
    | succ kj3 =>
     have H := HA.out
     clear HA
     simp only [spec_FormatTerm.j1] at H
     by_cases c11 : x14_3 = true
     ·subst c11
      rw [if_pos rfl] at H
      by_cases c12 : 0 ≤ x6_1
      ·rw [if_pos c12] at H
       have c12b0 := eq_true c12
       have c12b1 : decide (0 ≤ x6_1) = true := decide_eq_true c12
       clear c12
       obtain ⟨ji13, hji13⟩ : ∃ j_ : Int, (shr .i64 a1_0 x6_1) = j_ := ⟨_, rfl⟩
       replace H : (if (Go.bits .and .i64 (ji13) 1) = 0 then (spec_FormatTerm.l0 kj3 a0 x5_1 (wrap64 (x6_1 + 1)) a1_0 a1_1) else (if (Go.bits .and .i64 (shr .i64 a1_1 x6_1) 1) = 0 then (if x5_1.size + 1 ≤ 9223372036854775807 then (if x6_1 ≤ (wrap64 (x6_1 + 1)) then (if (wrap64 (x6_1 + 1)) ≤ 5 then (if (x5_1 ++ (⟨#[33]⟩ : ByteArray)).size + ((⟨#[97, 98, 99, 100, 101]⟩ : ByteArray).extract (x6_1 : Int).toNat ((wrap64 (x6_1 + 1)) : Int).toNat).size ≤ 9223372036854775807 then (spec_FormatTerm.l0 kj3 a0 ((x5_1 ++ (⟨#[33]⟩ : ByteArray)) ++ ((⟨#[97, 98, 99, 100, 101]⟩ : ByteArray).extract (x6_1 : Int).toNat ((wrap64 (x6_1 + 1)) : Int).toNat)) (wrap64 (x6_1 + 1)) a1_0 a1_1) else (none)) else (none)) else (none)) else (none)) else (if x6_1 ≤ (wrap64 (x6_1 + 1)) then (if (wrap64 (x6_1 + 1)) ≤ 5 then (if x5_1.size + ((⟨#[97, 98, 99, 100, 101]⟩ : ByteArray).extract (x6_1 : Int).toNat ((wrap64 (x6_1 + 1)) : Int).toNat).size ≤ 9223372036854775807 then (spec_FormatTerm.l0 kj3 a0 (x5_1 ++ ((⟨#[97, 98, 99, 100, 101]⟩ : ByteArray).extract (x6_1 : Int).toNat ((wrap64 (x6_1 + 1)) : Int).toNat)) (wrap64 (x6_1 + 1)) a1_0 a1_1) else (none)) else (none)) else (none)))) = some r := by first | (rw [hji13] at H; exact H) | (simp only [hji13] at H ⊢; exact H)
       have hji13_ : (a1_0 / 2 ^ min x6_1.toNat 64) = ji13 := hji13
       have hji13z : x6_1 ≤ 64 → (a1_0 / 2 ^ x6_1.toNat) = ji13 := shr_small hji13
       by_cases c14 : (Go.bits .and .i64 (ji13) 1) = 0
       ·rw [if_pos c14] at H
        have c14b0 : ((Go.bits .and .i64 (ji13) 1) == 0) = true := beq_iff_eq.mpr c14
        have c14b1 : ((Go.bits .and .i64 (ji13) 1) != 0) = false := bne_eq_false_iff_eq.mpr c14
        clear c14
        have H' := Aside0.mk H
        clear H
        obtain ⟨hcz15_0, hcz15_1, hfz15_0, hfz15_1⟩ := c2_ BK185
        go_wp2
        go_roundg kj3
        case measure => have := HK1.out; have := HJ3.out; omega
        case rel => exact ⟨(x5_1), (wrap64 (x6_1 + 1)), (by first | rfl | (simp; done) | (simp [*]; done)), (by first | rfl | (simp; done) | (simp [*]; done)), H', ⟨by have := HK1.out; have := HJ3.out; omega⟩, ⟨by (with_reducible repeat (first | refine blk_drewN ?_ _ | refine blk_drew ?_ | refine blk_alloc ?_ _)); exact BK185.out⟩, ⟨bv1_ HB GE185⟩⟩
       ·rw [if_neg c14] at H
        have c14b0 : ((Go.bits .and .i64 (ji13) 1) == 0) = false := beq_eq_false_iff_ne.mpr c14
        have c14b1 : ((Go.bits .and .i64 (ji13) 1) != 0) = true := bne_iff_ne.mpr c14
        have c16b0 := eq_true (of_decide_eq_true (by first | (with_reducible assumption) | assumption) : 0 ≤ x6_1)
        obtain ⟨ji17, hji17⟩ : ∃ j_ : Int, (shr .i64 a1_1 x6_1) = j_ := ⟨_, rfl⟩
        replace H : (if (Go.bits .and .i64 (ji17) 1) = 0 then (if x5_1.size + 1 ≤ 9223372036854775807 then (if x6_1 ≤ (wrap64 (x6_1 + 1)) then (if (wrap64 (x6_1 + 1)) ≤ 5 then (if (x5_1 ++ (⟨#[33]⟩ : ByteArray)).size + ((⟨#[97, 98, 99, 100, 101]⟩ : ByteArray).extract (x6_1 : Int).toNat ((wrap64 (x6_1 + 1)) : Int).toNat).size ≤ 9223372036854775807 then (spec_FormatTerm.l0 kj3 a0 ((x5_1 ++ (⟨#[33]⟩ : ByteArray)) ++ ((⟨#[97, 98, 99, 100, 101]⟩ : ByteArray).extract (x6_1 : Int).toNat ((wrap64 (x6_1 + 1)) : Int).toNat)) (wrap64 (x6_1 + 1)) a1_0 a1_1) else (none)) else (none)) else (none)) else (none)) else (if x6_1 ≤ (wrap64 (x6_1 + 1)) then (if (wrap64 (x6_1 + 1)) ≤ 5 then (if x5_1.size + ((⟨#[97, 98, 99, 100, 101]⟩ : ByteArray).extract (x6_1 : Int).toNat ((wrap64 (x6_1 + 1)) : Int).toNat).size ≤ 9223372036854775807 then (spec_FormatTerm.l0 kj3 a0 (x5_1 ++ ((⟨#[97, 98, 99, 100, 101]⟩ : ByteArray).extract (x6_1 : Int).toNat ((wrap64 (x6_1 + 1)) : Int).toNat)) (wrap64 (x6_1 + 1)) a1_0 a1_1) else (none)) else (none)) else (none))) = some r := by first | (rw [hji17] at H; exact H) | (simp only [hji17] at H ⊢; exact H)
        have hji17_ : (a1_1 / 2 ^ min x6_1.toNat 64) = ji17 := hji17
        have hji17z : x6_1 ≤ 64 → (a1_1 / 2 ^ x6_1.toNat) = ji17 := shr_small hji17
        by_cases c18 : (Go.bits .and .i64 (ji17) 1) = 0
        ·rw [if_pos c18] at H
         have c18b0 : ((Go.bits .and .i64 (ji17) 1) == 0) = true := beq_iff_eq.mpr c18
         have c18b1 : ((Go.bits .and .i64 (ji17) 1) != 0) = false := bne_eq_false_iff_eq.mpr c18
         clear c18
         by_cases c19 : x5_1.size + 1 ≤ 9223372036854775807
         ·rw [if_pos c19] at H
          have c19b0 := eq_true c19
          have c19b1 : decide (x5_1.size + 1 ≤ 9223372036854775807) = true := decide_eq_true c19
          try have c19b2 : (9223372036854775807 < x5_1.size + 1) = False := eq_false (Nat.not_lt.2 c19)
          have c20b0 := eq_true (of_decide_eq_true (by first | (with_reducible assumption) | assumption) : 0 ≤ x6_1)
          by_cases c21 : x6_1 ≤ (wrap64 (x6_1 + 1))
          ·rw [if_pos c21] at H
           have c21b0 := eq_true c21
           have c21b1 : decide (x6_1 ≤ (wrap64 (x6_1 + 1))) = true := decide_eq_true c21
           by_cases c22 : (wrap64 (x6_1 + 1)) ≤ 5
           ·rw [if_pos c22] at H
            have c22b0 := eq_true c22
            have c22b1 : decide ((wrap64 (x6_1 + 1)) ≤ 5) = true := decide_eq_true c22
            by_cases c23 : (x5_1 ++ (⟨#[33]⟩ : ByteArray)).size + ((⟨#[97, 98, 99, 100, 101]⟩ : ByteArray).extract (x6_1 : Int).toNat ((wrap64 (x6_1 + 1)) : Int).toNat).size ≤ 9223372036854775807
            ·rw [if_pos c23] at H
             have c23b0 := eq_true c23
             have c23b1 : decide ((x5_1 ++ (⟨#[33]⟩ : ByteArray)).size + ((⟨#[97, 98, 99, 100, 101]⟩ : ByteArray).extract (x6_1 : Int).toNat ((wrap64 (x6_1 + 1)) : Int).toNat).size ≤ 9223372036854775807) = true := decide_eq_true c23
             try have c23b2 : (9223372036854775807 < (x5_1 ++ (⟨#[33]⟩ : ByteArray)).size + ((⟨#[97, 98, 99, 100, 101]⟩ : ByteArray).extract (x6_1 : Int).toNat ((wrap64 (x6_1 + 1)) : Int).toNat).size) = False := eq_false (Nat.not_lt.2 c23)
             have H' := Aside0.mk H
             clear H
             obtain ⟨hcz24_0, hcz24_1, hfz24_0, hfz24_1⟩ := c2_ BK185
             go_wp2
             go_roundg kj3
             case measure => have := HK1.out; have := HJ3.out; omega
             case rel => exact ⟨((x5_1 ++ (⟨#[33]⟩ : ByteArray)) ++ ((⟨#[97, 98, 99, 100, 101]⟩ : ByteArray).extract (x6_1 : Int).toNat ((wrap64 (x6_1 + 1)) : Int).toNat)), (wrap64 (x6_1 + 1)), (by first | rfl | (simp; done) | (simp [*]; done)), (by first | rfl | (simp; done) | (simp [*]; done)), H', ⟨by have := HK1.out; have := HJ3.out; omega⟩, ⟨by (with_reducible repeat (first | refine blk_drewN ?_ _ | refine blk_drew ?_ | refine blk_alloc ?_ _)); exact BK185.out⟩, ⟨bv1_ HB GE185⟩⟩
            ·rw [if_neg c23] at H
             exact absurd H (by simp)
           ·rw [if_neg c22] at H
            exact absurd H (by simp)
          ·rw [if_neg c21] at H
           exact absurd H (by simp)
         ·rw [if_neg c19] at H
          exact absurd H (by simp)
        ·rw [if_neg c18] at H
         have c18b0 : ((Go.bits .and .i64 (ji17) 1) == 0) = false := beq_eq_false_iff_ne.mpr c18
         have c18b1 : ((Go.bits .and .i64 (ji17) 1) != 0) = true := bne_iff_ne.mpr c18
         have c25b0 := eq_true (of_decide_eq_true (by first | (with_reducible assumption) | assumption) : 0 ≤ x6_1)
         by_cases c26 : x6_1 ≤ (wrap64 (x6_1 + 1))
         ·rw [if_pos c26] at H
          have c26b0 := eq_true c26
          have c26b1 : decide (x6_1 ≤ (wrap64 (x6_1 + 1))) = true := decide_eq_true c26
          by_cases c27 : (wrap64 (x6_1 + 1)) ≤ 5
          ·rw [if_pos c27] at H
           have c27b0 := eq_true c27
           have c27b1 : decide ((wrap64 (x6_1 + 1)) ≤ 5) = true := decide_eq_true c27
           by_cases c28 : x5_1.size + ((⟨#[97, 98, 99, 100, 101]⟩ : ByteArray).extract (x6_1 : Int).toNat ((wrap64 (x6_1 + 1)) : Int).toNat).size ≤ 9223372036854775807
           ·rw [if_pos c28] at H
            have c28b0 := eq_true c28
            have c28b1 : decide (x5_1.size + ((⟨#[97, 98, 99, 100, 101]⟩ : ByteArray).extract (x6_1 : Int).toNat ((wrap64 (x6_1 + 1)) : Int).toNat).size ≤ 9223372036854775807) = true := decide_eq_true c28
            try have c28b2 : (9223372036854775807 < x5_1.size + ((⟨#[97, 98, 99, 100, 101]⟩ : ByteArray).extract (x6_1 : Int).toNat ((wrap64 (x6_1 + 1)) : Int).toNat).size) = False := eq_false (Nat.not_lt.2 c28)
            have H' := Aside0.mk H
            clear H
            obtain ⟨hcz29_0, hcz29_1, hfz29_0, hfz29_1⟩ := c2_ BK185
            go_wp2
            go_roundg kj3
            case measure => have := HK1.out; have := HJ3.out; omega
            case rel => exact ⟨(x5_1 ++ ((⟨#[97, 98, 99, 100, 101]⟩ : ByteArray).extract (x6_1 : Int).toNat ((wrap64 (x6_1 + 1)) : Int).toNat)), (wrap64 (x6_1 + 1)), (by first | rfl | (simp; done) | (simp [*]; done)), (by first | rfl | (simp; done) | (simp [*]; done)), H', ⟨by have := HK1.out; have := HJ3.out; omega⟩, ⟨by (with_reducible repeat (first | refine blk_drewN ?_ _ | refine blk_drew ?_ | refine blk_alloc ?_ _)); exact BK185.out⟩, ⟨bv1_ HB GE185⟩⟩
           ·rw [if_neg c28] at H
            exact absurd H (by simp)
          ·rw [if_neg c27] at H
           exact absurd H (by simp)
         ·rw [if_neg c26] at H
          exact absurd H (by simp)
      ·rw [if_neg c12] at H
       exact absurd H (by simp)
     ·replace c11 := Bool.eq_false_iff.mpr c11
      subst c11
      rw [if_neg (show ¬ (false = true) by decide)] at H
      by_cases c30 : x5_1.toList = ([] : List UInt8)
      ·rw [if_pos c30] at H
       have c30b0 : (x5_1.toList == ([] : List UInt8)) = true := beq_iff_eq.mpr c30
       have c30b1 : (x5_1.toList != ([] : List UInt8)) = false := bne_eq_false_iff_eq.mpr c30
       clear c30
       replace H := Option.bind_eq_some_iff.mp H
       obtain ⟨t187, A310, H⟩ := H
       have A31 := Aside0.mk A310
       clear A310
       by_cases c32 : t187 = true
       ·subst c32
        rw [if_pos rfl] at H
        obtain rfl := Option.some.inj H
        obtain ⟨hcz33_0, hcz33_1, hfz33_0, hfz33_1⟩ := c2_ BK185
        go_wp2_with (first | (go_at_call 64; (with_reducible refine (spec_IsTerm.calls a0 a1_0 a1_1 true _ A31.out).mono ?_); rintro e w34 ⟨rfl, hb⟩; have n0_ := kb_ BK185 hb; have n1_ := Aside0.mk (below_step (bv1_ HB GE185) hb); clear BK185; clear HB; have BK185 := n0_; have HB := n1_; clear n0_ n1_; (try clear hb); (try clear hb2); (try clear hk); (try clear hi)))
        go_ret
        exact ⟨er_, bv1_ HB GE185⟩
       ·replace c32 := Bool.eq_false_iff.mpr c32
        subst c32
        rw [if_neg (show ¬ (false = true) by decide)] at H
        obtain rfl := Option.some.inj H
        obtain ⟨hcz35_0, hcz35_1, hfz35_0, hfz35_1⟩ := c2_ BK185
        go_wp2_with (first | (go_at_call 64; (with_reducible refine (spec_IsTerm.calls a0 a1_0 a1_1 false _ A31.out).mono ?_); rintro e w36 ⟨rfl, hb⟩; have n0_ := kb_ BK185 hb; have n1_ := Aside0.mk (below_step (bv1_ HB GE185) hb); clear BK185; clear HB; have BK185 := n0_; have HB := n1_; clear n0_ n1_; (try clear hb); (try clear hb2); (try clear hk); (try clear hi)))
        go_ret
        exact ⟨er_, bv1_ HB GE185⟩
      ·rw [if_neg c30] at H
       have c30b0 : (x5_1.toList == ([] : List UInt8)) = false := beq_eq_false_iff_ne.mpr c30
       have c30b1 : (x5_1.toList != ([] : List UInt8)) = true := bne_iff_ne.mpr c30
       obtain rfl := Option.some.inj H
       go_wp2
       go_ret
       exact ⟨er_, bv1_ HB GE185⟩


/-! ### spec_FormatAnf: function 21 -/
def spec_FormatAnf.l0 : Nat → ByteArray → Int → Int → Int → Int → Option (ByteArray)
 | 0, _, _, _, _, _ => none
 | k + 1, x3, x4, x5, x189000, x189001 => if 0 ≤ x189000 then (if x5 < (shl .i64 1 x189000) then (if 0 ≤ x5 then (if (Go.bits .and .i64 (shr .i64 x4 x5) 1) = 0 then (spec_FormatAnf.l0 k x3 x4 (wrap64 (x5 + 1)) x189000 x189001) else (if x3.toList = ([] : List UInt8) then ((spec_FormatTerm.f k x189000 x5 x5).bind fun t191 => (if x3.size + t191.size ≤ 9223372036854775807 then (spec_FormatAnf.l0 k (x3 ++ t191) x4 (wrap64 (x5 + 1)) x189000 x189001) else (none))) else (if x3.size + 1 ≤ 9223372036854775807 then ((spec_FormatTerm.f k x189000 x5 x5).bind fun t192 => (if (x3 ++ (⟨#[43]⟩ : ByteArray)).size + t192.size ≤ 9223372036854775807 then (spec_FormatAnf.l0 k ((x3 ++ (⟨#[43]⟩ : ByteArray)) ++ t192) x4 (wrap64 (x5 + 1)) x189000 x189001) else (none))) else (none)))) else (none)) else (if x3.toList = ([] : List UInt8) then (some (⟨#[48]⟩ : ByteArray)) else (some x3))) else (none)
def spec_FormatAnf.f (k : Nat) (a0_0 : Int) (a0_1 : Int) : Option (ByteArray) := (spec_IsTable.f a0_0 a0_1).bind fun t189 => (if t189 = true then ((spec_l11Anf.f k a0_0 a0_1).bind fun t190 => (spec_FormatAnf.l0 k (⟨#[]⟩ : ByteArray) t190 0 a0_0 a0_1)) else (some (⟨#[]⟩ : ByteArray)))
theorem spec_FormatAnf.mono_l : ∀ k, (∀ y0 y1 y2 y3 y4, LeO (spec_FormatAnf.l0 k y0 y1 y2 y3 y4) (spec_FormatAnf.l0 (k + 1) y0 y1 y2 y3 y4))
 | 0 => fun _ _ _ _ _ r h => by simp [spec_FormatAnf.l0] at h
 | k + 1 => by
  have ih0 := spec_FormatAnf.mono_l k
  ·intro y0 y1 y2 y3 y4
   unfold spec_FormatAnf.l0
   repeat' first
   | (with_reducible exact ih0 _ _ _ _ _)
   | (with_reducible exact spec_FormatTerm.mono _ _ _ _)
   | (with_reducible exact spec_l11Anf.mono _ _ _)
   | (with_reducible exact LeO.refl _)
   | (with_reducible exact LeO.none _)
   | (with_reducible refine LeO.ite ?_ ?_)
   | (with_reducible refine LeO.bind ?_ (fun _ => ?_))
   | exact ih0 _ _ _ _ _
   | exact spec_FormatTerm.mono _ _ _ _
   | exact spec_l11Anf.mono _ _ _
   | exact LeO.none _
   | refine LeO.ite ?_ ?_
   | refine LeO.bind ?_ (fun _ => ?_)
theorem spec_FormatAnf.mono : ∀ a0 a1 k, LeO (spec_FormatAnf.f k a0 a1) (spec_FormatAnf.f (k + 1) a0 a1) := by
 intro a0 a1 k
 have ih0 := spec_FormatAnf.mono_l k
 unfold spec_FormatAnf.f
 repeat' first
   | (with_reducible exact ih0 _ _ _ _ _)
   | (with_reducible exact spec_FormatTerm.mono _ _ _ _)
   | (with_reducible exact spec_l11Anf.mono _ _ _)
   | (with_reducible exact LeO.refl _)
   | (with_reducible exact LeO.none _)
   | (with_reducible refine LeO.ite ?_ ?_)
   | (with_reducible refine LeO.bind ?_ (fun _ => ?_))
   | exact ih0 _ _ _ _ _
   | exact spec_FormatTerm.mono _ _ _ _
   | exact spec_l11Anf.mono _ _ _
   | exact LeO.none _
   | refine LeO.ite ?_ ?_
   | refine LeO.bind ?_ (fun _ => ?_)
set_option maxHeartbeats 8000000 in
set_option maxRecDepth 100000 in
theorem spec_FormatAnf.calls (k : Nat) (a0_0 : Int) (a0_1 : Int) (r : ByteArray) (w : World) (h : spec_FormatAnf.f k a0_0 a0_1 = some r) :
  Calls Tryd.prog 21 #[.agg #[.int .i64 a0_0, .int .i64 a0_1]] w fun e w' => e = .returned (.string r) ∧ Below w.heap.size w w' := by
 have hu23 := Tryd.underlying23
 have hu44 := Tryd.underlying44
 have HB := Aside0.mk (Below.refl w.heap.size w)
 have H : ((spec_IsTable.f a0_0 a0_1).bind fun t189 => (if t189 = true then ((spec_l11Anf.f k a0_0 a0_1).bind fun t190 => (spec_FormatAnf.l0 k (⟨#[]⟩ : ByteArray) t190 0 a0_0 a0_1)) else (some (⟨#[]⟩ : ByteArray)))) = some r := h
 clear h
 replace H := Option.bind_eq_some_iff.mp H
 obtain ⟨t189, A20, H⟩ := H
 have A2 := Aside0.mk A20
 clear A20
 by_cases c3 : t189 = true
 ·subst c3
  rw [if_pos rfl] at H
  replace H := Option.bind_eq_some_iff.mp H
  obtain ⟨t190, A40, H⟩ := H
  have A4 := Aside0.mk A40
  clear A40
  have H' := Aside0.mk H
  clear H
  go_enter Tryd.func21, Tryd.ntmps21
  go_wp2_with (first | ((with_reducible refine gate_dst (N := 1) rfl ?_); refine bx_ 1 #[.int .i64 a0_0, .int .i64 a0_1] 23 ?_; intro gb188 hg w5 hbox hb; have BK188 := Aside0.mk (hbox); have GW188 := gw_ hg (below_size (bv_ HB)); have GE188 := GW188; replace HB := Aside0.mk (below_step (bv_ HB) hb); clear hb hbox hg; obtain ⟨hcz6_0, hcz6_1, hfz6_0, hfz6_1⟩ := c2_ BK188) | ((with_reducible refine gate_callee (f := 38) rfl ?_); refine gl_ 7 Tryd.func38 #[.agg #[.int .i64 a0_0, .int .i64 a0_1]] rfl mp_ ?_; (with_reducible refine (spec_IsTable.calls a0_0 a0_1 true _ A2.out).mono ?_); rintro e w7 ⟨rfl, hb⟩; refine ⟨_, rfl, ?_⟩; replace BK188 := kb_ BK188 hb; replace HB := Aside0.mk (below_step (bv1_ HB GE188) hb); (try clear hb); (try clear hb2); (try clear hk); (try clear hi); obtain ⟨hcz8_0, hcz8_1, hfz8_0, hfz8_1⟩ := c2_ BK188) | ((with_reducible refine gate_callee (f := 30) rfl ?_); refine gl_ 10 Tryd.func30 #[.agg #[.int .i64 a0_0, .int .i64 a0_1]] rfl mp_ ?_; (with_reducible refine (spec_l11Anf.calls k a0_0 a0_1 t190 _ A4.out).mono ?_); rintro e w9 ⟨rfl, hb⟩; refine ⟨_, rfl, ?_⟩; replace BK188 := kb_ BK188 hb; replace HB := Aside0.mk (below_step (bv1_ HB GE188) hb); (try clear hb); (try clear hb2); (try clear hk); (try clear hi)))
  go_loopg [3, 5] k (fun kq v3 v5 w' => ∃ (x3_1 : ByteArray) (x5_1 : Int), v3 = .string x3_1 ∧ v5 = .int .i64 x5_1 ∧ Aside0 (spec_FormatAnf.l0 kq x3_1 t190 x5_1 a0_0 a0_1 = some r) ∧ Aside0 (kq ≤ k) ∧ Aside0 (w'.heap[gb188]? = some (.cells #[.int .i64 a0_0, .int .i64 a0_1] 23 (0, 0))) ∧ Aside0 (Below w.heap.size w w'))
  case atStart => exact ⟨((⟨#[]⟩ : ByteArray)), (0), (by first | rfl | (simp; done) | (simp [*]; done)), (by first | rfl | (simp; done) | (simp [*]; done)), H', ⟨Nat.le_refl _⟩, ⟨by (with_reducible repeat (first | refine blk_drewN ?_ _ | refine blk_drew ?_ | refine blk_alloc ?_ _)); exact BK188.out⟩, ⟨bv1_ HB GE188⟩⟩
  case round =>
   clear H'
   try clear c2
   try clear p2
   try clear c3
   try clear hcz6_0
   try clear hcz6_1
   try clear hcz8_0
   try clear hcz8_1
   try clear hfz6_0
   try clear hfz6_1
   try clear hfz8_0
   try clear hfz8_1
   obtain ⟨x3_1, x5_1, rfl, rfl, HA, HK1, BK188, HB⟩ := hrel
   cases gk with
   | zero => exact absurd HA.out (by simp [spec_FormatAnf.l0])
   | succ k1 =>
    have H := HA.out
    clear HA
    simp only [spec_FormatAnf.l0] at H
    by_cases c10 : 0 ≤ a0_0
    ·rw [if_pos c10] at H
     have c10b0 := eq_true c10
     have c10b1 : decide (0 ≤ a0_0) = true := decide_eq_true c10
     clear c10
     obtain ⟨ji11, hji11⟩ : ∃ j_ : Int, (shl .i64 1 a0_0) = j_ := ⟨_, rfl⟩
     replace H : (if x5_1 < (ji11) then (if 0 ≤ x5_1 then (if (Go.bits .and .i64 (shr .i64 t190 x5_1) 1) = 0 then (spec_FormatAnf.l0 k1 x3_1 t190 (wrap64 (x5_1 + 1)) a0_0 a0_1) else (if x3_1.toList = ([] : List UInt8) then ((spec_FormatTerm.f k1 a0_0 x5_1 x5_1).bind fun t191 => (if x3_1.size + t191.size ≤ 9223372036854775807 then (spec_FormatAnf.l0 k1 (x3_1 ++ t191) t190 (wrap64 (x5_1 + 1)) a0_0 a0_1) else (none))) else (if x3_1.size + 1 ≤ 9223372036854775807 then ((spec_FormatTerm.f k1 a0_0 x5_1 x5_1).bind fun t192 => (if (x3_1 ++ (⟨#[43]⟩ : ByteArray)).size + t192.size ≤ 9223372036854775807 then (spec_FormatAnf.l0 k1 ((x3_1 ++ (⟨#[43]⟩ : ByteArray)) ++ t192) t190 (wrap64 (x5_1 + 1)) a0_0 a0_1) else (none))) else (none)))) else (none)) else (if x3_1.toList = ([] : List UInt8) then (some (⟨#[48]⟩ : ByteArray)) else (some x3_1))) = some r := by first | (rw [hji11] at H; exact H) | (simp only [hji11] at H ⊢; exact H)
     have hji11_ : (IntKind.i64.wrap (1 * 2 ^ min a0_0.toNat 64)) = ji11 := hji11
     have hji11z : a0_0 ≤ 64 → (IntKind.i64.wrap (1 * 2 ^ a0_0.toNat)) = ji11 := shl_small hji11
     have hji11u : (IntKind.i64.wrap (2 ^ min a0_0.toNat 64)) = ji11 := by have h_ := hji11_; rw [Int.one_mul] at h_; exact h_
     have hji11v : a0_0 ≤ 64 → (IntKind.i64.wrap (2 ^ a0_0.toNat)) = ji11 := fun hle_ => by have h_ := hji11z hle_; rw [Int.one_mul] at h_; exact h_
     have hji11y : (wrap64 (1 * 2 ^ min a0_0.toNat 64)) = ji11 := (i64_w _).symm.trans hji11_
     have hji11x : a0_0 ≤ 64 → (wrap64 (1 * 2 ^ a0_0.toNat)) = ji11 := fun h_ => (i64_w _).symm.trans (hji11z h_)
     by_cases c12 : x5_1 < (ji11)
     ·rw [if_pos c12] at H
      have c12b0 : decide (x5_1 < (ji11)) = true := decide_eq_true c12
      clear c12
      by_cases c13 : 0 ≤ x5_1
      ·rw [if_pos c13] at H
       have c13b0 := eq_true c13
       have c13b1 : decide (0 ≤ x5_1) = true := decide_eq_true c13
       clear c13
       obtain ⟨ji14, hji14⟩ : ∃ j_ : Int, (shr .i64 t190 x5_1) = j_ := ⟨_, rfl⟩
       replace H : (if (Go.bits .and .i64 (ji14) 1) = 0 then (spec_FormatAnf.l0 k1 x3_1 t190 (wrap64 (x5_1 + 1)) a0_0 a0_1) else (if x3_1.toList = ([] : List UInt8) then ((spec_FormatTerm.f k1 a0_0 x5_1 x5_1).bind fun t191 => (if x3_1.size + t191.size ≤ 9223372036854775807 then (spec_FormatAnf.l0 k1 (x3_1 ++ t191) t190 (wrap64 (x5_1 + 1)) a0_0 a0_1) else (none))) else (if x3_1.size + 1 ≤ 9223372036854775807 then ((spec_FormatTerm.f k1 a0_0 x5_1 x5_1).bind fun t192 => (if (x3_1 ++ (⟨#[43]⟩ : ByteArray)).size + t192.size ≤ 9223372036854775807 then (spec_FormatAnf.l0 k1 ((x3_1 ++ (⟨#[43]⟩ : ByteArray)) ++ t192) t190 (wrap64 (x5_1 + 1)) a0_0 a0_1) else (none))) else (none)))) = some r := by first | (rw [hji14] at H; exact H) | (simp only [hji14] at H ⊢; exact H)
       have hji14_ : (t190 / 2 ^ min x5_1.toNat 64) = ji14 := hji14
       have hji14z : x5_1 ≤ 64 → (t190 / 2 ^ x5_1.toNat) = ji14 := shr_small hji14
       by_cases c15 : (Go.bits .and .i64 (ji14) 1) = 0
       ·rw [if_pos c15] at H
        have c15b0 : ((Go.bits .and .i64 (ji14) 1) == 0) = true := beq_iff_eq.mpr c15
        have c15b1 : ((Go.bits .and .i64 (ji14) 1) != 0) = false := bne_eq_false_iff_eq.mpr c15
        clear c15
        have H' := Aside0.mk H
        clear H
        obtain ⟨hcz16_0, hcz16_1, hfz16_0, hfz16_1⟩ := c2_ BK188
        go_wp2
        go_roundg k1
        case measure => have := HK1.out; omega
        case rel => exact ⟨(x3_1), (wrap64 (x5_1 + 1)), (by first | rfl | (simp; done) | (simp [*]; done)), (by first | rfl | (simp; done) | (simp [*]; done)), H', ⟨by have := HK1.out; omega⟩, ⟨by (with_reducible repeat (first | refine blk_drewN ?_ _ | refine blk_drew ?_ | refine blk_alloc ?_ _)); exact BK188.out⟩, ⟨bv1_ HB GE188⟩⟩
       ·rw [if_neg c15] at H
        have c15b0 : ((Go.bits .and .i64 (ji14) 1) == 0) = false := beq_eq_false_iff_ne.mpr c15
        have c15b1 : ((Go.bits .and .i64 (ji14) 1) != 0) = true := bne_iff_ne.mpr c15
        by_cases c17 : x3_1.toList = ([] : List UInt8)
        ·rw [if_pos c17] at H
         have c17b0 : (x3_1.toList == ([] : List UInt8)) = true := beq_iff_eq.mpr c17
         have c17b1 : (x3_1.toList != ([] : List UInt8)) = false := bne_eq_false_iff_eq.mpr c17
         clear c17
         replace H := Option.bind_eq_some_iff.mp H
         obtain ⟨t191, A180, H⟩ := H
         have A18 := Aside0.mk A180
         clear A180
         by_cases c19 : x3_1.size + t191.size ≤ 9223372036854775807
         ·rw [if_pos c19] at H
          have c19b0 := eq_true c19
          have c19b1 : decide (x3_1.size + t191.size ≤ 9223372036854775807) = true := decide_eq_true c19
          try have c19b2 : (9223372036854775807 < x3_1.size + t191.size) = False := eq_false (Nat.not_lt.2 c19)
          have H' := Aside0.mk H
          clear H
          obtain ⟨hcz20_0, hcz20_1, hfz20_0, hfz20_1⟩ := c2_ BK188
          go_wp2_with (first | ((with_reducible refine gate_callee (f := 49) rfl ?_); refine gl_ 33 Tryd.func49 #[.int .i64 a0_0, .agg #[.int .i64 x5_1, .int .i64 x5_1]] rfl mp_ ?_; (with_reducible refine (spec_FormatTerm.calls k1 a0_0 x5_1 x5_1 t191 _ A18.out).mono ?_); rintro e w21 ⟨rfl, hb⟩; refine ⟨_, rfl, ?_⟩; have n0_ := kb_ BK188 hb; have n1_ := Aside0.mk (below_step (bv1_ HB GE188) hb); clear BK188; clear HB; have BK188 := n0_; have HB := n1_; clear n0_ n1_; (try clear hb); (try clear hb2); (try clear hk); (try clear hi)))
          go_roundg k1
          case measure => have := HK1.out; omega
          case rel => exact ⟨(x3_1 ++ t191), (wrap64 (x5_1 + 1)), (by first | rfl | (simp; done) | (simp [*]; done)), (by first | rfl | (simp; done) | (simp [*]; done)), H', ⟨by have := HK1.out; omega⟩, ⟨by (with_reducible repeat (first | refine blk_drewN ?_ _ | refine blk_drew ?_ | refine blk_alloc ?_ _)); exact BK188.out⟩, ⟨bv1_ HB GE188⟩⟩
         ·rw [if_neg c19] at H
          exact absurd H (by simp)
        ·rw [if_neg c17] at H
         have c17b0 : (x3_1.toList == ([] : List UInt8)) = false := beq_eq_false_iff_ne.mpr c17
         have c17b1 : (x3_1.toList != ([] : List UInt8)) = true := bne_iff_ne.mpr c17
         by_cases c22 : x3_1.size + 1 ≤ 9223372036854775807
         ·rw [if_pos c22] at H
          have c22b0 := eq_true c22
          have c22b1 : decide (x3_1.size + 1 ≤ 9223372036854775807) = true := decide_eq_true c22
          try have c22b2 : (9223372036854775807 < x3_1.size + 1) = False := eq_false (Nat.not_lt.2 c22)
          replace H := Option.bind_eq_some_iff.mp H
          obtain ⟨t192, A230, H⟩ := H
          have A23 := Aside0.mk A230
          clear A230
          by_cases c24 : (x3_1 ++ (⟨#[43]⟩ : ByteArray)).size + t192.size ≤ 9223372036854775807
          ·rw [if_pos c24] at H
           have c24b0 := eq_true c24
           have c24b1 : decide ((x3_1 ++ (⟨#[43]⟩ : ByteArray)).size + t192.size ≤ 9223372036854775807) = true := decide_eq_true c24
           try have c24b2 : (9223372036854775807 < (x3_1 ++ (⟨#[43]⟩ : ByteArray)).size + t192.size) = False := eq_false (Nat.not_lt.2 c24)
           have c24b4 : (9223372036854775807 < x3_1.size + 1 + t192.size) = False := by
            have h_ := c24b2
            rw [ByteArray.size_append] at h_
            exact h_
           have H' := Aside0.mk H
           clear H
           obtain ⟨hcz25_0, hcz25_1, hfz25_0, hfz25_1⟩ := c2_ BK188
           go_wp2_with (first | ((with_reducible refine gate_callee (f := 49) rfl ?_); refine gl_ 33 Tryd.func49 #[.int .i64 a0_0, .agg #[.int .i64 x5_1, .int .i64 x5_1]] rfl mp_ ?_; (with_reducible refine (spec_FormatTerm.calls k1 a0_0 x5_1 x5_1 t192 _ A23.out).mono ?_); rintro e w26 ⟨rfl, hb⟩; refine ⟨_, rfl, ?_⟩; have n0_ := kb_ BK188 hb; have n1_ := Aside0.mk (below_step (bv1_ HB GE188) hb); clear BK188; clear HB; have BK188 := n0_; have HB := n1_; clear n0_ n1_; (try clear hb); (try clear hb2); (try clear hk); (try clear hi)))
           go_roundg k1
           case measure => have := HK1.out; omega
           case rel => exact ⟨((x3_1 ++ (⟨#[43]⟩ : ByteArray)) ++ t192), (wrap64 (x5_1 + 1)), (by first | rfl | (simp; done) | (simp [*]; done)), (by first | rfl | (simp; done) | (simp [*]; done)), H', ⟨by have := HK1.out; omega⟩, ⟨by (with_reducible repeat (first | refine blk_drewN ?_ _ | refine blk_drew ?_ | refine blk_alloc ?_ _)); exact BK188.out⟩, ⟨bv1_ HB GE188⟩⟩
          ·rw [if_neg c24] at H
           exact absurd H (by simp)
         ·rw [if_neg c22] at H
          exact absurd H (by simp)
      ·rw [if_neg c13] at H
       exact absurd H (by simp)
     ·rw [if_neg c12] at H
      have c12b0 : decide (x5_1 < (ji11)) = false := decide_eq_false c12
      clear c12
      by_cases c27 : x3_1.toList = ([] : List UInt8)
      ·rw [if_pos c27] at H
       have c27b0 : (x3_1.toList == ([] : List UInt8)) = true := beq_iff_eq.mpr c27
       have c27b1 : (x3_1.toList != ([] : List UInt8)) = false := bne_eq_false_iff_eq.mpr c27
       clear c27
       obtain rfl := Option.some.inj H
       obtain ⟨hcz28_0, hcz28_1, hfz28_0, hfz28_1⟩ := c2_ BK188
       go_wp2
       go_ret
       exact ⟨by first | rfl | (simp [errW_none, errW_some] <;> rfl) | (simp only [← hji11]; first | rfl | (simp [errW_none, errW_some] <;> rfl)) | (simp [*, errW_none, errW_some] <;> rfl), bv1_ HB GE188⟩
      ·rw [if_neg c27] at H
       have c27b0 : (x3_1.toList == ([] : List UInt8)) = false := beq_eq_false_iff_ne.mpr c27
       have c27b1 : (x3_1.toList != ([] : List UInt8)) = true := bne_iff_ne.mpr c27
       obtain rfl := Option.some.inj H
       obtain ⟨hcz29_0, hcz29_1, hfz29_0, hfz29_1⟩ := c2_ BK188
       go_wp2
       go_ret
       exact ⟨by first | rfl | (simp [errW_none, errW_some] <;> rfl) | (simp only [← hji11]; first | rfl | (simp [errW_none, errW_some] <;> rfl)) | (simp [*, errW_none, errW_some] <;> rfl), bv1_ HB GE188⟩
    ·rw [if_neg c10] at H
     exact absurd H (by simp)
 ·replace c3 := Bool.eq_false_iff.mpr c3
  subst c3
  rw [if_neg (show ¬ (false = true) by decide)] at H
  obtain rfl := Option.some.inj H
  go_enter Tryd.func21, Tryd.ntmps21
  go_wp2_with (first | ((with_reducible refine gate_dst (N := 1) rfl ?_); refine bx_ 1 #[.int .i64 a0_0, .int .i64 a0_1] 23 ?_; intro gb188 hg w30 hbox hb; have BK188 := Aside0.mk (hbox); have GW188 := gw_ hg (below_size (bv_ HB)); have GE188 := GW188; replace HB := Aside0.mk (below_step (bv_ HB) hb); clear hb hbox hg; obtain ⟨hcz31_0, hcz31_1, hfz31_0, hfz31_1⟩ := c2_ BK188) | ((with_reducible refine gate_callee (f := 38) rfl ?_); refine gl_ 7 Tryd.func38 #[.agg #[.int .i64 a0_0, .int .i64 a0_1]] rfl mp_ ?_; (with_reducible refine (spec_IsTable.calls a0_0 a0_1 false _ A2.out).mono ?_); rintro e w32 ⟨rfl, hb⟩; refine ⟨_, rfl, ?_⟩; replace BK188 := kb_ BK188 hb; replace HB := Aside0.mk (below_step (bv1_ HB GE188) hb); (try clear hb); (try clear hb2); (try clear hk); (try clear hi)))
  go_ret
  exact ⟨er_, bv1_ HB GE188⟩


end Go.Proofs.YteljkpglgjjnlaaDoor.P
