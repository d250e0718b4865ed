-- Out of the translation, by this session's program over the printer's; Lean checks it.
import Derived.Test.YteljkpglgjjnlaaSh
import Derived.Test.YteljkpglgjjnlaaQ0
import Derived.Test.YteljkpglgjjnlaaQ1
namespace Go.Proofs.Yteljkpglgjjnlaa.P
open Go.RowKit Go.Proofs.YteljkpglgjjnlaaW.PrintWords Go.Proofs.YteljkpglgjjnlaaW.PrintLast Go.Proofs.YteljkpglgjjnlaaW.PrintMore
attribute [local go_sem] max2_int min2_int max_two min_two max_three min_three max_four min_four
set_option linter.unusedVariables false
set_option linter.unusedSimpArgs false

/-! ### impl_FormatTerm: function 65 -/
def impl_FormatTerm.l0 : Nat → List Int → Int → Int → Int → Int → Option (ByteArray)
 | 0, _, _, _, _, _ => none
 | k + 1, x5, x11, x12, x302000, x302001 => if x12 < x11 then (if 0 ≤ x12 then (if (Go.bits .and .i64 (shr .i64 x302000 x12) 1) = 0 then (impl_FormatTerm.l0 k x5 x11 (wrap64 (x12 + 1)) x302000 x302001) else (if (Go.bits .and .i64 (shr .i64 x302001 x12) 1) = 0 then (if x5.length < 140737488355328 then ((some (x5 ++ [33] : List Int)).bind fun y303 => (if y303.length < 140737488355328 then (impl_FormatTerm.l0 k (y303 ++ [(97 + ((x12) % 256)) % 256]) x11 (wrap64 (x12 + 1)) x302000 x302001) else (none))) else (none)) else (if x5.length < 140737488355328 then (impl_FormatTerm.l0 k (x5 ++ [(97 + ((x12) % 256)) % 256]) x11 (wrap64 (x12 + 1)) x302000 x302001) else (none)))) else (none)) else (if (x5.length : Int) = 0 then (some (⟨#[49]⟩ : ByteArray)) else (some (strOfNums x5)))
def impl_FormatTerm.f (k : Nat) (a0 : Int) (a1_0 : Int) (a1_1 : Int) : Option (ByteArray) := (impl_IsTerm.f a0 a1_0 a1_1).bind fun t302 => (if t302 = true then (impl_FormatTerm.l0 k ([] : List Int) a0 0 a1_0 a1_1) else (some (⟨#[]⟩ : ByteArray)))
theorem impl_FormatTerm.mono_l : ∀ k, (∀ y0 y1 y2 y3 y4, LeO (impl_FormatTerm.l0 k y0 y1 y2 y3 y4) (impl_FormatTerm.l0 (k + 1) y0 y1 y2 y3 y4))
 | 0 => fun _ _ _ _ _ r h => by simp [impl_FormatTerm.l0] at h
 | k + 1 => by
  have ih0 := impl_FormatTerm.mono_l k
  ·intro y0 y1 y2 y3 y4
   unfold impl_FormatTerm.l0
   repeat' first
   | (with_reducible exact ih0 _ _ _ _ _)
   | (with_reducible exact LeO.refl _)
   | (with_reducible exact LeO.none _)
   | (with_reducible refine LeO.ite ?_ ?_)
   | (with_reducible refine LeO.bind ?_ (fun _ => ?_))
   | exact ih0 _ _ _ _ _
   | exact LeO.none _
   | refine LeO.ite ?_ ?_
   | refine LeO.bind ?_ (fun _ => ?_)
theorem impl_FormatTerm.mono : ∀ a0 a1 a2 k, LeO (impl_FormatTerm.f k a0 a1 a2) (impl_FormatTerm.f (k + 1) a0 a1 a2) := by
 intro a0 a1 a2 k
 have ih0 := impl_FormatTerm.mono_l k
 unfold impl_FormatTerm.f
 repeat' first
   | (with_reducible exact ih0 _ _ _ _ _)
   | (with_reducible exact LeO.refl _)
   | (with_reducible exact LeO.none _)
   | (with_reducible refine LeO.ite ?_ ?_)
   | (with_reducible refine LeO.bind ?_ (fun _ => ?_))
   | exact ih0 _ _ _ _ _
   | exact LeO.none _
   | refine LeO.ite ?_ ?_
   | refine LeO.bind ?_ (fun _ => ?_)
set_option maxHeartbeats 8000000 in
set_option maxRecDepth 100000 in
theorem impl_FormatTerm.calls (k : Nat) (a0 : Int) (a1_0 : Int) (a1_1 : Int) (r : ByteArray) (w : World) (h : impl_FormatTerm.f k a0 a1_0 a1_1 = some r) :
  Calls Try.prog 65 #[.int .i64 a0, .agg #[.int .i64 a1_0, .int .i64 a1_1]] w fun e w' => e = .returned (.string r) ∧ Below w.heap.size w w' := by
 have hu50 := Try.underlying50
 have HB := Aside0.mk (Below.refl w.heap.size w)
 have H : ((impl_IsTerm.f a0 a1_0 a1_1).bind fun t302 => (if t302 = true then (impl_FormatTerm.l0 k ([] : List Int) a0 0 a1_0 a1_1) else (some (⟨#[]⟩ : ByteArray)))) = some r := h
 clear h
 replace H := Option.bind_eq_some_iff.mp H
 obtain ⟨t302, A30, H⟩ := H
 have A3 := Aside0.mk A30
 clear A30
 by_cases c4 : t302 = true
 ·subst c4
  rw [if_pos rfl] at H
  have H' := Aside0.mk H
  clear H
  go_enter Try.func65, Try.ntmps65
  go_wp2_with (first | ((with_reducible refine gate_dst (N := 3) rfl ?_); refine bx_ 3 #[.int .i64 a1_0, .int .i64 a1_1] 50 ?_; intro gb301 hg w5 hbox hb; have BK301 := Aside0.mk (hbox); have GW301 := gw_ hg (below_size (bv_ HB)); have GE301 := GW301; replace HB := Aside0.mk (below_step (bv_ HB) hb); clear hb hbox hg; obtain ⟨hcz6_0, hcz6_1, hfz6_0, hfz6_1⟩ := c2_ BK301) | ((with_reducible refine gate_callee (f := 81) rfl ?_); refine gl_ 9 Try.func81 #[.int .i64 a0, .agg #[.int .i64 a1_0, .int .i64 a1_1]] rfl mp_ ?_; (with_reducible refine (impl_IsTerm.calls a0 a1_0 a1_1 true _ A3.out).mono ?_); rintro e w7 ⟨rfl, hb⟩; refine ⟨_, rfl, ?_⟩; replace BK301 := kb_ BK301 hb; replace HB := Aside0.mk (below_step (bv1_ HB GE301) hb); (try clear hb); (try clear hb2); (try clear hk); (try clear hi)))
  go_loopg [5, 12] k (fun kq v5 v12 w' => ∃ (x5_1 : List Int) (x12_1 : Int), v12 = .int .i64 x12_1 ∧ Aside0 (impl_FormatTerm.l0 kq x5_1 a0 x12_1 a1_0 a1_1 = some r) ∧ Aside0 (kq ≤ k) ∧ Aside0 (Kd.R (Kd.int .u8) 5 w' w.heap.size (fun _ => True) v5 x5_1) ∧ Aside0 (w'.heap[gb301]? = some (.cells #[.int .i64 a1_0, .int .i64 a1_1] 50 (0, 0))) ∧ Aside0 (Below w.heap.size w w'))
  case atStart => exact ⟨(([] : List Int)), (0), (by first | rfl | (simp; done) | (simp [*]; done)), H', ⟨Nat.le_refl _⟩, ⟨by first | exact Kd.R_nil _ _ _ _ _ | exact Kd.N_nil _ _ _ _ _ | exact Kd.V_nil _ _ _ _ _ | exact Kd.Q_nil _ _ _ _ _ | exact Kd.S_nil _ _ _ _ _⟩, ⟨by (with_reducible repeat (first | refine blk_drewN ?_ _ | refine blk_drew ?_ | refine blk_alloc ?_ _)); exact BK301.out⟩, ⟨bv1_ HB GE301⟩⟩
  case round =>
   clear H'
   try clear p2
   try clear c4
   try clear c6
   try clear hcz6_0
   try clear hcz6_1
   try clear hfz6_0
   try clear hfz6_1
   obtain ⟨x5_1, x12_1, rfl, HA, HK1, HO_5, BK301, HB⟩ := hrel
   cases gk with
   | zero => exact absurd HA.out (by simp [impl_FormatTerm.l0])
   | succ k1 =>
    have H := HA.out
    clear HA
    simp only [impl_FormatTerm.l0] at H
    have he_ : (97 + ((x12_1) % 256)) % 256 = (97 + x12_1) % 256 := by omega
    simp only [he_] at H
    clear he_
    by_cases c8 : x12_1 < a0
    ·rw [if_pos c8] at H
     have c8b0 : decide (x12_1 < a0) = true := decide_eq_true c8
     clear c8
     by_cases c9 : 0 ≤ x12_1
     ·rw [if_pos c9] at H
      have c9b0 := eq_true c9
      have c9b1 : decide (0 ≤ x12_1) = true := decide_eq_true c9
      clear c9
      obtain ⟨ji10, hji10⟩ : ∃ j_ : Int, (shr .i64 a1_0 x12_1) = j_ := ⟨_, rfl⟩
      replace H : (if (Go.bits .and .i64 (ji10) 1) = 0 then (impl_FormatTerm.l0 k1 x5_1 a0 (wrap64 (x12_1 + 1)) a1_0 a1_1) else (if (Go.bits .and .i64 (shr .i64 a1_1 x12_1) 1) = 0 then (if x5_1.length < 140737488355328 then ((some (x5_1 ++ [33] : List Int)).bind fun y303 => (if y303.length < 140737488355328 then (impl_FormatTerm.l0 k1 (y303 ++ [(97 + x12_1) % 256]) a0 (wrap64 (x12_1 + 1)) a1_0 a1_1) else (none))) else (none)) else (if x5_1.length < 140737488355328 then (impl_FormatTerm.l0 k1 (x5_1 ++ [(97 + x12_1) % 256]) a0 (wrap64 (x12_1 + 1)) a1_0 a1_1) else (none)))) = some r := by first | (rw [hji10] at H; exact H) | (simp only [hji10] at H ⊢; exact H)
      have hji10_ : (a1_0 / 2 ^ min x12_1.toNat 64) = ji10 := hji10
      have hji10z : x12_1 ≤ 64 → (a1_0 / 2 ^ x12_1.toNat) = ji10 := shr_small hji10
      by_cases c11 : (Go.bits .and .i64 (ji10) 1) = 0
      ·rw [if_pos c11] at H
       have c11b0 : ((Go.bits .and .i64 (ji10) 1) == 0) = true := beq_iff_eq.mpr c11
       have c11b1 : ((Go.bits .and .i64 (ji10) 1) != 0) = false := bne_eq_false_iff_eq.mpr c11
       clear c11
       have H' := Aside0.mk H
       clear H
       obtain ⟨hcz12_0, hcz12_1, hfz12_0, hfz12_1⟩ := c2_ BK301
       go_wp2
       go_roundg k1
       case measure => have := HK1.out; omega
       case rel => exact ⟨(x5_1), (wrap64 (x12_1 + 1)), (by first | rfl | (simp; done) | (simp [*]; done)), H', ⟨by have := HK1.out; omega⟩, ⟨by (with_reducible repeat (first | apply Kd.R_alloc | apply Kd.R_drewN | apply Kd.R_drew)); exact HO_5.out⟩, ⟨by (with_reducible repeat (first | refine blk_drewN ?_ _ | refine blk_drew ?_ | refine blk_alloc ?_ _)); exact BK301.out⟩, ⟨bv1_ HB GE301⟩⟩
      ·rw [if_neg c11] at H
       have c11b0 : ((Go.bits .and .i64 (ji10) 1) == 0) = false := beq_eq_false_iff_ne.mpr c11
       have c11b1 : ((Go.bits .and .i64 (ji10) 1) != 0) = true := bne_iff_ne.mpr c11
       have c13b0 := eq_true (of_decide_eq_true (by first | (with_reducible assumption) | assumption) : 0 ≤ x12_1)
       obtain ⟨ji14, hji14⟩ : ∃ j_ : Int, (shr .i64 a1_1 x12_1) = j_ := ⟨_, rfl⟩
       replace H : (if (Go.bits .and .i64 (ji14) 1) = 0 then (if x5_1.length < 140737488355328 then ((some (x5_1 ++ [33] : List Int)).bind fun y303 => (if y303.length < 140737488355328 then (impl_FormatTerm.l0 k1 (y303 ++ [(97 + x12_1) % 256]) a0 (wrap64 (x12_1 + 1)) a1_0 a1_1) else (none))) else (none)) else (if x5_1.length < 140737488355328 then (impl_FormatTerm.l0 k1 (x5_1 ++ [(97 + x12_1) % 256]) a0 (wrap64 (x12_1 + 1)) a1_0 a1_1) else (none))) = some r := by first | (rw [hji14] at H; exact H) | (simp only [hji14] at H ⊢; exact H)
       have hji14_ : (a1_1 / 2 ^ min x12_1.toNat 64) = ji14 := hji14
       have hji14z : x12_1 ≤ 64 → (a1_1 / 2 ^ x12_1.toNat) = ji14 := shr_small hji14
       by_cases c15 : (Go.bits .and .i64 (ji14) 1) = 0
       ·rw [if_pos c15] at H
        have c15b0 : ((Go.bits .and .i64 (ji14) 1) == 0) = true := beq_iff_eq.mpr c15
        have c15b1 : ((Go.bits .and .i64 (ji14) 1) != 0) = false := bne_eq_false_iff_eq.mpr c15
        clear c15
        by_cases c16 : x5_1.length < 140737488355328
        ·rw [if_pos c16] at H
         have LMc16 := Aside0.mk c16
         clear c16
         obtain ⟨y303, hy303⟩ : ∃ y_ : List Int, y_ = (x5_1 ++ [33]) := ⟨_, rfl⟩
         replace H : (if y303.length < 140737488355328 then (impl_FormatTerm.l0 k1 (y303 ++ [(97 + x12_1) % 256]) a0 (wrap64 (x12_1 + 1)) a1_0 a1_1) else (none)) = some r := by first | (rw [hy303]; with_reducible exact H) | (have H2_ := (Option.bind_some _ _).symm.trans H; rw [hy303]; with_reducible exact H2_) | (have H2_ := (Option.bind_some _ _).symm.trans H; with_reducible exact H2_) | with_reducible exact H | (rw [hy303]; exact H) | exact H
         have Ny303 := Aside0.mk hy303
         clear hy303
         by_cases c17 : y303.length < 140737488355328
         ·rw [if_pos c17] at H
          have LMc17 := Aside0.mk c17
          clear c17
          obtain ⟨y306, hy306⟩ : ∃ y_ : List Int, y_ = (y303 ++ [(97 + x12_1) % 256]) := ⟨_, rfl⟩
          replace H : (impl_FormatTerm.l0 k1 y306 a0 (wrap64 (x12_1 + 1)) a1_0 a1_1) = some r := by first | (rw [hy306]; with_reducible exact H) | (have H2_ := (Option.bind_some _ _).symm.trans H; rw [hy306]; with_reducible exact H2_) | (have H2_ := (Option.bind_some _ _).symm.trans H; with_reducible exact H2_) | with_reducible exact H | (rw [hy306]; exact H) | exact H
          have Ny306 := Aside0.mk hy306
          clear hy306
          have H' := Aside0.mk H
          clear H
          obtain ⟨hcz18_0, hcz18_1, hfz18_0, hfz18_1⟩ := c2_ BK301
          go_wp2_with (first | ((with_reducible refine gate_builtin (b := .append) (xs := #[.tmp 27, .tmp 28]) rfl ?_); at_builtin; refine Kd.R_append (Kd.int .u8) (w0 := w) w.heap.size rfl (.tmp 27) (.tmp 28) 28 5 (.int .u8 0) 1 rfl Try.underlying28 info5 rfl (by decide) (by omega) u5 x5_1 33 [.int .u8 33] (fun _ => True) (fun _ => False) rfl rfl ?aP (fun _ hk => hk.elim) ?aF ?aO ?aB ?aS ?aL ?_; (case aP => exact rfl); (case aB => exact (bv1_ HB GE301)); (case aF => exact (fun _ _ => trivial)); (case aO => exact (rv_ HO_5)); (case aS => exact (below_size (bv1_ HB GE301))); (case aL => have := LMc16.out; omega); intro v304 w19 ho hb hg hat; rw [← Ny303.out] at ho; have n0_ := Aside0.mk (blk_grown (g := gb301) (o := .cells #[.int .i64 a1_0, .int .i64 a1_1] 50 (0, 0)) (kv_ BK301) hg (Kd.R_ne HO_5.out BK301.out (by decide))); have n1_ := Aside0.mk (hb); have n2_ := Aside0.mk (ho); clear BK301; clear HB; clear HO_5; have BK301 := n0_; have HB := n1_; have HO305 := n2_; clear n0_ n1_ n2_; clear ho hb hg hat) | ((with_reducible refine gate_builtin (b := .append) (xs := #[.tmp 30, .tmp 34]) rfl ?_); at_builtin; refine Kd.R_append (Kd.int .u8) (w0 := w) w.heap.size rfl (.tmp 30) (.tmp 34) 28 5 (.int .u8 0) 1 rfl Try.underlying28 info5 rfl (by decide) (by omega) v304 y303 ((97 + x12_1) % 256) [.int .u8 ((97 + x12_1) % 256)] (fun _ => True) (fun _ => False) rfl rfl ?aP (fun _ hk => hk.elim) ?aF ?aO ?aB ?aS ?aL ?_; (case aP => exact rfl); (case aB => exact (bv1_ HB GE301)); (case aF => exact (fun _ _ => trivial)); (case aO => exact (rv_ HO305)); (case aS => exact (below_size (bv1_ HB GE301))); (case aL => have := LMc17.out; omega); intro v307 w20 ho hb hg hat; rw [← Ny306.out] at ho; have n0_ := Aside0.mk (blk_grown (g := gb301) (o := .cells #[.int .i64 a1_0, .int .i64 a1_1] 50 (0, 0)) (kv_ BK301) hg (Kd.R_ne HO305.out BK301.out (by decide))); have n1_ := Aside0.mk (hb); have n2_ := Aside0.mk (ho); clear BK301; clear HB; clear HO305; have BK301 := n0_; have HB := n1_; have HO308 := n2_; clear n0_ n1_ n2_; clear ho hb hg hat))
          go_roundg k1
          case measure => have := HK1.out; omega
          case rel => exact ⟨(y306), (wrap64 (x12_1 + 1)), (by first | rfl | (simp; done) | (simp [*]; done)), H', ⟨by have := HK1.out; omega⟩, ⟨by (with_reducible repeat (first | apply Kd.R_alloc | apply Kd.R_drewN | apply Kd.R_drew)); exact HO308.out⟩, ⟨by (with_reducible repeat (first | refine blk_drewN ?_ _ | refine blk_drew ?_ | refine blk_alloc ?_ _)); exact BK301.out⟩, ⟨bv1_ HB GE301⟩⟩
         ·rw [if_neg c17] at H
          exact absurd H (by simp)
        ·rw [if_neg c16] at H
         exact absurd H (by simp)
       ·rw [if_neg c15] at H
        have c15b0 : ((Go.bits .and .i64 (ji14) 1) == 0) = false := beq_eq_false_iff_ne.mpr c15
        have c15b1 : ((Go.bits .and .i64 (ji14) 1) != 0) = true := bne_iff_ne.mpr c15
        by_cases c21 : x5_1.length < 140737488355328
        ·rw [if_pos c21] at H
         have LMc21 := Aside0.mk c21
         clear c21
         obtain ⟨y309, hy309⟩ : ∃ y_ : List Int, y_ = (x5_1 ++ [(97 + x12_1) % 256]) := ⟨_, rfl⟩
         replace H : (impl_FormatTerm.l0 k1 y309 a0 (wrap64 (x12_1 + 1)) a1_0 a1_1) = some r := by first | (rw [hy309]; with_reducible exact H) | (have H2_ := (Option.bind_some _ _).symm.trans H; rw [hy309]; with_reducible exact H2_) | (have H2_ := (Option.bind_some _ _).symm.trans H; with_reducible exact H2_) | with_reducible exact H | (rw [hy309]; exact H) | exact H
         have Ny309 := Aside0.mk hy309
         clear hy309
         have H' := Aside0.mk H
         clear H
         obtain ⟨hcz22_0, hcz22_1, hfz22_0, hfz22_1⟩ := c2_ BK301
         go_wp2_with (first | ((with_reducible refine gate_builtin (b := .append) (xs := #[.tmp 30, .tmp 34]) rfl ?_); at_builtin; refine Kd.R_append (Kd.int .u8) (w0 := w) w.heap.size rfl (.tmp 30) (.tmp 34) 28 5 (.int .u8 0) 1 rfl Try.underlying28 info5 rfl (by decide) (by omega) u5 x5_1 ((97 + x12_1) % 256) [.int .u8 ((97 + x12_1) % 256)] (fun _ => True) (fun _ => False) rfl rfl ?aP (fun _ hk => hk.elim) ?aF ?aO ?aB ?aS ?aL ?_; (case aP => exact rfl); (case aB => exact (bv1_ HB GE301)); (case aF => exact (fun _ _ => trivial)); (case aO => exact (rv_ HO_5)); (case aS => exact (below_size (bv1_ HB GE301))); (case aL => have := LMc21.out; omega); intro v310 w23 ho hb hg hat; rw [← Ny309.out] at ho; have n0_ := Aside0.mk (blk_grown (g := gb301) (o := .cells #[.int .i64 a1_0, .int .i64 a1_1] 50 (0, 0)) (kv_ BK301) hg (Kd.R_ne HO_5.out BK301.out (by decide))); have n1_ := Aside0.mk (hb); have n2_ := Aside0.mk (ho); clear BK301; clear HB; clear HO_5; have BK301 := n0_; have HB := n1_; have HO311 := n2_; clear n0_ n1_ n2_; clear ho hb hg hat))
         go_roundg k1
         case measure => have := HK1.out; omega
         case rel => exact ⟨(y309), (wrap64 (x12_1 + 1)), (by first | rfl | (simp; done) | (simp [*]; done)), H', ⟨by have := HK1.out; omega⟩, ⟨by (with_reducible repeat (first | apply Kd.R_alloc | apply Kd.R_drewN | apply Kd.R_drew)); exact HO311.out⟩, ⟨by (with_reducible repeat (first | refine blk_drewN ?_ _ | refine blk_drew ?_ | refine blk_alloc ?_ _)); exact BK301.out⟩, ⟨bv1_ HB GE301⟩⟩
        ·rw [if_neg c21] at H
         exact absurd H (by simp)
     ·rw [if_neg c9] at H
      exact absurd H (by simp)
    ·rw [if_neg c8] at H
     have c8b0 : decide (x12_1 < a0) = false := decide_eq_false c8
     clear c8
     by_cases c24 : (x5_1.length : Int) = 0
     ·rw [if_pos c24] at H
      have c24b0 : ((x5_1.length : Int) == 0) = true := beq_iff_eq.mpr c24
      have c24b1 : ((x5_1.length : Int) != 0) = false := bne_eq_false_iff_eq.mpr c24
      clear c24
      obtain rfl := Option.some.inj H
      obtain ⟨Ao25, co25, eo25⟩ := Kd.R_slice HO_5.out
      subst eo25
      go_wp2
      go_ret
      exact ⟨by first | rfl | (simp [errW_none, errW_some] <;> rfl) | (simp [*, errW_none, errW_some] <;> rfl), bv1_ HB GE301⟩
     ·rw [if_neg c24] at H
      have c24b0 : ((x5_1.length : Int) == 0) = false := beq_eq_false_iff_ne.mpr c24
      have c24b1 : ((x5_1.length : Int) != 0) = true := bne_iff_ne.mpr c24
      have c24b2 : ¬ (x5_1 = []) := fun h_ => c24 (by rw [h_]; rfl)
      obtain rfl := Option.some.inj H
      obtain ⟨Ao26, co26, eo26⟩ := Kd.R_slice HO_5.out
      subst eo26
      have hcv27 := own_string (P := Try.prog) Try.underlying28 Try.underlying5 Try.underlying9 (Kd.own_of_R HO_5.out)
      go_wp2
      go_ret
      exact ⟨by first | rfl | (simp [errW_none, errW_some] <;> rfl) | (simp [*, errW_none, errW_some] <;> rfl), bv1_ HB GE301⟩
 ·replace c4 := Bool.eq_false_iff.mpr c4
  subst c4
  rw [if_neg (show ¬ (false = true) by decide)] at H
  obtain rfl := Option.some.inj H
  go_enter Try.func65, Try.ntmps65
  go_wp2_with (first | ((with_reducible refine gate_dst (N := 3) rfl ?_); refine bx_ 3 #[.int .i64 a1_0, .int .i64 a1_1] 50 ?_; intro gb301 hg w28 hbox hb; have BK301 := Aside0.mk (hbox); have GW301 := gw_ hg (below_size (bv_ HB)); have GE301 := GW301; replace HB := Aside0.mk (below_step (bv_ HB) hb); clear hb hbox hg; obtain ⟨hcz29_0, hcz29_1, hfz29_0, hfz29_1⟩ := c2_ BK301) | ((with_reducible refine gate_callee (f := 81) rfl ?_); refine gl_ 9 Try.func81 #[.int .i64 a0, .agg #[.int .i64 a1_0, .int .i64 a1_1]] rfl mp_ ?_; (with_reducible refine (impl_IsTerm.calls a0 a1_0 a1_1 false _ A3.out).mono ?_); rintro e w30 ⟨rfl, hb⟩; refine ⟨_, rfl, ?_⟩; replace BK301 := kb_ BK301 hb; replace HB := Aside0.mk (below_step (bv1_ HB GE301) hb); (try clear hb); (try clear hb2); (try clear hk); (try clear hi)))
  go_ret
  exact ⟨by first | rfl | (simp [errW_none, errW_some] <;> rfl) | (simp [*, errW_none, errW_some] <;> rfl), bv1_ HB GE301⟩

-- NOT PRINTED: function 93 (abi_NoEscape)

-- NOT PRINTED: function 91 (strings_Builder_copyCheck)

-- NOT PRINTED: function 94 (bytealg_MakeNoZero)

-- NOT PRINTED: function 92 (strings_Builder_grow)

-- NOT PRINTED: function 82 (strings_Builder_Grow)

-- NOT PRINTED: function 83 (strings_Builder_WriteString)

-- NOT PRINTED: function 84 (strings_Builder_String)


/-! ### strings_Join: function 66 -/
/-- The elements, the separator between them; asked only of rows whose text is no longer than memory. -/
def strings_Join.f (l0 : List ByteArray) (a1 : ByteArray) : Option (ByteArray) := if l0.length ≤ 140737488355328 ∧ (Go.Lib.join (l0.map (·.data.toList)) a1.data.toList).length ≤ 140737488355328 then some ⟨(Go.Lib.join (l0.map (·.data.toList)) a1.data.toList).toArray⟩ else none
set_option maxHeartbeats 8000000 in
theorem strings_Join.calls (A0 : Option Addr) (c0 : Nat) (l0 : List ByteArray) (a1 : ByteArray) (r : ByteArray) (w : World) (hr0 : Kd.C Kd.string w A0 l0.length l0) (hc0 : l0.length ≤ c0) (h : strings_Join.f l0 a1 = some r) :
    Calls Try.prog 66 #[.slice A0 l0.length c0, .string a1] w fun e w' => e = .returned (.string r) ∧ Below w.heap.size w w' := by
  unfold strings_Join.f at h
  by_cases hb : l0.length ≤ 140737488355328 ∧ (Go.Lib.join (l0.map (·.data.toList)) a1.data.toList).length ≤ 140737488355328
  case neg => rw [if_neg hb] at h; exact absurd h (by simp)
  rw [if_pos hb] at h
  obtain rfl := Option.some.inj h
  cases l0 with
  | nil =>
    refine (Go.Proofs.Try.strings_Join_none A0 c0 a1 w).mono ?_
    rintro e w' ⟨rfl, rfl⟩
    exact ⟨rfl, Below.refl _ _⟩
  | cons x xs =>
    obtain ⟨ad, rfl, hcell⟩ := hr0.2.2 (by simp)
    have hcells : ∀ (j : Nat) (y : ByteArray), (x :: xs)[j]? = some y → w.cell? (ad.add j) = some (.string y) := by
      intro j y hj
      obtain ⟨c, hl, hc, hu⟩ := hcell j y hj
      have hc' : c = [.string y] := hc
      subst hc'
      have h_ := hu 0 (.string y) rfl
      have e_ : ad.add (j * Kd.string.sz + 0) = ad.add j := by
        show ad.add (j * 1 + 0) = ad.add j
        rw [Nat.mul_one, Nat.add_zero]
      rw [e_] at h_
      exact h_
    have h0 := hcells 0 x rfl
    obtain ⟨bk, o, q⟩ := ad
    cases q with
    | some q =>
      exfalso
      revert h0
      simp only [World.cell?, Addr.add]
      split <;> simp
    | none =>
      have hbk := World.block_lt_of_cell? w _ h0
      have hcells2 : ∀ (j : Nat) (y : ByteArray), (x :: xs)[j]? = some y → w.cell? ⟨bk, o + j, none⟩ = some (.string y) := fun j y hj => by
        have h_ := hcells j y hj
        simp only [Addr.add] at h_
        split at h_
        · rename_i e_; rw [e_]; exact h_
        · exact h_
      exact Go.Proofs.Try.strings_Join bk o c0 (x :: xs) a1 w hcells2 hbk hb.1 hc0 hb.2


/-! ### impl_joinTerms: function 38 -/
def impl_joinTerms.l0 : Nat → Int → ByteArray → List ByteArray → List (S50) → Int → Int → Option (ByteArray)
 | 0, _, _, _, _, _, _ => none
 | k + 1, x0, x2, x7, x13, x14, x15 => if x15 < x14 then (if 0 ≤ x15 then (if x15 < (x13.length : Int) then ((impl_FormatTerm.f k x0 ((rd_T50 x13 x15).f0) ((rd_T50 x13 x15).f1)).bind fun t357 => (if x15 < (x7.length : Int) then (impl_joinTerms.l0 k x0 x2 (x7.set (x15 : Int).toNat t357) x13 x14 (wrap64 (x15 + 1))) else (none))) else (none)) else (none)) else ((strings_Join.f x7 x2).bind fun t359 => (some t359))
def impl_joinTerms.f (k : Nat) (a0 : Int) (l1 : List (S50)) (a2 : ByteArray) : Option (ByteArray) := if 0 ≤ (l1.length : Int) then (if ((l1.length : Int) : Int).toNat ≤ 17592186044416 then (impl_joinTerms.l0 k a0 a2 (List.replicate ((l1.length : Int) : Int).toNat (⟨#[]⟩ : ByteArray)) l1 (l1.length : Int) 0) else (none)) else (none)
theorem impl_joinTerms.mono_l : ∀ k, (∀ y0 y1 y2 y3 y4 y5, LeO (impl_joinTerms.l0 k y0 y1 y2 y3 y4 y5) (impl_joinTerms.l0 (k + 1) y0 y1 y2 y3 y4 y5))
 | 0 => fun _ _ _ _ _ _ r h => by simp [impl_joinTerms.l0] at h
 | k + 1 => by
  have ih0 := impl_joinTerms.mono_l k
  ·intro y0 y1 y2 y3 y4 y5
   unfold impl_joinTerms.l0
   repeat' first
   | (with_reducible exact ih0 _ _ _ _ _ _)
   | (with_reducible exact impl_FormatTerm.mono _ _ _ _)
   | (with_reducible exact LeO.refl _)
   | (with_reducible exact LeO.none _)
   | (with_reducible refine LeO.ite ?_ ?_)
   | (with_reducible refine LeO.bind ?_ (fun _ => ?_))
   | exact ih0 _ _ _ _ _ _
   | exact impl_FormatTerm.mono _ _ _ _
   | exact LeO.none _
   | refine LeO.ite ?_ ?_
   | refine LeO.bind ?_ (fun _ => ?_)
theorem impl_joinTerms.mono : ∀ a0 a1 a2 k, LeO (impl_joinTerms.f k a0 a1 a2) (impl_joinTerms.f (k + 1) a0 a1 a2) := by
 intro a0 a1 a2 k
 have ih0 := impl_joinTerms.mono_l k
 unfold impl_joinTerms.f
 repeat' first
   | (with_reducible exact ih0 _ _ _ _ _ _)
   | (with_reducible exact impl_FormatTerm.mono _ _ _ _)
   | (with_reducible exact LeO.refl _)
   | (with_reducible exact LeO.none _)
   | (with_reducible refine LeO.ite ?_ ?_)
   | (with_reducible refine LeO.bind ?_ (fun _ => ?_))
   | exact ih0 _ _ _ _ _ _
   | exact impl_FormatTerm.mono _ _ _ _
   | exact LeO.none _
   | refine LeO.ite ?_ ?_
   | refine LeO.bind ?_ (fun _ => ?_)
set_option maxHeartbeats 8000000 in
set_option maxRecDepth 100000 in
theorem impl_joinTerms.calls (k : Nat) (a0 : Int) (A1 : Option Addr) (c1 : Nat) (l1 : List (S50)) (a2 : ByteArray) (r : ByteArray) (w : World) (hr1 : Kd.C k50 w A1 l1.length l1) (hc1 : l1.length ≤ c1) (h : impl_joinTerms.f k a0 l1 a2 = some r) :
  Calls Try.prog 38 #[.int .i64 a0, .slice A1 l1.length c1, .string a2] w fun e w' => e = .returned (.string r) ∧ Below w.heap.size w w' := by
 have hu50 := Try.underlying50
 have HR1 := Aside0.mk hr1
 have HC1 := Aside0.mk hc1
 clear hr1 hc1
 have HB := Aside0.mk (Below.refl w.heap.size w)
 have H : (if 0 ≤ (l1.length : Int) then (if ((l1.length : Int) : Int).toNat ≤ 17592186044416 then (impl_joinTerms.l0 k a0 a2 (List.replicate ((l1.length : Int) : Int).toNat (⟨#[]⟩ : ByteArray)) l1 (l1.length : Int) 0) else (none)) else (none)) = some r := h
 clear h
 by_cases c4 : 0 ≤ (l1.length : Int)
 ·rw [if_pos c4] at H
  have c4b0 := eq_true c4
  have c4b1 : decide (0 ≤ (l1.length : Int)) = true := decide_eq_true c4
  clear c4
  by_cases c5 : ((l1.length : Int) : Int).toNat ≤ 17592186044416
  ·rw [if_pos c5] at H
   have c5b0 := eq_true c5
   have c5b1 : decide (((l1.length : Int) : Int).toNat ≤ 17592186044416) = true := decide_eq_true c5
   clear c5
   obtain ⟨y352, hy352⟩ : ∃ y_ : List ByteArray, y_ = (List.replicate ((l1.length : Int) : Int).toNat (⟨#[]⟩ : ByteArray)) := ⟨_, rfl⟩
   replace H : (impl_joinTerms.l0 k a0 a2 y352 l1 (l1.length : Int) 0) = some r := by first | (rw [hy352]; with_reducible exact H) | (have H2_ := (Option.bind_some _ _).symm.trans H; rw [hy352]; with_reducible exact H2_) | (have H2_ := (Option.bind_some _ _).symm.trans H; with_reducible exact H2_) | with_reducible exact H | (rw [hy352]; exact H) | exact H
   have Ny352 := Aside0.mk hy352
   clear hy352
   have H' := Aside0.mk H
   clear H
   go_enter Try.func38, Try.ntmps38
   go_wp2_with (first | ((with_reducible refine gate_dst (N := 12) rfl ?_); refine Kd.R_make Kd.string _ 9 rfl (N := 12) rfl 82 _ _ rfl (l1.length : Int) rfl rfl Try.underlying82 (.string ⟨#[]⟩) 16 info9 rfl (by decide) (by omega) (⟨#[]⟩ : ByteArray) (ok := fun _ => True) (okp := fun _ => True) rfl (fun _ hk => hk) trivial (of_decide_eq_true (by first | (with_reducible assumption) | assumption)) (Nat.le_trans (Nat.mul_le_mul_right _ (of_decide_eq_true (by first | (with_reducible assumption) | assumption) : (l1.length : Int).toNat ≤ 17592186044416)) (by omega)) (Below.refl _ _) (Nat.le_refl _) ?_; intro v353 w6 ho7 hb hg_ hnew_; clear hg_ hnew_; (first | rw [← Ny352.out] at ho7 | (simp only [Int.reduceToNat] at ho7; rw [← Ny352.out] at ho7)); have HO354 := Aside0.mk (Kd.R_lower ho7 (below_size (bv_ HB))); replace HB := Aside0.mk (below_step (bv_ HB) hb); clear hb ho7))
   go_loopg [15] k (fun kq v15 w' => ∃ (x7_1 : List ByteArray) (x15_1 : Int), v15 = .int .i64 x15_1 ∧ Aside0 (impl_joinTerms.l0 kq a0 a2 x7_1 l1 (l1.length : Int) x15_1 = some r) ∧ Aside0 (kq ≤ k) ∧ Aside0 (Kd.R Kd.string 9 w' w.heap.size (fun _ => True) v353 x7_1) ∧ Aside0 (Below w.heap.size w w'))
   case atStart => exact ⟨(y352), (0), (by first | rfl | (simp; done) | (simp [*]; done)), H', ⟨Nat.le_refl _⟩, ⟨by (with_reducible repeat (first | apply Kd.R_alloc | apply Kd.R_drewN | apply Kd.R_drew)); exact HO354.out⟩, ⟨bv_ HB⟩⟩
   case round =>
    clear H'
    try clear c1
    try clear p2
    try clear c3
    try clear c4
    try clear c4b0
    try clear c4b1
    try clear c5
    try clear c5b0
    try clear c5b1
    obtain ⟨x7_1, x15_1, rfl, HA, HK1, HO_7, HB⟩ := hrel
    cases gk with
    | zero => exact absurd HA.out (by simp [impl_joinTerms.l0])
    | succ k1 =>
     have H := HA.out
     clear HA
     simp only [impl_joinTerms.l0] at H
     by_cases c8 : x15_1 < (l1.length : Int)
     ·rw [if_pos c8] at H
      have c8b0 : decide (x15_1 < (l1.length : Int)) = true := decide_eq_true c8
      clear c8
      by_cases c9 : 0 ≤ x15_1
      ·rw [if_pos c9] at H
       have c9b0 : decide (0 ≤ x15_1) = true := decide_eq_true c9
       clear c9
       by_cases c10 : x15_1 < (l1.length : Int)
       ·rw [if_pos c10] at H
        have c10b0 : decide (x15_1 < (l1.length : Int)) = true := decide_eq_true c10
        clear c10
        replace H := Option.bind_eq_some_iff.mp H
        obtain ⟨t357, A110, H⟩ := H
        have A11 := Aside0.mk A110
        clear A110
        by_cases c12 : x15_1 < (x7_1.length : Int)
        ·rw [if_pos c12] at H
         have c12b0 : decide (x15_1 < (x7_1.length : Int)) = true := decide_eq_true c12
         clear c12
         obtain ⟨y358, hy358⟩ : ∃ y_ : List ByteArray, y_ = (x7_1.set (x15_1 : Int).toNat t357) := ⟨_, rfl⟩
         replace H : (impl_joinTerms.l0 k1 a0 a2 y358 l1 (l1.length : Int) (wrap64 (x15_1 + 1))) = some r := by first | (rw [hy358]; with_reducible exact H) | (have H2_ := (Option.bind_some _ _).symm.trans H; rw [hy358]; with_reducible exact H2_) | (have H2_ := (Option.bind_some _ _).symm.trans H; with_reducible exact H2_) | with_reducible exact H | (rw [hy358]; exact H) | exact H
         have Ny358 := Aside0.mk hy358
         clear hy358
         have H' := Aside0.mk H
         clear H
         have p355 : 0 ≤ (x15_1 : Int) := of_decide_eq_true (by first | (with_reducible assumption) | assumption)
         have q355 : x15_1 < (l1.length : Int) := of_decide_eq_true (by first | (with_reducible assumption) | assumption)
         obtain ⟨ad355, e355, hx355_0, hx355_1⟩ := at_T50 HR1.out x15_1 p355 q355
         cases e355
         replace hx355_0 := (HB.out.cell (World.block_lt_of_cell? w _ hx355_0)).trans hx355_0
         replace hx355_1 := (HB.out.cell (World.block_lt_of_cell? w _ hx355_1)).trans hx355_1
         replace p355 := eq_true p355
         replace q355 := eq_true q355
         go_wp2_with (first | ((with_reducible refine gate_dst (N := 9) rfl ?_); refine bx_ 9 #[.int .i64 0, .int .i64 0] 50 ?_; intro gb356 hg w14 hbox hb; replace HO_7 := Aside0.mk (Kd.R_below (rv_ HO_7) hb); have BK356 := Aside0.mk (hbox); have GW356 := gw_ hg (below_size (bv_ HB)); have GE356 := GW356; replace HB := Aside0.mk (below_step (bv_ HB) hb); clear hb hbox hg; obtain ⟨hcz15_0, hcz15_1, hfz15_0, hfz15_1⟩ := c2_ BK356) | ((with_reducible refine gate_callee (f := 65) rfl ?_); refine gl_ 24 Try.func65 #[.int .i64 a0, .agg #[.int .i64 ((rd_T50 l1 x15_1).f0), .int .i64 ((rd_T50 l1 x15_1).f1)]] rfl mp_ ?_; (with_reducible refine (impl_FormatTerm.calls k1 a0 ((rd_T50 l1 x15_1).f0) ((rd_T50 l1 x15_1).f1) t357 _ A11.out).mono ?_); rintro e w16 ⟨rfl, hb⟩; refine ⟨_, rfl, ?_⟩; replace HO_7 := Aside0.mk (Kd.R_below (by (with_reducible repeat (first | apply Kd.R_alloc | apply Kd.R_drewN | apply Kd.R_drew)); exact (Kd.R_mono (Kd.R_far (p := ⟨gb356, 1, none⟩) (Kd.R_far (p := ⟨gb356, 0, none⟩) (Kd.R_types HO_7.out BK356.out (by decide)) (fun _ hk => hk.2) (.int .i64 ((rd_T50 l1 x15_1).f0))) (fun _ hk => hk.2) (.int .i64 ((rd_T50 l1 x15_1).f1))) (fun _ h_ => h_.1))) hb); replace BK356 := Aside0.mk (blk_below (g := gb356) (o := .cells #[.int .i64 ((rd_T50 l1 x15_1).f0), .int .i64 ((rd_T50 l1 x15_1).f1)] 50 (0, 0)) (by (with_reducible repeat (first | refine blk_drewN ?_ _ | refine blk_drew ?_ | refine blk_alloc ?_ _)); refine blk_put (cs := #[.int .i64 ((rd_T50 l1 x15_1).f0), .int .i64 0]) ?_ 1 _ rfl; (with_reducible repeat (first | refine blk_drewN ?_ _ | refine blk_drew ?_ | refine blk_alloc ?_ _)); refine blk_put (cs := #[.int .i64 0, .int .i64 0]) ?_ 0 _ rfl; (with_reducible repeat (first | refine blk_drewN ?_ _ | refine blk_drew ?_ | refine blk_alloc ?_ _)); exact BK356.out) hb); replace HB := Aside0.mk (below_step (bv1_ HB GE356) hb); (try clear hb); (try clear hb2); (try clear hk); (try clear hi); have p13 : 0 ≤ (x15_1 : Int) := of_decide_eq_true (by first | (with_reducible assumption) | assumption); have q13 : (x15_1 : Int) < ((x7_1.length : Int) : Int) := of_decide_eq_true (by first | (with_reducible assumption) | assumption); obtain ⟨go13, co13, eo13, gb13, gl13, cl13, HG13⟩ := Kd.R_form HO_7.out (by omega); (first | cases eo13 | (injection eo13 with ea_ en_ ec_; (first | subst ea_ | (injection ea_ with ea_; subst ea_)); subst ec_; clear en_)); have GB13 := Aside0.mk gb13; have GG13 := Aside0.mk HG13; clear gb13 gl13 HG13; obtain ⟨hx13_0, hf13_0⟩ := Kd.R_celln (⟨#[]⟩ : ByteArray) HO_7.out (x15_1 : Int) p13 q13; replace p13 := eq_true p13; replace q13 := eq_true q13; obtain ⟨hy17_, hz17_⟩ := Kd.R_celln (⟨#[]⟩ : ByteArray) HO_7.out (x15_1 : Int) (of_decide_eq_true (by first | (with_reducible assumption) | assumption)) (of_decide_eq_true (by first | (with_reducible assumption) | assumption)); have HP17 := Kd.R_putg HO_7.out (x15_1 : Int) t357) | ((with_reducible refine gate_store (t := 9) (p := 25) rfl ?_); refine store_event (t := 9) (p := 25) (v := ?vo_w18) (w1 := (w16.setCell ⟨go13, (x15_1 : Int).toNat, none⟩ (.string t357))) ?hg ?ho ?hn ?hr ?_; (case ho => rfl); (case hg => rfl); (case hn => rfl); (case hr => first | (go_simp; done) | (go_simp; rfl)); intro w18 hw; have hg : w16.grownBy w18 (some go13) := (by rw [hw]; exact HP17.2); have hp_ : Kd.R Kd.string 9 w18 w.heap.size (fun _ => True) (.slice (some ⟨go13, 0, none⟩) x7_1.length co13) y358 := (by rw [hw, Ny358.out]; exact HP17.1); clear HP17; replace BK356 := Aside0.mk (blk_grown (g := gb356) (o := .cells #[.int .i64 ((rd_T50 l1 x15_1).f0), .int .i64 ((rd_T50 l1 x15_1).f1)] 50 (0, 0)) (kv_ BK356) hg (Kd.R_ne HO_7.out BK356.out (by decide))); replace HO_7 := Aside0.mk (hp_); replace HB := Aside0.mk ((by rw [hw]; exact below_set (HB.out) GB13.out : Below w.heap.size w w18)); clear hg hw hp_))
         go_roundg k1
         case measure => have := HK1.out; omega
         case rel => exact ⟨(y358), (wrap64 (x15_1 + 1)), (by first | rfl | (simp; done) | (simp [*]; done)), H', ⟨by have := HK1.out; omega⟩, ⟨by (with_reducible repeat (first | apply Kd.R_alloc | apply Kd.R_drewN | apply Kd.R_drew)); exact HO_7.out⟩, ⟨bv1_ HB GE356⟩⟩
        ·rw [if_neg c12] at H
         exact absurd H (by simp)
       ·rw [if_neg c10] at H
        exact absurd H (by simp)
      ·rw [if_neg c9] at H
       exact absurd H (by simp)
     ·rw [if_neg c8] at H
      have c8b0 : decide (x15_1 < (l1.length : Int)) = false := decide_eq_false c8
      clear c8
      replace H := Option.bind_eq_some_iff.mp H
      obtain ⟨t359, A190, H⟩ := H
      have A19 := Aside0.mk A190
      clear A190
      obtain rfl := Option.some.inj H
      obtain ⟨Ao20, co20, eo20⟩ := Kd.R_slice HO_7.out
      subst eo20
      go_wp2_with (first | ((with_reducible refine gate_callee (f := 66) rfl ?_); refine gl_ 29 Try.func66 #[.slice Ao20 x7_1.length co20, .string a2] rfl mp_ ?_; (with_reducible refine (strings_Join.calls _ _ x7_1 a2 t359 _ ?side1 ?side2 A19.out).mono ?_); (case side1 => repeat (first | exact (Kd.R_reads' HO_7.out).2.2 | (with_reducible refine Kd.C_alloc ?_ _) | (with_reducible refine Kd.C_drewN ?_ _) | (with_reducible refine Kd.C_drew ?_))); (case side2 => exact (Kd.R_reads' HO_7.out).2.1); rintro e w21 ⟨rfl, hb⟩; refine ⟨_, rfl, ?_⟩; replace HO_7 := Aside0.mk (Kd.R_below (rv_ HO_7) hb); replace HB := Aside0.mk (below_step (bv_ HB) hb); (try clear hb); (try clear hb2); (try clear hk); (try clear hi)))
      go_ret
      exact ⟨by first | rfl | (simp [errW_none, errW_some] <;> rfl) | (simp [*, errW_none, errW_some] <;> rfl), bv_ HB⟩
  ·rw [if_neg c5] at H
   exact absurd H (by simp)
 ·rw [if_neg c4] at H
  exact absurd H (by simp)


/-! ### impl_FormatAnf: function 7 -/
def impl_FormatAnf.l0 : Nat → List (S50) → Int → Int → Int → Int → Int → Int → Option (ByteArray)
 | 0, _, _, _, _, _, _, _ => none
 | k + 1, x4, x12, x13, x361000, x361001, x365000, x365001 => if x13 < x12 then ((impl_Table_at.f x365000 x365001 x13).bind fun t366 => (if t366 = 1 then (if x4.length < 8796093022208 then (impl_FormatAnf.l0 k (x4 ++ [(⟨x13, x13⟩ : S50)]) x12 (wrap64 (x13 + 1)) x361000 x361001 x365000 x365001) else (none)) else (impl_FormatAnf.l0 k x4 x12 (wrap64 (x13 + 1)) x361000 x361001 x365000 x365001))) else (if (x4.length : Int) = 0 then (some (⟨#[48]⟩ : ByteArray)) else ((impl_joinTerms.f k x361000 x4 (⟨#[43]⟩ : ByteArray)).bind fun t370 => (some t370)))
def impl_FormatAnf.f (k : Nat) (a0_0 : Int) (a0_1 : Int) : Option (ByteArray) := (impl_IsTable.f a0_0 a0_1).bind fun t361 => (if t361 = true then ((impl_Table_anf.f a0_0 a0_1).bind fun bt362 => ((impl_Table_size.f bt362.1 bt362.2).bind fun t365 => (impl_FormatAnf.l0 k ([] : List (S50)) t365 0 a0_0 a0_1 bt362.1 bt362.2))) else (some (⟨#[]⟩ : ByteArray)))
theorem impl_FormatAnf.mono_l : ∀ k, (∀ y0 y1 y2 y3 y4 y5 y6, LeO (impl_FormatAnf.l0 k y0 y1 y2 y3 y4 y5 y6) (impl_FormatAnf.l0 (k + 1) y0 y1 y2 y3 y4 y5 y6))
 | 0 => fun _ _ _ _ _ _ _ r h => by simp [impl_FormatAnf.l0] at h
 | k + 1 => by
  have ih0 := impl_FormatAnf.mono_l k
  ·intro y0 y1 y2 y3 y4 y5 y6
   unfold impl_FormatAnf.l0
   repeat' first
   | (with_reducible exact ih0 _ _ _ _ _ _ _)
   | (with_reducible exact impl_joinTerms.mono _ _ _ _)
   | (with_reducible exact LeO.refl _)
   | (with_reducible exact LeO.none _)
   | (with_reducible refine LeO.ite ?_ ?_)
   | (with_reducible refine LeO.bind ?_ (fun _ => ?_))
   | exact ih0 _ _ _ _ _ _ _
   | exact impl_joinTerms.mono _ _ _ _
   | exact LeO.none _
   | refine LeO.ite ?_ ?_
   | refine LeO.bind ?_ (fun _ => ?_)
theorem impl_FormatAnf.mono : ∀ a0 a1 k, LeO (impl_FormatAnf.f k a0 a1) (impl_FormatAnf.f (k + 1) a0 a1) := by
 intro a0 a1 k
 have ih0 := impl_FormatAnf.mono_l k
 unfold impl_FormatAnf.f
 repeat' first
   | (with_reducible exact ih0 _ _ _ _ _ _ _)
   | (with_reducible exact impl_joinTerms.mono _ _ _ _)
   | (with_reducible exact LeO.refl _)
   | (with_reducible exact LeO.none _)
   | (with_reducible refine LeO.ite ?_ ?_)
   | (with_reducible refine LeO.bind ?_ (fun _ => ?_))
   | exact ih0 _ _ _ _ _ _ _
   | exact impl_joinTerms.mono _ _ _ _
   | exact LeO.none _
   | refine LeO.ite ?_ ?_
   | refine LeO.bind ?_ (fun _ => ?_)
set_option maxHeartbeats 8000000 in
set_option maxRecDepth 100000 in
theorem impl_FormatAnf.calls (k : Nat) (a0_0 : Int) (a0_1 : Int) (r : ByteArray) (w : World) (h : impl_FormatAnf.f k a0_0 a0_1 = some r) :
  Calls Try.prog 7 #[.agg #[.int .i64 a0_0, .int .i64 a0_1]] w fun e w' => e = .returned (.string r) ∧ Below w.heap.size w w' := by
 have hu25 := Try.underlying25
 have hu50 := Try.underlying50
 have HB := Aside0.mk (Below.refl w.heap.size w)
 have H : ((impl_IsTable.f a0_0 a0_1).bind fun t361 => (if t361 = true then ((impl_Table_anf.f a0_0 a0_1).bind fun bt362 => ((impl_Table_size.f bt362.1 bt362.2).bind fun t365 => (impl_FormatAnf.l0 k ([] : List (S50)) t365 0 a0_0 a0_1 bt362.1 bt362.2))) else (some (⟨#[]⟩ : ByteArray)))) = some r := h
 clear h
 replace H := Option.bind_eq_some_iff.mp H
 obtain ⟨t361, A20, H⟩ := H
 have A2 := Aside0.mk A20
 clear A20
 by_cases c3 : t361 = true
 ·subst c3
  rw [if_pos rfl] at H
  replace H := Option.bind_eq_some_iff.mp H
  obtain ⟨⟨t362, t363⟩, A40, H⟩ := H
  replace H : ((impl_Table_size.f t362 t363).bind fun t365 => (impl_FormatAnf.l0 k ([] : List (S50)) t365 0 a0_0 a0_1 t362 t363)) = some r := H
  have A4 := Aside0.mk A40
  clear A40
  replace H := Option.bind_eq_some_iff.mp H
  obtain ⟨t365, A50, H⟩ := H
  have A5 := Aside0.mk A50
  clear A50
  have H' := Aside0.mk H
  clear H
  go_enter Try.func7, Try.ntmps7
  go_wp2_with (first | ((with_reducible refine gate_dst (N := 1) rfl ?_); refine bx_ 1 #[.int .i64 a0_0, .int .i64 a0_1] 25 ?_; intro gb360 hg w6 hbox hb; have BK360 := Aside0.mk (hbox); have GW360 := gw_ hg (below_size (bv_ HB)); have GE360 := GW360; replace HB := Aside0.mk (below_step (bv_ HB) hb); clear hb hbox hg; obtain ⟨hcz7_0, hcz7_1, hfz7_0, hfz7_1⟩ := c2_ BK360) | ((with_reducible refine gate_callee (f := 34) rfl ?_); refine gl_ 7 Try.func34 #[.agg #[.int .i64 a0_0, .int .i64 a0_1]] rfl mp_ ?_; (with_reducible refine (impl_IsTable.calls a0_0 a0_1 true _ A2.out).mono ?_); rintro e w8 ⟨rfl, hb⟩; refine ⟨_, rfl, ?_⟩; replace BK360 := kb_ BK360 hb; replace HB := Aside0.mk (below_step (bv1_ HB GE360) hb); (try clear hb); (try clear hb2); (try clear hk); (try clear hi); obtain ⟨hcz9_0, hcz9_1, hfz9_0, hfz9_1⟩ := c2_ BK360) | ((with_reducible refine gate_callee (f := 35) rfl ?_); refine gl_ 10 Try.func35 #[.agg #[.int .i64 a0_0, .int .i64 a0_1]] rfl mp_ ?_; (with_reducible refine (impl_Table_anf.calls a0_0 a0_1 t362 t363 _ A4.out).mono ?_); rintro e w10 ⟨rfl, hb⟩; refine ⟨_, rfl, ?_⟩; replace BK360 := kb_ BK360 hb; replace HB := Aside0.mk (below_step (bv1_ HB GE360) hb); (try clear hb); (try clear hb2); (try clear hk); (try clear hi)) | ((with_reducible refine gate_dst (N := 3) rfl ?_); refine bx_ 3 #[.int .i64 0, .int .i64 0] 25 ?_; intro gb364 hg w11 hbox hb; have BK364 := Aside0.mk (hbox); have GW364 := gw_ hg (below_size (bv1_ HB GE360)); have GE364 := GW364; replace HB := Aside0.mk (below_step (bv1_ HB GE360) hb); have NB360_364 := nb_ hg (blk_lt (g := gb360) (o := .cells #[.int .i64 a0_0, .int .i64 a0_1] 25 (0, 0)) (kv_ BK360)); have NB364_360 := nc_ hg (blk_lt (g := gb360) (o := .cells #[.int .i64 a0_0, .int .i64 a0_1] 25 (0, 0)) (kv_ BK360)); replace BK360 := kb_ BK360 hb; clear hb hbox hg; have hnb12 := NB364_360.out; have hnc12 := NB360_364.out; obtain ⟨hcz13_0, hcz13_1, hfz13_0, hfz13_1⟩ := c2_ BK364) | ((with_reducible refine gate_callee (f := 36) rfl ?_); refine gl_ 12 Try.func36 #[.agg #[.int .i64 t362, .int .i64 t363]] rfl mp_ ?_; (with_reducible refine (impl_Table_size.calls t362 t363 t365 _ A5.out).mono ?_); rintro e w14 ⟨rfl, hb⟩; refine ⟨_, rfl, ?_⟩; replace BK360 := Aside0.mk (blk_below (g := gb360) (o := .cells #[.int .i64 a0_0, .int .i64 a0_1] 25 (0, 0)) (by (with_reducible repeat (first | refine blk_drewN ?_ _ | refine blk_drew ?_ | refine blk_alloc ?_ _)); refine blk_far ?_ NB360_364.out _; (with_reducible repeat (first | refine blk_drewN ?_ _ | refine blk_drew ?_ | refine blk_alloc ?_ _)); refine blk_far ?_ NB360_364.out _; (with_reducible repeat (first | refine blk_drewN ?_ _ | refine blk_drew ?_ | refine blk_alloc ?_ _)); exact BK360.out) hb); replace BK364 := Aside0.mk (blk_below (g := gb364) (o := .cells #[.int .i64 t362, .int .i64 t363] 25 (0, 0)) (by (with_reducible repeat (first | refine blk_drewN ?_ _ | refine blk_drew ?_ | refine blk_alloc ?_ _)); refine blk_put (cs := #[.int .i64 t362, .int .i64 0]) ?_ 1 _ rfl; (with_reducible repeat (first | refine blk_drewN ?_ _ | refine blk_drew ?_ | refine blk_alloc ?_ _)); refine blk_put (cs := #[.int .i64 0, .int .i64 0]) ?_ 0 _ rfl; (with_reducible repeat (first | refine blk_drewN ?_ _ | refine blk_drew ?_ | refine blk_alloc ?_ _)); exact BK364.out) hb); replace HB := Aside0.mk (below_step (bv2_ HB GE360 GE364) hb); (try clear hb); (try clear hb2); (try clear hk); (try clear hi)))
  go_loopg [4, 13] k (fun kq v4 v13 w' => ∃ (x4_1 : List (S50)) (x13_1 : Int), v13 = .int .i64 x13_1 ∧ Aside0 (impl_FormatAnf.l0 kq x4_1 t365 x13_1 a0_0 a0_1 t362 t363 = some r) ∧ Aside0 (kq ≤ k) ∧ Aside0 (Kd.R k50 50 w' w.heap.size (fun _ => True) v4 x4_1) ∧ Aside0 (w'.heap[gb360]? = some (.cells #[.int .i64 a0_0, .int .i64 a0_1] 25 (0, 0))) ∧ Aside0 (w'.heap[gb364]? = some (.cells #[.int .i64 t362, .int .i64 t363] 25 (0, 0))) ∧ Aside0 (Below w.heap.size w w'))
  case atStart => exact ⟨(([] : List (S50))), (0), (by first | rfl | (simp; done) | (simp [*]; done)), H', ⟨Nat.le_refl _⟩, ⟨by first | exact Kd.R_nil _ _ _ _ _ | exact Kd.N_nil _ _ _ _ _ | exact Kd.V_nil _ _ _ _ _ | exact Kd.Q_nil _ _ _ _ _ | exact Kd.S_nil _ _ _ _ _⟩, ⟨by (with_reducible repeat (first | refine blk_drewN ?_ _ | refine blk_drew ?_ | refine blk_alloc ?_ _)); exact BK360.out⟩, ⟨by (with_reducible repeat (first | refine blk_drewN ?_ _ | refine blk_drew ?_ | refine blk_alloc ?_ _)); exact BK364.out⟩, ⟨bv2_ HB GE360 GE364⟩⟩
  case round =>
   clear H'
   try clear c1
   try clear p2
   try clear c3
   try clear c7
   try clear c12
   try clear hcz13_0
   try clear hcz13_1
   try clear hcz7_0
   try clear hcz7_1
   try clear hcz9_0
   try clear hcz9_1
   try clear hfz13_0
   try clear hfz13_1
   try clear hfz7_0
   try clear hfz7_1
   try clear hfz9_0
   try clear hfz9_1
   obtain ⟨x4_1, x13_1, rfl, HA, HK1, HO_4, BK360, BK364, HB⟩ := hrel
   cases gk with
   | zero => exact absurd HA.out (by simp [impl_FormatAnf.l0])
   | succ k1 =>
    have H := HA.out
    clear HA
    simp only [impl_FormatAnf.l0] at H
    by_cases c15 : x13_1 < t365
    ·rw [if_pos c15] at H
     have c15b0 : decide (x13_1 < t365) = true := decide_eq_true c15
     clear c15
     replace H := Option.bind_eq_some_iff.mp H
     obtain ⟨t366, A160, H⟩ := H
     have A16 := Aside0.mk A160
     clear A160
     by_cases c17 : t366 = 1
     ·rw [if_pos c17] at H
      have c17b0 : (t366 == 1) = true := beq_iff_eq.mpr c17
      have c17b1 : (t366 != 1) = false := bne_eq_false_iff_eq.mpr c17
      clear c17
      by_cases c18 : x4_1.length < 8796093022208
      ·rw [if_pos c18] at H
       have LMc18 := Aside0.mk c18
       clear c18
       obtain ⟨y367, hy367⟩ : ∃ y_ : List (S50), y_ = (x4_1 ++ [(⟨x13_1, x13_1⟩ : S50)]) := ⟨_, rfl⟩
       replace H : (impl_FormatAnf.l0 k1 y367 t365 (wrap64 (x13_1 + 1)) a0_0 a0_1 t362 t363) = some r := by first | (rw [hy367]; with_reducible exact H) | (have H2_ := (Option.bind_some _ _).symm.trans H; rw [hy367]; with_reducible exact H2_) | (have H2_ := (Option.bind_some _ _).symm.trans H; with_reducible exact H2_) | with_reducible exact H | (rw [hy367]; exact H) | exact H
       have Ny367 := Aside0.mk hy367
       clear hy367
       have H' := Aside0.mk H
       clear H
       have hnb19 := NB364_360.out
       have hnc19 := NB360_364.out
       obtain ⟨hcz20_0, hcz20_1, hfz20_0, hfz20_1⟩ := c2_ BK364
       go_wp2_with (first | ((with_reducible refine gate_callee (f := 37) rfl ?_); refine gl_ 18 Try.func37 #[.agg #[.int .i64 t362, .int .i64 t363], .int .i64 x13_1] rfl mp_ ?_; (with_reducible refine (impl_Table_at.calls t362 t363 x13_1 t366 _ A16.out).mono ?_); rintro e w21 ⟨rfl, hb⟩; refine ⟨_, rfl, ?_⟩; have n0_ := Aside0.mk (Kd.R_below (rv_ HO_4) hb); have n1_ := kb_ BK360 hb; have n2_ := kb_ BK364 hb; have n3_ := Aside0.mk (below_step (bv2_ HB GE360 GE364) hb); clear HO_4; clear BK360; clear BK364; clear HB; have HO_4 := n0_; have BK360 := n1_; have BK364 := n2_; have HB := n3_; clear n0_ n1_ n2_ n3_; (try clear hb); (try clear hb2); (try clear hk); (try clear hi)) | ((with_reducible refine gate_builtin (b := .append) (xs := #[.tmp 20, .tmp 24]) rfl ?_); at_builtin; refine Kd.R_append k50 (w0 := w) w.heap.size rfl (.tmp 20) (.tmp 24) 52 50 (.agg #[(.int .i64 0), (.int .i64 0)]) 16 rfl Try.underlying52 info50 rfl (by decide) (by omega) u4 x4_1 (⟨x13_1, x13_1⟩ : S50) [.int .i64 x13_1, .int .i64 x13_1] (fun _ => True) (fun _ => False) rfl rfl ?aP (fun _ hk => hk.elim) ?aF ?aO ?aB ?aS ?aL ?_; (case aP => exact k50_mkM _ _ _ (⟨x13_1, x13_1⟩ : S50)); (case aB => exact (bv2_ HB GE360 GE364)); (case aF => exact (fun _ _ => trivial)); (case aO => exact (rv_ HO_4)); (case aS => exact (below_size (bv2_ HB GE360 GE364))); (case aL => have := LMc18.out; omega); intro v368 w22 ho hb hg hat; rw [← Ny367.out] at ho; have n0_ := Aside0.mk (blk_grown (g := gb360) (o := .cells #[.int .i64 a0_0, .int .i64 a0_1] 25 (0, 0)) (kv_ BK360) hg (Kd.R_ne HO_4.out BK360.out (by decide))); have n1_ := Aside0.mk (blk_grown (g := gb364) (o := .cells #[.int .i64 t362, .int .i64 t363] 25 (0, 0)) (kv_ BK364) hg (Kd.R_ne HO_4.out BK364.out (by decide))); have n2_ := Aside0.mk (hb); have n3_ := Aside0.mk (ho); clear BK360; clear BK364; clear HB; clear HO_4; have BK360 := n0_; have BK364 := n1_; have HB := n2_; have HO369 := n3_; clear n0_ n1_ n2_ n3_; clear ho hb hg hat))
       go_roundg k1
       case measure => have := HK1.out; omega
       case rel => exact ⟨(y367), (wrap64 (x13_1 + 1)), (by first | rfl | (simp; done) | (simp [*]; done)), H', ⟨by have := HK1.out; omega⟩, ⟨by (with_reducible repeat (first | apply Kd.R_alloc | apply Kd.R_drewN | apply Kd.R_drew)); exact HO369.out⟩, ⟨by (with_reducible repeat (first | refine blk_drewN ?_ _ | refine blk_drew ?_ | refine blk_alloc ?_ _)); exact BK360.out⟩, ⟨by (with_reducible repeat (first | refine blk_drewN ?_ _ | refine blk_drew ?_ | refine blk_alloc ?_ _)); exact BK364.out⟩, ⟨bv2_ HB GE360 GE364⟩⟩
      ·rw [if_neg c18] at H
       exact absurd H (by simp)
     ·rw [if_neg c17] at H
      have c17b0 : (t366 == 1) = false := beq_eq_false_iff_ne.mpr c17
      have c17b1 : (t366 != 1) = true := bne_iff_ne.mpr c17
      have H' := Aside0.mk H
      clear H
      have hnb23 := NB364_360.out
      have hnc23 := NB360_364.out
      obtain ⟨hcz24_0, hcz24_1, hfz24_0, hfz24_1⟩ := c2_ BK364
      go_wp2_with (first | ((with_reducible refine gate_callee (f := 37) rfl ?_); refine gl_ 18 Try.func37 #[.agg #[.int .i64 t362, .int .i64 t363], .int .i64 x13_1] rfl mp_ ?_; (with_reducible refine (impl_Table_at.calls t362 t363 x13_1 t366 _ A16.out).mono ?_); rintro e w25 ⟨rfl, hb⟩; refine ⟨_, rfl, ?_⟩; have n0_ := Aside0.mk (Kd.R_below (rv_ HO_4) hb); have n1_ := kb_ BK360 hb; have n2_ := kb_ BK364 hb; have n3_ := Aside0.mk (below_step (bv2_ HB GE360 GE364) hb); clear HO_4; clear BK360; clear BK364; clear HB; have HO_4 := n0_; have BK360 := n1_; have BK364 := n2_; have HB := n3_; clear n0_ n1_ n2_ n3_; (try clear hb); (try clear hb2); (try clear hk); (try clear hi)))
      go_roundg k1
      case measure => have := HK1.out; omega
      case rel => exact ⟨(x4_1), (wrap64 (x13_1 + 1)), (by first | rfl | (simp; done) | (simp [*]; done)), H', ⟨by have := HK1.out; omega⟩, ⟨by (with_reducible repeat (first | apply Kd.R_alloc | apply Kd.R_drewN | apply Kd.R_drew)); exact HO_4.out⟩, ⟨by (with_reducible repeat (first | refine blk_drewN ?_ _ | refine blk_drew ?_ | refine blk_alloc ?_ _)); exact BK360.out⟩, ⟨by (with_reducible repeat (first | refine blk_drewN ?_ _ | refine blk_drew ?_ | refine blk_alloc ?_ _)); exact BK364.out⟩, ⟨bv2_ HB GE360 GE364⟩⟩
    ·rw [if_neg c15] at H
     have c15b0 : decide (x13_1 < t365) = false := decide_eq_false c15
     clear c15
     by_cases c26 : (x4_1.length : Int) = 0
     ·rw [if_pos c26] at H
      have c26b0 : ((x4_1.length : Int) == 0) = true := beq_iff_eq.mpr c26
      have c26b1 : ((x4_1.length : Int) != 0) = false := bne_eq_false_iff_eq.mpr c26
      clear c26
      obtain rfl := Option.some.inj H
      obtain ⟨Ao27, co27, eo27⟩ := Kd.R_slice HO_4.out
      subst eo27
      go_wp2
      go_ret
      exact ⟨by first | rfl | (simp [errW_none, errW_some] <;> rfl) | (simp [*, errW_none, errW_some] <;> rfl), bv2_ HB GE360 GE364⟩
     ·rw [if_neg c26] at H
      have c26b0 : ((x4_1.length : Int) == 0) = false := beq_eq_false_iff_ne.mpr c26
      have c26b1 : ((x4_1.length : Int) != 0) = true := bne_iff_ne.mpr c26
      have c26b2 : ¬ (x4_1 = []) := fun h_ => c26 (by rw [h_]; rfl)
      replace H := Option.bind_eq_some_iff.mp H
      obtain ⟨t370, A280, H⟩ := H
      have A28 := Aside0.mk A280
      clear A280
      obtain rfl := Option.some.inj H
      obtain ⟨Ao29, co29, eo29⟩ := Kd.R_slice HO_4.out
      subst eo29
      have hnb30 := NB360_364.out
      have hnc30 := NB364_360.out
      obtain ⟨hcz31_0, hcz31_1, hfz31_0, hfz31_1⟩ := c2_ BK360
      go_wp2_with (first | ((with_reducible refine gate_callee (f := 38) rfl ?_); refine gl_ 33 Try.func38 #[.int .i64 a0_0, .slice Ao29 x4_1.length co29, .string (⟨#[43]⟩ : ByteArray)] rfl mp_ ?_; (with_reducible refine (impl_joinTerms.calls k1 a0_0 _ _ x4_1 (⟨#[43]⟩ : ByteArray) t370 _ ?side1 ?side2 A28.out).mono ?_); (case side1 => repeat (first | exact (Kd.R_reads' HO_4.out).2.2 | (with_reducible refine Kd.C_alloc ?_ _) | (with_reducible refine Kd.C_drewN ?_ _) | (with_reducible refine Kd.C_drew ?_))); (case side2 => exact (Kd.R_reads' HO_4.out).2.1); rintro e w32 ⟨rfl, hb⟩; refine ⟨_, rfl, ?_⟩; have n0_ := Aside0.mk (Kd.R_below (rv_ HO_4) hb); have n1_ := kb_ BK360 hb; have n2_ := kb_ BK364 hb; have n3_ := Aside0.mk (below_step (bv2_ HB GE360 GE364) hb); clear HO_4; clear BK360; clear BK364; clear HB; have HO_4 := n0_; have BK360 := n1_; have BK364 := n2_; have HB := n3_; clear n0_ n1_ n2_ n3_; (try clear hb); (try clear hb2); (try clear hk); (try clear hi)))
      go_ret
      exact ⟨by first | rfl | (simp [errW_none, errW_some] <;> rfl) | (simp [*, errW_none, errW_some] <;> rfl), bv2_ HB GE360 GE364⟩
 ·replace c3 := Bool.eq_false_iff.mpr c3
  subst c3
  rw [if_neg (show ¬ (false = true) by decide)] at H
  obtain rfl := Option.some.inj H
  go_enter Try.func7, Try.ntmps7
  go_wp2_with (first | ((with_reducible refine gate_dst (N := 1) rfl ?_); refine bx_ 1 #[.int .i64 a0_0, .int .i64 a0_1] 25 ?_; intro gb360 hg w33 hbox hb; have BK360 := Aside0.mk (hbox); have GW360 := gw_ hg (below_size (bv_ HB)); have GE360 := GW360; replace HB := Aside0.mk (below_step (bv_ HB) hb); clear hb hbox hg; obtain ⟨hcz34_0, hcz34_1, hfz34_0, hfz34_1⟩ := c2_ BK360) | ((with_reducible refine gate_callee (f := 34) rfl ?_); refine gl_ 7 Try.func34 #[.agg #[.int .i64 a0_0, .int .i64 a0_1]] rfl mp_ ?_; (with_reducible refine (impl_IsTable.calls a0_0 a0_1 false _ A2.out).mono ?_); rintro e w35 ⟨rfl, hb⟩; refine ⟨_, rfl, ?_⟩; replace BK360 := kb_ BK360 hb; replace HB := Aside0.mk (below_step (bv1_ HB GE360) hb); (try clear hb); (try clear hb2); (try clear hk); (try clear hi)))
  go_ret
  exact ⟨by first | rfl | (simp [errW_none, errW_some] <;> rfl) | (simp [*, errW_none, errW_some] <;> rfl), bv1_ HB GE360⟩


/-! ### laws_FnExactFormatAnf: function 3 -/
def laws_FnExactFormatAnf.f (k : Nat) (a0_0 : Int) (a0_1 : Int) : Option (Bool) := (laws_toTable.f a0_0 a0_1).bind fun bt372 => ((spec_FormatAnf.f k bt372.1 bt372.2).bind fun t374 => ((laws_toTable.f a0_0 a0_1).bind fun bt375 => ((impl_FormatAnf.f k bt375.1 bt375.2).bind fun t377 => (if t377.toList = t374.toList then (some true) else (some false)))))
theorem laws_FnExactFormatAnf.mono : ∀ a0 a1 k, LeO (laws_FnExactFormatAnf.f k a0 a1) (laws_FnExactFormatAnf.f (k + 1) a0 a1) := by
 intro a0 a1 k
 unfold laws_FnExactFormatAnf.f
 repeat' first
   | (with_reducible exact impl_FormatAnf.mono _ _ _)
   | (with_reducible exact spec_FormatAnf.mono _ _ _)
   | (with_reducible exact LeO.refl _)
   | (with_reducible exact LeO.none _)
   | (with_reducible refine LeO.ite ?_ ?_)
   | (with_reducible refine LeO.bind ?_ (fun _ => ?_))
   | exact impl_FormatAnf.mono _ _ _
   | exact spec_FormatAnf.mono _ _ _
   | exact LeO.none _
   | refine LeO.ite ?_ ?_
   | refine LeO.bind ?_ (fun _ => ?_)
set_option maxHeartbeats 8000000 in
set_option maxRecDepth 100000 in
theorem laws_FnExactFormatAnf.calls (k : Nat) (a0_0 : Int) (a0_1 : Int) (r : Bool) (w : World) (h : laws_FnExactFormatAnf.f k a0_0 a0_1 = some r) :
  Calls Try.prog 3 #[.agg #[.int .i64 a0_0, .int .i64 a0_1]] w fun e w' => e = .returned (.bool r) ∧ Below w.heap.size w w' := by
 have hu23 := Try.underlying23
 have HB := Aside0.mk (Below.refl w.heap.size w)
 have H : ((laws_toTable.f a0_0 a0_1).bind fun bt372 => ((spec_FormatAnf.f k bt372.1 bt372.2).bind fun t374 => ((laws_toTable.f a0_0 a0_1).bind fun bt375 => ((impl_FormatAnf.f k bt375.1 bt375.2).bind fun t377 => (if t377.toList = t374.toList then (some true) else (some false)))))) = some r := h
 clear h
 replace H := Option.bind_eq_some_iff.mp H
 obtain ⟨⟨t372, t373⟩, A20, H⟩ := H
 dsimp only at H
 have A2 := Aside0.mk A20
 clear A20
 replace H := Option.bind_eq_some_iff.mp H
 obtain ⟨t374, A30, H⟩ := H
 have A3 := Aside0.mk A30
 clear A30
 replace H := Option.bind_eq_some_iff.mp H
 obtain ⟨⟨t375, t376⟩, A40, H⟩ := H
 replace H : ((impl_FormatAnf.f k t375 t376).bind fun t377 => (if t377.toList = t374.toList then (some true) else (some false))) = some r := H
 have A4 := Aside0.mk A40
 clear A40
 replace H := Option.bind_eq_some_iff.mp H
 obtain ⟨t377, A50, H⟩ := H
 have A5 := Aside0.mk A50
 clear A50
 by_cases c6 : t377.toList = t374.toList
 ·rw [if_pos c6] at H
  have c6b0 : (t377.toList == t374.toList) = true := beq_iff_eq.mpr c6
  have c6b1 : (t377.toList != t374.toList) = false := bne_eq_false_iff_eq.mpr c6
  clear c6
  obtain rfl := Option.some.inj H
  go_enter Try.func3, Try.ntmps3
  go_wp2_with (first | ((with_reducible refine gate_dst (N := 1) rfl ?_); refine bx_ 1 #[.int .i64 a0_0, .int .i64 a0_1] 23 ?_; intro gb371 hg w7 hbox hb; have BK371 := Aside0.mk (hbox); have GW371 := gw_ hg (below_size (bv_ HB)); have GE371 := GW371; replace HB := Aside0.mk (below_step (bv_ HB) hb); clear hb hbox hg; obtain ⟨hcz8_0, hcz8_1, hfz8_0, hfz8_1⟩ := c2_ BK371) | ((with_reducible refine gate_callee (f := 6) rfl ?_); refine gl_ 6 Try.func6 #[.agg #[.int .i64 a0_0, .int .i64 a0_1]] rfl mp_ ?_; (with_reducible refine (laws_toTable.calls a0_0 a0_1 t372 t373 _ A2.out).mono ?_); rintro e w9 ⟨rfl, hb⟩; refine ⟨_, rfl, ?_⟩; replace BK371 := kb_ BK371 hb; replace HB := Aside0.mk (below_step (bv1_ HB GE371) hb); (try clear hb); (try clear hb2); (try clear hk); (try clear hi)) | ((with_reducible refine gate_callee (f := 5) rfl ?_); refine gl_ 7 Try.func5 #[.agg #[.int .i64 t372, .int .i64 t373]] rfl mp_ ?_; (with_reducible refine (spec_FormatAnf.calls k t372 t373 t374 _ A3.out).mono ?_); rintro e w10 ⟨rfl, hb⟩; refine ⟨_, rfl, ?_⟩; replace BK371 := kb_ BK371 hb; replace HB := Aside0.mk (below_step (bv1_ HB GE371) hb); (try clear hb); (try clear hb2); (try clear hk); (try clear hi); obtain ⟨hcz11_0, hcz11_1, hfz11_0, hfz11_1⟩ := c2_ BK371) | ((with_reducible refine gate_callee (f := 6) rfl ?_); refine gl_ 9 Try.func6 #[.agg #[.int .i64 a0_0, .int .i64 a0_1]] rfl mp_ ?_; (with_reducible refine (laws_toTable.calls a0_0 a0_1 t375 t376 _ A4.out).mono ?_); rintro e w12 ⟨rfl, hb⟩; refine ⟨_, rfl, ?_⟩; replace BK371 := kb_ BK371 hb; replace HB := Aside0.mk (below_step (bv1_ HB GE371) hb); (try clear hb); (try clear hb2); (try clear hk); (try clear hi)) | ((with_reducible refine gate_callee (f := 7) rfl ?_); refine gl_ 10 Try.func7 #[.agg #[.int .i64 t375, .int .i64 t376]] rfl mp_ ?_; (with_reducible refine (impl_FormatAnf.calls k t375 t376 t377 _ A5.out).mono ?_); rintro e w13 ⟨rfl, hb⟩; refine ⟨_, rfl, ?_⟩; replace BK371 := kb_ BK371 hb; replace HB := Aside0.mk (below_step (bv1_ HB GE371) hb); (try clear hb); (try clear hb2); (try clear hk); (try clear hi)))
  go_ret
  exact ⟨by first | rfl | (simp [errW_none, errW_some] <;> rfl) | (simp [*, errW_none, errW_some] <;> rfl), bv1_ HB GE371⟩
 ·rw [if_neg c6] at H
  have c6b0 : (t377.toList == t374.toList) = false := beq_eq_false_iff_ne.mpr c6
  have c6b1 : (t377.toList != t374.toList) = true := bne_iff_ne.mpr c6
  obtain rfl := Option.some.inj H
  go_enter Try.func3, Try.ntmps3
  go_wp2_with (first | ((with_reducible refine gate_dst (N := 1) rfl ?_); refine bx_ 1 #[.int .i64 a0_0, .int .i64 a0_1] 23 ?_; intro gb371 hg w14 hbox hb; have BK371 := Aside0.mk (hbox); have GW371 := gw_ hg (below_size (bv_ HB)); have GE371 := GW371; replace HB := Aside0.mk (below_step (bv_ HB) hb); clear hb hbox hg; obtain ⟨hcz15_0, hcz15_1, hfz15_0, hfz15_1⟩ := c2_ BK371) | ((with_reducible refine gate_callee (f := 6) rfl ?_); refine gl_ 6 Try.func6 #[.agg #[.int .i64 a0_0, .int .i64 a0_1]] rfl mp_ ?_; (with_reducible refine (laws_toTable.calls a0_0 a0_1 t372 t373 _ A2.out).mono ?_); rintro e w16 ⟨rfl, hb⟩; refine ⟨_, rfl, ?_⟩; replace BK371 := kb_ BK371 hb; replace HB := Aside0.mk (below_step (bv1_ HB GE371) hb); (try clear hb); (try clear hb2); (try clear hk); (try clear hi)) | ((with_reducible refine gate_callee (f := 5) rfl ?_); refine gl_ 7 Try.func5 #[.agg #[.int .i64 t372, .int .i64 t373]] rfl mp_ ?_; (with_reducible refine (spec_FormatAnf.calls k t372 t373 t374 _ A3.out).mono ?_); rintro e w17 ⟨rfl, hb⟩; refine ⟨_, rfl, ?_⟩; replace BK371 := kb_ BK371 hb; replace HB := Aside0.mk (below_step (bv1_ HB GE371) hb); (try clear hb); (try clear hb2); (try clear hk); (try clear hi); obtain ⟨hcz18_0, hcz18_1, hfz18_0, hfz18_1⟩ := c2_ BK371) | ((with_reducible refine gate_callee (f := 6) rfl ?_); refine gl_ 9 Try.func6 #[.agg #[.int .i64 a0_0, .int .i64 a0_1]] rfl mp_ ?_; (with_reducible refine (laws_toTable.calls a0_0 a0_1 t375 t376 _ A4.out).mono ?_); rintro e w19 ⟨rfl, hb⟩; refine ⟨_, rfl, ?_⟩; replace BK371 := kb_ BK371 hb; replace HB := Aside0.mk (below_step (bv1_ HB GE371) hb); (try clear hb); (try clear hb2); (try clear hk); (try clear hi)) | ((with_reducible refine gate_callee (f := 7) rfl ?_); refine gl_ 10 Try.func7 #[.agg #[.int .i64 t375, .int .i64 t376]] rfl mp_ ?_; (with_reducible refine (impl_FormatAnf.calls k t375 t376 t377 _ A5.out).mono ?_); rintro e w20 ⟨rfl, hb⟩; refine ⟨_, rfl, ?_⟩; replace BK371 := kb_ BK371 hb; replace HB := Aside0.mk (below_step (bv1_ HB GE371) hb); (try clear hb); (try clear hb2); (try clear hk); (try clear hi)))
  go_ret
  exact ⟨by first | rfl | (simp [errW_none, errW_some] <;> rfl) | (simp [*, errW_none, errW_some] <;> rfl), bv1_ HB GE371⟩


end Go.Proofs.Yteljkpglgjjnlaa.P
