-- Out of the translation, by this session's program over the printer's; Lean checks it.
import Derived.Test.YteljkpglgjjnlaaDoorSh
import Derived.Test.YteljkpglgjjnlaaDoorQ0
import Derived.Test.YteljkpglgjjnlaaDoorQ3
namespace Go.Proofs.YteljkpglgjjnlaaDoor.P
open Go.RowKit Go.Proofs.YteljkpglgjjnlaaDoorW.PrintWords Go.Proofs.YteljkpglgjjnlaaDoorW.PrintLast Go.Proofs.YteljkpglgjjnlaaDoorW.PrintMore
attribute [local go_sem] max2_int min2_int max_two min_two max_three min_three max_four min_four
set_option linter.unusedVariables false
set_option linter.unusedSimpArgs false

/-! ### impl_isInput: function 66 -/
def impl_isInput.f (a0 : Int) (a1 : Int) : Option (Bool) := if a1 ≥ 0 then (if 0 ≤ a0 then (some (decide (a1 < (shl .i64 1 a0)))) else (none)) else (some false)
set_option maxHeartbeats 8000000 in
set_option maxRecDepth 100000 in
theorem impl_isInput.calls (a0 : Int) (a1 : Int) (r : Bool) (w : World) (h : impl_isInput.f a0 a1 = some r) :
  Calls Tryd.prog 66 #[.int .i64 a0, .int .i64 a1] w fun e w' => e = .returned (.bool r) ∧ Drawn0 w w' := by
 have H : (if a1 ≥ 0 then (if 0 ≤ a0 then (some (decide (a1 < (shl .i64 1 a0)))) else (none)) else (some false)) = some r := h
 clear h
 by_cases c3 : a1 ≥ 0
 ·rw [if_pos c3] at H
  have c3b0 : decide (0 ≤ a1) = true := decide_eq_true c3
  clear c3
  by_cases c4 : 0 ≤ a0
  ·rw [if_pos c4] at H
   have c4b0 := eq_true c4
   have c4b1 : decide (0 ≤ a0) = true := decide_eq_true c4
   clear c4
   obtain ⟨ji5, hji5⟩ : ∃ j_ : Int, (shl .i64 1 a0) = j_ := ⟨_, rfl⟩
   replace H : (some (decide (a1 < (ji5)))) = some r := by first | (rw [hji5] at H; exact H) | (simp only [hji5] at H ⊢; exact H)
   have hji5_ : (IntKind.i64.wrap (1 * 2 ^ min a0.toNat 64)) = ji5 := hji5
   have hji5z : a0 ≤ 64 → (IntKind.i64.wrap (1 * 2 ^ a0.toNat)) = ji5 := shl_small hji5
   have hji5u : (IntKind.i64.wrap (2 ^ min a0.toNat 64)) = ji5 := by have h_ := hji5_; rw [Int.one_mul] at h_; exact h_
   have hji5v : a0 ≤ 64 → (IntKind.i64.wrap (2 ^ a0.toNat)) = ji5 := fun hle_ => by have h_ := hji5z hle_; rw [Int.one_mul] at h_; exact h_
   have hji5y : (wrap64 (1 * 2 ^ min a0.toNat 64)) = ji5 := (i64_w _).symm.trans hji5_
   have hji5x : a0 ≤ 64 → (wrap64 (1 * 2 ^ a0.toNat)) = ji5 := fun h_ => (i64_w _).symm.trans (hji5z h_)
   obtain rfl := Option.some.inj H
   go_enter Tryd.func66, Tryd.ntmps66
   go_wp2
   go_ret
   exact ⟨by first | rfl | (simp; done) | (simp only [← hji5] <;> (first | rfl | simp)) | (simp [*]; done), by repeat (first | exact Drawn0.refl _ | apply Drawn0.step)⟩
  ·rw [if_neg c4] at H
   exact absurd H (by simp)
 ·rw [if_neg c3] at H
  have c3b0 : decide (0 ≤ a1) = false := decide_eq_false c3
  clear c3
  obtain rfl := Option.some.inj H
  go_enter Tryd.func66, Tryd.ntmps66
  go_wp2
  go_ret
  exact ⟨by first | rfl | (simp; done) | (simp [*]; done), by repeat (first | exact Drawn0.refl _ | apply Drawn0.step)⟩


/-! ### impl_IsTerm: function 72 -/
def impl_IsTerm.f (a0 : Int) (a1_0 : Int) (a1_1 : Int) : Option (Bool) := (impl_isBits.f a0).bind fun t311 => (if t311 = true then ((impl_isInput.f a0 a1_0).bind fun t312 => (if t312 = true then (if a1_1 ≥ 0 then (some ((Go.bits .andNot .i64 a1_1 a1_0) == 0)) else (some false)) else (some false))) else (some false))
set_option maxHeartbeats 8000000 in
set_option maxRecDepth 100000 in
theorem impl_IsTerm.calls (a0 : Int) (a1_0 : Int) (a1_1 : Int) (r : Bool) (w : World) (h : impl_IsTerm.f a0 a1_0 a1_1 = some r) :
  Calls Tryd.prog 72 #[.int .i64 a0, .agg #[.int .i64 a1_0, .int .i64 a1_1]] w fun e w' => e = .returned (.bool r) ∧ Below w.heap.size w w' := by
 have hu44 := Tryd.underlying44
 have HB := Aside0.mk (Below.refl w.heap.size w)
 have H : ((impl_isBits.f a0).bind fun t311 => (if t311 = true then ((impl_isInput.f a0 a1_0).bind fun t312 => (if t312 = true then (if a1_1 ≥ 0 then (some ((Go.bits .andNot .i64 a1_1 a1_0) == 0)) else (some false)) else (some false))) else (some false))) = some r := h
 clear h
 replace H := Option.bind_eq_some_iff.mp H
 obtain ⟨t311, A30, H⟩ := H
 have A3 := Aside0.mk A30
 clear A30
 by_cases c4 : t311 = true
 ·subst c4
  rw [if_pos rfl] at H
  replace H := Option.bind_eq_some_iff.mp H
  obtain ⟨t312, A50, H⟩ := H
  have A5 := Aside0.mk A50
  clear A50
  by_cases c6 : t312 = true
  ·subst c6
   rw [if_pos rfl] at H
   by_cases c7 : a1_1 ≥ 0
   ·rw [if_pos c7] at H
    have c7b0 : decide (0 ≤ a1_1) = true := decide_eq_true c7
    clear c7
    obtain rfl := Option.some.inj H
    go_enter Tryd.func72, Tryd.ntmps72
    go_wp2_with (first | ((with_reducible refine gate_dst (N := 3) rfl ?_); refine bx_ 3 #[.int .i64 a1_0, .int .i64 a1_1] 44 ?_; intro gb310 hg w8 hbox hb; have BK310 := Aside0.mk (hbox); have GW310 := gw_ hg (below_size (bv_ HB)); have GE310 := GW310; replace HB := Aside0.mk (below_step (bv_ HB) hb); clear hb hbox hg) | ((with_reducible refine gate_callee (f := 31) rfl ?_); refine gl_ 6 Tryd.func31 #[.int .i64 a0] rfl mp_ ?_; (with_reducible refine (impl_isBits.calls a0 true _ A3.out).mono ?_); rintro e w' ⟨rfl, ⟨nd, rfl⟩⟩; refine ⟨_, rfl, ?_⟩; obtain ⟨hcz9_0, hcz9_1, hfz9_0, hfz9_1⟩ := c2_ BK310) | (go_at_call 66; (with_reducible refine (impl_isInput.calls a0 a1_0 true _ A5.out).mono ?_); rintro e w' ⟨rfl, ⟨nd, rfl⟩⟩))
    go_ret
    exact ⟨er_, bv1_ HB GE310⟩
   ·rw [if_neg c7] at H
    have c7b0 : decide (0 ≤ a1_1) = false := decide_eq_false c7
    clear c7
    obtain rfl := Option.some.inj H
    go_enter Tryd.func72, Tryd.ntmps72
    go_wp2_with (first | ((with_reducible refine gate_dst (N := 3) rfl ?_); refine bx_ 3 #[.int .i64 a1_0, .int .i64 a1_1] 44 ?_; intro gb310 hg w10 hbox hb; have BK310 := Aside0.mk (hbox); have GW310 := gw_ hg (below_size (bv_ HB)); have GE310 := GW310; replace HB := Aside0.mk (below_step (bv_ HB) hb); clear hb hbox hg) | ((with_reducible refine gate_callee (f := 31) rfl ?_); refine gl_ 6 Tryd.func31 #[.int .i64 a0] rfl mp_ ?_; (with_reducible refine (impl_isBits.calls a0 true _ A3.out).mono ?_); rintro e w' ⟨rfl, ⟨nd, rfl⟩⟩; refine ⟨_, rfl, ?_⟩; obtain ⟨hcz11_0, hcz11_1, hfz11_0, hfz11_1⟩ := c2_ BK310) | (go_at_call 66; (with_reducible refine (impl_isInput.calls a0 a1_0 true _ A5.out).mono ?_); rintro e w' ⟨rfl, ⟨nd, rfl⟩⟩))
    go_ret
    exact ⟨er_, bv1_ HB GE310⟩
  ·replace c6 := Bool.eq_false_iff.mpr c6
   subst c6
   rw [if_neg (show ¬ (false = true) by decide)] at H
   obtain rfl := Option.some.inj H
   go_enter Tryd.func72, Tryd.ntmps72
   go_wp2_with (first | ((with_reducible refine gate_dst (N := 3) rfl ?_); refine bx_ 3 #[.int .i64 a1_0, .int .i64 a1_1] 44 ?_; intro gb310 hg w12 hbox hb; have BK310 := Aside0.mk (hbox); have GW310 := gw_ hg (below_size (bv_ HB)); have GE310 := GW310; replace HB := Aside0.mk (below_step (bv_ HB) hb); clear hb hbox hg) | ((with_reducible refine gate_callee (f := 31) rfl ?_); refine gl_ 6 Tryd.func31 #[.int .i64 a0] rfl mp_ ?_; (with_reducible refine (impl_isBits.calls a0 true _ A3.out).mono ?_); rintro e w' ⟨rfl, ⟨nd, rfl⟩⟩; refine ⟨_, rfl, ?_⟩; obtain ⟨hcz13_0, hcz13_1, hfz13_0, hfz13_1⟩ := c2_ BK310) | (go_at_call 66; (with_reducible refine (impl_isInput.calls a0 a1_0 false _ A5.out).mono ?_); rintro e w' ⟨rfl, ⟨nd, rfl⟩⟩))
   go_ret
   exact ⟨er_, bv1_ HB GE310⟩
 ·replace c4 := Bool.eq_false_iff.mpr c4
  subst c4
  rw [if_neg (show ¬ (false = true) by decide)] at H
  obtain rfl := Option.some.inj H
  go_enter Tryd.func72, Tryd.ntmps72
  go_wp2_with (first | ((with_reducible refine gate_dst (N := 3) rfl ?_); refine bx_ 3 #[.int .i64 a1_0, .int .i64 a1_1] 44 ?_; intro gb310 hg w14 hbox hb; have BK310 := Aside0.mk (hbox); have GW310 := gw_ hg (below_size (bv_ HB)); have GE310 := GW310; replace HB := Aside0.mk (below_step (bv_ HB) hb); clear hb hbox hg) | ((with_reducible refine gate_callee (f := 31) rfl ?_); refine gl_ 6 Tryd.func31 #[.int .i64 a0] rfl mp_ ?_; (with_reducible refine (impl_isBits.calls a0 false _ A3.out).mono ?_); rintro e w' ⟨rfl, ⟨nd, rfl⟩⟩; refine ⟨_, rfl, ?_⟩))
  go_ret
  exact ⟨er_, bv1_ HB GE310⟩


/-! ### impl_FormatTerm: function 59 -/
def impl_FormatTerm.l0 : Nat → List Int → Int → Int → Int → Int → Option (ByteArray)
 | 0, _, _, _, _, _ => none
 | k + 1, x5, x11, x12, x314000, x314001 => if x12 < x11 then (if 0 ≤ x12 then (if (Go.bits .and .i64 (shr .i64 x314000 x12) 1) = 0 then (impl_FormatTerm.l0 k x5 x11 (wrap64 (x12 + 1)) x314000 x314001) else (if (Go.bits .and .i64 (shr .i64 x314001 x12) 1) = 0 then (if x5.length < 140737488355328 then ((some (x5 ++ [33] : List Int)).bind fun y315 => (if y315.length < 140737488355328 then (impl_FormatTerm.l0 k (y315 ++ [(97 + ((x12) % 256)) % 256]) x11 (wrap64 (x12 + 1)) x314000 x314001) else (none))) else (none)) else (if x5.length < 140737488355328 then (impl_FormatTerm.l0 k (x5 ++ [(97 + ((x12) % 256)) % 256]) x11 (wrap64 (x12 + 1)) x314000 x314001) else (none)))) else (none)) else (if (x5.length : Int) = 0 then (some (⟨#[49]⟩ : ByteArray)) else (some (strOfNums x5)))
def impl_FormatTerm.f (k : Nat) (a0 : Int) (a1_0 : Int) (a1_1 : Int) : Option (ByteArray) := (impl_IsTerm.f a0 a1_0 a1_1).bind fun t314 => (if t314 = true then (impl_FormatTerm.l0 k ([] : List Int) a0 0 a1_0 a1_1) else (some (⟨#[]⟩ : ByteArray)))
theorem impl_FormatTerm.mono_l : ∀ k, (∀ y0 y1 y2 y3 y4, LeO (impl_FormatTerm.l0 k y0 y1 y2 y3 y4) (impl_FormatTerm.l0 (k + 1) y0 y1 y2 y3 y4))
 | 0 => fun _ _ _ _ _ r h => by simp [impl_FormatTerm.l0] at h
 | k + 1 => by
  have ih0 := impl_FormatTerm.mono_l k
  ·intro y0 y1 y2 y3 y4
   unfold impl_FormatTerm.l0
   repeat' first
   | (with_reducible exact ih0 _ _ _ _ _)
   | (with_reducible exact LeO.refl _)
   | (with_reducible exact LeO.none _)
   | (with_reducible refine LeO.ite ?_ ?_)
   | (with_reducible refine LeO.bind ?_ (fun _ => ?_))
   | exact ih0 _ _ _ _ _
   | exact LeO.none _
   | refine LeO.ite ?_ ?_
   | refine LeO.bind ?_ (fun _ => ?_)
theorem impl_FormatTerm.mono : ∀ a0 a1 a2 k, LeO (impl_FormatTerm.f k a0 a1 a2) (impl_FormatTerm.f (k + 1) a0 a1 a2) := by
 intro a0 a1 a2 k
 have ih0 := impl_FormatTerm.mono_l k
 unfold impl_FormatTerm.f
 repeat' first
   | (with_reducible exact ih0 _ _ _ _ _)
   | (with_reducible exact LeO.refl _)
   | (with_reducible exact LeO.none _)
   | (with_reducible refine LeO.ite ?_ ?_)
   | (with_reducible refine LeO.bind ?_ (fun _ => ?_))
   | exact ih0 _ _ _ _ _
   | exact LeO.none _
   | refine LeO.ite ?_ ?_
   | refine LeO.bind ?_ (fun _ => ?_)
set_option maxHeartbeats 8000000 in
set_option maxRecDepth 100000 in
theorem impl_FormatTerm.calls (k : Nat) (a0 : Int) (a1_0 : Int) (a1_1 : Int) (r : ByteArray) (w : World) (h : impl_FormatTerm.f k a0 a1_0 a1_1 = some r) :
  Calls Tryd.prog 59 #[.int .i64 a0, .agg #[.int .i64 a1_0, .int .i64 a1_1]] w fun e w' => e = .returned (.string r) ∧ Below w.heap.size w w' := by
 have hu44 := Tryd.underlying44
 have HB := Aside0.mk (Below.refl w.heap.size w)
 have H : ((impl_IsTerm.f a0 a1_0 a1_1).bind fun t314 => (if t314 = true then (impl_FormatTerm.l0 k ([] : List Int) a0 0 a1_0 a1_1) else (some (⟨#[]⟩ : ByteArray)))) = some r := h
 clear h
 replace H := Option.bind_eq_some_iff.mp H
 obtain ⟨t314, A30, H⟩ := H
 have A3 := Aside0.mk A30
 clear A30
 by_cases c4 : t314 = true
 ·subst c4
  rw [if_pos rfl] at H
  have H' := Aside0.mk H
  clear H
  go_enter Tryd.func59, Tryd.ntmps59
  go_wp2_with (first | ((with_reducible refine gate_dst (N := 3) rfl ?_); refine bx_ 3 #[.int .i64 a1_0, .int .i64 a1_1] 44 ?_; intro gb313 hg w5 hbox hb; have BK313 := Aside0.mk (hbox); have GW313 := gw_ hg (below_size (bv_ HB)); have GE313 := GW313; replace HB := Aside0.mk (below_step (bv_ HB) hb); clear hb hbox hg; obtain ⟨hcz6_0, hcz6_1, hfz6_0, hfz6_1⟩ := c2_ BK313) | ((with_reducible refine gate_callee (f := 72) rfl ?_); refine gl_ 9 Tryd.func72 #[.int .i64 a0, .agg #[.int .i64 a1_0, .int .i64 a1_1]] rfl mp_ ?_; (with_reducible refine (impl_IsTerm.calls a0 a1_0 a1_1 true _ A3.out).mono ?_); rintro e w7 ⟨rfl, hb⟩; refine ⟨_, rfl, ?_⟩; replace BK313 := kb_ BK313 hb; replace HB := Aside0.mk (below_step (bv1_ HB GE313) hb); (try clear hb); (try clear hb2); (try clear hk); (try clear hi)))
  go_loopg [5, 12] k (fun kq v5 v12 w' => ∃ (x5_1 : List Int) (x12_1 : Int), v12 = .int .i64 x12_1 ∧ Aside0 (impl_FormatTerm.l0 kq x5_1 a0 x12_1 a1_0 a1_1 = some r) ∧ Aside0 (kq ≤ k) ∧ Aside0 (Kd.R (Kd.int .u8) 5 w' w.heap.size (fun _ => True) v5 x5_1) ∧ Aside0 (w'.heap[gb313]? = some (.cells #[.int .i64 a1_0, .int .i64 a1_1] 44 (0, 0))) ∧ Aside0 (Below w.heap.size w w'))
  case atStart => exact ⟨(([] : List Int)), (0), (by first | rfl | (simp; done) | (simp [*]; done)), H', ⟨Nat.le_refl _⟩, ⟨by first | exact Kd.R_nil _ _ _ _ _ | exact Kd.N_nil _ _ _ _ _ | exact Kd.V_nil _ _ _ _ _ | exact Kd.Q_nil _ _ _ _ _ | exact Kd.S_nil _ _ _ _ _⟩, ⟨by (with_reducible repeat (first | refine blk_drewN ?_ _ | refine blk_drew ?_ | refine blk_alloc ?_ _)); exact BK313.out⟩, ⟨bv1_ HB GE313⟩⟩
  case round =>
   clear H'
   try clear p2
   try clear c4
   try clear c5
   try clear c7
   try clear hcz6_0
   try clear hcz6_1
   try clear hfz6_0
   try clear hfz6_1
   obtain ⟨x5_1, x12_1, rfl, HA, HK1, HO_5, BK313, HB⟩ := hrel
   cases gk with
   | zero => exact absurd HA.out (by simp [impl_FormatTerm.l0])
   | succ k1 =>
    have H := HA.out
    clear HA
    simp only [impl_FormatTerm.l0] at H
    have he_ : (97 + ((x12_1) % 256)) % 256 = (97 + x12_1) % 256 := by omega
    simp only [he_] at H
    clear he_
    by_cases c8 : x12_1 < a0
    ·rw [if_pos c8] at H
     have c8b0 : decide (x12_1 < a0) = true := decide_eq_true c8
     clear c8
     by_cases c9 : 0 ≤ x12_1
     ·rw [if_pos c9] at H
      have c9b0 := eq_true c9
      have c9b1 : decide (0 ≤ x12_1) = true := decide_eq_true c9
      clear c9
      obtain ⟨ji10, hji10⟩ : ∃ j_ : Int, (shr .i64 a1_0 x12_1) = j_ := ⟨_, rfl⟩
      replace H : (if (Go.bits .and .i64 (ji10) 1) = 0 then (impl_FormatTerm.l0 k1 x5_1 a0 (wrap64 (x12_1 + 1)) a1_0 a1_1) else (if (Go.bits .and .i64 (shr .i64 a1_1 x12_1) 1) = 0 then (if x5_1.length < 140737488355328 then ((some (x5_1 ++ [33] : List Int)).bind fun y315 => (if y315.length < 140737488355328 then (impl_FormatTerm.l0 k1 (y315 ++ [(97 + x12_1) % 256]) a0 (wrap64 (x12_1 + 1)) a1_0 a1_1) else (none))) else (none)) else (if x5_1.length < 140737488355328 then (impl_FormatTerm.l0 k1 (x5_1 ++ [(97 + x12_1) % 256]) a0 (wrap64 (x12_1 + 1)) a1_0 a1_1) else (none)))) = some r := by first | (rw [hji10] at H; exact H) | (simp only [hji10] at H ⊢; exact H)
      have hji10_ : (a1_0 / 2 ^ min x12_1.toNat 64) = ji10 := hji10
      have hji10z : x12_1 ≤ 64 → (a1_0 / 2 ^ x12_1.toNat) = ji10 := shr_small hji10
      by_cases c11 : (Go.bits .and .i64 (ji10) 1) = 0
      ·rw [if_pos c11] at H
       have c11b0 : ((Go.bits .and .i64 (ji10) 1) == 0) = true := beq_iff_eq.mpr c11
       have c11b1 : ((Go.bits .and .i64 (ji10) 1) != 0) = false := bne_eq_false_iff_eq.mpr c11
       clear c11
       have H' := Aside0.mk H
       clear H
       obtain ⟨hcz12_0, hcz12_1, hfz12_0, hfz12_1⟩ := c2_ BK313
       go_wp2
       go_roundg k1
       case measure => have := HK1.out; omega
       case rel => exact ⟨(x5_1), (wrap64 (x12_1 + 1)), (by first | rfl | (simp; done) | (simp [*]; done)), H', ⟨by have := HK1.out; omega⟩, ⟨by (with_reducible repeat (first | apply Kd.R_alloc | apply Kd.R_drewN | apply Kd.R_drew)); exact HO_5.out⟩, ⟨by (with_reducible repeat (first | refine blk_drewN ?_ _ | refine blk_drew ?_ | refine blk_alloc ?_ _)); exact BK313.out⟩, ⟨bv1_ HB GE313⟩⟩
      ·rw [if_neg c11] at H
       have c11b0 : ((Go.bits .and .i64 (ji10) 1) == 0) = false := beq_eq_false_iff_ne.mpr c11
       have c11b1 : ((Go.bits .and .i64 (ji10) 1) != 0) = true := bne_iff_ne.mpr c11
       have c13b0 := eq_true (of_decide_eq_true (by first | (with_reducible assumption) | assumption) : 0 ≤ x12_1)
       obtain ⟨ji14, hji14⟩ : ∃ j_ : Int, (shr .i64 a1_1 x12_1) = j_ := ⟨_, rfl⟩
       replace H : (if (Go.bits .and .i64 (ji14) 1) = 0 then (if x5_1.length < 140737488355328 then ((some (x5_1 ++ [33] : List Int)).bind fun y315 => (if y315.length < 140737488355328 then (impl_FormatTerm.l0 k1 (y315 ++ [(97 + x12_1) % 256]) a0 (wrap64 (x12_1 + 1)) a1_0 a1_1) else (none))) else (none)) else (if x5_1.length < 140737488355328 then (impl_FormatTerm.l0 k1 (x5_1 ++ [(97 + x12_1) % 256]) a0 (wrap64 (x12_1 + 1)) a1_0 a1_1) else (none))) = some r := by first | (rw [hji14] at H; exact H) | (simp only [hji14] at H ⊢; exact H)
       have hji14_ : (a1_1 / 2 ^ min x12_1.toNat 64) = ji14 := hji14
       have hji14z : x12_1 ≤ 64 → (a1_1 / 2 ^ x12_1.toNat) = ji14 := shr_small hji14
       by_cases c15 : (Go.bits .and .i64 (ji14) 1) = 0
       ·rw [if_pos c15] at H
        have c15b0 : ((Go.bits .and .i64 (ji14) 1) == 0) = true := beq_iff_eq.mpr c15
        have c15b1 : ((Go.bits .and .i64 (ji14) 1) != 0) = false := bne_eq_false_iff_eq.mpr c15
        clear c15
        by_cases c16 : x5_1.length < 140737488355328
        ·rw [if_pos c16] at H
         have LMc16 := Aside0.mk c16
         clear c16
         obtain ⟨y315, hy315⟩ : ∃ y_ : List Int, y_ = (x5_1 ++ [33]) := ⟨_, rfl⟩
         replace H : (if y315.length < 140737488355328 then (impl_FormatTerm.l0 k1 (y315 ++ [(97 + x12_1) % 256]) a0 (wrap64 (x12_1 + 1)) a1_0 a1_1) else (none)) = some r := by first | (rw [hy315]; with_reducible exact H) | (have H2_ := (Option.bind_some _ _).symm.trans H; rw [hy315]; with_reducible exact H2_) | (have H2_ := (Option.bind_some _ _).symm.trans H; with_reducible exact H2_) | with_reducible exact H | (rw [hy315]; exact H) | exact H
         have Ny315 := Aside0.mk hy315
         clear hy315
         by_cases c17 : y315.length < 140737488355328
         ·rw [if_pos c17] at H
          have LMc17 := Aside0.mk c17
          clear c17
          obtain ⟨y318, hy318⟩ : ∃ y_ : List Int, y_ = (y315 ++ [(97 + x12_1) % 256]) := ⟨_, rfl⟩
          replace H : (impl_FormatTerm.l0 k1 y318 a0 (wrap64 (x12_1 + 1)) a1_0 a1_1) = some r := by first | (rw [hy318]; with_reducible exact H) | (have H2_ := (Option.bind_some _ _).symm.trans H; rw [hy318]; with_reducible exact H2_) | (have H2_ := (Option.bind_some _ _).symm.trans H; with_reducible exact H2_) | with_reducible exact H | (rw [hy318]; exact H) | exact H
          have Ny318 := Aside0.mk hy318
          clear hy318
          have H' := Aside0.mk H
          clear H
          obtain ⟨hcz18_0, hcz18_1, hfz18_0, hfz18_1⟩ := c2_ BK313
          go_wp2_with (first | ((with_reducible refine gate_builtin (b := .append) (xs := #[.tmp 27, .tmp 28]) rfl ?_); at_builtin; refine Kd.R_append (Kd.int .u8) (w0 := w) w.heap.size rfl (.tmp 27) (.tmp 28) 28 5 (.int .u8 0) 1 rfl Tryd.underlying28 info5 rfl (by decide) (by omega) u5 x5_1 33 [.int .u8 33] (fun _ => True) (fun _ => False) rfl rfl ?aP (fun _ hk => hk.elim) ?aF ?aO ?aB ?aS ?aL ?_; (case aP => exact rfl); (case aB => exact (bv1_ HB GE313)); (case aF => exact (fun _ _ => trivial)); (case aO => exact (rv_ HO_5)); (case aS => exact (below_size (bv1_ HB GE313))); (case aL => have := LMc16.out; omega); intro v316 w19 ho hb hg hat; rw [← Ny315.out] at ho; have n0_ := Aside0.mk (blk_grown (g := gb313) (o := .cells #[.int .i64 a1_0, .int .i64 a1_1] 44 (0, 0)) (kv_ BK313) hg (Kd.R_ne HO_5.out BK313.out (by decide))); have n1_ := Aside0.mk (hb); have n2_ := Aside0.mk (ho); clear BK313; clear HB; clear HO_5; have BK313 := n0_; have HB := n1_; have HO317 := n2_; clear n0_ n1_ n2_; clear ho hb hg hat) | ((with_reducible refine gate_builtin (b := .append) (xs := #[.tmp 30, .tmp 34]) rfl ?_); at_builtin; refine Kd.R_append (Kd.int .u8) (w0 := w) w.heap.size rfl (.tmp 30) (.tmp 34) 28 5 (.int .u8 0) 1 rfl Tryd.underlying28 info5 rfl (by decide) (by omega) v316 y315 ((97 + x12_1) % 256) [.int .u8 ((97 + x12_1) % 256)] (fun _ => True) (fun _ => False) rfl rfl ?aP (fun _ hk => hk.elim) ?aF ?aO ?aB ?aS ?aL ?_; (case aP => exact rfl); (case aB => exact (bv1_ HB GE313)); (case aF => exact (fun _ _ => trivial)); (case aO => exact (rv_ HO317)); (case aS => exact (below_size (bv1_ HB GE313))); (case aL => have := LMc17.out; omega); intro v319 w20 ho hb hg hat; rw [← Ny318.out] at ho; have n0_ := Aside0.mk (blk_grown (g := gb313) (o := .cells #[.int .i64 a1_0, .int .i64 a1_1] 44 (0, 0)) (kv_ BK313) hg (Kd.R_ne HO317.out BK313.out (by decide))); have n1_ := Aside0.mk (hb); have n2_ := Aside0.mk (ho); clear BK313; clear HB; clear HO317; have BK313 := n0_; have HB := n1_; have HO320 := n2_; clear n0_ n1_ n2_; clear ho hb hg hat))
          go_roundg k1
          case measure => have := HK1.out; omega
          case rel => exact ⟨(y318), (wrap64 (x12_1 + 1)), (by first | rfl | (simp; done) | (simp [*]; done)), H', ⟨by have := HK1.out; omega⟩, ⟨by (with_reducible repeat (first | apply Kd.R_alloc | apply Kd.R_drewN | apply Kd.R_drew)); exact HO320.out⟩, ⟨by (with_reducible repeat (first | refine blk_drewN ?_ _ | refine blk_drew ?_ | refine blk_alloc ?_ _)); exact BK313.out⟩, ⟨bv1_ HB GE313⟩⟩
         ·rw [if_neg c17] at H
          exact absurd H (by simp)
        ·rw [if_neg c16] at H
         exact absurd H (by simp)
       ·rw [if_neg c15] at H
        have c15b0 : ((Go.bits .and .i64 (ji14) 1) == 0) = false := beq_eq_false_iff_ne.mpr c15
        have c15b1 : ((Go.bits .and .i64 (ji14) 1) != 0) = true := bne_iff_ne.mpr c15
        by_cases c21 : x5_1.length < 140737488355328
        ·rw [if_pos c21] at H
         have LMc21 := Aside0.mk c21
         clear c21
         obtain ⟨y321, hy321⟩ : ∃ y_ : List Int, y_ = (x5_1 ++ [(97 + x12_1) % 256]) := ⟨_, rfl⟩
         replace H : (impl_FormatTerm.l0 k1 y321 a0 (wrap64 (x12_1 + 1)) a1_0 a1_1) = some r := by first | (rw [hy321]; with_reducible exact H) | (have H2_ := (Option.bind_some _ _).symm.trans H; rw [hy321]; with_reducible exact H2_) | (have H2_ := (Option.bind_some _ _).symm.trans H; with_reducible exact H2_) | with_reducible exact H | (rw [hy321]; exact H) | exact H
         have Ny321 := Aside0.mk hy321
         clear hy321
         have H' := Aside0.mk H
         clear H
         obtain ⟨hcz22_0, hcz22_1, hfz22_0, hfz22_1⟩ := c2_ BK313
         go_wp2_with (first | ((with_reducible refine gate_builtin (b := .append) (xs := #[.tmp 30, .tmp 34]) rfl ?_); at_builtin; refine Kd.R_append (Kd.int .u8) (w0 := w) w.heap.size rfl (.tmp 30) (.tmp 34) 28 5 (.int .u8 0) 1 rfl Tryd.underlying28 info5 rfl (by decide) (by omega) u5 x5_1 ((97 + x12_1) % 256) [.int .u8 ((97 + x12_1) % 256)] (fun _ => True) (fun _ => False) rfl rfl ?aP (fun _ hk => hk.elim) ?aF ?aO ?aB ?aS ?aL ?_; (case aP => exact rfl); (case aB => exact (bv1_ HB GE313)); (case aF => exact (fun _ _ => trivial)); (case aO => exact (rv_ HO_5)); (case aS => exact (below_size (bv1_ HB GE313))); (case aL => have := LMc21.out; omega); intro v322 w23 ho hb hg hat; rw [← Ny321.out] at ho; have n0_ := Aside0.mk (blk_grown (g := gb313) (o := .cells #[.int .i64 a1_0, .int .i64 a1_1] 44 (0, 0)) (kv_ BK313) hg (Kd.R_ne HO_5.out BK313.out (by decide))); have n1_ := Aside0.mk (hb); have n2_ := Aside0.mk (ho); clear BK313; clear HB; clear HO_5; have BK313 := n0_; have HB := n1_; have HO323 := n2_; clear n0_ n1_ n2_; clear ho hb hg hat))
         go_roundg k1
         case measure => have := HK1.out; omega
         case rel => exact ⟨(y321), (wrap64 (x12_1 + 1)), (by first | rfl | (simp; done) | (simp [*]; done)), H', ⟨by have := HK1.out; omega⟩, ⟨by (with_reducible repeat (first | apply Kd.R_alloc | apply Kd.R_drewN | apply Kd.R_drew)); exact HO323.out⟩, ⟨by (with_reducible repeat (first | refine blk_drewN ?_ _ | refine blk_drew ?_ | refine blk_alloc ?_ _)); exact BK313.out⟩, ⟨bv1_ HB GE313⟩⟩
        ·rw [if_neg c21] at H
         exact absurd H (by simp)
     ·rw [if_neg c9] at H
      exact absurd H (by simp)
    ·rw [if_neg c8] at H
     have c8b0 : decide (x12_1 < a0) = false := decide_eq_false c8
     clear c8
     by_cases c24 : (x5_1.length : Int) = 0
     ·rw [if_pos c24] at H
      have c24b0 : ((x5_1.length : Int) == 0) = true := beq_iff_eq.mpr c24
      have c24b1 : ((x5_1.length : Int) != 0) = false := bne_eq_false_iff_eq.mpr c24
      clear c24
      obtain rfl := Option.some.inj H
      obtain ⟨Ao25, co25, eo25⟩ := Kd.R_slice HO_5.out
      subst eo25
      go_wp2
      go_ret
      exact ⟨er_, bv1_ HB GE313⟩
     ·rw [if_neg c24] at H
      have c24b0 : ((x5_1.length : Int) == 0) = false := beq_eq_false_iff_ne.mpr c24
      have c24b1 : ((x5_1.length : Int) != 0) = true := bne_iff_ne.mpr c24
      have c24b2 : ¬ (x5_1 = []) := fun h_ => c24 (by rw [h_]; rfl)
      obtain rfl := Option.some.inj H
      obtain ⟨Ao26, co26, eo26⟩ := Kd.R_slice HO_5.out
      subst eo26
      have hcv27 := own_string (P := Tryd.prog) Tryd.underlying28 Tryd.underlying5 Tryd.underlying9 (Kd.own_of_R HO_5.out)
      go_wp2
      go_ret
      exact ⟨er_, bv1_ HB GE313⟩
 ·replace c4 := Bool.eq_false_iff.mpr c4
  subst c4
  rw [if_neg (show ¬ (false = true) by decide)] at H
  obtain rfl := Option.some.inj H
  go_enter Tryd.func59, Tryd.ntmps59
  go_wp2_with (first | ((with_reducible refine gate_dst (N := 3) rfl ?_); refine bx_ 3 #[.int .i64 a1_0, .int .i64 a1_1] 44 ?_; intro gb313 hg w28 hbox hb; have BK313 := Aside0.mk (hbox); have GW313 := gw_ hg (below_size (bv_ HB)); have GE313 := GW313; replace HB := Aside0.mk (below_step (bv_ HB) hb); clear hb hbox hg; obtain ⟨hcz29_0, hcz29_1, hfz29_0, hfz29_1⟩ := c2_ BK313) | ((with_reducible refine gate_callee (f := 72) rfl ?_); refine gl_ 9 Tryd.func72 #[.int .i64 a0, .agg #[.int .i64 a1_0, .int .i64 a1_1]] rfl mp_ ?_; (with_reducible refine (impl_IsTerm.calls a0 a1_0 a1_1 false _ A3.out).mono ?_); rintro e w30 ⟨rfl, hb⟩; refine ⟨_, rfl, ?_⟩; replace BK313 := kb_ BK313 hb; replace HB := Aside0.mk (below_step (bv1_ HB GE313) hb); (try clear hb); (try clear hb2); (try clear hk); (try clear hi)))
  go_ret
  exact ⟨er_, bv1_ HB GE313⟩

-- NOT PRINTED: function 89 (abi_NoEscape)

-- NOT PRINTED: function 82 (strings_Builder_copyCheck)

-- NOT PRINTED: function 90 (bytealg_MakeNoZero)

-- NOT PRINTED: function 83 (strings_Builder_grow)

-- NOT PRINTED: function 75 (strings_Builder_Grow)

-- NOT PRINTED: function 76 (strings_Builder_WriteString)

-- NOT PRINTED: function 77 (strings_Builder_String)


/-! ### strings_Join: function 63 -/
/-- The elements, the separator between them; asked only of rows whose text is no longer than memory. -/
def strings_Join.f (l0 : List ByteArray) (a1 : ByteArray) : Option (ByteArray) := if l0.length ≤ 140737488355328 ∧ (Go.Lib.join (l0.map (·.data.toList)) a1.data.toList).length ≤ 140737488355328 then some ⟨(Go.Lib.join (l0.map (·.data.toList)) a1.data.toList).toArray⟩ else none
set_option maxHeartbeats 8000000 in
theorem strings_Join.calls (A0 : Option Addr) (c0 : Nat) (l0 : List ByteArray) (a1 : ByteArray) (r : ByteArray) (w : World) (hr0 : Kd.C Kd.string w A0 l0.length l0) (hc0 : l0.length ≤ c0) (h : strings_Join.f l0 a1 = some r) :
    Calls Tryd.prog 63 #[.slice A0 l0.length c0, .string a1] w fun e w' => e = .returned (.string r) ∧ Below w.heap.size w w' := by
  unfold strings_Join.f at h
  by_cases hb : l0.length ≤ 140737488355328 ∧ (Go.Lib.join (l0.map (·.data.toList)) a1.data.toList).length ≤ 140737488355328
  case neg => rw [if_neg hb] at h; exact absurd h (by simp)
  rw [if_pos hb] at h
  obtain rfl := Option.some.inj h
  cases l0 with
  | nil =>
    refine (Go.Proofs.Tryd.strings_Join_none A0 c0 a1 w).mono ?_
    rintro e w' ⟨rfl, rfl⟩
    exact ⟨rfl, Below.refl _ _⟩
  | cons x xs =>
    obtain ⟨ad, rfl, hcell⟩ := hr0.2.2 (by simp)
    have hcells : ∀ (j : Nat) (y : ByteArray), (x :: xs)[j]? = some y → w.cell? (ad.add j) = some (.string y) := by
      intro j y hj
      obtain ⟨c, hl, hc, hu⟩ := hcell j y hj
      have hc' : c = [.string y] := hc
      subst hc'
      have h_ := hu 0 (.string y) rfl
      have e_ : ad.add (j * Kd.string.sz + 0) = ad.add j := by
        show ad.add (j * 1 + 0) = ad.add j
        rw [Nat.mul_one, Nat.add_zero]
      rw [e_] at h_
      exact h_
    have h0 := hcells 0 x rfl
    obtain ⟨bk, o, q⟩ := ad
    cases q with
    | some q =>
      exfalso
      revert h0
      simp only [World.cell?, Addr.add]
      split <;> simp
    | none =>
      have hbk := World.block_lt_of_cell? w _ h0
      have hcells2 : ∀ (j : Nat) (y : ByteArray), (x :: xs)[j]? = some y → w.cell? ⟨bk, o + j, none⟩ = some (.string y) := fun j y hj => by
        have h_ := hcells j y hj
        simp only [Addr.add] at h_
        split at h_
        · rename_i e_; rw [e_]; exact h_
        · exact h_
      exact Go.Proofs.Tryd.strings_Join bk o c0 (x :: xs) a1 w hcells2 hbk hb.1 hc0 hb.2


/-! ### impl_joinTerms: function 48 -/
def impl_joinTerms.l0 : Nat → Int → ByteArray → List ByteArray → List (S44) → Int → Int → Option (ByteArray)
 | 0, _, _, _, _, _, _ => none
 | k + 1, x0, x2, x7, x13, x14, x15 => if x15 < x14 then (if 0 ≤ x15 then (if x15 < (x13.length : Int) then ((impl_FormatTerm.f k x0 ((rd_T44 x13 x15).f0) ((rd_T44 x13 x15).f1)).bind fun t369 => (if x15 < (x7.length : Int) then (impl_joinTerms.l0 k x0 x2 (x7.set (x15 : Int).toNat t369) x13 x14 (wrap64 (x15 + 1))) else (none))) else (none)) else (none)) else ((strings_Join.f x7 x2).bind fun t371 => (some t371))
def impl_joinTerms.f (k : Nat) (a0 : Int) (l1 : List (S44)) (a2 : ByteArray) : Option (ByteArray) := if 0 ≤ (l1.length : Int) then (if ((l1.length : Int) : Int).toNat ≤ 17592186044416 then (impl_joinTerms.l0 k a0 a2 (List.replicate ((l1.length : Int) : Int).toNat (⟨#[]⟩ : ByteArray)) l1 (l1.length : Int) 0) else (none)) else (none)
theorem impl_joinTerms.mono_l : ∀ k, (∀ y0 y1 y2 y3 y4 y5, LeO (impl_joinTerms.l0 k y0 y1 y2 y3 y4 y5) (impl_joinTerms.l0 (k + 1) y0 y1 y2 y3 y4 y5))
 | 0 => fun _ _ _ _ _ _ r h => by simp [impl_joinTerms.l0] at h
 | k + 1 => by
  have ih0 := impl_joinTerms.mono_l k
  ·intro y0 y1 y2 y3 y4 y5
   unfold impl_joinTerms.l0
   repeat' first
   | (with_reducible exact ih0 _ _ _ _ _ _)
   | (with_reducible exact impl_FormatTerm.mono _ _ _ _)
   | (with_reducible exact LeO.refl _)
   | (with_reducible exact LeO.none _)
   | (with_reducible refine LeO.ite ?_ ?_)
   | (with_reducible refine LeO.bind ?_ (fun _ => ?_))
   | exact ih0 _ _ _ _ _ _
   | exact impl_FormatTerm.mono _ _ _ _
   | exact LeO.none _
   | refine LeO.ite ?_ ?_
   | refine LeO.bind ?_ (fun _ => ?_)
theorem impl_joinTerms.mono : ∀ a0 a1 a2 k, LeO (impl_joinTerms.f k a0 a1 a2) (impl_joinTerms.f (k + 1) a0 a1 a2) := by
 intro a0 a1 a2 k
 have ih0 := impl_joinTerms.mono_l k
 unfold impl_joinTerms.f
 repeat' first
   | (with_reducible exact ih0 _ _ _ _ _ _)
   | (with_reducible exact impl_FormatTerm.mono _ _ _ _)
   | (with_reducible exact LeO.refl _)
   | (with_reducible exact LeO.none _)
   | (with_reducible refine LeO.ite ?_ ?_)
   | (with_reducible refine LeO.bind ?_ (fun _ => ?_))
   | exact ih0 _ _ _ _ _ _
   | exact impl_FormatTerm.mono _ _ _ _
   | exact LeO.none _
   | refine LeO.ite ?_ ?_
   | refine LeO.bind ?_ (fun _ => ?_)
set_option maxHeartbeats 8000000 in
set_option maxRecDepth 100000 in
theorem impl_joinTerms.calls (k : Nat) (a0 : Int) (A1 : Option Addr) (c1 : Nat) (l1 : List (S44)) (a2 : ByteArray) (r : ByteArray) (w : World) (hr1 : Kd.C k44 w A1 l1.length l1) (hc1 : l1.length ≤ c1) (h : impl_joinTerms.f k a0 l1 a2 = some r) :
  Calls Tryd.prog 48 #[.int .i64 a0, .slice A1 l1.length c1, .string a2] w fun e w' => e = .returned (.string r) ∧ Below w.heap.size w w' := by
 have hu44 := Tryd.underlying44
 have HR1 := Aside0.mk hr1
 have HC1 := Aside0.mk hc1
 clear hr1 hc1
 have HB := Aside0.mk (Below.refl w.heap.size w)
 have H : (if 0 ≤ (l1.length : Int) then (if ((l1.length : Int) : Int).toNat ≤ 17592186044416 then (impl_joinTerms.l0 k a0 a2 (List.replicate ((l1.length : Int) : Int).toNat (⟨#[]⟩ : ByteArray)) l1 (l1.length : Int) 0) else (none)) else (none)) = some r := h
 clear h
 by_cases c4 : 0 ≤ (l1.length : Int)
 ·rw [if_pos c4] at H
  have c4b0 := eq_true c4
  have c4b1 : decide (0 ≤ (l1.length : Int)) = true := decide_eq_true c4
  clear c4
  by_cases c5 : ((l1.length : Int) : Int).toNat ≤ 17592186044416
  ·rw [if_pos c5] at H
   have c5b0 := eq_true c5
   have c5b1 : decide (((l1.length : Int) : Int).toNat ≤ 17592186044416) = true := decide_eq_true c5
   clear c5
   obtain ⟨y364, hy364⟩ : ∃ y_ : List ByteArray, y_ = (List.replicate ((l1.length : Int) : Int).toNat (⟨#[]⟩ : ByteArray)) := ⟨_, rfl⟩
   replace H : (impl_joinTerms.l0 k a0 a2 y364 l1 (l1.length : Int) 0) = some r := by first | (rw [hy364]; with_reducible exact H) | (have H2_ := (Option.bind_some _ _).symm.trans H; rw [hy364]; with_reducible exact H2_) | (have H2_ := (Option.bind_some _ _).symm.trans H; with_reducible exact H2_) | with_reducible exact H | (rw [hy364]; exact H) | exact H
   have Ny364 := Aside0.mk hy364
   clear hy364
   have H' := Aside0.mk H
   clear H
   go_enter Tryd.func48, Tryd.ntmps48
   go_wp2_with (first | ((with_reducible refine gate_dst (N := 12) rfl ?_); refine Kd.R_make Kd.string _ 9 rfl (N := 12) rfl 48 _ _ rfl (l1.length : Int) rfl rfl Tryd.underlying48 (.string ⟨#[]⟩) 16 info9 rfl (by decide) (by omega) (⟨#[]⟩ : ByteArray) (ok := fun _ => True) (okp := fun _ => True) rfl (fun _ hk => hk) trivial (of_decide_eq_true (by first | (with_reducible assumption) | assumption)) (Nat.le_trans (Nat.mul_le_mul_right _ (of_decide_eq_true (by first | (with_reducible assumption) | assumption) : (l1.length : Int).toNat ≤ 17592186044416)) (by omega)) (Below.refl _ _) (Nat.le_refl _) ?_; intro v365 w6 ho7 hb hg_ hnew_; clear hg_ hnew_; (first | rw [← Ny364.out] at ho7 | (simp only [Int.reduceToNat] at ho7; rw [← Ny364.out] at ho7)); have HO366 := Aside0.mk (Kd.R_lower ho7 (below_size (bv_ HB))); replace HB := Aside0.mk (below_step (bv_ HB) hb); clear hb ho7))
   go_loopg [15] k (fun kq v15 w' => ∃ (x7_1 : List ByteArray) (x15_1 : Int), v15 = .int .i64 x15_1 ∧ Aside0 (impl_joinTerms.l0 kq a0 a2 x7_1 l1 (l1.length : Int) x15_1 = some r) ∧ Aside0 (kq ≤ k) ∧ Aside0 (Kd.R Kd.string 9 w' w.heap.size (fun _ => True) v365 x7_1) ∧ Aside0 (Below w.heap.size w w'))
   case atStart => exact ⟨(y364), (0), (by first | rfl | (simp; done) | (simp [*]; done)), H', ⟨Nat.le_refl _⟩, ⟨by (with_reducible repeat (first | apply Kd.R_alloc | apply Kd.R_drewN | apply Kd.R_drew)); exact HO366.out⟩, ⟨bv_ HB⟩⟩
   case round =>
    clear H'
    try clear c1
    try clear p2
    try clear c4
    try clear c4b0
    try clear c4b1
    try clear c5
    try clear c5b0
    try clear c5b1
    obtain ⟨x7_1, x15_1, rfl, HA, HK1, HO_7, HB⟩ := hrel
    cases gk with
    | zero => exact absurd HA.out (by simp [impl_joinTerms.l0])
    | succ k1 =>
     have H := HA.out
     clear HA
     simp only [impl_joinTerms.l0] at H
     by_cases c8 : x15_1 < (l1.length : Int)
     ·rw [if_pos c8] at H
      have c8b0 : decide (x15_1 < (l1.length : Int)) = true := decide_eq_true c8
      clear c8
      by_cases c9 : 0 ≤ x15_1
      ·rw [if_pos c9] at H
       have c9b0 : decide (0 ≤ x15_1) = true := decide_eq_true c9
       clear c9
       by_cases c10 : x15_1 < (l1.length : Int)
       ·rw [if_pos c10] at H
        have c10b0 : decide (x15_1 < (l1.length : Int)) = true := decide_eq_true c10
        clear c10
        replace H := Option.bind_eq_some_iff.mp H
        obtain ⟨t369, A110, H⟩ := H
        have A11 := Aside0.mk A110
        clear A110
        by_cases c12 : x15_1 < (x7_1.length : Int)
        ·rw [if_pos c12] at H
         have c12b0 : decide (x15_1 < (x7_1.length : Int)) = true := decide_eq_true c12
         clear c12
         obtain ⟨y370, hy370⟩ : ∃ y_ : List ByteArray, y_ = (x7_1.set (x15_1 : Int).toNat t369) := ⟨_, rfl⟩
         replace H : (impl_joinTerms.l0 k1 a0 a2 y370 l1 (l1.length : Int) (wrap64 (x15_1 + 1))) = some r := by first | (rw [hy370]; with_reducible exact H) | (have H2_ := (Option.bind_some _ _).symm.trans H; rw [hy370]; with_reducible exact H2_) | (have H2_ := (Option.bind_some _ _).symm.trans H; with_reducible exact H2_) | with_reducible exact H | (rw [hy370]; exact H) | exact H
         have Ny370 := Aside0.mk hy370
         clear hy370
         have H' := Aside0.mk H
         clear H
         have p367 : 0 ≤ (x15_1 : Int) := of_decide_eq_true (by first | (with_reducible assumption) | assumption)
         have q367 : x15_1 < (l1.length : Int) := of_decide_eq_true (by first | (with_reducible assumption) | assumption)
         obtain ⟨ad367, e367, hx367_0, hx367_1⟩ := at_T44 HR1.out x15_1 p367 q367
         cases e367
         replace hx367_0 := (HB.out.cell (World.block_lt_of_cell? w _ hx367_0)).trans hx367_0
         replace hx367_1 := (HB.out.cell (World.block_lt_of_cell? w _ hx367_1)).trans hx367_1
         replace p367 := eq_true p367
         replace q367 := eq_true q367
         go_wp2_with (first | ((with_reducible refine gate_dst (N := 9) rfl ?_); refine bx_ 9 #[.int .i64 0, .int .i64 0] 44 ?_; intro gb368 hg w14 hbox hb; replace HO_7 := Aside0.mk (Kd.R_below (rv_ HO_7) hb); have BK368 := Aside0.mk (hbox); have GW368 := gw_ hg (below_size (bv_ HB)); have GE368 := GW368; replace HB := Aside0.mk (below_step (bv_ HB) hb); clear hb hbox hg; obtain ⟨hcz15_0, hcz15_1, hfz15_0, hfz15_1⟩ := c2_ BK368) | ((with_reducible refine gate_callee (f := 59) rfl ?_); refine gl_ 24 Tryd.func59 #[.int .i64 a0, .agg #[.int .i64 ((rd_T44 l1 x15_1).f0), .int .i64 ((rd_T44 l1 x15_1).f1)]] rfl mp_ ?_; (with_reducible refine (impl_FormatTerm.calls k1 a0 ((rd_T44 l1 x15_1).f0) ((rd_T44 l1 x15_1).f1) t369 _ A11.out).mono ?_); rintro e w16 ⟨rfl, hb⟩; refine ⟨_, rfl, ?_⟩; replace HO_7 := Aside0.mk (Kd.R_below (by (with_reducible repeat (first | apply Kd.R_alloc | apply Kd.R_drewN | apply Kd.R_drew)); exact (Kd.R_mono (Kd.R_far (p := ⟨gb368, 1, none⟩) (Kd.R_far (p := ⟨gb368, 0, none⟩) (Kd.R_types HO_7.out BK368.out (by decide)) (fun _ hk => hk.2) (.int .i64 ((rd_T44 l1 x15_1).f0))) (fun _ hk => hk.2) (.int .i64 ((rd_T44 l1 x15_1).f1))) (fun _ h_ => h_.1))) hb); replace BK368 := Aside0.mk (blk_below (g := gb368) (o := .cells #[.int .i64 ((rd_T44 l1 x15_1).f0), .int .i64 ((rd_T44 l1 x15_1).f1)] 44 (0, 0)) (by (with_reducible repeat (first | refine blk_drewN ?_ _ | refine blk_drew ?_ | refine blk_alloc ?_ _)); refine blk_put (cs := #[.int .i64 ((rd_T44 l1 x15_1).f0), .int .i64 0]) ?_ 1 _ rfl; (with_reducible repeat (first | refine blk_drewN ?_ _ | refine blk_drew ?_ | refine blk_alloc ?_ _)); refine blk_put (cs := #[.int .i64 0, .int .i64 0]) ?_ 0 _ rfl; (with_reducible repeat (first | refine blk_drewN ?_ _ | refine blk_drew ?_ | refine blk_alloc ?_ _)); exact BK368.out) hb); replace HB := Aside0.mk (below_step (bv1_ HB GE368) hb); (try clear hb); (try clear hb2); (try clear hk); (try clear hi); have p13 : 0 ≤ (x15_1 : Int) := of_decide_eq_true (by first | (with_reducible assumption) | assumption); have q13 : (x15_1 : Int) < ((x7_1.length : Int) : Int) := of_decide_eq_true (by first | (with_reducible assumption) | assumption); obtain ⟨go13, co13, eo13, gb13, gl13, cl13, HG13⟩ := Kd.R_form HO_7.out (by omega); (first | cases eo13 | (injection eo13 with ea_ en_ ec_; (first | subst ea_ | (injection ea_ with ea_; subst ea_)); subst ec_; clear en_)); have GB13 := Aside0.mk gb13; have GG13 := Aside0.mk HG13; clear gb13 gl13 HG13; obtain ⟨hx13_0, hf13_0⟩ := Kd.R_celln (⟨#[]⟩ : ByteArray) HO_7.out (x15_1 : Int) p13 q13; replace p13 := eq_true p13; replace q13 := eq_true q13; obtain ⟨hy17_, hz17_⟩ := Kd.R_celln (⟨#[]⟩ : ByteArray) HO_7.out (x15_1 : Int) (of_decide_eq_true (by first | (with_reducible assumption) | assumption)) (of_decide_eq_true (by first | (with_reducible assumption) | assumption)); have HP17 := Kd.R_putg HO_7.out (x15_1 : Int) t369) | ((with_reducible refine gate_store (t := 9) (p := 25) rfl ?_); refine store_event (t := 9) (p := 25) (v := ?vo_w18) (w1 := (w16.setCell ⟨go13, (x15_1 : Int).toNat, none⟩ (.string t369))) ?hg ?ho ?hn ?hr ?_; (case ho => rfl); (case hg => rfl); (case hn => rfl); (case hr => first | (go_simp; done) | (go_simp; rfl)); intro w18 hw; have hg : w16.grownBy w18 (some go13) := (by rw [hw]; exact HP17.2); have hp_ : Kd.R Kd.string 9 w18 w.heap.size (fun _ => True) (.slice (some ⟨go13, 0, none⟩) x7_1.length co13) y370 := (by rw [hw, Ny370.out]; exact HP17.1); clear HP17; replace BK368 := Aside0.mk (blk_grown (g := gb368) (o := .cells #[.int .i64 ((rd_T44 l1 x15_1).f0), .int .i64 ((rd_T44 l1 x15_1).f1)] 44 (0, 0)) (kv_ BK368) hg (Kd.R_ne HO_7.out BK368.out (by decide))); replace HO_7 := Aside0.mk (hp_); replace HB := Aside0.mk ((by rw [hw]; exact below_set (HB.out) GB13.out : Below w.heap.size w w18)); clear hg hw hp_))
         go_roundg k1
         case measure => have := HK1.out; omega
         case rel => exact ⟨(y370), (wrap64 (x15_1 + 1)), (by first | rfl | (simp; done) | (simp [*]; done)), H', ⟨by have := HK1.out; omega⟩, ⟨by (with_reducible repeat (first | apply Kd.R_alloc | apply Kd.R_drewN | apply Kd.R_drew)); exact HO_7.out⟩, ⟨bv1_ HB GE368⟩⟩
        ·rw [if_neg c12] at H
         exact absurd H (by simp)
       ·rw [if_neg c10] at H
        exact absurd H (by simp)
      ·rw [if_neg c9] at H
       exact absurd H (by simp)
     ·rw [if_neg c8] at H
      have c8b0 : decide (x15_1 < (l1.length : Int)) = false := decide_eq_false c8
      clear c8
      replace H := Option.bind_eq_some_iff.mp H
      obtain ⟨t371, A190, H⟩ := H
      have A19 := Aside0.mk A190
      clear A190
      obtain rfl := Option.some.inj H
      obtain ⟨Ao20, co20, eo20⟩ := Kd.R_slice HO_7.out
      subst eo20
      go_wp2_with (first | ((with_reducible refine gate_callee (f := 63) rfl ?_); refine gl_ 29 Tryd.func63 #[.slice Ao20 x7_1.length co20, .string a2] rfl mp_ ?_; (with_reducible refine (strings_Join.calls _ _ x7_1 a2 t371 _ ?side1 ?side2 A19.out).mono ?_); (case side1 => repeat (first | exact (Kd.R_reads' HO_7.out).2.2 | (with_reducible refine Kd.C_alloc ?_ _) | (with_reducible refine Kd.C_drewN ?_ _) | (with_reducible refine Kd.C_drew ?_))); (case side2 => exact (Kd.R_reads' HO_7.out).2.1); rintro e w21 ⟨rfl, hb⟩; refine ⟨_, rfl, ?_⟩; replace HO_7 := Aside0.mk (Kd.R_below (rv_ HO_7) hb); replace HB := Aside0.mk (below_step (bv_ HB) hb); (try clear hb); (try clear hb2); (try clear hk); (try clear hi)))
      go_ret
      exact ⟨er_, bv_ HB⟩
  ·rw [if_neg c5] at H
   exact absurd H (by simp)
 ·rw [if_neg c4] at H
  exact absurd H (by simp)


/-! ### impl_FormatAnf: function 20 -/
def impl_FormatAnf.l0 : Nat → List (S44) → Int → Int → Int → Int → Int → Int → Option (ByteArray)
 | 0, _, _, _, _, _, _, _ => none
 | k + 1, x4, x12, x13, x373000, x373001, x377000, x377001 => if x13 < x12 then ((impl_Table_at.f x377000 x377001 x13).bind fun t378 => (if t378 = 1 then (if x4.length < 8796093022208 then (impl_FormatAnf.l0 k (x4 ++ [(⟨x13, x13⟩ : S44)]) x12 (wrap64 (x13 + 1)) x373000 x373001 x377000 x377001) else (none)) else (impl_FormatAnf.l0 k x4 x12 (wrap64 (x13 + 1)) x373000 x373001 x377000 x377001))) else (if (x4.length : Int) = 0 then (some (⟨#[48]⟩ : ByteArray)) else ((impl_joinTerms.f k x373000 x4 (⟨#[43]⟩ : ByteArray)).bind fun t382 => (some t382)))
def impl_FormatAnf.f (k : Nat) (a0_0 : Int) (a0_1 : Int) : Option (ByteArray) := (impl_IsTable.f a0_0 a0_1).bind fun t373 => (if t373 = true then ((impl_Table_anf.f a0_0 a0_1).bind fun bt374 => ((impl_Table_size.f bt374.1 bt374.2).bind fun t377 => (impl_FormatAnf.l0 k ([] : List (S44)) t377 0 a0_0 a0_1 bt374.1 bt374.2))) else (some (⟨#[]⟩ : ByteArray)))
theorem impl_FormatAnf.mono_l : ∀ k, (∀ y0 y1 y2 y3 y4 y5 y6, LeO (impl_FormatAnf.l0 k y0 y1 y2 y3 y4 y5 y6) (impl_FormatAnf.l0 (k + 1) y0 y1 y2 y3 y4 y5 y6))
 | 0 => fun _ _ _ _ _ _ _ r h => by simp [impl_FormatAnf.l0] at h
 | k + 1 => by
  have ih0 := impl_FormatAnf.mono_l k
  ·intro y0 y1 y2 y3 y4 y5 y6
   unfold impl_FormatAnf.l0
   repeat' first
   | (with_reducible exact ih0 _ _ _ _ _ _ _)
   | (with_reducible exact impl_joinTerms.mono _ _ _ _)
   | (with_reducible exact LeO.refl _)
   | (with_reducible exact LeO.none _)
   | (with_reducible refine LeO.ite ?_ ?_)
   | (with_reducible refine LeO.bind ?_ (fun _ => ?_))
   | exact ih0 _ _ _ _ _ _ _
   | exact impl_joinTerms.mono _ _ _ _
   | exact LeO.none _
   | refine LeO.ite ?_ ?_
   | refine LeO.bind ?_ (fun _ => ?_)
theorem impl_FormatAnf.mono : ∀ a0 a1 k, LeO (impl_FormatAnf.f k a0 a1) (impl_FormatAnf.f (k + 1) a0 a1) := by
 intro a0 a1 k
 have ih0 := impl_FormatAnf.mono_l k
 unfold impl_FormatAnf.f
 repeat' first
   | (with_reducible exact ih0 _ _ _ _ _ _ _)
   | (with_reducible exact impl_joinTerms.mono _ _ _ _)
   | (with_reducible exact LeO.refl _)
   | (with_reducible exact LeO.none _)
   | (with_reducible refine LeO.ite ?_ ?_)
   | (with_reducible refine LeO.bind ?_ (fun _ => ?_))
   | exact ih0 _ _ _ _ _ _ _
   | exact impl_joinTerms.mono _ _ _ _
   | exact LeO.none _
   | refine LeO.ite ?_ ?_
   | refine LeO.bind ?_ (fun _ => ?_)
set_option maxHeartbeats 8000000 in
set_option maxRecDepth 100000 in
theorem impl_FormatAnf.calls (k : Nat) (a0_0 : Int) (a0_1 : Int) (r : ByteArray) (w : World) (h : impl_FormatAnf.f k a0_0 a0_1 = some r) :
  Calls Tryd.prog 20 #[.agg #[.int .i64 a0_0, .int .i64 a0_1]] w fun e w' => e = .returned (.string r) ∧ Below w.heap.size w w' := by
 have hu23 := Tryd.underlying23
 have hu44 := Tryd.underlying44
 have HB := Aside0.mk (Below.refl w.heap.size w)
 have H : ((impl_IsTable.f a0_0 a0_1).bind fun t373 => (if t373 = true then ((impl_Table_anf.f a0_0 a0_1).bind fun bt374 => ((impl_Table_size.f bt374.1 bt374.2).bind fun t377 => (impl_FormatAnf.l0 k ([] : List (S44)) t377 0 a0_0 a0_1 bt374.1 bt374.2))) else (some (⟨#[]⟩ : ByteArray)))) = some r := h
 clear h
 replace H := Option.bind_eq_some_iff.mp H
 obtain ⟨t373, A20, H⟩ := H
 have A2 := Aside0.mk A20
 clear A20
 by_cases c3 : t373 = true
 ·subst c3
  rw [if_pos rfl] at H
  replace H := Option.bind_eq_some_iff.mp H
  obtain ⟨⟨t374, t375⟩, A40, H⟩ := H
  replace H : ((impl_Table_size.f t374 t375).bind fun t377 => (impl_FormatAnf.l0 k ([] : List (S44)) t377 0 a0_0 a0_1 t374 t375)) = some r := H
  have A4 := Aside0.mk A40
  clear A40
  replace H := Option.bind_eq_some_iff.mp H
  obtain ⟨t377, A50, H⟩ := H
  have A5 := Aside0.mk A50
  clear A50
  have H' := Aside0.mk H
  clear H
  go_enter Tryd.func20, Tryd.ntmps20
  go_wp2_with (first | ((with_reducible refine gate_dst (N := 1) rfl ?_); refine bx_ 1 #[.int .i64 a0_0, .int .i64 a0_1] 23 ?_; intro gb372 hg w6 hbox hb; have BK372 := Aside0.mk (hbox); have GW372 := gw_ hg (below_size (bv_ HB)); have GE372 := GW372; replace HB := Aside0.mk (below_step (bv_ HB) hb); clear hb hbox hg; obtain ⟨hcz7_0, hcz7_1, hfz7_0, hfz7_1⟩ := c2_ BK372) | ((with_reducible refine gate_callee (f := 37) rfl ?_); refine gl_ 7 Tryd.func37 #[.agg #[.int .i64 a0_0, .int .i64 a0_1]] rfl mp_ ?_; (with_reducible refine (impl_IsTable.calls a0_0 a0_1 true _ A2.out).mono ?_); rintro e w8 ⟨rfl, hb⟩; refine ⟨_, rfl, ?_⟩; replace BK372 := kb_ BK372 hb; replace HB := Aside0.mk (below_step (bv1_ HB GE372) hb); (try clear hb); (try clear hb2); (try clear hk); (try clear hi); obtain ⟨hcz9_0, hcz9_1, hfz9_0, hfz9_1⟩ := c2_ BK372) | ((with_reducible refine gate_callee (f := 34) rfl ?_); refine gl_ 10 Tryd.func34 #[.agg #[.int .i64 a0_0, .int .i64 a0_1]] rfl mp_ ?_; (with_reducible refine (impl_Table_anf.calls a0_0 a0_1 t374 t375 _ A4.out).mono ?_); rintro e w10 ⟨rfl, hb⟩; refine ⟨_, rfl, ?_⟩; replace BK372 := kb_ BK372 hb; replace HB := Aside0.mk (below_step (bv1_ HB GE372) hb); (try clear hb); (try clear hb2); (try clear hk); (try clear hi)) | ((with_reducible refine gate_dst (N := 3) rfl ?_); refine bx_ 3 #[.int .i64 0, .int .i64 0] 23 ?_; intro gb376 hg w11 hbox hb; have BK376 := Aside0.mk (hbox); have GW376 := gw_ hg (below_size (bv1_ HB GE372)); have GE376 := GW376; replace HB := Aside0.mk (below_step (bv1_ HB GE372) hb); have NB372_376 := nb_ hg (blk_lt (g := gb372) (o := .cells #[.int .i64 a0_0, .int .i64 a0_1] 23 (0, 0)) (kv_ BK372)); have NB376_372 := nc_ hg (blk_lt (g := gb372) (o := .cells #[.int .i64 a0_0, .int .i64 a0_1] 23 (0, 0)) (kv_ BK372)); replace BK372 := kb_ BK372 hb; clear hb hbox hg; have hnb12 := NB376_372.out; have hnc12 := NB372_376.out; obtain ⟨hcz13_0, hcz13_1, hfz13_0, hfz13_1⟩ := c2_ BK376) | ((with_reducible refine gate_callee (f := 46) rfl ?_); refine gl_ 12 Tryd.func46 #[.agg #[.int .i64 t374, .int .i64 t375]] rfl mp_ ?_; (with_reducible refine (impl_Table_size.calls t374 t375 t377 _ A5.out).mono ?_); rintro e w14 ⟨rfl, hb⟩; refine ⟨_, rfl, ?_⟩; replace BK372 := Aside0.mk (blk_below (g := gb372) (o := .cells #[.int .i64 a0_0, .int .i64 a0_1] 23 (0, 0)) (by (with_reducible repeat (first | refine blk_drewN ?_ _ | refine blk_drew ?_ | refine blk_alloc ?_ _)); refine blk_far ?_ NB372_376.out _; (with_reducible repeat (first | refine blk_drewN ?_ _ | refine blk_drew ?_ | refine blk_alloc ?_ _)); refine blk_far ?_ NB372_376.out _; (with_reducible repeat (first | refine blk_drewN ?_ _ | refine blk_drew ?_ | refine blk_alloc ?_ _)); exact BK372.out) hb); replace BK376 := Aside0.mk (blk_below (g := gb376) (o := .cells #[.int .i64 t374, .int .i64 t375] 23 (0, 0)) (by (with_reducible repeat (first | refine blk_drewN ?_ _ | refine blk_drew ?_ | refine blk_alloc ?_ _)); refine blk_put (cs := #[.int .i64 t374, .int .i64 0]) ?_ 1 _ rfl; (with_reducible repeat (first | refine blk_drewN ?_ _ | refine blk_drew ?_ | refine blk_alloc ?_ _)); refine blk_put (cs := #[.int .i64 0, .int .i64 0]) ?_ 0 _ rfl; (with_reducible repeat (first | refine blk_drewN ?_ _ | refine blk_drew ?_ | refine blk_alloc ?_ _)); exact BK376.out) hb); replace HB := Aside0.mk (below_step (bv2_ HB GE372 GE376) hb); (try clear hb); (try clear hb2); (try clear hk); (try clear hi)))
  go_loopg [4, 13] k (fun kq v4 v13 w' => ∃ (x4_1 : List (S44)) (x13_1 : Int), v13 = .int .i64 x13_1 ∧ Aside0 (impl_FormatAnf.l0 kq x4_1 t377 x13_1 a0_0 a0_1 t374 t375 = some r) ∧ Aside0 (kq ≤ k) ∧ Aside0 (Kd.R k44 44 w' w.heap.size (fun _ => True) v4 x4_1) ∧ Aside0 (w'.heap[gb372]? = some (.cells #[.int .i64 a0_0, .int .i64 a0_1] 23 (0, 0))) ∧ Aside0 (w'.heap[gb376]? = some (.cells #[.int .i64 t374, .int .i64 t375] 23 (0, 0))) ∧ Aside0 (Below w.heap.size w w'))
  case atStart => exact ⟨(([] : List (S44))), (0), (by first | rfl | (simp; done) | (simp [*]; done)), H', ⟨Nat.le_refl _⟩, ⟨by first | exact Kd.R_nil _ _ _ _ _ | exact Kd.N_nil _ _ _ _ _ | exact Kd.V_nil _ _ _ _ _ | exact Kd.Q_nil _ _ _ _ _ | exact Kd.S_nil _ _ _ _ _⟩, ⟨by (with_reducible repeat (first | refine blk_drewN ?_ _ | refine blk_drew ?_ | refine blk_alloc ?_ _)); exact BK372.out⟩, ⟨by (with_reducible repeat (first | refine blk_drewN ?_ _ | refine blk_drew ?_ | refine blk_alloc ?_ _)); exact BK376.out⟩, ⟨bv2_ HB GE372 GE376⟩⟩
  case round =>
   clear H'
   try clear c1
   try clear c2
   try clear p2
   try clear c3
   try clear c4
   try clear c12
   try clear hcz13_0
   try clear hcz13_1
   try clear hcz7_0
   try clear hcz7_1
   try clear hcz9_0
   try clear hcz9_1
   try clear hfz13_0
   try clear hfz13_1
   try clear hfz7_0
   try clear hfz7_1
   try clear hfz9_0
   try clear hfz9_1
   obtain ⟨x4_1, x13_1, rfl, HA, HK1, HO_4, BK372, BK376, HB⟩ := hrel
   cases gk with
   | zero => exact absurd HA.out (by simp [impl_FormatAnf.l0])
   | succ k1 =>
    have H := HA.out
    clear HA
    simp only [impl_FormatAnf.l0] at H
    by_cases c15 : x13_1 < t377
    ·rw [if_pos c15] at H
     have c15b0 : decide (x13_1 < t377) = true := decide_eq_true c15
     clear c15
     replace H := Option.bind_eq_some_iff.mp H
     obtain ⟨t378, A160, H⟩ := H
     have A16 := Aside0.mk A160
     clear A160
     by_cases c17 : t378 = 1
     ·rw [if_pos c17] at H
      have c17b0 : (t378 == 1) = true := beq_iff_eq.mpr c17
      have c17b1 : (t378 != 1) = false := bne_eq_false_iff_eq.mpr c17
      clear c17
      by_cases c18 : x4_1.length < 8796093022208
      ·rw [if_pos c18] at H
       have LMc18 := Aside0.mk c18
       clear c18
       obtain ⟨y379, hy379⟩ : ∃ y_ : List (S44), y_ = (x4_1 ++ [(⟨x13_1, x13_1⟩ : S44)]) := ⟨_, rfl⟩
       replace H : (impl_FormatAnf.l0 k1 y379 t377 (wrap64 (x13_1 + 1)) a0_0 a0_1 t374 t375) = some r := by first | (rw [hy379]; with_reducible exact H) | (have H2_ := (Option.bind_some _ _).symm.trans H; rw [hy379]; with_reducible exact H2_) | (have H2_ := (Option.bind_some _ _).symm.trans H; with_reducible exact H2_) | with_reducible exact H | (rw [hy379]; exact H) | exact H
       have Ny379 := Aside0.mk hy379
       clear hy379
       have H' := Aside0.mk H
       clear H
       have hnb19 := NB376_372.out
       have hnc19 := NB372_376.out
       obtain ⟨hcz20_0, hcz20_1, hfz20_0, hfz20_1⟩ := c2_ BK376
       go_wp2_with (first | ((with_reducible refine gate_callee (f := 43) rfl ?_); refine gl_ 18 Tryd.func43 #[.agg #[.int .i64 t374, .int .i64 t375], .int .i64 x13_1] rfl mp_ ?_; (with_reducible refine (impl_Table_at.calls t374 t375 x13_1 t378 _ A16.out).mono ?_); rintro e w21 ⟨rfl, hb⟩; refine ⟨_, rfl, ?_⟩; have n0_ := Aside0.mk (Kd.R_below (rv_ HO_4) hb); have n1_ := kb_ BK372 hb; have n2_ := kb_ BK376 hb; have n3_ := Aside0.mk (below_step (bv2_ HB GE372 GE376) hb); clear HO_4; clear BK372; clear BK376; clear HB; have HO_4 := n0_; have BK372 := n1_; have BK376 := n2_; have HB := n3_; clear n0_ n1_ n2_ n3_; (try clear hb); (try clear hb2); (try clear hk); (try clear hi)) | ((with_reducible refine gate_builtin (b := .append) (xs := #[.tmp 20, .tmp 24]) rfl ?_); at_builtin; refine Kd.R_append k44 (w0 := w) w.heap.size rfl (.tmp 20) (.tmp 24) 61 44 (.agg #[(.int .i64 0), (.int .i64 0)]) 16 rfl Tryd.underlying61 info44 rfl (by decide) (by omega) u4 x4_1 (⟨x13_1, x13_1⟩ : S44) [.int .i64 x13_1, .int .i64 x13_1] (fun _ => True) (fun _ => False) rfl rfl ?aP (fun _ hk => hk.elim) ?aF ?aO ?aB ?aS ?aL ?_; (case aP => exact k44_mkM _ _ _ (⟨x13_1, x13_1⟩ : S44)); (case aB => exact (bv2_ HB GE372 GE376)); (case aF => exact (fun _ _ => trivial)); (case aO => exact (rv_ HO_4)); (case aS => exact (below_size (bv2_ HB GE372 GE376))); (case aL => have := LMc18.out; omega); intro v380 w22 ho hb hg hat; rw [← Ny379.out] at ho; have n0_ := Aside0.mk (blk_grown (g := gb372) (o := .cells #[.int .i64 a0_0, .int .i64 a0_1] 23 (0, 0)) (kv_ BK372) hg (Kd.R_ne HO_4.out BK372.out (by decide))); have n1_ := Aside0.mk (blk_grown (g := gb376) (o := .cells #[.int .i64 t374, .int .i64 t375] 23 (0, 0)) (kv_ BK376) hg (Kd.R_ne HO_4.out BK376.out (by decide))); have n2_ := Aside0.mk (hb); have n3_ := Aside0.mk (ho); clear BK372; clear BK376; clear HB; clear HO_4; have BK372 := n0_; have BK376 := n1_; have HB := n2_; have HO381 := n3_; clear n0_ n1_ n2_ n3_; clear ho hb hg hat))
       go_roundg k1
       case measure => have := HK1.out; omega
       case rel => exact ⟨(y379), (wrap64 (x13_1 + 1)), (by first | rfl | (simp; done) | (simp [*]; done)), H', ⟨by have := HK1.out; omega⟩, ⟨by (with_reducible repeat (first | apply Kd.R_alloc | apply Kd.R_drewN | apply Kd.R_drew)); exact HO381.out⟩, ⟨by (with_reducible repeat (first | refine blk_drewN ?_ _ | refine blk_drew ?_ | refine blk_alloc ?_ _)); exact BK372.out⟩, ⟨by (with_reducible repeat (first | refine blk_drewN ?_ _ | refine blk_drew ?_ | refine blk_alloc ?_ _)); exact BK376.out⟩, ⟨bv2_ HB GE372 GE376⟩⟩
      ·rw [if_neg c18] at H
       exact absurd H (by simp)
     ·rw [if_neg c17] at H
      have c17b0 : (t378 == 1) = false := beq_eq_false_iff_ne.mpr c17
      have c17b1 : (t378 != 1) = true := bne_iff_ne.mpr c17
      have H' := Aside0.mk H
      clear H
      have hnb23 := NB376_372.out
      have hnc23 := NB372_376.out
      obtain ⟨hcz24_0, hcz24_1, hfz24_0, hfz24_1⟩ := c2_ BK376
      go_wp2_with (first | ((with_reducible refine gate_callee (f := 43) rfl ?_); refine gl_ 18 Tryd.func43 #[.agg #[.int .i64 t374, .int .i64 t375], .int .i64 x13_1] rfl mp_ ?_; (with_reducible refine (impl_Table_at.calls t374 t375 x13_1 t378 _ A16.out).mono ?_); rintro e w25 ⟨rfl, hb⟩; refine ⟨_, rfl, ?_⟩; have n0_ := Aside0.mk (Kd.R_below (rv_ HO_4) hb); have n1_ := kb_ BK372 hb; have n2_ := kb_ BK376 hb; have n3_ := Aside0.mk (below_step (bv2_ HB GE372 GE376) hb); clear HO_4; clear BK372; clear BK376; clear HB; have HO_4 := n0_; have BK372 := n1_; have BK376 := n2_; have HB := n3_; clear n0_ n1_ n2_ n3_; (try clear hb); (try clear hb2); (try clear hk); (try clear hi)))
      go_roundg k1
      case measure => have := HK1.out; omega
      case rel => exact ⟨(x4_1), (wrap64 (x13_1 + 1)), (by first | rfl | (simp; done) | (simp [*]; done)), H', ⟨by have := HK1.out; omega⟩, ⟨by (with_reducible repeat (first | apply Kd.R_alloc | apply Kd.R_drewN | apply Kd.R_drew)); exact HO_4.out⟩, ⟨by (with_reducible repeat (first | refine blk_drewN ?_ _ | refine blk_drew ?_ | refine blk_alloc ?_ _)); exact BK372.out⟩, ⟨by (with_reducible repeat (first | refine blk_drewN ?_ _ | refine blk_drew ?_ | refine blk_alloc ?_ _)); exact BK376.out⟩, ⟨bv2_ HB GE372 GE376⟩⟩
    ·rw [if_neg c15] at H
     have c15b0 : decide (x13_1 < t377) = false := decide_eq_false c15
     clear c15
     by_cases c26 : (x4_1.length : Int) = 0
     ·rw [if_pos c26] at H
      have c26b0 : ((x4_1.length : Int) == 0) = true := beq_iff_eq.mpr c26
      have c26b1 : ((x4_1.length : Int) != 0) = false := bne_eq_false_iff_eq.mpr c26
      clear c26
      obtain rfl := Option.some.inj H
      obtain ⟨Ao27, co27, eo27⟩ := Kd.R_slice HO_4.out
      subst eo27
      go_wp2
      go_ret
      exact ⟨er_, bv2_ HB GE372 GE376⟩
     ·rw [if_neg c26] at H
      have c26b0 : ((x4_1.length : Int) == 0) = false := beq_eq_false_iff_ne.mpr c26
      have c26b1 : ((x4_1.length : Int) != 0) = true := bne_iff_ne.mpr c26
      have c26b2 : ¬ (x4_1 = []) := fun h_ => c26 (by rw [h_]; rfl)
      replace H := Option.bind_eq_some_iff.mp H
      obtain ⟨t382, A280, H⟩ := H
      have A28 := Aside0.mk A280
      clear A280
      obtain rfl := Option.some.inj H
      obtain ⟨Ao29, co29, eo29⟩ := Kd.R_slice HO_4.out
      subst eo29
      have hnb30 := NB372_376.out
      have hnc30 := NB376_372.out
      obtain ⟨hcz31_0, hcz31_1, hfz31_0, hfz31_1⟩ := c2_ BK372
      go_wp2_with (first | ((with_reducible refine gate_callee (f := 48) rfl ?_); refine gl_ 33 Tryd.func48 #[.int .i64 a0_0, .slice Ao29 x4_1.length co29, .string (⟨#[43]⟩ : ByteArray)] rfl mp_ ?_; (with_reducible refine (impl_joinTerms.calls k1 a0_0 _ _ x4_1 (⟨#[43]⟩ : ByteArray) t382 _ ?side1 ?side2 A28.out).mono ?_); (case side1 => repeat (first | exact (Kd.R_reads' HO_4.out).2.2 | (with_reducible refine Kd.C_alloc ?_ _) | (with_reducible refine Kd.C_drewN ?_ _) | (with_reducible refine Kd.C_drew ?_))); (case side2 => exact (Kd.R_reads' HO_4.out).2.1); rintro e w32 ⟨rfl, hb⟩; refine ⟨_, rfl, ?_⟩; have n0_ := Aside0.mk (Kd.R_below (rv_ HO_4) hb); have n1_ := kb_ BK372 hb; have n2_ := kb_ BK376 hb; have n3_ := Aside0.mk (below_step (bv2_ HB GE372 GE376) hb); clear HO_4; clear BK372; clear BK376; clear HB; have HO_4 := n0_; have BK372 := n1_; have BK376 := n2_; have HB := n3_; clear n0_ n1_ n2_ n3_; (try clear hb); (try clear hb2); (try clear hk); (try clear hi)))
      go_ret
      exact ⟨er_, bv2_ HB GE372 GE376⟩
 ·replace c3 := Bool.eq_false_iff.mpr c3
  subst c3
  rw [if_neg (show ¬ (false = true) by decide)] at H
  obtain rfl := Option.some.inj H
  go_enter Tryd.func20, Tryd.ntmps20
  go_wp2_with (first | ((with_reducible refine gate_dst (N := 1) rfl ?_); refine bx_ 1 #[.int .i64 a0_0, .int .i64 a0_1] 23 ?_; intro gb372 hg w33 hbox hb; have BK372 := Aside0.mk (hbox); have GW372 := gw_ hg (below_size (bv_ HB)); have GE372 := GW372; replace HB := Aside0.mk (below_step (bv_ HB) hb); clear hb hbox hg; obtain ⟨hcz34_0, hcz34_1, hfz34_0, hfz34_1⟩ := c2_ BK372) | ((with_reducible refine gate_callee (f := 37) rfl ?_); refine gl_ 7 Tryd.func37 #[.agg #[.int .i64 a0_0, .int .i64 a0_1]] rfl mp_ ?_; (with_reducible refine (impl_IsTable.calls a0_0 a0_1 false _ A2.out).mono ?_); rintro e w35 ⟨rfl, hb⟩; refine ⟨_, rfl, ?_⟩; replace BK372 := kb_ BK372 hb; replace HB := Aside0.mk (below_step (bv1_ HB GE372) hb); (try clear hb); (try clear hb2); (try clear hk); (try clear hi)))
  go_ret
  exact ⟨er_, bv1_ HB GE372⟩

-- NOT PRINTED: function 78 (utf8_RuneCountInString)

-- NOT PRINTED: function 84 (utf8_decodeRuneInStringSlow)

-- NOT PRINTED: function 79 (utf8_DecodeRuneInString)

-- NOT PRINTED: function 69 (strings_explode)

-- NOT PRINTED: function 91 (bytealg_IndexByteString)

-- NOT PRINTED: function 85 (stringslite_IndexByte)

-- NOT PRINTED: function 86 (bytealg_IndexString)


/-! ### pre_26: function 0 -/
-- NOT PRINTED: function 81 (stringslite_Index)

-- NOT PRINTED: function 71 (strings_Index)

-- NOT PRINTED: function 80 (bytealg_CountString)

-- NOT PRINTED: function 70 (strings_Count)

-- NOT PRINTED: function 57 (strings_genSplit)

/-! ### strings_Split: function 32 -/
/-- The pieces between the separators, at a separator of one byte. -/
def strings_Split.f (a0 a1 : ByteArray) : Option (List ByteArray) := if a0.size < 4294967281 ∧ a1.size = 1 then some (Go.Lib.splitB a1 0 (Go.Lib.countB a0 a1) a0) else none
set_option maxHeartbeats 8000000 in
theorem strings_Split.calls (a0 : ByteArray) (a1 : ByteArray) (r : List ByteArray) (w : World) (h : strings_Split.f a0 a1 = some r) :
    Calls Tryd.prog 32 #[.string a0, .string a1] w fun e w' => ∃ v0_ : Value, e = .returned (v0_) ∧ Kd.R Kd.string 9 w' w.heap.size (fun _ => True) v0_ r ∧ Below w.heap.size w w' := by
  unfold strings_Split.f at h
  by_cases hb : a0.size < 4294967281 ∧ a1.size = 1
  case neg => rw [if_neg hb] at h; exact absurd h (by simp)
  rw [if_pos hb] at h
  obtain rfl := Option.some.inj h
  obtain ⟨b, rfl⟩ := Go.Lib.one_byte a1 hb.2
  have hlen := Go.Lib.splitB_all ⟨#[b]⟩ (Nat.le_refl _) 0 _ a0 rfl
  have hle := Go.Lib.countB_le ⟨#[b]⟩ (Nat.le_refl _) a0.size a0 (Nat.le_refl _)
  refine (Go.Proofs.Tryd.strings_Split_one a0 b w hb.1).mono ?_
  rintro e w' ⟨rfl, rfl⟩
  generalize Go.Lib.splitB ⟨#[b]⟩ 0 (Go.Lib.countB a0 ⟨#[b]⟩) a0 = xs at *
  generalize Go.Lib.countB a0 ⟨#[b]⟩ = c at *
  have hn : c + 1 = xs.length := hlen.symm
  have hm : xs.length ≤ maxLen := by have h1 := hb.1; have h2 : maxLen = 9223372036854775807 := rfl; omega
  refine ⟨_, rfl, ?_, below_alloc (Below.refl _ _) _⟩
  rw [hn]
  exact Kd.R_of_own (enc := Value.string) (h1 := fun _ => rfl) ⟨by simp only [encs, List.length_map, Nat.mul_one], .inr ⟨w.heap.size, xs.length, (xs.map Value.string).toArray, rfl, Nat.le_refl _, (show (w.heap.push _)[w.heap.size]? = some _ from Array.getElem?_push_size), Nat.le_refl _, hm, by simp, by simp only [Nat.mul_one, List.toList_toArray, encs]; exact List.take_of_length_le (by simp)⟩⟩ (fun _ _ => trivial)


/-! ### impl_isLetter: function 58 -/
def impl_isLetter.f (a0 : Int) : Option (Bool) := if a0 ≥ 97 then (some (decide (a0 < 102))) else (some false)
set_option maxHeartbeats 8000000 in
set_option maxRecDepth 100000 in
theorem impl_isLetter.calls (a0 : Int) (r : Bool) (w : World) (h : impl_isLetter.f a0 = some r) :
  Calls Tryd.prog 58 #[.int .u8 a0] w fun e w' => e = .returned (.bool r) ∧ Drawn0 w w' := by
 have H : (if a0 ≥ 97 then (some (decide (a0 < 102))) else (some false)) = some r := h
 clear h
 by_cases c2 : a0 ≥ 97
 ·rw [if_pos c2] at H
  have c2b0 : decide (97 ≤ a0) = true := decide_eq_true c2
  clear c2
  obtain rfl := Option.some.inj H
  go_enter Tryd.func58, Tryd.ntmps58
  go_wp2
  go_ret
  exact ⟨by first | rfl | (simp; done) | (simp [*]; done), by repeat (first | exact Drawn0.refl _ | apply Drawn0.step)⟩
 ·rw [if_neg c2] at H
  have c2b0 : decide (97 ≤ a0) = false := decide_eq_false c2
  clear c2
  obtain rfl := Option.some.inj H
  go_enter Tryd.func58, Tryd.ntmps58
  go_wp2
  go_ret
  exact ⟨by first | rfl | (simp; done) | (simp [*]; done), by repeat (first | exact Drawn0.refl _ | apply Drawn0.step)⟩


end Go.Proofs.YteljkpglgjjnlaaDoor.P
