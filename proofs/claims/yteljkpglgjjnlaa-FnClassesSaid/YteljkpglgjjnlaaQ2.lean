-- Out of the translation, by this session's program over the printer's; Lean checks it.
import Derived.Test.YteljkpglgjjnlaaSh
import Derived.Test.YteljkpglgjjnlaaQ0
import Derived.Test.YteljkpglgjjnlaaQ1
namespace Go.Proofs.Yteljkpglgjjnlaa.P
open Go.RowKit Go.Proofs.YteljkpglgjjnlaaW.PrintWords Go.Proofs.YteljkpglgjjnlaaW.PrintLast Go.Proofs.YteljkpglgjjnlaaW.PrintMore
attribute [local go_sem] max2_int min2_int max_two min_two max_three min_three max_four min_four
set_option linter.unusedVariables false
set_option linter.unusedSimpArgs false

/-! ### spec_l2Draw: function 67 -/
mutual
def spec_l2Draw.l0 : Nat → Int → Int → Int → List Int → Int → Int → Option (Int × Int × Int × Int)
 | 0, _, _, _, _, _, _ => none
 | k + 1, x1, x5, x6, x1000, x1001, x1002 => if 0 ≤ x1 then (if x6 < (shl .i64 1 x1) then ((spec_l2Count.f k x6).bind fun t232 => (if (wrap64 (2 * t232)) > x1 then (if 0 ≤ x6 then (spec_l2Draw.l0 k x1 (Go.bits .or .i64 x5 (shl .i64 1 x6)) (wrap64 (x6 + 1)) x1000 x1001 x1002) else (none)) else (spec_l2Draw.l0 k x1 x5 (wrap64 (x6 + 1)) x1000 x1001 x1002))) else (if x1 = 0 then ((spec_l2Full.f x1).bind fun t233 => (some (x1, Go.bits .and .i64 (Go.bits .and .i64 x5 1) t233, x1001, x1002))) else ((spec_l2Full.f x1).bind fun t234 => (some (x1, Go.bits .and .i64 x5 t234, x1001, x1002))))) else (none)
def spec_l2Draw.l1 : Nat → Int → Int → Int → List Int → Int → Int → Option (Int × Int × Int × Int)
 | 0, _, _, _, _, _, _ => none
 | k + 1, x1, x5, x7, x1000, x1001, x1002 => if 0 ≤ x1 then (if x7 < (shl .i64 1 x1) then ((spec_l2Count.f k x7).bind fun t235 => (if (Int.tmod t235 2) = 1 then (if 0 ≤ x7 then (spec_l2Draw.l1 k x1 (Go.bits .or .i64 x5 (shl .i64 1 x7)) (wrap64 (x7 + 1)) x1000 x1001 x1002) else (none)) else (spec_l2Draw.l1 k x1 x5 (wrap64 (x7 + 1)) x1000 x1001 x1002))) else (if x1 = 0 then ((spec_l2Full.f x1).bind fun t236 => (some (x1, Go.bits .and .i64 (Go.bits .and .i64 x5 1) t236, x1001, x1002))) else ((spec_l2Full.f x1).bind fun t237 => (some (x1, Go.bits .and .i64 x5 t237, x1001, x1002))))) else (none)
def spec_l2Draw.l2 : Nat → Int → Int → Int → Int → List Int → Int → Int → Option (Int × Int × Int × Int)
 | 0, _, _, _, _, _, _, _ => none
 | k + 1, x1, x5, x8, x9, x1000, x1001, x1002 => if 0 ≤ x1 then (if x9 < (shl .i64 1 x1) then (if (Go.bits .and .i64 x9 x8) = x8 then (if 0 ≤ x9 then (spec_l2Draw.l2 k x1 (Go.bits .or .i64 x5 (shl .i64 1 x9)) x8 (wrap64 (x9 + 1)) x1000 x1001 x1002) else (none)) else (spec_l2Draw.l2 k x1 x5 x8 (wrap64 (x9 + 1)) x1000 x1001 x1002)) else (if x1 = 0 then ((spec_l2Full.f x1).bind fun t241 => (some (x1, Go.bits .and .i64 (Go.bits .and .i64 x5 1) t241, x1001, x1002))) else ((spec_l2Full.f x1).bind fun t242 => (some (x1, Go.bits .and .i64 x5 t242, x1001, x1002))))) else (none)
def spec_l2Draw.l3 : Nat → Int → Int → Int → List Int → Int → Int → Option (Int × Int × Int × Int)
 | 0, _, _, _, _, _, _ => none
 | k + 1, x1, x5, x10, x1000, x1001, x1002 => if 0 ≤ x1 then (if x10 < (shl .i64 1 x1) then ((spec_l1Below.f x1000 x1001 x1002 2).bind fun bt243 => (if 0 ≤ x10 then (spec_l2Draw.l3 k x1 (Go.bits .or .i64 x5 (shl .i64 bt243.1 x10)) (wrap64 (x10 + 1)) x1000 bt243.2.1 bt243.2.2) else (none))) else (if x1 = 0 then ((spec_l2Full.f x1).bind fun t246 => (some (x1, Go.bits .and .i64 (Go.bits .and .i64 x5 1) t246, x1001, x1002))) else ((spec_l2Full.f x1).bind fun t247 => (some (x1, Go.bits .and .i64 x5 t247, x1001, x1002))))) else (none)
end
def spec_l2Draw.f (k : Nat) (s0_0 : List Int) (s0_1 : Int) (s0_2 : Int) (a1 : Int) : Option (Int × Int × Int × Int) := (spec_l1Below.f s0_0 s0_1 s0_2 6).bind fun bt223 => (if bt223.1 = 0 then ((spec_l1Below.f s0_0 bt223.2.1 bt223.2.2 (mx 1 a1)).bind fun bt226 => ((spec_l2Variable.f k a1 bt226.1).bind fun t229 => (if a1 = 0 then ((spec_l2Full.f a1).bind fun t230 => (some (a1, Go.bits .and .i64 (Go.bits .and .i64 t229 1) t230, bt226.2.1, bt226.2.2))) else ((spec_l2Full.f a1).bind fun t231 => (some (a1, Go.bits .and .i64 t229 t231, bt226.2.1, bt226.2.2)))))) else (if bt223.1 = 1 then (spec_l2Draw.l0 k a1 0 0 s0_0 bt223.2.1 bt223.2.2) else (if bt223.1 = 2 then (spec_l2Draw.l1 k a1 0 0 s0_0 bt223.2.1 bt223.2.2) else (if bt223.1 = 3 then (if 0 ≤ a1 then ((spec_l1Below.f s0_0 bt223.2.1 bt223.2.2 (shl .i64 1 a1)).bind fun bt238 => (spec_l2Draw.l2 k a1 0 bt238.1 0 s0_0 bt238.2.1 bt238.2.2)) else (none)) else (spec_l2Draw.l3 k a1 0 0 s0_0 bt223.2.1 bt223.2.2)))))
theorem spec_l2Draw.mono_l : ∀ k, (∀ y0 y1 y2 y3 y4 y5, LeO (spec_l2Draw.l0 k y0 y1 y2 y3 y4 y5) (spec_l2Draw.l0 (k + 1) y0 y1 y2 y3 y4 y5)) ∧ (∀ y0 y1 y2 y3 y4 y5, LeO (spec_l2Draw.l1 k y0 y1 y2 y3 y4 y5) (spec_l2Draw.l1 (k + 1) y0 y1 y2 y3 y4 y5)) ∧ (∀ y0 y1 y2 y3 y4 y5 y6, LeO (spec_l2Draw.l2 k y0 y1 y2 y3 y4 y5 y6) (spec_l2Draw.l2 (k + 1) y0 y1 y2 y3 y4 y5 y6)) ∧ (∀ y0 y1 y2 y3 y4 y5, LeO (spec_l2Draw.l3 k y0 y1 y2 y3 y4 y5) (spec_l2Draw.l3 (k + 1) y0 y1 y2 y3 y4 y5))
 | 0 => ⟨fun _ _ _ _ _ _ r h => by simp [spec_l2Draw.l0] at h, fun _ _ _ _ _ _ r h => by simp [spec_l2Draw.l1] at h, fun _ _ _ _ _ _ _ r h => by simp [spec_l2Draw.l2] at h, fun _ _ _ _ _ _ r h => by simp [spec_l2Draw.l3] at h⟩
 | k + 1 => by
  obtain ⟨ih0, ih1, ih2, ih3⟩ := spec_l2Draw.mono_l k
  refine ⟨?_, ?_, ?_, ?_⟩
  ·intro y0 y1 y2 y3 y4 y5
   unfold spec_l2Draw.l0
   repeat' first
   | (with_reducible exact ih0 _ _ _ _ _ _)
   | (with_reducible exact ih1 _ _ _ _ _ _)
   | (with_reducible exact ih2 _ _ _ _ _ _ _)
   | (with_reducible exact ih3 _ _ _ _ _ _)
   | (with_reducible exact spec_l2Count.mono _ _)
   | (with_reducible exact spec_l2Variable.mono _ _ _)
   | (with_reducible exact LeO.refl _)
   | (with_reducible exact LeO.none _)
   | (with_reducible refine LeO.ite ?_ ?_)
   | (with_reducible refine LeO.bind ?_ (fun _ => ?_))
   | exact ih0 _ _ _ _ _ _
   | exact ih1 _ _ _ _ _ _
   | exact ih2 _ _ _ _ _ _ _
   | exact ih3 _ _ _ _ _ _
   | exact spec_l2Count.mono _ _
   | exact spec_l2Variable.mono _ _ _
   | exact LeO.none _
   | refine LeO.ite ?_ ?_
   | refine LeO.bind ?_ (fun _ => ?_)
  ·intro y0 y1 y2 y3 y4 y5
   unfold spec_l2Draw.l1
   repeat' first
   | (with_reducible exact ih0 _ _ _ _ _ _)
   | (with_reducible exact ih1 _ _ _ _ _ _)
   | (with_reducible exact ih2 _ _ _ _ _ _ _)
   | (with_reducible exact ih3 _ _ _ _ _ _)
   | (with_reducible exact spec_l2Count.mono _ _)
   | (with_reducible exact spec_l2Variable.mono _ _ _)
   | (with_reducible exact LeO.refl _)
   | (with_reducible exact LeO.none _)
   | (with_reducible refine LeO.ite ?_ ?_)
   | (with_reducible refine LeO.bind ?_ (fun _ => ?_))
   | exact ih0 _ _ _ _ _ _
   | exact ih1 _ _ _ _ _ _
   | exact ih2 _ _ _ _ _ _ _
   | exact ih3 _ _ _ _ _ _
   | exact spec_l2Count.mono _ _
   | exact spec_l2Variable.mono _ _ _
   | exact LeO.none _
   | refine LeO.ite ?_ ?_
   | refine LeO.bind ?_ (fun _ => ?_)
  ·intro y0 y1 y2 y3 y4 y5 y6
   unfold spec_l2Draw.l2
   repeat' first
   | (with_reducible exact ih0 _ _ _ _ _ _)
   | (with_reducible exact ih1 _ _ _ _ _ _)
   | (with_reducible exact ih2 _ _ _ _ _ _ _)
   | (with_reducible exact ih3 _ _ _ _ _ _)
   | (with_reducible exact spec_l2Count.mono _ _)
   | (with_reducible exact spec_l2Variable.mono _ _ _)
   | (with_reducible exact LeO.refl _)
   | (with_reducible exact LeO.none _)
   | (with_reducible refine LeO.ite ?_ ?_)
   | (with_reducible refine LeO.bind ?_ (fun _ => ?_))
   | exact ih0 _ _ _ _ _ _
   | exact ih1 _ _ _ _ _ _
   | exact ih2 _ _ _ _ _ _ _
   | exact ih3 _ _ _ _ _ _
   | exact spec_l2Count.mono _ _
   | exact spec_l2Variable.mono _ _ _
   | exact LeO.none _
   | refine LeO.ite ?_ ?_
   | refine LeO.bind ?_ (fun _ => ?_)
  ·intro y0 y1 y2 y3 y4 y5
   unfold spec_l2Draw.l3
   repeat' first
   | (with_reducible exact ih0 _ _ _ _ _ _)
   | (with_reducible exact ih1 _ _ _ _ _ _)
   | (with_reducible exact ih2 _ _ _ _ _ _ _)
   | (with_reducible exact ih3 _ _ _ _ _ _)
   | (with_reducible exact spec_l2Count.mono _ _)
   | (with_reducible exact spec_l2Variable.mono _ _ _)
   | (with_reducible exact LeO.refl _)
   | (with_reducible exact LeO.none _)
   | (with_reducible refine LeO.ite ?_ ?_)
   | (with_reducible refine LeO.bind ?_ (fun _ => ?_))
   | exact ih0 _ _ _ _ _ _
   | exact ih1 _ _ _ _ _ _
   | exact ih2 _ _ _ _ _ _ _
   | exact ih3 _ _ _ _ _ _
   | exact spec_l2Count.mono _ _
   | exact spec_l2Variable.mono _ _ _
   | exact LeO.none _
   | refine LeO.ite ?_ ?_
   | refine LeO.bind ?_ (fun _ => ?_)
theorem spec_l2Draw.mono : ∀ a0 a1 a2 a3 k, LeO (spec_l2Draw.f k a0 a1 a2 a3) (spec_l2Draw.f (k + 1) a0 a1 a2 a3) := by
 intro a0 a1 a2 a3 k
 obtain ⟨ih0, ih1, ih2, ih3⟩ := spec_l2Draw.mono_l k
 unfold spec_l2Draw.f
 repeat' first
   | (with_reducible exact ih0 _ _ _ _ _ _)
   | (with_reducible exact ih1 _ _ _ _ _ _)
   | (with_reducible exact ih2 _ _ _ _ _ _ _)
   | (with_reducible exact ih3 _ _ _ _ _ _)
   | (with_reducible exact spec_l2Count.mono _ _)
   | (with_reducible exact spec_l2Variable.mono _ _ _)
   | (with_reducible exact LeO.refl _)
   | (with_reducible exact LeO.none _)
   | (with_reducible refine LeO.ite ?_ ?_)
   | (with_reducible refine LeO.bind ?_ (fun _ => ?_))
   | exact ih0 _ _ _ _ _ _
   | exact ih1 _ _ _ _ _ _
   | exact ih2 _ _ _ _ _ _ _
   | exact ih3 _ _ _ _ _ _
   | exact spec_l2Count.mono _ _
   | exact spec_l2Variable.mono _ _ _
   | exact LeO.none _
   | refine LeO.ite ?_ ?_
   | refine LeO.bind ?_ (fun _ => ?_)
set_option maxHeartbeats 8000000 in
set_option maxRecDepth 100000 in
theorem spec_l2Draw.calls (k : Nat) (g : Nat) (s0_0 : List Int) (s0_1 : Int) (s0_2 : Int) (a1 : Int) (r1 : Int) (r2 : Int) (r3 : Int) (r4 : Int) (w0 w : World) (hI : IsS87 w0 w g s0_0 s0_1 s0_2) (hB : Below w0.heap.size w0 w) (h : spec_l2Draw.f k s0_0 s0_1 s0_2 a1 = some (r1, r2, r3, r4)) :
  Calls Try.prog 67 #[.pointer (some ⟨g, 0, none⟩), .int .i64 a1] w fun e w' => e = .returned (.agg #[.int .i64 r1, .int .i64 r2]) ∧ IsS87 w0 w' g s0_0 r3 r4 ∧ Below w0.heap.size w0 w' ∧ KeepBut w w' g none := by
 have hu25 := Try.underlying25
 have HI0 := Aside0.mk hI
 have HK := Aside0.mk (KeepBut.refl w g none)
 have HL := Aside0.mk hB.size
 clear hI
 have HW0 := Aside0.mk hB.size
 have HB := Aside0.mk hB
 clear hB
 have H : ((spec_l1Below.f s0_0 s0_1 s0_2 6).bind fun bt223 => (if bt223.1 = 0 then ((spec_l1Below.f s0_0 bt223.2.1 bt223.2.2 (mx 1 a1)).bind fun bt226 => ((spec_l2Variable.f k a1 bt226.1).bind fun t229 => (if a1 = 0 then ((spec_l2Full.f a1).bind fun t230 => (some (a1, Go.bits .and .i64 (Go.bits .and .i64 t229 1) t230, bt226.2.1, bt226.2.2))) else ((spec_l2Full.f a1).bind fun t231 => (some (a1, Go.bits .and .i64 t229 t231, bt226.2.1, bt226.2.2)))))) else (if bt223.1 = 1 then (spec_l2Draw.l0 k a1 0 0 s0_0 bt223.2.1 bt223.2.2) else (if bt223.1 = 2 then (spec_l2Draw.l1 k a1 0 0 s0_0 bt223.2.1 bt223.2.2) else (if bt223.1 = 3 then (if 0 ≤ a1 then ((spec_l1Below.f s0_0 bt223.2.1 bt223.2.2 (shl .i64 1 a1)).bind fun bt238 => (spec_l2Draw.l2 k a1 0 bt238.1 0 s0_0 bt238.2.1 bt238.2.2)) else (none)) else (spec_l2Draw.l3 k a1 0 0 s0_0 bt223.2.1 bt223.2.2)))))) = some (r1, r2, r3, r4) := h
 clear h
 replace H := Option.bind_eq_some_iff.mp H
 obtain ⟨⟨t223, t224, t225⟩, A30, H⟩ := H
 dsimp only at H
 have A3 := Aside0.mk A30
 clear A30
 by_cases c4 : t223 = 0
 ·rw [if_pos c4] at H
  have c4b0 : (t223 == 0) = true := beq_iff_eq.mpr c4
  have c4b1 : (t223 != 0) = false := bne_eq_false_iff_eq.mpr c4
  have c4b9 : (t223 == 0) = true := by rw [c4]; rfl
  clear c4
  obtain ⟨ji5, hji5⟩ : ∃ j_ : Int, (mx 1 a1) = j_ := ⟨_, rfl⟩
  replace H : ((spec_l1Below.f s0_0 t224 t225 (ji5)).bind fun bt226 => ((spec_l2Variable.f k a1 bt226.1).bind fun t229 => (if a1 = 0 then ((spec_l2Full.f a1).bind fun t230 => (some (a1, Go.bits .and .i64 (Go.bits .and .i64 t229 1) t230, bt226.2.1, bt226.2.2))) else ((spec_l2Full.f a1).bind fun t231 => (some (a1, Go.bits .and .i64 t229 t231, bt226.2.1, bt226.2.2)))))) = some (r1, r2, r3, r4) := by first | (rw [hji5] at H; exact H) | (simp only [hji5] at H ⊢; exact H)
  (try rw [hji5] at A3)
  (try (have hji5l : 1 ≤ ji5 := by (rw [← hji5]; unfold mx; (repeat' split) <;> omega)))
  (try (have hji5m : 0 ≤ ji5 := by omega))
  have hji5_ : (if 1 < a1 then a1 else 1) = ji5 := hji5
  replace H := Option.bind_eq_some_iff.mp H
  obtain ⟨⟨t226, t227, t228⟩, A60, H⟩ := H
  dsimp only at H
  have A6 := Aside0.mk A60
  clear A60
  replace H := Option.bind_eq_some_iff.mp H
  obtain ⟨t229, A70, H⟩ := H
  have A7 := Aside0.mk A70
  clear A70
  by_cases c8 : a1 = 0
  ·rw [if_pos c8] at H
   have c8b0 : (a1 == 0) = true := beq_iff_eq.mpr c8
   have c8b1 : (a1 != 0) = false := bne_eq_false_iff_eq.mpr c8
   have c8b9 : (a1 == 0) = true := by rw [c8]; rfl
   clear c8
   replace H := Option.bind_eq_some_iff.mp H
   obtain ⟨t230, A90, H⟩ := H
   have A9 := Aside0.mk A90
   clear A90
   simp only [Option.some.injEq, Prod.mk.injEq] at H
   obtain ⟨rfl, rfl, rfl, rfl⟩ := H
   go_enter Try.func67, Try.ntmps67
   go_wp2_with (first | ((with_reducible refine gate_dst (N := 4) rfl ?_); refine bx_ 4 #[.int .i64 0, .int .i64 0] 25 ?_; intro gb222 hg w10 hbox hb; replace HB := Aside0.mk (below_step (bi_ HB HI0) hb); have BK222 := Aside0.mk (hbox); have GW222 := Aside0.mk ((by rw [hg]; exact (keep_size (w := w) (g := g) (row := none) (ka_ HK)) : w.heap.size ≤ gb222)); have GE222 := Aside0.mk ((Nat.le_trans HW0.out (by rw [hg]; exact (keep_size (w := w) (g := g) (row := none) (ka_ HK)) : w.heap.size ≤ gb222) : w0.heap.size ≤ gb222)); replace HK := Aside0.mk (KeepBut.trans (ka_ HK) (KeepBut.of_below hb g none) (.inl rfl)); have NB0_222 := Aside0.mk ((by rw [hg]; exact Nat.ne_of_lt (IsS87.lt (show IsS87 w0 _ g s0_0 s0_1 s0_2 from ia_ HI0)) : g ≠ gb222)); have NB222_0 := Aside0.mk ((by rw [hg]; exact Nat.ne_of_gt (IsS87.lt (show IsS87 w0 _ g s0_0 s0_1 s0_2 from ia_ HI0)) : gb222 ≠ g)); replace HI0 := Aside0.mk (IsS87.below (ia_ HI0) hb); clear hb hbox hg) | ((with_reducible refine gate_callee (f := 56) rfl ?_); refine gl_ 12 Try.func56 #[.pointer (some ⟨g, 0, none⟩), .int .i64 6] rfl mp_ ?_; (with_reducible refine (spec_l1Below.calls g s0_0 s0_1 s0_2 6 t223 t224 t225 w0 _ ?side1 ?side2 A3.out).mono ?_); (case side1 => exact ia1_ HI0 NB0_222); (case side2 => exact bi1_ HB HI0 GE222); rintro e w11 ⟨rfl, hi, hb, hk⟩; refine ⟨_, rfl, ?_⟩; replace BK222 := Aside0.mk (KeepBut.blk hk (g' := gb222) (o := .cells #[.int .i64 0, .int .i64 0] 25 (0, 0)) (kv_ BK222) NB222_0.out (by simp)); replace HK := Aside0.mk (KeepBut.trans (ka1_ HK GW222) hk (.inl rfl)); replace HB := Aside0.mk (hb); replace HI0 := Aside0.mk (hi); (try clear hb); (try clear hb2); (try clear hk); (try clear hi)) | ((with_reducible refine gate_callee (f := 56) rfl ?_); refine gl_ 31 Try.func56 #[.pointer (some ⟨g, 0, none⟩), .int .i64 ji5] rfl (by (try simp only [List.map_toArray, List.map_cons, List.map_nil]); first | done | (simp only [hji5]; rfl) | rfl | (simp only [List.length_drop, List.length_take]; rfl)) ?_; (with_reducible refine (spec_l1Below.calls g s0_0 t224 t225 ji5 t226 t227 t228 w0 _ ?side1 ?side2 A6.out).mono ?_); (case side1 => exact ia1_ HI0 NB0_222); (case side2 => exact bi1_ HB HI0 GE222); rintro e w12 ⟨rfl, hi, hb, hk⟩; refine ⟨_, rfl, ?_⟩; replace BK222 := Aside0.mk (KeepBut.blk hk (g' := gb222) (o := .cells #[.int .i64 0, .int .i64 0] 25 (0, 0)) (kv_ BK222) NB222_0.out (by simp)); replace HK := Aside0.mk (KeepBut.trans (ka1_ HK GW222) hk (.inl rfl)); replace HB := Aside0.mk (hb); replace HI0 := Aside0.mk (hi); (try clear hb); (try clear hb2); (try clear hk); (try clear hi)) | ((with_reducible refine gate_callee (f := 85) rfl ?_); refine gl_ 32 Try.func85 #[.int .i64 a1, .int .i64 t226] rfl mp_ ?_; (with_reducible refine (spec_l2Variable.calls k a1 t226 t229 _ A7.out).mono ?_); rintro e w' ⟨rfl, ⟨nd, rfl⟩⟩; refine ⟨_, rfl, ?_⟩; (try (rw [drewN_self w12]; generalize hq_ : World.drewN w12 _ = w12; have n0_ : Aside0 (w12.heap[gb222]? = some (.cells #[.int .i64 0, .int .i64 0] 25 (0, 0))) := ⟨by rw [← hq_]; exact (kv_ BK222)⟩; have n1_ : Aside0 (IsS87 w0 w12 g s0_0 t227 t228) := ⟨by rw [← hq_]; exact (ia1_ HI0 NB0_222)⟩; have n2_ : Aside0 (KeepBut w w12 g none) := ⟨by rw [← hq_]; exact (ka1_ HK GW222)⟩; have n3_ : Aside0 (Below w0.heap.size w0 w12) := ⟨by rw [← hq_]; exact (bi1_ HB HI0 GE222)⟩; clear BK222 HI0 HK HB hq_; have BK222 := n0_; have HI0 := n1_; have HK := n2_; have HB := n3_; clear n0_ n1_ n2_ n3_))) | ((with_reducible refine gate_callee (f := 52) rfl ?_); refine gl_ 94 Try.func52 #[.int .i64 a1] rfl mp_ ?_; (with_reducible refine (spec_l2Full.calls a1 t230 _ A9.out).mono ?_); rintro e w' ⟨rfl, ⟨nd, rfl⟩⟩; refine ⟨_, rfl, ?_⟩; (try (rw [drewN_self w12]; generalize hq_ : World.drewN w12 _ = w12; have n0_ : Aside0 (w12.heap[gb222]? = some (.cells #[.int .i64 0, .int .i64 0] 25 (0, 0))) := ⟨by rw [← hq_]; exact (kv_ BK222)⟩; have n1_ : Aside0 (IsS87 w0 w12 g s0_0 t227 t228) := ⟨by rw [← hq_]; exact (ia1_ HI0 NB0_222)⟩; have n2_ : Aside0 (KeepBut w w12 g none) := ⟨by rw [← hq_]; exact (ka1_ HK GW222)⟩; have n3_ : Aside0 (Below w0.heap.size w0 w12) := ⟨by rw [← hq_]; exact (bi1_ HB HI0 GE222)⟩; clear BK222 HI0 HK HB hq_; have BK222 := n0_; have HI0 := n1_; have HK := n2_; have HB := n3_; clear n0_ n1_ n2_ n3_)); have hnb13 := NB222_0.out; have hnc13 := NB0_222.out; obtain ⟨hcz14_0, hcz14_1, hfz14_0, hfz14_1⟩ := c2_ BK222))
   refine bodyPost_ret (results_cell_row rfl _ _ gb222 25 #[.int .i64 a1, .int .i64 (Go.bits .and .i64 (Go.bits .and .i64 t229 1) t230)] (0, 0) _ rfl (by (with_reducible repeat (first | refine blk_drewN ?_ _ | refine blk_drew ?_ | refine blk_alloc ?_ _)); refine blk_put (cs := #[.int .i64 a1, .int .i64 0]) ?_ 1 _ rfl; (with_reducible repeat (first | refine blk_drewN ?_ _ | refine blk_drew ?_ | refine blk_alloc ?_ _)); refine blk_put (cs := #[.int .i64 0, .int .i64 0]) ?_ 0 _ rfl; (with_reducible repeat (first | refine blk_drewN ?_ _ | refine blk_drew ?_ | refine blk_alloc ?_ _)); exact BK222.out) Try.underlying25 rfl (by kernel_rfl)) rfl ?_
   exact ⟨by first | rfl | (simp [errW_none, errW_some] <;> rfl) | (simp only [← hji5]; first | rfl | (simp [errW_none, errW_some] <;> rfl)) | (simp [*, errW_none, errW_some] <;> rfl), ia1_ HI0 NB0_222, bi1_ HB HI0 GE222, ka1_ HK GW222⟩
  ·rw [if_neg c8] at H
   have c8b0 : (a1 == 0) = false := beq_eq_false_iff_ne.mpr c8
   have c8b1 : (a1 != 0) = true := bne_iff_ne.mpr c8
   have c8b9 : (a1 == 0) = false := beq_eq_false_iff_ne.mpr c8
   replace H := Option.bind_eq_some_iff.mp H
   obtain ⟨t231, A150, H⟩ := H
   have A15 := Aside0.mk A150
   clear A150
   simp only [Option.some.injEq, Prod.mk.injEq] at H
   obtain ⟨rfl, rfl, rfl, rfl⟩ := H
   go_enter Try.func67, Try.ntmps67
   go_wp2_with (first | ((with_reducible refine gate_dst (N := 4) rfl ?_); refine bx_ 4 #[.int .i64 0, .int .i64 0] 25 ?_; intro gb222 hg w16 hbox hb; replace HB := Aside0.mk (below_step (bi_ HB HI0) hb); have BK222 := Aside0.mk (hbox); have GW222 := Aside0.mk ((by rw [hg]; exact (keep_size (w := w) (g := g) (row := none) (ka_ HK)) : w.heap.size ≤ gb222)); have GE222 := Aside0.mk ((Nat.le_trans HW0.out (by rw [hg]; exact (keep_size (w := w) (g := g) (row := none) (ka_ HK)) : w.heap.size ≤ gb222) : w0.heap.size ≤ gb222)); replace HK := Aside0.mk (KeepBut.trans (ka_ HK) (KeepBut.of_below hb g none) (.inl rfl)); have NB0_222 := Aside0.mk ((by rw [hg]; exact Nat.ne_of_lt (IsS87.lt (show IsS87 w0 _ g s0_0 s0_1 s0_2 from ia_ HI0)) : g ≠ gb222)); have NB222_0 := Aside0.mk ((by rw [hg]; exact Nat.ne_of_gt (IsS87.lt (show IsS87 w0 _ g s0_0 s0_1 s0_2 from ia_ HI0)) : gb222 ≠ g)); replace HI0 := Aside0.mk (IsS87.below (ia_ HI0) hb); clear hb hbox hg) | ((with_reducible refine gate_callee (f := 56) rfl ?_); refine gl_ 12 Try.func56 #[.pointer (some ⟨g, 0, none⟩), .int .i64 6] rfl mp_ ?_; (with_reducible refine (spec_l1Below.calls g s0_0 s0_1 s0_2 6 t223 t224 t225 w0 _ ?side1 ?side2 A3.out).mono ?_); (case side1 => exact ia1_ HI0 NB0_222); (case side2 => exact bi1_ HB HI0 GE222); rintro e w17 ⟨rfl, hi, hb, hk⟩; refine ⟨_, rfl, ?_⟩; replace BK222 := Aside0.mk (KeepBut.blk hk (g' := gb222) (o := .cells #[.int .i64 0, .int .i64 0] 25 (0, 0)) (kv_ BK222) NB222_0.out (by simp)); replace HK := Aside0.mk (KeepBut.trans (ka1_ HK GW222) hk (.inl rfl)); replace HB := Aside0.mk (hb); replace HI0 := Aside0.mk (hi); (try clear hb); (try clear hb2); (try clear hk); (try clear hi)) | ((with_reducible refine gate_callee (f := 56) rfl ?_); refine gl_ 31 Try.func56 #[.pointer (some ⟨g, 0, none⟩), .int .i64 ji5] rfl (by (try simp only [List.map_toArray, List.map_cons, List.map_nil]); first | done | (simp only [hji5]; rfl) | rfl | (simp only [List.length_drop, List.length_take]; rfl)) ?_; (with_reducible refine (spec_l1Below.calls g s0_0 t224 t225 ji5 t226 t227 t228 w0 _ ?side1 ?side2 A6.out).mono ?_); (case side1 => exact ia1_ HI0 NB0_222); (case side2 => exact bi1_ HB HI0 GE222); rintro e w18 ⟨rfl, hi, hb, hk⟩; refine ⟨_, rfl, ?_⟩; replace BK222 := Aside0.mk (KeepBut.blk hk (g' := gb222) (o := .cells #[.int .i64 0, .int .i64 0] 25 (0, 0)) (kv_ BK222) NB222_0.out (by simp)); replace HK := Aside0.mk (KeepBut.trans (ka1_ HK GW222) hk (.inl rfl)); replace HB := Aside0.mk (hb); replace HI0 := Aside0.mk (hi); (try clear hb); (try clear hb2); (try clear hk); (try clear hi)) | ((with_reducible refine gate_callee (f := 85) rfl ?_); refine gl_ 32 Try.func85 #[.int .i64 a1, .int .i64 t226] rfl mp_ ?_; (with_reducible refine (spec_l2Variable.calls k a1 t226 t229 _ A7.out).mono ?_); rintro e w' ⟨rfl, ⟨nd, rfl⟩⟩; refine ⟨_, rfl, ?_⟩; (try (rw [drewN_self w18]; generalize hq_ : World.drewN w18 _ = w18; have n0_ : Aside0 (w18.heap[gb222]? = some (.cells #[.int .i64 0, .int .i64 0] 25 (0, 0))) := ⟨by rw [← hq_]; exact (kv_ BK222)⟩; have n1_ : Aside0 (IsS87 w0 w18 g s0_0 t227 t228) := ⟨by rw [← hq_]; exact (ia1_ HI0 NB0_222)⟩; have n2_ : Aside0 (KeepBut w w18 g none) := ⟨by rw [← hq_]; exact (ka1_ HK GW222)⟩; have n3_ : Aside0 (Below w0.heap.size w0 w18) := ⟨by rw [← hq_]; exact (bi1_ HB HI0 GE222)⟩; clear BK222 HI0 HK HB hq_; have BK222 := n0_; have HI0 := n1_; have HK := n2_; have HB := n3_; clear n0_ n1_ n2_ n3_))) | ((with_reducible refine gate_callee (f := 52) rfl ?_); refine gl_ 94 Try.func52 #[.int .i64 a1] rfl mp_ ?_; (with_reducible refine (spec_l2Full.calls a1 t231 _ A15.out).mono ?_); rintro e w' ⟨rfl, ⟨nd, rfl⟩⟩; refine ⟨_, rfl, ?_⟩; (try (rw [drewN_self w18]; generalize hq_ : World.drewN w18 _ = w18; have n0_ : Aside0 (w18.heap[gb222]? = some (.cells #[.int .i64 0, .int .i64 0] 25 (0, 0))) := ⟨by rw [← hq_]; exact (kv_ BK222)⟩; have n1_ : Aside0 (IsS87 w0 w18 g s0_0 t227 t228) := ⟨by rw [← hq_]; exact (ia1_ HI0 NB0_222)⟩; have n2_ : Aside0 (KeepBut w w18 g none) := ⟨by rw [← hq_]; exact (ka1_ HK GW222)⟩; have n3_ : Aside0 (Below w0.heap.size w0 w18) := ⟨by rw [← hq_]; exact (bi1_ HB HI0 GE222)⟩; clear BK222 HI0 HK HB hq_; have BK222 := n0_; have HI0 := n1_; have HK := n2_; have HB := n3_; clear n0_ n1_ n2_ n3_)); have hnb19 := NB222_0.out; have hnc19 := NB0_222.out; obtain ⟨hcz20_0, hcz20_1, hfz20_0, hfz20_1⟩ := c2_ BK222))
   refine bodyPost_ret (results_cell_row rfl _ _ gb222 25 #[.int .i64 a1, .int .i64 (Go.bits .and .i64 t229 t231)] (0, 0) _ rfl (by (with_reducible repeat (first | refine blk_drewN ?_ _ | refine blk_drew ?_ | refine blk_alloc ?_ _)); refine blk_put (cs := #[.int .i64 a1, .int .i64 0]) ?_ 1 _ rfl; (with_reducible repeat (first | refine blk_drewN ?_ _ | refine blk_drew ?_ | refine blk_alloc ?_ _)); refine blk_put (cs := #[.int .i64 0, .int .i64 0]) ?_ 0 _ rfl; (with_reducible repeat (first | refine blk_drewN ?_ _ | refine blk_drew ?_ | refine blk_alloc ?_ _)); exact BK222.out) Try.underlying25 rfl (by kernel_rfl)) rfl ?_
   exact ⟨by first | rfl | (simp [errW_none, errW_some] <;> rfl) | (simp only [← hji5]; first | rfl | (simp [errW_none, errW_some] <;> rfl)) | (simp [*, errW_none, errW_some] <;> rfl), ia1_ HI0 NB0_222, bi1_ HB HI0 GE222, ka1_ HK GW222⟩
 ·rw [if_neg c4] at H
  have c4b0 : (t223 == 0) = false := beq_eq_false_iff_ne.mpr c4
  have c4b1 : (t223 != 0) = true := bne_iff_ne.mpr c4
  have c4b9 : (t223 == 0) = false := beq_eq_false_iff_ne.mpr c4
  by_cases c21 : t223 = 1
  ·rw [if_pos c21] at H
   have c21b0 : (t223 == 1) = true := beq_iff_eq.mpr c21
   have c21b1 : (t223 != 1) = false := bne_eq_false_iff_eq.mpr c21
   clear c21
   have H' := Aside0.mk H
   clear H
   go_enter Try.func67, Try.ntmps67
   go_wp2_with (first | ((with_reducible refine gate_dst (N := 4) rfl ?_); refine bx_ 4 #[.int .i64 0, .int .i64 0] 25 ?_; intro gb222 hg w22 hbox hb; replace HB := Aside0.mk (below_step (bi_ HB HI0) hb); have BK222 := Aside0.mk (hbox); have GW222 := Aside0.mk ((by rw [hg]; exact (keep_size (w := w) (g := g) (row := none) (ka_ HK)) : w.heap.size ≤ gb222)); have GE222 := Aside0.mk ((Nat.le_trans HW0.out (by rw [hg]; exact (keep_size (w := w) (g := g) (row := none) (ka_ HK)) : w.heap.size ≤ gb222) : w0.heap.size ≤ gb222)); replace HK := Aside0.mk (KeepBut.trans (ka_ HK) (KeepBut.of_below hb g none) (.inl rfl)); have NB0_222 := Aside0.mk ((by rw [hg]; exact Nat.ne_of_lt (IsS87.lt (show IsS87 w0 _ g s0_0 s0_1 s0_2 from ia_ HI0)) : g ≠ gb222)); have NB222_0 := Aside0.mk ((by rw [hg]; exact Nat.ne_of_gt (IsS87.lt (show IsS87 w0 _ g s0_0 s0_1 s0_2 from ia_ HI0)) : gb222 ≠ g)); replace HI0 := Aside0.mk (IsS87.below (ia_ HI0) hb); clear hb hbox hg) | ((with_reducible refine gate_callee (f := 56) rfl ?_); refine gl_ 12 Try.func56 #[.pointer (some ⟨g, 0, none⟩), .int .i64 6] rfl mp_ ?_; (with_reducible refine (spec_l1Below.calls g s0_0 s0_1 s0_2 6 t223 t224 t225 w0 _ ?side1 ?side2 A3.out).mono ?_); (case side1 => exact ia1_ HI0 NB0_222); (case side2 => exact bi1_ HB HI0 GE222); rintro e w23 ⟨rfl, hi, hb, hk⟩; refine ⟨_, rfl, ?_⟩; replace BK222 := Aside0.mk (KeepBut.blk hk (g' := gb222) (o := .cells #[.int .i64 0, .int .i64 0] 25 (0, 0)) (kv_ BK222) NB222_0.out (by simp)); replace HK := Aside0.mk (KeepBut.trans (ka1_ HK GW222) hk (.inl rfl)); replace HB := Aside0.mk (hb); replace HI0 := Aside0.mk (hi); (try clear hb); (try clear hb2); (try clear hk); (try clear hi)))
   go_loopg [5, 6] k (fun kq v5 v6 w' => ∃ (x5_1 : Int) (x6_1 : Int), v5 = .int .i64 x5_1 ∧ v6 = .int .i64 x6_1 ∧ Aside0 (spec_l2Draw.l0 kq a1 x5_1 x6_1 s0_0 t224 t225 = some (r1, r2, r3, r4)) ∧ Aside0 (kq ≤ k) ∧ Aside0 (w'.heap[gb222]? = some (.cells #[.int .i64 0, .int .i64 0] 25 (0, 0))) ∧ Aside0 (IsS87 w0 w' g s0_0 t224 t225) ∧ Aside0 (KeepBut w w' g none) ∧ Aside0 (Below w0.heap.size w0 w'))
   case atStart => exact ⟨(0), (0), (by first | rfl | (simp; done) | (simp [*]; done)), (by first | rfl | (simp; done) | (simp [*]; done)), H', ⟨Nat.le_refl _⟩, ⟨by (with_reducible repeat (first | refine blk_drewN ?_ _ | refine blk_drew ?_ | refine blk_alloc ?_ _)); exact BK222.out⟩, ⟨ia1_ HI0 NB0_222⟩, ⟨ka1_ HK GW222⟩, ⟨bi1_ HB HI0 GE222⟩⟩
   case round =>
    clear H'
    try clear c1
    try clear c2
    try clear p2
    try clear c4
    try clear c4b0
    try clear c4b1
    try clear c5
    try clear c6
    try clear c8
    try clear c8b0
    try clear c8b1
    try clear c13
    try clear c19
    try clear c21
    try clear c21b0
    try clear c21b1
    try clear hcz14_0
    try clear hcz14_1
    try clear hcz20_0
    try clear hcz20_1
    try clear hfz14_0
    try clear hfz14_1
    try clear hfz20_0
    try clear hfz20_1
    obtain ⟨x5_1, x6_1, rfl, rfl, HA, HK1, BK222, HI0, HK, HB⟩ := hrel
    cases gk with
    | zero => exact absurd HA.out (by simp [spec_l2Draw.l0])
    | succ k1 =>
     have H := HA.out
     clear HA
     simp only [spec_l2Draw.l0] at H
     by_cases c24 : 0 ≤ a1
     ·rw [if_pos c24] at H
      have c24b0 := eq_true c24
      have c24b1 : decide (0 ≤ a1) = true := decide_eq_true c24
      clear c24
      obtain ⟨ji25, hji25⟩ : ∃ j_ : Int, (shl .i64 1 a1) = j_ := ⟨_, rfl⟩
      replace H : (if x6_1 < (ji25) then ((spec_l2Count.f k1 x6_1).bind fun t232 => (if (wrap64 (2 * t232)) > a1 then (if 0 ≤ x6_1 then (spec_l2Draw.l0 k1 a1 (Go.bits .or .i64 x5_1 (shl .i64 1 x6_1)) (wrap64 (x6_1 + 1)) s0_0 t224 t225) else (none)) else (spec_l2Draw.l0 k1 a1 x5_1 (wrap64 (x6_1 + 1)) s0_0 t224 t225))) else (if a1 = 0 then ((spec_l2Full.f a1).bind fun t233 => (some (a1, Go.bits .and .i64 (Go.bits .and .i64 x5_1 1) t233, t224, t225))) else ((spec_l2Full.f a1).bind fun t234 => (some (a1, Go.bits .and .i64 x5_1 t234, t224, t225))))) = some (r1, r2, r3, r4) := by first | (rw [hji25] at H; exact H) | (simp only [hji25] at H ⊢; exact H)
      have hji25_ : (IntKind.i64.wrap (1 * 2 ^ min a1.toNat 64)) = ji25 := hji25
      have hji25z : a1 ≤ 64 → (IntKind.i64.wrap (1 * 2 ^ a1.toNat)) = ji25 := shl_small hji25
      have hji25u : (IntKind.i64.wrap (2 ^ min a1.toNat 64)) = ji25 := by have h_ := hji25_; rw [Int.one_mul] at h_; exact h_
      have hji25v : a1 ≤ 64 → (IntKind.i64.wrap (2 ^ a1.toNat)) = ji25 := fun hle_ => by have h_ := hji25z hle_; rw [Int.one_mul] at h_; exact h_
      have hji25y : (wrap64 (1 * 2 ^ min a1.toNat 64)) = ji25 := (i64_w _).symm.trans hji25_
      have hji25x : a1 ≤ 64 → (wrap64 (1 * 2 ^ a1.toNat)) = ji25 := fun h_ => (i64_w _).symm.trans (hji25z h_)
      by_cases c26 : x6_1 < (ji25)
      ·rw [if_pos c26] at H
       have c26b0 : decide (x6_1 < (ji25)) = true := decide_eq_true c26
       clear c26
       replace H := Option.bind_eq_some_iff.mp H
       obtain ⟨t232, A270, H⟩ := H
       have A27 := Aside0.mk A270
       clear A270
       by_cases c28 : (wrap64 (2 * t232)) > a1
       ·rw [if_pos c28] at H
        have c28b0 : decide (a1 < (wrap64 (2 * t232))) = true := decide_eq_true c28
        clear c28
        by_cases c29 : 0 ≤ x6_1
        ·rw [if_pos c29] at H
         have c29b0 := eq_true c29
         have c29b1 : decide (0 ≤ x6_1) = true := decide_eq_true c29
         clear c29
         obtain ⟨ji30, hji30⟩ : ∃ j_ : Int, (shl .i64 1 x6_1) = j_ := ⟨_, rfl⟩
         replace H : (spec_l2Draw.l0 k1 a1 (Go.bits .or .i64 x5_1 (ji30)) (wrap64 (x6_1 + 1)) s0_0 t224 t225) = some (r1, r2, r3, r4) := by first | (rw [hji30] at H; exact H) | (simp only [hji30] at H ⊢; exact H)
         (try rw [hji30] at A27)
         have hji30_ : (IntKind.i64.wrap (1 * 2 ^ min x6_1.toNat 64)) = ji30 := hji30
         have hji30z : x6_1 ≤ 64 → (IntKind.i64.wrap (1 * 2 ^ x6_1.toNat)) = ji30 := shl_small hji30
         have hji30u : (IntKind.i64.wrap (2 ^ min x6_1.toNat 64)) = ji30 := by have h_ := hji30_; rw [Int.one_mul] at h_; exact h_
         have hji30v : x6_1 ≤ 64 → (IntKind.i64.wrap (2 ^ x6_1.toNat)) = ji30 := fun hle_ => by have h_ := hji30z hle_; rw [Int.one_mul] at h_; exact h_
         have hji30y : (wrap64 (1 * 2 ^ min x6_1.toNat 64)) = ji30 := (i64_w _).symm.trans hji30_
         have hji30x : x6_1 ≤ 64 → (wrap64 (1 * 2 ^ x6_1.toNat)) = ji30 := fun h_ => (i64_w _).symm.trans (hji30z h_)
         have H' := Aside0.mk H
         clear H
         go_wp2_with (first | ((with_reducible refine gate_callee (f := 86) rfl ?_); refine gl_ 42 Try.func86 #[.int .i64 x6_1] rfl mp_ ?_; (with_reducible refine (spec_l2Count.calls k1 x6_1 t232 _ A27.out).mono ?_); rintro e w' ⟨rfl, ⟨nd, rfl⟩⟩; refine ⟨_, rfl, ?_⟩))
         go_roundg k1
         case measure => have := HK1.out; omega
         case rel => exact ⟨(Go.bits .or .i64 x5_1 (ji30)), (wrap64 (x6_1 + 1)), (by first | rfl | (simp; done) | (simp only [← hji30] <;> (first | rfl | simp)) | (simp [*]; done)), (by first | rfl | (simp; done) | (simp [*]; done)), H', ⟨by have := HK1.out; omega⟩, ⟨by (with_reducible repeat (first | refine blk_drewN ?_ _ | refine blk_drew ?_ | refine blk_alloc ?_ _)); exact BK222.out⟩, ⟨ia1_ HI0 NB0_222⟩, ⟨ka1_ HK GW222⟩, ⟨bi1_ HB HI0 GE222⟩⟩
        ·rw [if_neg c29] at H
         exact absurd H (by simp)
       ·rw [if_neg c28] at H
        have c28b0 : decide (a1 < (wrap64 (2 * t232))) = false := decide_eq_false c28
        clear c28
        have H' := Aside0.mk H
        clear H
        go_wp2_with (first | ((with_reducible refine gate_callee (f := 86) rfl ?_); refine gl_ 42 Try.func86 #[.int .i64 x6_1] rfl mp_ ?_; (with_reducible refine (spec_l2Count.calls k1 x6_1 t232 _ A27.out).mono ?_); rintro e w' ⟨rfl, ⟨nd, rfl⟩⟩; refine ⟨_, rfl, ?_⟩))
        go_roundg k1
        case measure => have := HK1.out; omega
        case rel => exact ⟨(x5_1), (wrap64 (x6_1 + 1)), (by first | rfl | (simp; done) | (simp [*]; done)), (by first | rfl | (simp; done) | (simp [*]; done)), H', ⟨by have := HK1.out; omega⟩, ⟨by (with_reducible repeat (first | refine blk_drewN ?_ _ | refine blk_drew ?_ | refine blk_alloc ?_ _)); exact BK222.out⟩, ⟨ia1_ HI0 NB0_222⟩, ⟨ka1_ HK GW222⟩, ⟨bi1_ HB HI0 GE222⟩⟩
      ·rw [if_neg c26] at H
       have c26b0 : decide (x6_1 < (ji25)) = false := decide_eq_false c26
       clear c26
       by_cases c31 : a1 = 0
       ·rw [if_pos c31] at H
        have c31b0 : (a1 == 0) = true := beq_iff_eq.mpr c31
        have c31w : (wrap64 (2 ^ a1.toNat)) = ji25 := (i64_w _).symm.trans (hji25v (by omega))
        have c31b1 : (a1 != 0) = false := bne_eq_false_iff_eq.mpr c31
        have c31b9 : (a1 == 0) = true := by rw [c31]; rfl
        clear c31
        replace H := Option.bind_eq_some_iff.mp H
        obtain ⟨t233, A320, H⟩ := H
        have A32 := Aside0.mk A320
        clear A320
        simp only [Option.some.injEq, Prod.mk.injEq] at H
        obtain ⟨rfl, rfl, rfl, rfl⟩ := H
        go_wp2_with (first | ((with_reducible refine gate_callee (f := 52) rfl ?_); refine gl_ 94 Try.func52 #[.int .i64 a1] rfl mp_ ?_; (with_reducible refine (spec_l2Full.calls a1 t233 _ A32.out).mono ?_); rintro e w' ⟨rfl, ⟨nd, rfl⟩⟩; refine ⟨_, rfl, ?_⟩; (try (rw [drewN_self wr]; generalize hq_ : World.drewN wr _ = wr; have n0_ : Aside0 (wr.heap[gb222]? = some (.cells #[.int .i64 0, .int .i64 0] 25 (0, 0))) := ⟨by rw [← hq_]; exact (kv_ BK222)⟩; have n1_ : Aside0 (IsS87 w0 wr g s0_0 t224 t225) := ⟨by rw [← hq_]; exact (ia1_ HI0 NB0_222)⟩; have n2_ : Aside0 (KeepBut w wr g none) := ⟨by rw [← hq_]; exact (ka1_ HK GW222)⟩; have n3_ : Aside0 (Below w0.heap.size w0 wr) := ⟨by rw [← hq_]; exact (bi1_ HB HI0 GE222)⟩; clear BK222 HI0 HK HB hq_; have BK222 := n0_; have HI0 := n1_; have HK := n2_; have HB := n3_; clear n0_ n1_ n2_ n3_)); have hnb33 := NB222_0.out; have hnc33 := NB0_222.out; obtain ⟨hcz34_0, hcz34_1, hfz34_0, hfz34_1⟩ := c2_ BK222))
        refine bodyPost_ret (results_cell_row rfl _ _ gb222 25 #[.int .i64 a1, .int .i64 (Go.bits .and .i64 (Go.bits .and .i64 x5_1 1) t233)] (0, 0) _ rfl (by (with_reducible repeat (first | refine blk_drewN ?_ _ | refine blk_drew ?_ | refine blk_alloc ?_ _)); refine blk_put (cs := #[.int .i64 a1, .int .i64 0]) ?_ 1 _ rfl; (with_reducible repeat (first | refine blk_drewN ?_ _ | refine blk_drew ?_ | refine blk_alloc ?_ _)); refine blk_put (cs := #[.int .i64 0, .int .i64 0]) ?_ 0 _ rfl; (with_reducible repeat (first | refine blk_drewN ?_ _ | refine blk_drew ?_ | refine blk_alloc ?_ _)); exact BK222.out) Try.underlying25 rfl (by kernel_rfl)) rfl ?_
        exact ⟨by first | rfl | (simp [errW_none, errW_some] <;> rfl) | (simp only [← hji25]; first | rfl | (simp [errW_none, errW_some] <;> rfl)) | (simp [*, errW_none, errW_some] <;> rfl), ia1_ HI0 NB0_222, bi1_ HB HI0 GE222, ka1_ HK GW222⟩
       ·rw [if_neg c31] at H
        have c31b0 : (a1 == 0) = false := beq_eq_false_iff_ne.mpr c31
        have c31b1 : (a1 != 0) = true := bne_iff_ne.mpr c31
        have c31b9 : (a1 == 0) = false := beq_eq_false_iff_ne.mpr c31
        replace H := Option.bind_eq_some_iff.mp H
        obtain ⟨t234, A350, H⟩ := H
        have A35 := Aside0.mk A350
        clear A350
        simp only [Option.some.injEq, Prod.mk.injEq] at H
        obtain ⟨rfl, rfl, rfl, rfl⟩ := H
        go_wp2_with (first | ((with_reducible refine gate_callee (f := 52) rfl ?_); refine gl_ 94 Try.func52 #[.int .i64 a1] rfl mp_ ?_; (with_reducible refine (spec_l2Full.calls a1 t234 _ A35.out).mono ?_); rintro e w' ⟨rfl, ⟨nd, rfl⟩⟩; refine ⟨_, rfl, ?_⟩; (try (rw [drewN_self wr]; generalize hq_ : World.drewN wr _ = wr; have n0_ : Aside0 (wr.heap[gb222]? = some (.cells #[.int .i64 0, .int .i64 0] 25 (0, 0))) := ⟨by rw [← hq_]; exact (kv_ BK222)⟩; have n1_ : Aside0 (IsS87 w0 wr g s0_0 t224 t225) := ⟨by rw [← hq_]; exact (ia1_ HI0 NB0_222)⟩; have n2_ : Aside0 (KeepBut w wr g none) := ⟨by rw [← hq_]; exact (ka1_ HK GW222)⟩; have n3_ : Aside0 (Below w0.heap.size w0 wr) := ⟨by rw [← hq_]; exact (bi1_ HB HI0 GE222)⟩; clear BK222 HI0 HK HB hq_; have BK222 := n0_; have HI0 := n1_; have HK := n2_; have HB := n3_; clear n0_ n1_ n2_ n3_)); have hnb36 := NB222_0.out; have hnc36 := NB0_222.out; obtain ⟨hcz37_0, hcz37_1, hfz37_0, hfz37_1⟩ := c2_ BK222))
        refine bodyPost_ret (results_cell_row rfl _ _ gb222 25 #[.int .i64 a1, .int .i64 (Go.bits .and .i64 x5_1 t234)] (0, 0) _ rfl (by (with_reducible repeat (first | refine blk_drewN ?_ _ | refine blk_drew ?_ | refine blk_alloc ?_ _)); refine blk_put (cs := #[.int .i64 a1, .int .i64 0]) ?_ 1 _ rfl; (with_reducible repeat (first | refine blk_drewN ?_ _ | refine blk_drew ?_ | refine blk_alloc ?_ _)); refine blk_put (cs := #[.int .i64 0, .int .i64 0]) ?_ 0 _ rfl; (with_reducible repeat (first | refine blk_drewN ?_ _ | refine blk_drew ?_ | refine blk_alloc ?_ _)); exact BK222.out) Try.underlying25 rfl (by kernel_rfl)) rfl ?_
        exact ⟨by first | rfl | (simp [errW_none, errW_some] <;> rfl) | (simp only [← hji25]; first | rfl | (simp [errW_none, errW_some] <;> rfl)) | (simp [*, errW_none, errW_some] <;> rfl), ia1_ HI0 NB0_222, bi1_ HB HI0 GE222, ka1_ HK GW222⟩
     ·rw [if_neg c24] at H
      exact absurd H (by simp)
  ·rw [if_neg c21] at H
   have c21b0 : (t223 == 1) = false := beq_eq_false_iff_ne.mpr c21
   have c21b1 : (t223 != 1) = true := bne_iff_ne.mpr c21
   by_cases c38 : t223 = 2
   ·rw [if_pos c38] at H
    have c38b0 : (t223 == 2) = true := beq_iff_eq.mpr c38
    have c38b1 : (t223 != 2) = false := bne_eq_false_iff_eq.mpr c38
    clear c38
    have H' := Aside0.mk H
    clear H
    go_enter Try.func67, Try.ntmps67
    go_wp2_with (first | ((with_reducible refine gate_dst (N := 4) rfl ?_); refine bx_ 4 #[.int .i64 0, .int .i64 0] 25 ?_; intro gb222 hg w39 hbox hb; replace HB := Aside0.mk (below_step (bi_ HB HI0) hb); have BK222 := Aside0.mk (hbox); have GW222 := Aside0.mk ((by rw [hg]; exact (keep_size (w := w) (g := g) (row := none) (ka_ HK)) : w.heap.size ≤ gb222)); have GE222 := Aside0.mk ((Nat.le_trans HW0.out (by rw [hg]; exact (keep_size (w := w) (g := g) (row := none) (ka_ HK)) : w.heap.size ≤ gb222) : w0.heap.size ≤ gb222)); replace HK := Aside0.mk (KeepBut.trans (ka_ HK) (KeepBut.of_below hb g none) (.inl rfl)); have NB0_222 := Aside0.mk ((by rw [hg]; exact Nat.ne_of_lt (IsS87.lt (show IsS87 w0 _ g s0_0 s0_1 s0_2 from ia_ HI0)) : g ≠ gb222)); have NB222_0 := Aside0.mk ((by rw [hg]; exact Nat.ne_of_gt (IsS87.lt (show IsS87 w0 _ g s0_0 s0_1 s0_2 from ia_ HI0)) : gb222 ≠ g)); replace HI0 := Aside0.mk (IsS87.below (ia_ HI0) hb); clear hb hbox hg) | ((with_reducible refine gate_callee (f := 56) rfl ?_); refine gl_ 12 Try.func56 #[.pointer (some ⟨g, 0, none⟩), .int .i64 6] rfl mp_ ?_; (with_reducible refine (spec_l1Below.calls g s0_0 s0_1 s0_2 6 t223 t224 t225 w0 _ ?side1 ?side2 A3.out).mono ?_); (case side1 => exact ia1_ HI0 NB0_222); (case side2 => exact bi1_ HB HI0 GE222); rintro e w40 ⟨rfl, hi, hb, hk⟩; refine ⟨_, rfl, ?_⟩; replace BK222 := Aside0.mk (KeepBut.blk hk (g' := gb222) (o := .cells #[.int .i64 0, .int .i64 0] 25 (0, 0)) (kv_ BK222) NB222_0.out (by simp)); replace HK := Aside0.mk (KeepBut.trans (ka1_ HK GW222) hk (.inl rfl)); replace HB := Aside0.mk (hb); replace HI0 := Aside0.mk (hi); (try clear hb); (try clear hb2); (try clear hk); (try clear hi)))
    go_loopg [5, 7] k (fun kq v5 v7 w' => ∃ (x5_1 : Int) (x7_1 : Int), v5 = .int .i64 x5_1 ∧ v7 = .int .i64 x7_1 ∧ Aside0 (spec_l2Draw.l1 kq a1 x5_1 x7_1 s0_0 t224 t225 = some (r1, r2, r3, r4)) ∧ Aside0 (kq ≤ k) ∧ Aside0 (w'.heap[gb222]? = some (.cells #[.int .i64 0, .int .i64 0] 25 (0, 0))) ∧ Aside0 (IsS87 w0 w' g s0_0 t224 t225) ∧ Aside0 (KeepBut w w' g none) ∧ Aside0 (Below w0.heap.size w0 w'))
    case atStart => exact ⟨(0), (0), (by first | rfl | (simp; done) | (simp [*]; done)), (by first | rfl | (simp; done) | (simp [*]; done)), H', ⟨Nat.le_refl _⟩, ⟨by (with_reducible repeat (first | refine blk_drewN ?_ _ | refine blk_drew ?_ | refine blk_alloc ?_ _)); exact BK222.out⟩, ⟨ia1_ HI0 NB0_222⟩, ⟨ka1_ HK GW222⟩, ⟨bi1_ HB HI0 GE222⟩⟩
    case round =>
     clear H'
     try clear c1
     try clear c2
     try clear p2
     try clear c3
     try clear c4
     try clear c4b0
     try clear c4b1
     try clear c5
     try clear c6
     try clear p6
     try clear c8
     try clear c8b0
     try clear c8b1
     try clear c13
     try clear c19
     try clear c21
     try clear c21b0
     try clear c21b1
     try clear c24
     try clear c24b0
     try clear c24b1
     try clear c26
     try clear c26b0
     try clear c28
     try clear c28b0
     try clear c29
     try clear c29b0
     try clear c29b1
     try clear c31
     try clear c31b0
     try clear c31b1
     try clear c33
     try clear c36
     try clear c38
     try clear c38b0
     try clear c38b1
     try clear hcz14_0
     try clear hcz14_1
     try clear hcz20_0
     try clear hcz20_1
     try clear hcz34_0
     try clear hcz34_1
     try clear hcz37_0
     try clear hcz37_1
     try clear hfz14_0
     try clear hfz14_1
     try clear hfz20_0
     try clear hfz20_1
     try clear hfz34_0
     try clear hfz34_1
     try clear hfz37_0
     try clear hfz37_1
     try clear p2
     obtain ⟨x5_1, x7_1, rfl, rfl, HA, HK1, BK222, HI0, HK, HB⟩ := hrel
     cases gk with
     | zero => exact absurd HA.out (by simp [spec_l2Draw.l1])
     | succ k1 =>
      have H := HA.out
      clear HA
      simp only [spec_l2Draw.l1] at H
      by_cases c41 : 0 ≤ a1
      ·rw [if_pos c41] at H
       have c41b0 := eq_true c41
       have c41b1 : decide (0 ≤ a1) = true := decide_eq_true c41
       clear c41
       obtain ⟨ji42, hji42⟩ : ∃ j_ : Int, (shl .i64 1 a1) = j_ := ⟨_, rfl⟩
       replace H : (if x7_1 < (ji42) then ((spec_l2Count.f k1 x7_1).bind fun t235 => (if (Int.tmod t235 2) = 1 then (if 0 ≤ x7_1 then (spec_l2Draw.l1 k1 a1 (Go.bits .or .i64 x5_1 (shl .i64 1 x7_1)) (wrap64 (x7_1 + 1)) s0_0 t224 t225) else (none)) else (spec_l2Draw.l1 k1 a1 x5_1 (wrap64 (x7_1 + 1)) s0_0 t224 t225))) else (if a1 = 0 then ((spec_l2Full.f a1).bind fun t236 => (some (a1, Go.bits .and .i64 (Go.bits .and .i64 x5_1 1) t236, t224, t225))) else ((spec_l2Full.f a1).bind fun t237 => (some (a1, Go.bits .and .i64 x5_1 t237, t224, t225))))) = some (r1, r2, r3, r4) := by first | (rw [hji42] at H; exact H) | (simp only [hji42] at H ⊢; exact H)
       have hji42_ : (IntKind.i64.wrap (1 * 2 ^ min a1.toNat 64)) = ji42 := hji42
       have hji42z : a1 ≤ 64 → (IntKind.i64.wrap (1 * 2 ^ a1.toNat)) = ji42 := shl_small hji42
       have hji42u : (IntKind.i64.wrap (2 ^ min a1.toNat 64)) = ji42 := by have h_ := hji42_; rw [Int.one_mul] at h_; exact h_
       have hji42v : a1 ≤ 64 → (IntKind.i64.wrap (2 ^ a1.toNat)) = ji42 := fun hle_ => by have h_ := hji42z hle_; rw [Int.one_mul] at h_; exact h_
       have hji42y : (wrap64 (1 * 2 ^ min a1.toNat 64)) = ji42 := (i64_w _).symm.trans hji42_
       have hji42x : a1 ≤ 64 → (wrap64 (1 * 2 ^ a1.toNat)) = ji42 := fun h_ => (i64_w _).symm.trans (hji42z h_)
       by_cases c43 : x7_1 < (ji42)
       ·rw [if_pos c43] at H
        have c43b0 : decide (x7_1 < (ji42)) = true := decide_eq_true c43
        clear c43
        replace H := Option.bind_eq_some_iff.mp H
        obtain ⟨t235, A440, H⟩ := H
        have A44 := Aside0.mk A440
        clear A440
        by_cases c45 : (Int.tmod t235 2) = 1
        ·rw [if_pos c45] at H
         have c45b0 : ((Int.tmod t235 2) == 1) = true := beq_iff_eq.mpr c45
         have c45b1 : ((Int.tmod t235 2) != 1) = false := bne_eq_false_iff_eq.mpr c45
         clear c45
         by_cases c46 : 0 ≤ x7_1
         ·rw [if_pos c46] at H
          have c46b0 := eq_true c46
          have c46b1 : decide (0 ≤ x7_1) = true := decide_eq_true c46
          clear c46
          obtain ⟨ji47, hji47⟩ : ∃ j_ : Int, (shl .i64 1 x7_1) = j_ := ⟨_, rfl⟩
          replace H : (spec_l2Draw.l1 k1 a1 (Go.bits .or .i64 x5_1 (ji47)) (wrap64 (x7_1 + 1)) s0_0 t224 t225) = some (r1, r2, r3, r4) := by first | (rw [hji47] at H; exact H) | (simp only [hji47] at H ⊢; exact H)
          (try rw [hji47] at A44)
          have hji47_ : (IntKind.i64.wrap (1 * 2 ^ min x7_1.toNat 64)) = ji47 := hji47
          have hji47z : x7_1 ≤ 64 → (IntKind.i64.wrap (1 * 2 ^ x7_1.toNat)) = ji47 := shl_small hji47
          have hji47u : (IntKind.i64.wrap (2 ^ min x7_1.toNat 64)) = ji47 := by have h_ := hji47_; rw [Int.one_mul] at h_; exact h_
          have hji47v : x7_1 ≤ 64 → (IntKind.i64.wrap (2 ^ x7_1.toNat)) = ji47 := fun hle_ => by have h_ := hji47z hle_; rw [Int.one_mul] at h_; exact h_
          have hji47y : (wrap64 (1 * 2 ^ min x7_1.toNat 64)) = ji47 := (i64_w _).symm.trans hji47_
          have hji47x : x7_1 ≤ 64 → (wrap64 (1 * 2 ^ x7_1.toNat)) = ji47 := fun h_ => (i64_w _).symm.trans (hji47z h_)
          have H' := Aside0.mk H
          clear H
          go_wp2_with (first | ((with_reducible refine gate_callee (f := 86) rfl ?_); refine gl_ 59 Try.func86 #[.int .i64 x7_1] rfl mp_ ?_; (with_reducible refine (spec_l2Count.calls k1 x7_1 t235 _ A44.out).mono ?_); rintro e w' ⟨rfl, ⟨nd, rfl⟩⟩; refine ⟨_, rfl, ?_⟩))
          go_roundg k1
          case measure => have := HK1.out; omega
          case rel => exact ⟨(Go.bits .or .i64 x5_1 (ji47)), (wrap64 (x7_1 + 1)), (by first | rfl | (simp; done) | (simp only [← hji47] <;> (first | rfl | simp)) | (simp [*]; done)), (by first | rfl | (simp; done) | (simp [*]; done)), H', ⟨by have := HK1.out; omega⟩, ⟨by (with_reducible repeat (first | refine blk_drewN ?_ _ | refine blk_drew ?_ | refine blk_alloc ?_ _)); exact BK222.out⟩, ⟨ia1_ HI0 NB0_222⟩, ⟨ka1_ HK GW222⟩, ⟨bi1_ HB HI0 GE222⟩⟩
         ·rw [if_neg c46] at H
          exact absurd H (by simp)
        ·rw [if_neg c45] at H
         have c45b0 : ((Int.tmod t235 2) == 1) = false := beq_eq_false_iff_ne.mpr c45
         have c45b1 : ((Int.tmod t235 2) != 1) = true := bne_iff_ne.mpr c45
         have H' := Aside0.mk H
         clear H
         go_wp2_with (first | ((with_reducible refine gate_callee (f := 86) rfl ?_); refine gl_ 59 Try.func86 #[.int .i64 x7_1] rfl mp_ ?_; (with_reducible refine (spec_l2Count.calls k1 x7_1 t235 _ A44.out).mono ?_); rintro e w' ⟨rfl, ⟨nd, rfl⟩⟩; refine ⟨_, rfl, ?_⟩))
         go_roundg k1
         case measure => have := HK1.out; omega
         case rel => exact ⟨(x5_1), (wrap64 (x7_1 + 1)), (by first | rfl | (simp; done) | (simp [*]; done)), (by first | rfl | (simp; done) | (simp [*]; done)), H', ⟨by have := HK1.out; omega⟩, ⟨by (with_reducible repeat (first | refine blk_drewN ?_ _ | refine blk_drew ?_ | refine blk_alloc ?_ _)); exact BK222.out⟩, ⟨ia1_ HI0 NB0_222⟩, ⟨ka1_ HK GW222⟩, ⟨bi1_ HB HI0 GE222⟩⟩
       ·rw [if_neg c43] at H
        have c43b0 : decide (x7_1 < (ji42)) = false := decide_eq_false c43
        clear c43
        by_cases c48 : a1 = 0
        ·rw [if_pos c48] at H
         have c48b0 : (a1 == 0) = true := beq_iff_eq.mpr c48
         have c48w : (wrap64 (2 ^ a1.toNat)) = ji42 := (i64_w _).symm.trans (hji42v (by omega))
         have c48b1 : (a1 != 0) = false := bne_eq_false_iff_eq.mpr c48
         have c48b9 : (a1 == 0) = true := by rw [c48]; rfl
         clear c48
         replace H := Option.bind_eq_some_iff.mp H
         obtain ⟨t236, A490, H⟩ := H
         have A49 := Aside0.mk A490
         clear A490
         simp only [Option.some.injEq, Prod.mk.injEq] at H
         obtain ⟨rfl, rfl, rfl, rfl⟩ := H
         go_wp2_with (first | ((with_reducible refine gate_callee (f := 52) rfl ?_); refine gl_ 94 Try.func52 #[.int .i64 a1] rfl mp_ ?_; (with_reducible refine (spec_l2Full.calls a1 t236 _ A49.out).mono ?_); rintro e w' ⟨rfl, ⟨nd, rfl⟩⟩; refine ⟨_, rfl, ?_⟩; (try (rw [drewN_self wr]; generalize hq_ : World.drewN wr _ = wr; have n0_ : Aside0 (wr.heap[gb222]? = some (.cells #[.int .i64 0, .int .i64 0] 25 (0, 0))) := ⟨by rw [← hq_]; exact (kv_ BK222)⟩; have n1_ : Aside0 (IsS87 w0 wr g s0_0 t224 t225) := ⟨by rw [← hq_]; exact (ia1_ HI0 NB0_222)⟩; have n2_ : Aside0 (KeepBut w wr g none) := ⟨by rw [← hq_]; exact (ka1_ HK GW222)⟩; have n3_ : Aside0 (Below w0.heap.size w0 wr) := ⟨by rw [← hq_]; exact (bi1_ HB HI0 GE222)⟩; clear BK222 HI0 HK HB hq_; have BK222 := n0_; have HI0 := n1_; have HK := n2_; have HB := n3_; clear n0_ n1_ n2_ n3_)); have hnb50 := NB222_0.out; have hnc50 := NB0_222.out; obtain ⟨hcz51_0, hcz51_1, hfz51_0, hfz51_1⟩ := c2_ BK222))
         refine bodyPost_ret (results_cell_row rfl _ _ gb222 25 #[.int .i64 a1, .int .i64 (Go.bits .and .i64 (Go.bits .and .i64 x5_1 1) t236)] (0, 0) _ rfl (by (with_reducible repeat (first | refine blk_drewN ?_ _ | refine blk_drew ?_ | refine blk_alloc ?_ _)); refine blk_put (cs := #[.int .i64 a1, .int .i64 0]) ?_ 1 _ rfl; (with_reducible repeat (first | refine blk_drewN ?_ _ | refine blk_drew ?_ | refine blk_alloc ?_ _)); refine blk_put (cs := #[.int .i64 0, .int .i64 0]) ?_ 0 _ rfl; (with_reducible repeat (first | refine blk_drewN ?_ _ | refine blk_drew ?_ | refine blk_alloc ?_ _)); exact BK222.out) Try.underlying25 rfl (by kernel_rfl)) rfl ?_
         exact ⟨by first | rfl | (simp [errW_none, errW_some] <;> rfl) | (simp only [← hji42]; first | rfl | (simp [errW_none, errW_some] <;> rfl)) | (simp [*, errW_none, errW_some] <;> rfl), ia1_ HI0 NB0_222, bi1_ HB HI0 GE222, ka1_ HK GW222⟩
        ·rw [if_neg c48] at H
         have c48b0 : (a1 == 0) = false := beq_eq_false_iff_ne.mpr c48
         have c48b1 : (a1 != 0) = true := bne_iff_ne.mpr c48
         have c48b9 : (a1 == 0) = false := beq_eq_false_iff_ne.mpr c48
         replace H := Option.bind_eq_some_iff.mp H
         obtain ⟨t237, A520, H⟩ := H
         have A52 := Aside0.mk A520
         clear A520
         simp only [Option.some.injEq, Prod.mk.injEq] at H
         obtain ⟨rfl, rfl, rfl, rfl⟩ := H
         go_wp2_with (first | ((with_reducible refine gate_callee (f := 52) rfl ?_); refine gl_ 94 Try.func52 #[.int .i64 a1] rfl mp_ ?_; (with_reducible refine (spec_l2Full.calls a1 t237 _ A52.out).mono ?_); rintro e w' ⟨rfl, ⟨nd, rfl⟩⟩; refine ⟨_, rfl, ?_⟩; (try (rw [drewN_self wr]; generalize hq_ : World.drewN wr _ = wr; have n0_ : Aside0 (wr.heap[gb222]? = some (.cells #[.int .i64 0, .int .i64 0] 25 (0, 0))) := ⟨by rw [← hq_]; exact (kv_ BK222)⟩; have n1_ : Aside0 (IsS87 w0 wr g s0_0 t224 t225) := ⟨by rw [← hq_]; exact (ia1_ HI0 NB0_222)⟩; have n2_ : Aside0 (KeepBut w wr g none) := ⟨by rw [← hq_]; exact (ka1_ HK GW222)⟩; have n3_ : Aside0 (Below w0.heap.size w0 wr) := ⟨by rw [← hq_]; exact (bi1_ HB HI0 GE222)⟩; clear BK222 HI0 HK HB hq_; have BK222 := n0_; have HI0 := n1_; have HK := n2_; have HB := n3_; clear n0_ n1_ n2_ n3_)); have hnb53 := NB222_0.out; have hnc53 := NB0_222.out; obtain ⟨hcz54_0, hcz54_1, hfz54_0, hfz54_1⟩ := c2_ BK222))
         refine bodyPost_ret (results_cell_row rfl _ _ gb222 25 #[.int .i64 a1, .int .i64 (Go.bits .and .i64 x5_1 t237)] (0, 0) _ rfl (by (with_reducible repeat (first | refine blk_drewN ?_ _ | refine blk_drew ?_ | refine blk_alloc ?_ _)); refine blk_put (cs := #[.int .i64 a1, .int .i64 0]) ?_ 1 _ rfl; (with_reducible repeat (first | refine blk_drewN ?_ _ | refine blk_drew ?_ | refine blk_alloc ?_ _)); refine blk_put (cs := #[.int .i64 0, .int .i64 0]) ?_ 0 _ rfl; (with_reducible repeat (first | refine blk_drewN ?_ _ | refine blk_drew ?_ | refine blk_alloc ?_ _)); exact BK222.out) Try.underlying25 rfl (by kernel_rfl)) rfl ?_
         exact ⟨by first | rfl | (simp [errW_none, errW_some] <;> rfl) | (simp only [← hji42]; first | rfl | (simp [errW_none, errW_some] <;> rfl)) | (simp [*, errW_none, errW_some] <;> rfl), ia1_ HI0 NB0_222, bi1_ HB HI0 GE222, ka1_ HK GW222⟩
      ·rw [if_neg c41] at H
       exact absurd H (by simp)
   ·rw [if_neg c38] at H
    have c38b0 : (t223 == 2) = false := beq_eq_false_iff_ne.mpr c38
    have c38b1 : (t223 != 2) = true := bne_iff_ne.mpr c38
    by_cases c55 : t223 = 3
    ·rw [if_pos c55] at H
     have c55b0 : (t223 == 3) = true := beq_iff_eq.mpr c55
     have c55b1 : (t223 != 3) = false := bne_eq_false_iff_eq.mpr c55
     clear c55
     by_cases c56 : 0 ≤ a1
     ·rw [if_pos c56] at H
      have c56b0 := eq_true c56
      have c56b1 : decide (0 ≤ a1) = true := decide_eq_true c56
      clear c56
      obtain ⟨ji57, hji57⟩ : ∃ j_ : Int, (shl .i64 1 a1) = j_ := ⟨_, rfl⟩
      replace H : ((spec_l1Below.f s0_0 t224 t225 (ji57)).bind fun bt238 => (spec_l2Draw.l2 k a1 0 bt238.1 0 s0_0 bt238.2.1 bt238.2.2)) = some (r1, r2, r3, r4) := by first | (rw [hji57] at H; exact H) | (simp only [hji57] at H ⊢; exact H)
      (try rw [hji57] at A3)
      have hji57_ : (IntKind.i64.wrap (1 * 2 ^ min a1.toNat 64)) = ji57 := hji57
      have hji57z : a1 ≤ 64 → (IntKind.i64.wrap (1 * 2 ^ a1.toNat)) = ji57 := shl_small hji57
      have hji57u : (IntKind.i64.wrap (2 ^ min a1.toNat 64)) = ji57 := by have h_ := hji57_; rw [Int.one_mul] at h_; exact h_
      have hji57v : a1 ≤ 64 → (IntKind.i64.wrap (2 ^ a1.toNat)) = ji57 := fun hle_ => by have h_ := hji57z hle_; rw [Int.one_mul] at h_; exact h_
      have hji57y : (wrap64 (1 * 2 ^ min a1.toNat 64)) = ji57 := (i64_w _).symm.trans hji57_
      have hji57x : a1 ≤ 64 → (wrap64 (1 * 2 ^ a1.toNat)) = ji57 := fun h_ => (i64_w _).symm.trans (hji57z h_)
      replace H := Option.bind_eq_some_iff.mp H
      obtain ⟨⟨t238, t239, t240⟩, A580, H⟩ := H
      replace H : (spec_l2Draw.l2 k a1 0 t238 0 s0_0 t239 t240) = some (r1, r2, r3, r4) := H
      have A58 := Aside0.mk A580
      clear A580
      have H' := Aside0.mk H
      clear H
      go_enter Try.func67, Try.ntmps67
      go_wp2_with (first | ((with_reducible refine gate_dst (N := 4) rfl ?_); refine bx_ 4 #[.int .i64 0, .int .i64 0] 25 ?_; intro gb222 hg w59 hbox hb; replace HB := Aside0.mk (below_step (bi_ HB HI0) hb); have BK222 := Aside0.mk (hbox); have GW222 := Aside0.mk ((by rw [hg]; exact (keep_size (w := w) (g := g) (row := none) (ka_ HK)) : w.heap.size ≤ gb222)); have GE222 := Aside0.mk ((Nat.le_trans HW0.out (by rw [hg]; exact (keep_size (w := w) (g := g) (row := none) (ka_ HK)) : w.heap.size ≤ gb222) : w0.heap.size ≤ gb222)); replace HK := Aside0.mk (KeepBut.trans (ka_ HK) (KeepBut.of_below hb g none) (.inl rfl)); have NB0_222 := Aside0.mk ((by rw [hg]; exact Nat.ne_of_lt (IsS87.lt (show IsS87 w0 _ g s0_0 s0_1 s0_2 from ia_ HI0)) : g ≠ gb222)); have NB222_0 := Aside0.mk ((by rw [hg]; exact Nat.ne_of_gt (IsS87.lt (show IsS87 w0 _ g s0_0 s0_1 s0_2 from ia_ HI0)) : gb222 ≠ g)); replace HI0 := Aside0.mk (IsS87.below (ia_ HI0) hb); clear hb hbox hg) | ((with_reducible refine gate_callee (f := 56) rfl ?_); refine gl_ 12 Try.func56 #[.pointer (some ⟨g, 0, none⟩), .int .i64 6] rfl mp_ ?_; (with_reducible refine (spec_l1Below.calls g s0_0 s0_1 s0_2 6 t223 t224 t225 w0 _ ?side1 ?side2 A3.out).mono ?_); (case side1 => exact ia1_ HI0 NB0_222); (case side2 => exact bi1_ HB HI0 GE222); rintro e w60 ⟨rfl, hi, hb, hk⟩; refine ⟨_, rfl, ?_⟩; replace BK222 := Aside0.mk (KeepBut.blk hk (g' := gb222) (o := .cells #[.int .i64 0, .int .i64 0] 25 (0, 0)) (kv_ BK222) NB222_0.out (by simp)); replace HK := Aside0.mk (KeepBut.trans (ka1_ HK GW222) hk (.inl rfl)); replace HB := Aside0.mk (hb); replace HI0 := Aside0.mk (hi); (try clear hb); (try clear hb2); (try clear hk); (try clear hi)) | ((with_reducible refine gate_callee (f := 56) rfl ?_); refine gl_ 71 Try.func56 #[.pointer (some ⟨g, 0, none⟩), .int .i64 ji57] rfl (by (try simp only [List.map_toArray, List.map_cons, List.map_nil]); first | done | (simp only [hji57]; rfl) | rfl | (simp only [List.length_drop, List.length_take]; rfl)) ?_; (with_reducible refine (spec_l1Below.calls g s0_0 t224 t225 ji57 t238 t239 t240 w0 _ ?side1 ?side2 A58.out).mono ?_); (case side1 => exact ia1_ HI0 NB0_222); (case side2 => exact bi1_ HB HI0 GE222); rintro e w61 ⟨rfl, hi, hb, hk⟩; refine ⟨_, rfl, ?_⟩; replace BK222 := Aside0.mk (KeepBut.blk hk (g' := gb222) (o := .cells #[.int .i64 0, .int .i64 0] 25 (0, 0)) (kv_ BK222) NB222_0.out (by simp)); replace HK := Aside0.mk (KeepBut.trans (ka1_ HK GW222) hk (.inl rfl)); replace HB := Aside0.mk (hb); replace HI0 := Aside0.mk (hi); (try clear hb); (try clear hb2); (try clear hk); (try clear hi)))
      go_loopg [5, 9] k (fun kq v5 v9 w' => ∃ (x5_1 : Int) (x9_1 : Int), v5 = .int .i64 x5_1 ∧ v9 = .int .i64 x9_1 ∧ Aside0 (spec_l2Draw.l2 kq a1 x5_1 t238 x9_1 s0_0 t239 t240 = some (r1, r2, r3, r4)) ∧ Aside0 (kq ≤ k) ∧ Aside0 (w'.heap[gb222]? = some (.cells #[.int .i64 0, .int .i64 0] 25 (0, 0))) ∧ Aside0 (IsS87 w0 w' g s0_0 t239 t240) ∧ Aside0 (KeepBut w w' g none) ∧ Aside0 (Below w0.heap.size w0 w'))
      case atStart => exact ⟨(0), (0), (by first | rfl | (simp; done) | (simp [*]; done)), (by first | rfl | (simp; done) | (simp [*]; done)), H', ⟨Nat.le_refl _⟩, ⟨by (with_reducible repeat (first | refine blk_drewN ?_ _ | refine blk_drew ?_ | refine blk_alloc ?_ _)); exact BK222.out⟩, ⟨ia1_ HI0 NB0_222⟩, ⟨ka1_ HK GW222⟩, ⟨bi1_ HB HI0 GE222⟩⟩
      case round =>
       clear H'
       try clear c1
       try clear c2
       try clear p2
       try clear c3
       try clear c4
       try clear c4b0
       try clear c4b1
       try clear c5
       try clear c6
       try clear p6
       try clear c8
       try clear c8b0
       try clear c8b1
       try clear c13
       try clear c19
       try clear c21
       try clear c21b0
       try clear c21b1
       try clear c24
       try clear c24b0
       try clear c24b1
       try clear c26
       try clear c26b0
       try clear c28
       try clear c28b0
       try clear c29
       try clear c29b0
       try clear c29b1
       try clear c31
       try clear c31b0
       try clear c31b1
       try clear c33
       try clear c36
       try clear c38
       try clear c38b0
       try clear c38b1
       try clear c41
       try clear c41b0
       try clear c41b1
       try clear c43
       try clear c43b0
       try clear c45
       try clear c45b0
       try clear c45b1
       try clear c46
       try clear c46b0
       try clear c46b1
       try clear c48
       try clear c48b0
       try clear c48b1
       try clear c50
       try clear c52
       try clear c53
       try clear c55
       try clear c55b0
       try clear c55b1
       try clear c56
       try clear c56b0
       try clear c56b1
       try clear hcz14_0
       try clear hcz14_1
       try clear hcz20_0
       try clear hcz20_1
       try clear hcz34_0
       try clear hcz34_1
       try clear hcz37_0
       try clear hcz37_1
       try clear hcz51_0
       try clear hcz51_1
       try clear hcz54_0
       try clear hcz54_1
       try clear hfz14_0
       try clear hfz14_1
       try clear hfz20_0
       try clear hfz20_1
       try clear hfz34_0
       try clear hfz34_1
       try clear hfz37_0
       try clear hfz37_1
       try clear hfz51_0
       try clear hfz51_1
       try clear hfz54_0
       try clear hfz54_1
       try clear p2
       try clear p6
       obtain ⟨x5_1, x9_1, rfl, rfl, HA, HK1, BK222, HI0, HK, HB⟩ := hrel
       cases gk with
       | zero => exact absurd HA.out (by simp [spec_l2Draw.l2])
       | succ k1 =>
        have H := HA.out
        clear HA
        simp only [spec_l2Draw.l2] at H
        by_cases c62 : 0 ≤ a1
        ·rw [if_pos c62] at H
         have c62b0 := eq_true c62
         have c62b1 : decide (0 ≤ a1) = true := decide_eq_true c62
         clear c62
         obtain ⟨ji63, hji63⟩ : ∃ j_ : Int, (shl .i64 1 a1) = j_ := ⟨_, rfl⟩
         replace H : (if x9_1 < (ji63) then (if (Go.bits .and .i64 x9_1 t238) = t238 then (if 0 ≤ x9_1 then (spec_l2Draw.l2 k1 a1 (Go.bits .or .i64 x5_1 (shl .i64 1 x9_1)) t238 (wrap64 (x9_1 + 1)) s0_0 t239 t240) else (none)) else (spec_l2Draw.l2 k1 a1 x5_1 t238 (wrap64 (x9_1 + 1)) s0_0 t239 t240)) else (if a1 = 0 then ((spec_l2Full.f a1).bind fun t241 => (some (a1, Go.bits .and .i64 (Go.bits .and .i64 x5_1 1) t241, t239, t240))) else ((spec_l2Full.f a1).bind fun t242 => (some (a1, Go.bits .and .i64 x5_1 t242, t239, t240))))) = some (r1, r2, r3, r4) := by first | (rw [hji63] at H; exact H) | (simp only [hji63] at H ⊢; exact H)
         have hji63_ : (IntKind.i64.wrap (1 * 2 ^ min a1.toNat 64)) = ji63 := hji63
         have hji63z : a1 ≤ 64 → (IntKind.i64.wrap (1 * 2 ^ a1.toNat)) = ji63 := shl_small hji63
         have hji63u : (IntKind.i64.wrap (2 ^ min a1.toNat 64)) = ji63 := by have h_ := hji63_; rw [Int.one_mul] at h_; exact h_
         have hji63v : a1 ≤ 64 → (IntKind.i64.wrap (2 ^ a1.toNat)) = ji63 := fun hle_ => by have h_ := hji63z hle_; rw [Int.one_mul] at h_; exact h_
         have hji63y : (wrap64 (1 * 2 ^ min a1.toNat 64)) = ji63 := (i64_w _).symm.trans hji63_
         have hji63x : a1 ≤ 64 → (wrap64 (1 * 2 ^ a1.toNat)) = ji63 := fun h_ => (i64_w _).symm.trans (hji63z h_)
         by_cases c64 : x9_1 < (ji63)
         ·rw [if_pos c64] at H
          have c64b0 : decide (x9_1 < (ji63)) = true := decide_eq_true c64
          (try simp only [← hji63, hji57] at c64b0)
          clear c64
          by_cases c65 : (Go.bits .and .i64 x9_1 t238) = t238
          ·rw [if_pos c65] at H
           have c65b0 : ((Go.bits .and .i64 x9_1 t238) == t238) = true := beq_iff_eq.mpr c65
           have c65b1 : ((Go.bits .and .i64 x9_1 t238) != t238) = false := bne_eq_false_iff_eq.mpr c65
           clear c65
           by_cases c66 : 0 ≤ x9_1
           ·rw [if_pos c66] at H
            have c66b0 := eq_true c66
            have c66b1 : decide (0 ≤ x9_1) = true := decide_eq_true c66
            clear c66
            obtain ⟨ji67, hji67⟩ : ∃ j_ : Int, (shl .i64 1 x9_1) = j_ := ⟨_, rfl⟩
            replace H : (spec_l2Draw.l2 k1 a1 (Go.bits .or .i64 x5_1 (ji67)) t238 (wrap64 (x9_1 + 1)) s0_0 t239 t240) = some (r1, r2, r3, r4) := by first | (rw [hji67] at H; exact H) | (simp only [hji67] at H ⊢; exact H)
            have hji67_ : (IntKind.i64.wrap (1 * 2 ^ min x9_1.toNat 64)) = ji67 := hji67
            have hji67z : x9_1 ≤ 64 → (IntKind.i64.wrap (1 * 2 ^ x9_1.toNat)) = ji67 := shl_small hji67
            have hji67u : (IntKind.i64.wrap (2 ^ min x9_1.toNat 64)) = ji67 := by have h_ := hji67_; rw [Int.one_mul] at h_; exact h_
            have hji67v : x9_1 ≤ 64 → (IntKind.i64.wrap (2 ^ x9_1.toNat)) = ji67 := fun hle_ => by have h_ := hji67z hle_; rw [Int.one_mul] at h_; exact h_
            have hji67y : (wrap64 (1 * 2 ^ min x9_1.toNat 64)) = ji67 := (i64_w _).symm.trans hji67_
            have hji67x : x9_1 ≤ 64 → (wrap64 (1 * 2 ^ x9_1.toNat)) = ji67 := fun h_ => (i64_w _).symm.trans (hji67z h_)
            have H' := Aside0.mk H
            clear H
            go_wp2
            go_roundg k1
            case measure => have := HK1.out; omega
            case rel => exact ⟨(Go.bits .or .i64 x5_1 (ji67)), (wrap64 (x9_1 + 1)), (by first | rfl | (simp; done) | (simp only [← hji67] <;> (first | rfl | simp)) | (simp [*]; done)), (by first | rfl | (simp; done) | (simp [*]; done)), H', ⟨by have := HK1.out; omega⟩, ⟨by (with_reducible repeat (first | refine blk_drewN ?_ _ | refine blk_drew ?_ | refine blk_alloc ?_ _)); exact BK222.out⟩, ⟨ia1_ HI0 NB0_222⟩, ⟨ka1_ HK GW222⟩, ⟨bi1_ HB HI0 GE222⟩⟩
           ·rw [if_neg c66] at H
            exact absurd H (by simp)
          ·rw [if_neg c65] at H
           have c65b0 : ((Go.bits .and .i64 x9_1 t238) == t238) = false := beq_eq_false_iff_ne.mpr c65
           have c65b1 : ((Go.bits .and .i64 x9_1 t238) != t238) = true := bne_iff_ne.mpr c65
           have H' := Aside0.mk H
           clear H
           go_wp2
           go_roundg k1
           case measure => have := HK1.out; omega
           case rel => exact ⟨(x5_1), (wrap64 (x9_1 + 1)), (by first | rfl | (simp; done) | (simp [*]; done)), (by first | rfl | (simp; done) | (simp [*]; done)), H', ⟨by have := HK1.out; omega⟩, ⟨by (with_reducible repeat (first | refine blk_drewN ?_ _ | refine blk_drew ?_ | refine blk_alloc ?_ _)); exact BK222.out⟩, ⟨ia1_ HI0 NB0_222⟩, ⟨ka1_ HK GW222⟩, ⟨bi1_ HB HI0 GE222⟩⟩
         ·rw [if_neg c64] at H
          have c64b0 : decide (x9_1 < (ji63)) = false := decide_eq_false c64
          (try simp only [← hji63, hji57] at c64b0)
          clear c64
          by_cases c68 : a1 = 0
          ·rw [if_pos c68] at H
           have c68b0 : (a1 == 0) = true := beq_iff_eq.mpr c68
           have c68w : (wrap64 (2 ^ a1.toNat)) = ji57 := (i64_w _).symm.trans (hji57v (by omega))
           have c68b1 : (a1 != 0) = false := bne_eq_false_iff_eq.mpr c68
           have c68b9 : (a1 == 0) = true := by rw [c68]; rfl
           clear c68
           replace H := Option.bind_eq_some_iff.mp H
           obtain ⟨t241, A690, H⟩ := H
           have A69 := Aside0.mk A690
           clear A690
           simp only [Option.some.injEq, Prod.mk.injEq] at H
           obtain ⟨rfl, rfl, rfl, rfl⟩ := H
           go_wp2_with (first | ((with_reducible refine gate_callee (f := 52) rfl ?_); refine gl_ 94 Try.func52 #[.int .i64 a1] rfl mp_ ?_; (with_reducible refine (spec_l2Full.calls a1 t241 _ A69.out).mono ?_); rintro e w' ⟨rfl, ⟨nd, rfl⟩⟩; refine ⟨_, rfl, ?_⟩; (try (rw [drewN_self wr]; generalize hq_ : World.drewN wr _ = wr; have n0_ : Aside0 (wr.heap[gb222]? = some (.cells #[.int .i64 0, .int .i64 0] 25 (0, 0))) := ⟨by rw [← hq_]; exact (kv_ BK222)⟩; have n1_ : Aside0 (IsS87 w0 wr g s0_0 t239 t240) := ⟨by rw [← hq_]; exact (ia1_ HI0 NB0_222)⟩; have n2_ : Aside0 (KeepBut w wr g none) := ⟨by rw [← hq_]; exact (ka1_ HK GW222)⟩; have n3_ : Aside0 (Below w0.heap.size w0 wr) := ⟨by rw [← hq_]; exact (bi1_ HB HI0 GE222)⟩; clear BK222 HI0 HK HB hq_; have BK222 := n0_; have HI0 := n1_; have HK := n2_; have HB := n3_; clear n0_ n1_ n2_ n3_)); have hnb70 := NB222_0.out; have hnc70 := NB0_222.out; obtain ⟨hcz71_0, hcz71_1, hfz71_0, hfz71_1⟩ := c2_ BK222))
           refine bodyPost_ret (results_cell_row rfl _ _ gb222 25 #[.int .i64 a1, .int .i64 (Go.bits .and .i64 (Go.bits .and .i64 x5_1 1) t241)] (0, 0) _ rfl (by (with_reducible repeat (first | refine blk_drewN ?_ _ | refine blk_drew ?_ | refine blk_alloc ?_ _)); refine blk_put (cs := #[.int .i64 a1, .int .i64 0]) ?_ 1 _ rfl; (with_reducible repeat (first | refine blk_drewN ?_ _ | refine blk_drew ?_ | refine blk_alloc ?_ _)); refine blk_put (cs := #[.int .i64 0, .int .i64 0]) ?_ 0 _ rfl; (with_reducible repeat (first | refine blk_drewN ?_ _ | refine blk_drew ?_ | refine blk_alloc ?_ _)); exact BK222.out) Try.underlying25 rfl (by kernel_rfl)) rfl ?_
           exact ⟨by first | rfl | (simp [errW_none, errW_some] <;> rfl) | (simp only [← hji57, ← hji63]; first | rfl | (simp [errW_none, errW_some] <;> rfl)) | (simp [*, errW_none, errW_some] <;> rfl), ia1_ HI0 NB0_222, bi1_ HB HI0 GE222, ka1_ HK GW222⟩
          ·rw [if_neg c68] at H
           have c68b0 : (a1 == 0) = false := beq_eq_false_iff_ne.mpr c68
           have c68b1 : (a1 != 0) = true := bne_iff_ne.mpr c68
           have c68b9 : (a1 == 0) = false := beq_eq_false_iff_ne.mpr c68
           replace H := Option.bind_eq_some_iff.mp H
           obtain ⟨t242, A720, H⟩ := H
           have A72 := Aside0.mk A720
           clear A720
           simp only [Option.some.injEq, Prod.mk.injEq] at H
           obtain ⟨rfl, rfl, rfl, rfl⟩ := H
           go_wp2_with (first | ((with_reducible refine gate_callee (f := 52) rfl ?_); refine gl_ 94 Try.func52 #[.int .i64 a1] rfl mp_ ?_; (with_reducible refine (spec_l2Full.calls a1 t242 _ A72.out).mono ?_); rintro e w' ⟨rfl, ⟨nd, rfl⟩⟩; refine ⟨_, rfl, ?_⟩; (try (rw [drewN_self wr]; generalize hq_ : World.drewN wr _ = wr; have n0_ : Aside0 (wr.heap[gb222]? = some (.cells #[.int .i64 0, .int .i64 0] 25 (0, 0))) := ⟨by rw [← hq_]; exact (kv_ BK222)⟩; have n1_ : Aside0 (IsS87 w0 wr g s0_0 t239 t240) := ⟨by rw [← hq_]; exact (ia1_ HI0 NB0_222)⟩; have n2_ : Aside0 (KeepBut w wr g none) := ⟨by rw [← hq_]; exact (ka1_ HK GW222)⟩; have n3_ : Aside0 (Below w0.heap.size w0 wr) := ⟨by rw [← hq_]; exact (bi1_ HB HI0 GE222)⟩; clear BK222 HI0 HK HB hq_; have BK222 := n0_; have HI0 := n1_; have HK := n2_; have HB := n3_; clear n0_ n1_ n2_ n3_)); have hnb73 := NB222_0.out; have hnc73 := NB0_222.out; obtain ⟨hcz74_0, hcz74_1, hfz74_0, hfz74_1⟩ := c2_ BK222))
           refine bodyPost_ret (results_cell_row rfl _ _ gb222 25 #[.int .i64 a1, .int .i64 (Go.bits .and .i64 x5_1 t242)] (0, 0) _ rfl (by (with_reducible repeat (first | refine blk_drewN ?_ _ | refine blk_drew ?_ | refine blk_alloc ?_ _)); refine blk_put (cs := #[.int .i64 a1, .int .i64 0]) ?_ 1 _ rfl; (with_reducible repeat (first | refine blk_drewN ?_ _ | refine blk_drew ?_ | refine blk_alloc ?_ _)); refine blk_put (cs := #[.int .i64 0, .int .i64 0]) ?_ 0 _ rfl; (with_reducible repeat (first | refine blk_drewN ?_ _ | refine blk_drew ?_ | refine blk_alloc ?_ _)); exact BK222.out) Try.underlying25 rfl (by kernel_rfl)) rfl ?_
           exact ⟨by first | rfl | (simp [errW_none, errW_some] <;> rfl) | (simp only [← hji57, ← hji63]; first | rfl | (simp [errW_none, errW_some] <;> rfl)) | (simp [*, errW_none, errW_some] <;> rfl), ia1_ HI0 NB0_222, bi1_ HB HI0 GE222, ka1_ HK GW222⟩
        ·rw [if_neg c62] at H
         exact absurd H (by simp)
     ·rw [if_neg c56] at H
      exact absurd H (by simp)
    ·rw [if_neg c55] at H
     have c55b0 : (t223 == 3) = false := beq_eq_false_iff_ne.mpr c55
     have c55b1 : (t223 != 3) = true := bne_iff_ne.mpr c55
     have H' := Aside0.mk H
     clear H
     go_enter Try.func67, Try.ntmps67
     go_wp2_with (first | ((with_reducible refine gate_dst (N := 4) rfl ?_); refine bx_ 4 #[.int .i64 0, .int .i64 0] 25 ?_; intro gb222 hg w75 hbox hb; replace HB := Aside0.mk (below_step (bi_ HB HI0) hb); have BK222 := Aside0.mk (hbox); have GW222 := Aside0.mk ((by rw [hg]; exact (keep_size (w := w) (g := g) (row := none) (ka_ HK)) : w.heap.size ≤ gb222)); have GE222 := Aside0.mk ((Nat.le_trans HW0.out (by rw [hg]; exact (keep_size (w := w) (g := g) (row := none) (ka_ HK)) : w.heap.size ≤ gb222) : w0.heap.size ≤ gb222)); replace HK := Aside0.mk (KeepBut.trans (ka_ HK) (KeepBut.of_below hb g none) (.inl rfl)); have NB0_222 := Aside0.mk ((by rw [hg]; exact Nat.ne_of_lt (IsS87.lt (show IsS87 w0 _ g s0_0 s0_1 s0_2 from ia_ HI0)) : g ≠ gb222)); have NB222_0 := Aside0.mk ((by rw [hg]; exact Nat.ne_of_gt (IsS87.lt (show IsS87 w0 _ g s0_0 s0_1 s0_2 from ia_ HI0)) : gb222 ≠ g)); replace HI0 := Aside0.mk (IsS87.below (ia_ HI0) hb); clear hb hbox hg) | ((with_reducible refine gate_callee (f := 56) rfl ?_); refine gl_ 12 Try.func56 #[.pointer (some ⟨g, 0, none⟩), .int .i64 6] rfl mp_ ?_; (with_reducible refine (spec_l1Below.calls g s0_0 s0_1 s0_2 6 t223 t224 t225 w0 _ ?side1 ?side2 A3.out).mono ?_); (case side1 => exact ia1_ HI0 NB0_222); (case side2 => exact bi1_ HB HI0 GE222); rintro e w76 ⟨rfl, hi, hb, hk⟩; refine ⟨_, rfl, ?_⟩; replace BK222 := Aside0.mk (KeepBut.blk hk (g' := gb222) (o := .cells #[.int .i64 0, .int .i64 0] 25 (0, 0)) (kv_ BK222) NB222_0.out (by simp)); replace HK := Aside0.mk (KeepBut.trans (ka1_ HK GW222) hk (.inl rfl)); replace HB := Aside0.mk (hb); replace HI0 := Aside0.mk (hi); (try clear hb); (try clear hb2); (try clear hk); (try clear hi)))
     go_loopg [5, 10] k (fun kq v5 v10 w' => ∃ (x5_1 : Int) (x10_1 : Int) (x1001_1 : Int) (x1002_1 : Int), v5 = .int .i64 x5_1 ∧ v10 = .int .i64 x10_1 ∧ Aside0 (spec_l2Draw.l3 kq a1 x5_1 x10_1 s0_0 x1001_1 x1002_1 = some (r1, r2, r3, r4)) ∧ Aside0 (kq ≤ k) ∧ Aside0 (w'.heap[gb222]? = some (.cells #[.int .i64 0, .int .i64 0] 25 (0, 0))) ∧ Aside0 (IsS87 w0 w' g s0_0 x1001_1 x1002_1) ∧ Aside0 (KeepBut w w' g none) ∧ Aside0 (Below w0.heap.size w0 w'))
     case atStart => exact ⟨(0), (0), (t224), (t225), (by first | rfl | (simp; done) | (simp [*]; done)), (by first | rfl | (simp; done) | (simp [*]; done)), H', ⟨Nat.le_refl _⟩, ⟨by (with_reducible repeat (first | refine blk_drewN ?_ _ | refine blk_drew ?_ | refine blk_alloc ?_ _)); exact BK222.out⟩, ⟨ia1_ HI0 NB0_222⟩, ⟨ka1_ HK GW222⟩, ⟨bi1_ HB HI0 GE222⟩⟩
     case round =>
      clear H'
      try clear c1
      try clear c2
      try clear p2
      try clear c3
      try clear c4
      try clear c4b0
      try clear c4b1
      try clear c5
      try clear c6
      try clear p6
      try clear c7
      try clear c8
      try clear c8b0
      try clear c8b1
      try clear c13
      try clear c19
      try clear c21
      try clear c21b0
      try clear c21b1
      try clear c24
      try clear c24b0
      try clear c24b1
      try clear c26
      try clear c26b0
      try clear c28
      try clear c28b0
      try clear c29
      try clear c29b0
      try clear c29b1
      try clear c31
      try clear c31b0
      try clear c31b1
      try clear c33
      try clear c36
      try clear c38
      try clear c38b0
      try clear c38b1
      try clear c41
      try clear c41b0
      try clear c41b1
      try clear c43
      try clear c43b0
      try clear c45
      try clear c45b0
      try clear c45b1
      try clear c46
      try clear c46b0
      try clear c46b1
      try clear c48
      try clear c48b0
      try clear c48b1
      try clear c50
      try clear c52
      try clear c53
      try clear c55
      try clear c55b0
      try clear c55b1
      try clear c56
      try clear c56b0
      try clear c56b1
      try clear c62
      try clear c62b0
      try clear c62b1
      try clear c64
      try clear c64b0
      try clear p64
      try clear c65
      try clear c65b0
      try clear c65b1
      try clear c66
      try clear c66b0
      try clear c66b1
      try clear c67
      try clear c68
      try clear c68b0
      try clear c68b1
      try clear c70
      try clear c73
      try clear hcz14_0
      try clear hcz14_1
      try clear hcz20_0
      try clear hcz20_1
      try clear hcz34_0
      try clear hcz34_1
      try clear hcz37_0
      try clear hcz37_1
      try clear hcz51_0
      try clear hcz51_1
      try clear hcz54_0
      try clear hcz54_1
      try clear hcz71_0
      try clear hcz71_1
      try clear hcz74_0
      try clear hcz74_1
      try clear hfz14_0
      try clear hfz14_1
      try clear hfz20_0
      try clear hfz20_1
      try clear hfz34_0
      try clear hfz34_1
      try clear hfz37_0
      try clear hfz37_1
      try clear hfz51_0
      try clear hfz51_1
      try clear hfz54_0
      try clear hfz54_1
      try clear hfz71_0
      try clear hfz71_1
      try clear hfz74_0
      try clear hfz74_1
      try clear p2
      try clear p6
      obtain ⟨x5_1, x10_1, x1001_1, x1002_1, rfl, rfl, HA, HK1, BK222, HI0, HK, HB⟩ := hrel
      cases gk with
      | zero => exact absurd HA.out (by simp [spec_l2Draw.l3])
      | succ k1 =>
       have H := HA.out
       clear HA
       simp only [spec_l2Draw.l3] at H
       by_cases c77 : 0 ≤ a1
       ·rw [if_pos c77] at H
        have c77b0 := eq_true c77
        have c77b1 : decide (0 ≤ a1) = true := decide_eq_true c77
        clear c77
        obtain ⟨ji78, hji78⟩ : ∃ j_ : Int, (shl .i64 1 a1) = j_ := ⟨_, rfl⟩
        replace H : (if x10_1 < (ji78) then ((spec_l1Below.f s0_0 x1001_1 x1002_1 2).bind fun bt243 => (if 0 ≤ x10_1 then (spec_l2Draw.l3 k1 a1 (Go.bits .or .i64 x5_1 (shl .i64 bt243.1 x10_1)) (wrap64 (x10_1 + 1)) s0_0 bt243.2.1 bt243.2.2) else (none))) else (if a1 = 0 then ((spec_l2Full.f a1).bind fun t246 => (some (a1, Go.bits .and .i64 (Go.bits .and .i64 x5_1 1) t246, x1001_1, x1002_1))) else ((spec_l2Full.f a1).bind fun t247 => (some (a1, Go.bits .and .i64 x5_1 t247, x1001_1, x1002_1))))) = some (r1, r2, r3, r4) := by first | (rw [hji78] at H; exact H) | (simp only [hji78] at H ⊢; exact H)
        have hji78_ : (IntKind.i64.wrap (1 * 2 ^ min a1.toNat 64)) = ji78 := hji78
        have hji78z : a1 ≤ 64 → (IntKind.i64.wrap (1 * 2 ^ a1.toNat)) = ji78 := shl_small hji78
        have hji78u : (IntKind.i64.wrap (2 ^ min a1.toNat 64)) = ji78 := by have h_ := hji78_; rw [Int.one_mul] at h_; exact h_
        have hji78v : a1 ≤ 64 → (IntKind.i64.wrap (2 ^ a1.toNat)) = ji78 := fun hle_ => by have h_ := hji78z hle_; rw [Int.one_mul] at h_; exact h_
        have hji78y : (wrap64 (1 * 2 ^ min a1.toNat 64)) = ji78 := (i64_w _).symm.trans hji78_
        have hji78x : a1 ≤ 64 → (wrap64 (1 * 2 ^ a1.toNat)) = ji78 := fun h_ => (i64_w _).symm.trans (hji78z h_)
        by_cases c79 : x10_1 < (ji78)
        ·rw [if_pos c79] at H
         have c79b0 : decide (x10_1 < (ji78)) = true := decide_eq_true c79
         clear c79
         replace H := Option.bind_eq_some_iff.mp H
         obtain ⟨⟨t243, t244, t245⟩, A800, H⟩ := H
         dsimp only at H
         have A80 := Aside0.mk A800
         clear A800
         by_cases c81 : 0 ≤ x10_1
         ·rw [if_pos c81] at H
          have c81b0 := eq_true c81
          have c81b1 : decide (0 ≤ x10_1) = true := decide_eq_true c81
          clear c81
          obtain ⟨ji82, hji82⟩ : ∃ j_ : Int, (shl .i64 t243 x10_1) = j_ := ⟨_, rfl⟩
          replace H : (spec_l2Draw.l3 k1 a1 (Go.bits .or .i64 x5_1 (ji82)) (wrap64 (x10_1 + 1)) s0_0 t244 t245) = some (r1, r2, r3, r4) := by first | (rw [hji82] at H; exact H) | (simp only [hji82] at H ⊢; exact H)
          (try rw [hji82] at A80)
          have hji82_ : (IntKind.i64.wrap (t243 * 2 ^ min x10_1.toNat 64)) = ji82 := hji82
          have hji82z : x10_1 ≤ 64 → (IntKind.i64.wrap (t243 * 2 ^ x10_1.toNat)) = ji82 := shl_small hji82
          have hji82y : (wrap64 (t243 * 2 ^ min x10_1.toNat 64)) = ji82 := (i64_w _).symm.trans hji82_
          have hji82x : x10_1 ≤ 64 → (wrap64 (t243 * 2 ^ x10_1.toNat)) = ji82 := fun h_ => (i64_w _).symm.trans (hji82z h_)
          have H' := Aside0.mk H
          clear H
          go_wp2_with (first | ((with_reducible refine gate_callee (f := 56) rfl ?_); refine gl_ 21 Try.func56 #[.pointer (some ⟨g, 0, none⟩), .int .i64 2] rfl mp_ ?_; (with_reducible refine (spec_l1Below.calls g s0_0 x1001_1 x1002_1 2 t243 t244 t245 w0 _ ?side1 ?side2 A80.out).mono ?_); (case side1 => exact ia1_ HI0 NB0_222); (case side2 => exact bi1_ HB HI0 GE222); rintro e w83 ⟨rfl, hi, hb, hk⟩; refine ⟨_, rfl, ?_⟩; replace BK222 := Aside0.mk (KeepBut.blk hk (g' := gb222) (o := .cells #[.int .i64 0, .int .i64 0] 25 (0, 0)) (kv_ BK222) NB222_0.out (by simp)); replace HK := Aside0.mk (KeepBut.trans (ka1_ HK GW222) hk (.inl rfl)); replace HB := Aside0.mk (hb); replace HI0 := Aside0.mk (hi); (try clear hb); (try clear hb2); (try clear hk); (try clear hi)))
          go_roundg k1
          case measure => have := HK1.out; omega
          case rel => exact ⟨(Go.bits .or .i64 x5_1 (ji82)), (wrap64 (x10_1 + 1)), (t244), (t245), (by first | rfl | (simp; done) | (simp only [← hji82] <;> (first | rfl | simp)) | (simp [*]; done)), (by first | rfl | (simp; done) | (simp [*]; done)), H', ⟨by have := HK1.out; omega⟩, ⟨by (with_reducible repeat (first | refine blk_drewN ?_ _ | refine blk_drew ?_ | refine blk_alloc ?_ _)); exact BK222.out⟩, ⟨ia1_ HI0 NB0_222⟩, ⟨ka1_ HK GW222⟩, ⟨bi1_ HB HI0 GE222⟩⟩
         ·rw [if_neg c81] at H
          exact absurd H (by simp)
        ·rw [if_neg c79] at H
         have c79b0 : decide (x10_1 < (ji78)) = false := decide_eq_false c79
         clear c79
         by_cases c84 : a1 = 0
         ·rw [if_pos c84] at H
          have c84b0 : (a1 == 0) = true := beq_iff_eq.mpr c84
          have c84w : (wrap64 (2 ^ a1.toNat)) = ji78 := (i64_w _).symm.trans (hji78v (by omega))
          have c84b1 : (a1 != 0) = false := bne_eq_false_iff_eq.mpr c84
          have c84b9 : (a1 == 0) = true := by rw [c84]; rfl
          clear c84
          replace H := Option.bind_eq_some_iff.mp H
          obtain ⟨t246, A850, H⟩ := H
          have A85 := Aside0.mk A850
          clear A850
          simp only [Option.some.injEq, Prod.mk.injEq] at H
          obtain ⟨rfl, rfl, rfl, rfl⟩ := H
          go_wp2_with (first | ((with_reducible refine gate_callee (f := 52) rfl ?_); refine gl_ 94 Try.func52 #[.int .i64 a1] rfl mp_ ?_; (with_reducible refine (spec_l2Full.calls a1 t246 _ A85.out).mono ?_); rintro e w' ⟨rfl, ⟨nd, rfl⟩⟩; refine ⟨_, rfl, ?_⟩; (try (rw [drewN_self wr]; generalize hq_ : World.drewN wr _ = wr; have n0_ : Aside0 (wr.heap[gb222]? = some (.cells #[.int .i64 0, .int .i64 0] 25 (0, 0))) := ⟨by rw [← hq_]; exact (kv_ BK222)⟩; have n1_ : Aside0 (IsS87 w0 wr g s0_0 x1001_1 x1002_1) := ⟨by rw [← hq_]; exact (ia1_ HI0 NB0_222)⟩; have n2_ : Aside0 (KeepBut w wr g none) := ⟨by rw [← hq_]; exact (ka1_ HK GW222)⟩; have n3_ : Aside0 (Below w0.heap.size w0 wr) := ⟨by rw [← hq_]; exact (bi1_ HB HI0 GE222)⟩; clear BK222 HI0 HK HB hq_; have BK222 := n0_; have HI0 := n1_; have HK := n2_; have HB := n3_; clear n0_ n1_ n2_ n3_)); have hnb86 := NB222_0.out; have hnc86 := NB0_222.out; obtain ⟨hcz87_0, hcz87_1, hfz87_0, hfz87_1⟩ := c2_ BK222))
          refine bodyPost_ret (results_cell_row rfl _ _ gb222 25 #[.int .i64 a1, .int .i64 (Go.bits .and .i64 (Go.bits .and .i64 x5_1 1) t246)] (0, 0) _ rfl (by (with_reducible repeat (first | refine blk_drewN ?_ _ | refine blk_drew ?_ | refine blk_alloc ?_ _)); refine blk_put (cs := #[.int .i64 a1, .int .i64 0]) ?_ 1 _ rfl; (with_reducible repeat (first | refine blk_drewN ?_ _ | refine blk_drew ?_ | refine blk_alloc ?_ _)); refine blk_put (cs := #[.int .i64 0, .int .i64 0]) ?_ 0 _ rfl; (with_reducible repeat (first | refine blk_drewN ?_ _ | refine blk_drew ?_ | refine blk_alloc ?_ _)); exact BK222.out) Try.underlying25 rfl (by kernel_rfl)) rfl ?_
          exact ⟨by first | rfl | (simp [errW_none, errW_some] <;> rfl) | (simp only [← hji78]; first | rfl | (simp [errW_none, errW_some] <;> rfl)) | (simp [*, errW_none, errW_some] <;> rfl), ia1_ HI0 NB0_222, bi1_ HB HI0 GE222, ka1_ HK GW222⟩
         ·rw [if_neg c84] at H
          have c84b0 : (a1 == 0) = false := beq_eq_false_iff_ne.mpr c84
          have c84b1 : (a1 != 0) = true := bne_iff_ne.mpr c84
          have c84b9 : (a1 == 0) = false := beq_eq_false_iff_ne.mpr c84
          replace H := Option.bind_eq_some_iff.mp H
          obtain ⟨t247, A880, H⟩ := H
          have A88 := Aside0.mk A880
          clear A880
          simp only [Option.some.injEq, Prod.mk.injEq] at H
          obtain ⟨rfl, rfl, rfl, rfl⟩ := H
          go_wp2_with (first | ((with_reducible refine gate_callee (f := 52) rfl ?_); refine gl_ 94 Try.func52 #[.int .i64 a1] rfl mp_ ?_; (with_reducible refine (spec_l2Full.calls a1 t247 _ A88.out).mono ?_); rintro e w' ⟨rfl, ⟨nd, rfl⟩⟩; refine ⟨_, rfl, ?_⟩; (try (rw [drewN_self wr]; generalize hq_ : World.drewN wr _ = wr; have n0_ : Aside0 (wr.heap[gb222]? = some (.cells #[.int .i64 0, .int .i64 0] 25 (0, 0))) := ⟨by rw [← hq_]; exact (kv_ BK222)⟩; have n1_ : Aside0 (IsS87 w0 wr g s0_0 x1001_1 x1002_1) := ⟨by rw [← hq_]; exact (ia1_ HI0 NB0_222)⟩; have n2_ : Aside0 (KeepBut w wr g none) := ⟨by rw [← hq_]; exact (ka1_ HK GW222)⟩; have n3_ : Aside0 (Below w0.heap.size w0 wr) := ⟨by rw [← hq_]; exact (bi1_ HB HI0 GE222)⟩; clear BK222 HI0 HK HB hq_; have BK222 := n0_; have HI0 := n1_; have HK := n2_; have HB := n3_; clear n0_ n1_ n2_ n3_)); have hnb89 := NB222_0.out; have hnc89 := NB0_222.out; obtain ⟨hcz90_0, hcz90_1, hfz90_0, hfz90_1⟩ := c2_ BK222))
          refine bodyPost_ret (results_cell_row rfl _ _ gb222 25 #[.int .i64 a1, .int .i64 (Go.bits .and .i64 x5_1 t247)] (0, 0) _ rfl (by (with_reducible repeat (first | refine blk_drewN ?_ _ | refine blk_drew ?_ | refine blk_alloc ?_ _)); refine blk_put (cs := #[.int .i64 a1, .int .i64 0]) ?_ 1 _ rfl; (with_reducible repeat (first | refine blk_drewN ?_ _ | refine blk_drew ?_ | refine blk_alloc ?_ _)); refine blk_put (cs := #[.int .i64 0, .int .i64 0]) ?_ 0 _ rfl; (with_reducible repeat (first | refine blk_drewN ?_ _ | refine blk_drew ?_ | refine blk_alloc ?_ _)); exact BK222.out) Try.underlying25 rfl (by kernel_rfl)) rfl ?_
          exact ⟨by first | rfl | (simp [errW_none, errW_some] <;> rfl) | (simp only [← hji78]; first | rfl | (simp [errW_none, errW_some] <;> rfl)) | (simp [*, errW_none, errW_some] <;> rfl), ia1_ HI0 NB0_222, bi1_ HB HI0 GE222, ka1_ HK GW222⟩
       ·rw [if_neg c77] at H
        exact absurd H (by simp)


end Go.Proofs.Yteljkpglgjjnlaa.P
