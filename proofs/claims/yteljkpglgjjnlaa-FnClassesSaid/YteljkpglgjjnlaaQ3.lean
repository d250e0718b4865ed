-- Out of the translation, by this session's program over the printer's; Lean checks it.
import Derived.Test.YteljkpglgjjnlaaSh
import Derived.Test.YteljkpglgjjnlaaQ0
import Derived.Test.YteljkpglgjjnlaaQ2
namespace Go.Proofs.Yteljkpglgjjnlaa.P
open Go.RowKit Go.Proofs.YteljkpglgjjnlaaW.PrintWords Go.Proofs.YteljkpglgjjnlaaW.PrintLast Go.Proofs.YteljkpglgjjnlaaW.PrintMore
attribute [local go_sem] max2_int min2_int max_two min_two max_three min_three max_four min_four
set_option linter.unusedVariables false
set_option linter.unusedSimpArgs false

/-! ### spec_l1PickInt: function 68 -/
def spec_l1PickInt.f (s0_0 : List Int) (s0_1 : Int) (s0_2 : Int) (l1 : List Int) : Option (Int × Int × Int) := (spec_l1Below.f s0_0 s0_1 s0_2 (l1.length : Int)).bind fun bt248 => (if 0 ≤ bt248.1 then (if bt248.1 < (l1.length : Int) then (some (rd l1 bt248.1, bt248.2.1, bt248.2.2)) else (none)) else (none))
set_option maxHeartbeats 8000000 in
set_option maxRecDepth 100000 in
theorem spec_l1PickInt.calls (g : Nat) (s0_0 : List Int) (s0_1 : Int) (s0_2 : Int) (A1 : Option Addr) (c1 : Nat) (l1 : List Int) (r1 : Int) (r2 : Int) (r3 : Int) (w0 w : World) (hI : IsS87 w0 w g s0_0 s0_1 s0_2) (hB : Below w0.heap.size w0 w) (hr1 : Kd.C (Kd.int .i64) w A1 l1.length l1) (hc1 : l1.length ≤ c1) (hf1 : ∀ ad, A1 = some ad → 0 < l1.length → ad.block ≠ g) (h : spec_l1PickInt.f s0_0 s0_1 s0_2 l1 = some (r1, r2, r3)) :
  Calls Try.prog 68 #[.pointer (some ⟨g, 0, none⟩), .slice A1 l1.length c1] w fun e w' => e = .returned (.int .i64 r1) ∧ IsS87 w0 w' g s0_0 r2 r3 ∧ Below w0.heap.size w0 w' ∧ KeepBut w w' g none := by
 have HR1 := Aside0.mk hr1
 have HC1 := Aside0.mk hc1
 clear hr1 hc1
 have HI0 := Aside0.mk hI
 have HK := Aside0.mk (KeepBut.refl w g none)
 have HL := Aside0.mk hB.size
 clear hI
 have HW0 := Aside0.mk hB.size
 have HB := Aside0.mk hB
 clear hB
 have H : ((spec_l1Below.f s0_0 s0_1 s0_2 (l1.length : Int)).bind fun bt248 => (if 0 ≤ bt248.1 then (if bt248.1 < (l1.length : Int) then (some (rd l1 bt248.1, bt248.2.1, bt248.2.2)) else (none)) else (none))) = some (r1, r2, r3) := h
 clear h
 replace H := Option.bind_eq_some_iff.mp H
 obtain ⟨⟨t248, t249, t250⟩, A30, H⟩ := H
 replace H : (if 0 ≤ t248 then (if t248 < (l1.length : Int) then (some (rd l1 t248, t249, t250)) else (none)) else (none)) = some (r1, r2, r3) := H
 have A3 := Aside0.mk A30
 clear A30
 by_cases c4 : 0 ≤ t248
 ·rw [if_pos c4] at H
  have c4b0 : decide (0 ≤ t248) = true := decide_eq_true c4
  clear c4
  by_cases c5 : t248 < (l1.length : Int)
  ·rw [if_pos c5] at H
   have c5b0 : decide (t248 < (l1.length : Int)) = true := decide_eq_true c5
   clear c5
   simp only [Option.some.injEq, Prod.mk.injEq] at H
   obtain ⟨rfl, rfl, rfl⟩ := H
   go_enter Try.func68, Try.ntmps68
   go_wp2_with (first | ((with_reducible refine gate_callee (f := 56) rfl ?_); refine gl_ 9 Try.func56 #[.pointer (some ⟨g, 0, none⟩), .int .i64 (l1.length : Int)] rfl mp_ ?_; (with_reducible refine (spec_l1Below.calls g s0_0 s0_1 s0_2 (l1.length : Int) t248 t249 t250 w0 _ ?side1 ?side2 A3.out).mono ?_); (case side1 => exact ia_ HI0); (case side2 => exact bi_ HB HI0); rintro e w6 ⟨rfl, hi, hb, hk⟩; refine ⟨_, rfl, ?_⟩; replace HK := Aside0.mk (KeepBut.trans (ka_ HK) hk (.inl rfl)); replace HB := Aside0.mk (hb); replace HI0 := Aside0.mk (hi); (try clear hb); (try clear hb2); (try clear hk); (try clear hi); have p251 : 0 ≤ (t248 : Int) := of_decide_eq_true (by first | (with_reducible assumption) | assumption); have q251 : t248 < (l1.length : Int) := of_decide_eq_true (by first | (with_reducible assumption) | assumption); obtain ⟨ad251, e251, hx251_0⟩ := Kd.at_int HR1.out t248 p251 q251; cases e251; replace hx251_0 := keep_cell HK.out hx251_0 (by first | (rw [add_block]; exact hf1 _ rfl (by omega)) | exact hf1 _ rfl (by omega) | exact hf1 ad251 rfl (by omega)); replace p251 := eq_true p251; replace q251 := eq_true q251))
   go_ret
   exact ⟨er_, ia_ HI0, bi_ HB HI0, ka_ HK⟩
  ·rw [if_neg c5] at H
   exact absurd H (by simp)
 ·rw [if_neg c4] at H
  exact absurd H (by simp)


/-! ### spec_l2Any: function 39 -/
def spec_l2Any.f (k : Nat) (s0_0 : List Int) (s0_1 : Int) (s0_2 : Int) : Option (Int × Int × Int × Int) := (spec_l1Below.f s0_0 s0_1 s0_2 5).bind fun bt253 => ((spec_l2Draw.f k s0_0 bt253.2.1 bt253.2.2 bt253.1).bind fun bt256 => ((spec_l1Below.f s0_0 bt256.2.2.1 bt256.2.2.2 14).bind fun bt261 => (if bt261.1 = 0 then ((spec_l1PickInt.f s0_0 bt261.2.1 bt261.2.2 (([(-1), 6, 5, 0, 9223372036854775807] : List Int))).bind fun bt267 => (some (bt267.1, bt256.2.1, bt267.2.1, bt267.2.2))) else (if bt261.1 = 1 then ((spec_l1PickInt.f s0_0 bt261.2.1 bt261.2.2 (([(-1), 0, 1, 65536, 9223372036854775807] : List Int))).bind fun bt273 => (some (bt256.1, bt273.1, bt273.2.1, bt273.2.2))) else (some (bt256.1, bt256.2.1, bt261.2.1, bt261.2.2))))))
theorem spec_l2Any.mono : ∀ a0 a1 a2 k, LeO (spec_l2Any.f k a0 a1 a2) (spec_l2Any.f (k + 1) a0 a1 a2) := by
 intro a0 a1 a2 k
 unfold spec_l2Any.f
 repeat' first
   | (with_reducible exact spec_l2Draw.mono _ _ _ _ _)
   | (with_reducible exact LeO.refl _)
   | (with_reducible exact LeO.none _)
   | (with_reducible refine LeO.ite ?_ ?_)
   | (with_reducible refine LeO.bind ?_ (fun _ => ?_))
   | exact spec_l2Draw.mono _ _ _ _ _
   | exact LeO.none _
   | refine LeO.ite ?_ ?_
   | refine LeO.bind ?_ (fun _ => ?_)
set_option maxHeartbeats 8000000 in
set_option maxRecDepth 100000 in
theorem spec_l2Any.calls (k : Nat) (g : Nat) (s0_0 : List Int) (s0_1 : Int) (s0_2 : Int) (r1 : Int) (r2 : Int) (r3 : Int) (r4 : Int) (w0 w : World) (hI : IsS87 w0 w g s0_0 s0_1 s0_2) (hB : Below w0.heap.size w0 w) (h : spec_l2Any.f k s0_0 s0_1 s0_2 = some (r1, r2, r3, r4)) :
  Calls Try.prog 39 #[.pointer (some ⟨g, 0, none⟩)] w fun e w' => e = .returned (.agg #[.int .i64 r1, .int .i64 r2]) ∧ IsS87 w0 w' g s0_0 r3 r4 ∧ Below w0.heap.size w0 w' ∧ KeepBut w w' g none := by
 have hu25 := Try.underlying25
 have HI0 := Aside0.mk hI
 have HK := Aside0.mk (KeepBut.refl w g none)
 have HL := Aside0.mk hB.size
 clear hI
 have HW0 := Aside0.mk hB.size
 have HB := Aside0.mk hB
 clear hB
 have H : ((spec_l1Below.f s0_0 s0_1 s0_2 5).bind fun bt253 => ((spec_l2Draw.f k s0_0 bt253.2.1 bt253.2.2 bt253.1).bind fun bt256 => ((spec_l1Below.f s0_0 bt256.2.2.1 bt256.2.2.2 14).bind fun bt261 => (if bt261.1 = 0 then ((spec_l1PickInt.f s0_0 bt261.2.1 bt261.2.2 (([(-1), 6, 5, 0, 9223372036854775807] : List Int))).bind fun bt267 => (some (bt267.1, bt256.2.1, bt267.2.1, bt267.2.2))) else (if bt261.1 = 1 then ((spec_l1PickInt.f s0_0 bt261.2.1 bt261.2.2 (([(-1), 0, 1, 65536, 9223372036854775807] : List Int))).bind fun bt273 => (some (bt256.1, bt273.1, bt273.2.1, bt273.2.2))) else (some (bt256.1, bt256.2.1, bt261.2.1, bt261.2.2))))))) = some (r1, r2, r3, r4) := h
 clear h
 replace H := Option.bind_eq_some_iff.mp H
 obtain ⟨⟨t253, t254, t255⟩, A20, H⟩ := H
 dsimp only at H
 have A2 := Aside0.mk A20
 clear A20
 replace H := Option.bind_eq_some_iff.mp H
 obtain ⟨⟨t256, t257, t258, t259⟩, A30, H⟩ := H
 dsimp only at H
 have A3 := Aside0.mk A30
 clear A30
 replace H := Option.bind_eq_some_iff.mp H
 obtain ⟨⟨t261, t262, t263⟩, A40, H⟩ := H
 dsimp only at H
 have A4 := Aside0.mk A40
 clear A40
 by_cases c5 : t261 = 0
 ·rw [if_pos c5] at H
  have c5b0 : (t261 == 0) = true := beq_iff_eq.mpr c5
  have c5b1 : (t261 != 0) = false := bne_eq_false_iff_eq.mpr c5
  clear c5
  obtain ⟨y264, hy264⟩ : ∃ y_ : List Int, y_ = (([(-1), 6, 5, 0, 9223372036854775807] : List Int)) := ⟨_, rfl⟩
  replace H : ((spec_l1PickInt.f s0_0 t262 t263 y264).bind fun bt267 => (some (bt267.1, t257, bt267.2.1, bt267.2.2))) = some (r1, r2, r3, r4) := by first | (rw [hy264]; with_reducible exact H) | (have H2_ := (Option.bind_some _ _).symm.trans H; rw [hy264]; with_reducible exact H2_) | (have H2_ := (Option.bind_some _ _).symm.trans H; with_reducible exact H2_) | with_reducible exact H | (rw [hy264]; exact H) | exact H
  have Ny264 := Aside0.mk hy264
  clear hy264
  replace H := Option.bind_eq_some_iff.mp H
  obtain ⟨⟨t267, t268, t269⟩, A60, H⟩ := H
  replace H : (some (t267, t257, t268, t269)) = some (r1, r2, r3, r4) := H
  have A6 := Aside0.mk A60
  clear A60
  simp only [Option.some.injEq, Prod.mk.injEq] at H
  obtain ⟨rfl, rfl, rfl, rfl⟩ := H
  go_enter Try.func39, Try.ntmps39
  go_wp2_with (first | ((with_reducible refine gate_dst (N := 2) rfl ?_); refine bx_ 2 #[.int .i64 0, .int .i64 0] 25 ?_; intro gb252 hg w7 hbox hb; replace HB := Aside0.mk (below_step (bi_ HB HI0) hb); have BK252 := Aside0.mk (hbox); have GW252 := Aside0.mk ((by rw [hg]; exact (keep_size (w := w) (g := g) (row := none) (ka_ HK)) : w.heap.size ≤ gb252)); have GE252 := Aside0.mk ((Nat.le_trans HW0.out (by rw [hg]; exact (keep_size (w := w) (g := g) (row := none) (ka_ HK)) : w.heap.size ≤ gb252) : w0.heap.size ≤ gb252)); replace HK := Aside0.mk (KeepBut.trans (ka_ HK) (KeepBut.of_below hb g none) (.inl rfl)); have NB0_252 := Aside0.mk ((by rw [hg]; exact Nat.ne_of_lt (IsS87.lt (show IsS87 w0 _ g s0_0 s0_1 s0_2 from ia_ HI0)) : g ≠ gb252)); have NB252_0 := Aside0.mk ((by rw [hg]; exact Nat.ne_of_gt (IsS87.lt (show IsS87 w0 _ g s0_0 s0_1 s0_2 from ia_ HI0)) : gb252 ≠ g)); replace HI0 := Aside0.mk (IsS87.below (ia_ HI0) hb); clear hb hbox hg) | ((with_reducible refine gate_callee (f := 56) rfl ?_); refine gl_ 6 Try.func56 #[.pointer (some ⟨g, 0, none⟩), .int .i64 5] rfl mp_ ?_; (with_reducible refine (spec_l1Below.calls g s0_0 s0_1 s0_2 5 t253 t254 t255 w0 _ ?side1 ?side2 A2.out).mono ?_); (case side1 => exact ia1_ HI0 NB0_252); (case side2 => exact bi1_ HB HI0 GE252); rintro e w8 ⟨rfl, hi, hb, hk⟩; refine ⟨_, rfl, ?_⟩; replace BK252 := Aside0.mk (KeepBut.blk hk (g' := gb252) (o := .cells #[.int .i64 0, .int .i64 0] 25 (0, 0)) (kv_ BK252) NB252_0.out (by simp)); replace HK := Aside0.mk (KeepBut.trans (ka1_ HK GW252) hk (.inl rfl)); replace HB := Aside0.mk (hb); replace HI0 := Aside0.mk (hi); (try clear hb); (try clear hb2); (try clear hk); (try clear hi)) | ((with_reducible refine gate_callee (f := 67) rfl ?_); refine gl_ 7 Try.func67 #[.pointer (some ⟨g, 0, none⟩), .int .i64 t253] rfl mp_ ?_; (with_reducible refine (spec_l2Draw.calls k g s0_0 t254 t255 t253 t256 t257 t258 t259 w0 _ ?side1 ?side2 A3.out).mono ?_); (case side1 => exact ia1_ HI0 NB0_252); (case side2 => exact bi1_ HB HI0 GE252); rintro e w9 ⟨rfl, hi, hb, hk⟩; refine ⟨_, rfl, ?_⟩; replace BK252 := Aside0.mk (KeepBut.blk hk (g' := gb252) (o := .cells #[.int .i64 0, .int .i64 0] 25 (0, 0)) (kv_ BK252) NB252_0.out (by simp)); replace HK := Aside0.mk (KeepBut.trans (ka1_ HK GW252) hk (.inl rfl)); replace HB := Aside0.mk (hb); replace HI0 := Aside0.mk (hi); (try clear hb); (try clear hb2); (try clear hk); (try clear hi)) | ((with_reducible refine gate_dst (N := 3) rfl ?_); refine bx_ 3 #[.int .i64 0, .int .i64 0] 25 ?_; intro gb260 hg w10 hbox hb; replace HB := Aside0.mk (below_step (bi1_ HB HI0 GE252) hb); have BK260 := Aside0.mk (hbox); have GW260 := Aside0.mk ((by rw [hg]; exact (keep_size (w := w) (g := g) (row := none) (ka1_ HK GW252)) : w.heap.size ≤ gb260)); have GE260 := Aside0.mk ((Nat.le_trans HW0.out (by rw [hg]; exact (keep_size (w := w) (g := g) (row := none) (ka1_ HK GW252)) : w.heap.size ≤ gb260) : w0.heap.size ≤ gb260)); replace HK := Aside0.mk (KeepBut.trans (ka1_ HK GW252) (KeepBut.of_below hb g none) (.inl rfl)); have NB252_260 := nb_ hg (blk_lt (g := gb252) (o := .cells #[.int .i64 0, .int .i64 0] 25 (0, 0)) (kv_ BK252)); have NB260_252 := nc_ hg (blk_lt (g := gb252) (o := .cells #[.int .i64 0, .int .i64 0] 25 (0, 0)) (kv_ BK252)); replace BK252 := kb_ BK252 hb; have NB0_260 := Aside0.mk ((by rw [hg]; exact Nat.ne_of_lt (IsS87.lt (show IsS87 w0 _ g s0_0 t258 t259 from ia1_ HI0 NB0_252)) : g ≠ gb260)); have NB260_0 := Aside0.mk ((by rw [hg]; exact Nat.ne_of_gt (IsS87.lt (show IsS87 w0 _ g s0_0 t258 t259 from ia1_ HI0 NB0_252)) : gb260 ≠ g)); replace HI0 := Aside0.mk (IsS87.below (ia1_ HI0 NB0_252) hb); clear hb hbox hg; have hnb11 := NB260_252.out; have hnc11 := NB252_260.out; have hnb12 := NB260_0.out; have hnc12 := NB0_260.out; obtain ⟨hcz13_0, hcz13_1, hfz13_0, hfz13_1⟩ := c2_ BK260) | ((with_reducible refine gate_callee (f := 56) rfl ?_); refine gl_ 9 Try.func56 #[.pointer (some ⟨g, 0, none⟩), .int .i64 14] rfl mp_ ?_; (with_reducible refine (spec_l1Below.calls g s0_0 t258 t259 14 t261 t262 t263 w0 _ ?side1 ?side2 A4.out).mono ?_); (case side1 => exact ia2_ HI0 NB0_252 NB0_260); (case side2 => exact bi2_ HB HI0 GE252 GE260); rintro e w14 ⟨rfl, hi, hb, hk⟩; refine ⟨_, rfl, ?_⟩; replace BK252 := Aside0.mk (KeepBut.blk hk (g' := gb252) (o := .cells #[.int .i64 0, .int .i64 0] 25 (0, 0)) (by (with_reducible repeat (first | refine blk_drewN ?_ _ | refine blk_drew ?_ | refine blk_alloc ?_ _)); refine blk_far ?_ NB252_260.out _; (with_reducible repeat (first | refine blk_drewN ?_ _ | refine blk_drew ?_ | refine blk_alloc ?_ _)); refine blk_far ?_ NB252_260.out _; (with_reducible repeat (first | refine blk_drewN ?_ _ | refine blk_drew ?_ | refine blk_alloc ?_ _)); exact BK252.out) NB252_0.out (by simp)); replace BK260 := Aside0.mk (KeepBut.blk hk (g' := gb260) (o := .cells #[.int .i64 t256, .int .i64 t257] 25 (0, 0)) (by (with_reducible repeat (first | refine blk_drewN ?_ _ | refine blk_drew ?_ | refine blk_alloc ?_ _)); refine blk_put (cs := #[.int .i64 t256, .int .i64 0]) ?_ 1 _ rfl; (with_reducible repeat (first | refine blk_drewN ?_ _ | refine blk_drew ?_ | refine blk_alloc ?_ _)); refine blk_put (cs := #[.int .i64 0, .int .i64 0]) ?_ 0 _ rfl; (with_reducible repeat (first | refine blk_drewN ?_ _ | refine blk_drew ?_ | refine blk_alloc ?_ _)); exact BK260.out) NB260_0.out (by simp)); replace HK := Aside0.mk (KeepBut.trans (ka2_ HK GW252 GW260) hk (.inl rfl)); replace HB := Aside0.mk (hb); replace HI0 := Aside0.mk (hi); (try clear hb); (try clear hb2); (try clear hk); (try clear hi)) | ((with_reducible refine gate_dst (N := 13) rfl ?_); refine Kd.R_lit (Kd.int .i64) _ 3 ?hg (N := 13) ?hd (xs := ([(-1), 6, 5, 0, 9223372036854775807] : List Int)) (inner := [.int .i64 (-1), .int .i64 6, .int .i64 5, .int .i64 0, .int .i64 9223372036854775807]) (ok := fun _ => True) (okp := fun _ => True) ?hr ?hp (fun _ hk => hk) trivial (Below.refl _ _) (Nat.le_refl _) (by simp) ?_; (case hd => rfl); (case hg => rfl); (case hr => first | (go_simp; done) | (go_simp; rfl)); (case hp => exact (Reps.one (show Kd.M (Kd.int .i64) _ _ _ (-1) [.int .i64 (-1)] from rfl) (Reps.one (show Kd.M (Kd.int .i64) _ _ _ 6 [.int .i64 6] from rfl) (Reps.one (show Kd.M (Kd.int .i64) _ _ _ 5 [.int .i64 5] from rfl) (Reps.one (show Kd.M (Kd.int .i64) _ _ _ 0 [.int .i64 0] from rfl) (Reps.one (show Kd.M (Kd.int .i64) _ _ _ 9223372036854775807 [.int .i64 9223372036854775807] from rfl) (Reps.none _ _))))))); intro v265 w15 ho16 hb hg_ hnew_; clear hg_ hnew_; (first | rw [← Ny264.out] at ho16 | (simp only [Int.reduceToNat] at ho16; rw [← Ny264.out] at ho16)); have HO266 := Aside0.mk (Kd.R_lower ho16 (keep_size (w := w) (g := g) (row := none) (ka2_ HK GW252 GW260))); replace BK252 := kb_ BK252 hb; replace BK260 := kb_ BK260 hb; replace HK := Aside0.mk (KeepBut.trans (ka2_ HK GW252 GW260) (KeepBut.of_below hb g none) (.inl rfl)); replace HB := Aside0.mk (below_step (bi2_ HB HI0 GE252 GE260) hb); replace HI0 := Aside0.mk (IsS87.below (ia2_ HI0 NB0_252 NB0_260) hb); clear hb ho16; obtain ⟨Ao17, co17, eo17⟩ := Kd.R_slice HO266.out; subst eo17) | ((with_reducible refine gate_callee (f := 68) rfl ?_); refine gl_ 14 Try.func68 #[.pointer (some ⟨g, 0, none⟩), .slice Ao17 y264.length co17] rfl mp_ ?_; (with_reducible refine (spec_l1PickInt.calls g s0_0 t262 t263 _ _ y264 t267 t268 t269 w0 _ ?side1 ?side2 ?side3 ?side4 ?side5 A6.out).mono ?_); (case side1 => exact ia2_ HI0 NB0_252 NB0_260); (case side2 => exact bi2_ HB HI0 GE252 GE260); (case side3 => repeat (first | exact (Kd.R_reads' HO266.out).2.2 | (with_reducible refine Kd.C_alloc ?_ _) | (with_reducible refine Kd.C_drewN ?_ _) | (with_reducible refine Kd.C_drew ?_))); (case side4 => exact (Kd.R_reads' HO266.out).2.1); (case side5 => exact far_slice (IsS87.own_ne HI0.out HO266.out (by decide))); rintro e w18 ⟨rfl, hi, hb, hk⟩; refine ⟨_, rfl, ?_⟩; replace BK252 := Aside0.mk (KeepBut.blk hk (g' := gb252) (o := .cells #[.int .i64 0, .int .i64 0] 25 (0, 0)) (kv_ BK252) NB252_0.out (by simp)); replace BK260 := Aside0.mk (KeepBut.blk hk (g' := gb260) (o := .cells #[.int .i64 t256, .int .i64 t257] 25 (0, 0)) (kv_ BK260) NB260_0.out (by simp)); replace HO266 := Aside0.mk (Kd.R_mono (Kd.R_keep (IsS87.apart (show IsS87 w0 _ g s0_0 t262 t263 from ia2_ HI0 NB0_252 NB0_260) (rv_ HO266) (by decide)) hk (fun _ h => h.2)) (fun _ h => h.1)); replace HK := Aside0.mk (KeepBut.trans (ka2_ HK GW252 GW260) hk (.inl rfl)); replace HB := Aside0.mk (hb); replace HI0 := Aside0.mk (hi); (try clear hb); (try clear hb2); (try clear hk); (try clear hi); obtain ⟨hcz19_0, hcz19_1, hfz19_0, hfz19_1⟩ := c2_ BK260; have hnb20 := NB252_0.out; have hnc20 := NB0_252.out; obtain ⟨hcz21_0, hcz21_1, hfz21_0, hfz21_1⟩ := c2_ BK252))
  refine bodyPost_ret (results_cell_row rfl _ _ gb252 25 #[.int .i64 t267, .int .i64 t257] (0, 0) _ rfl (by (with_reducible repeat (first | refine blk_drewN ?_ _ | refine blk_drew ?_ | refine blk_alloc ?_ _)); refine blk_put (cs := #[.int .i64 t267, .int .i64 0]) ?_ 1 _ rfl; (with_reducible repeat (first | refine blk_drewN ?_ _ | refine blk_drew ?_ | refine blk_alloc ?_ _)); refine blk_put (cs := #[.int .i64 0, .int .i64 0]) ?_ 0 _ rfl; (with_reducible repeat (first | refine blk_drewN ?_ _ | refine blk_drew ?_ | refine blk_alloc ?_ _)); refine blk_far ?_ NB252_260.out _; (with_reducible repeat (first | refine blk_drewN ?_ _ | refine blk_drew ?_ | refine blk_alloc ?_ _)); exact BK252.out) Try.underlying25 rfl (by kernel_rfl)) rfl ?_
  exact ⟨er_, ia2_ HI0 NB0_252 NB0_260, bi2_ HB HI0 GE252 GE260, ka2_ HK GW252 GW260⟩
 ·rw [if_neg c5] at H
  have c5b0 : (t261 == 0) = false := beq_eq_false_iff_ne.mpr c5
  have c5b1 : (t261 != 0) = true := bne_iff_ne.mpr c5
  by_cases c22 : t261 = 1
  ·rw [if_pos c22] at H
   have c22b0 : (t261 == 1) = true := beq_iff_eq.mpr c22
   have c22b1 : (t261 != 1) = false := bne_eq_false_iff_eq.mpr c22
   clear c22
   obtain ⟨y270, hy270⟩ : ∃ y_ : List Int, y_ = (([(-1), 0, 1, 65536, 9223372036854775807] : List Int)) := ⟨_, rfl⟩
   replace H : ((spec_l1PickInt.f s0_0 t262 t263 y270).bind fun bt273 => (some (t256, bt273.1, bt273.2.1, bt273.2.2))) = some (r1, r2, r3, r4) := by first | (rw [hy270]; with_reducible exact H) | (have H2_ := (Option.bind_some _ _).symm.trans H; rw [hy270]; with_reducible exact H2_) | (have H2_ := (Option.bind_some _ _).symm.trans H; with_reducible exact H2_) | with_reducible exact H | (rw [hy270]; exact H) | exact H
   have Ny270 := Aside0.mk hy270
   clear hy270
   replace H := Option.bind_eq_some_iff.mp H
   obtain ⟨⟨t273, t274, t275⟩, A230, H⟩ := H
   replace H : (some (t256, t273, t274, t275)) = some (r1, r2, r3, r4) := H
   have A23 := Aside0.mk A230
   clear A230
   simp only [Option.some.injEq, Prod.mk.injEq] at H
   obtain ⟨rfl, rfl, rfl, rfl⟩ := H
   go_enter Try.func39, Try.ntmps39
   go_wp2_with (first | ((with_reducible refine gate_dst (N := 2) rfl ?_); refine bx_ 2 #[.int .i64 0, .int .i64 0] 25 ?_; intro gb252 hg w24 hbox hb; replace HB := Aside0.mk (below_step (bi_ HB HI0) hb); have BK252 := Aside0.mk (hbox); have GW252 := Aside0.mk ((by rw [hg]; exact (keep_size (w := w) (g := g) (row := none) (ka_ HK)) : w.heap.size ≤ gb252)); have GE252 := Aside0.mk ((Nat.le_trans HW0.out (by rw [hg]; exact (keep_size (w := w) (g := g) (row := none) (ka_ HK)) : w.heap.size ≤ gb252) : w0.heap.size ≤ gb252)); replace HK := Aside0.mk (KeepBut.trans (ka_ HK) (KeepBut.of_below hb g none) (.inl rfl)); have NB0_252 := Aside0.mk ((by rw [hg]; exact Nat.ne_of_lt (IsS87.lt (show IsS87 w0 _ g s0_0 s0_1 s0_2 from ia_ HI0)) : g ≠ gb252)); have NB252_0 := Aside0.mk ((by rw [hg]; exact Nat.ne_of_gt (IsS87.lt (show IsS87 w0 _ g s0_0 s0_1 s0_2 from ia_ HI0)) : gb252 ≠ g)); replace HI0 := Aside0.mk (IsS87.below (ia_ HI0) hb); clear hb hbox hg) | ((with_reducible refine gate_callee (f := 56) rfl ?_); refine gl_ 6 Try.func56 #[.pointer (some ⟨g, 0, none⟩), .int .i64 5] rfl mp_ ?_; (with_reducible refine (spec_l1Below.calls g s0_0 s0_1 s0_2 5 t253 t254 t255 w0 _ ?side1 ?side2 A2.out).mono ?_); (case side1 => exact ia1_ HI0 NB0_252); (case side2 => exact bi1_ HB HI0 GE252); rintro e w25 ⟨rfl, hi, hb, hk⟩; refine ⟨_, rfl, ?_⟩; replace BK252 := Aside0.mk (KeepBut.blk hk (g' := gb252) (o := .cells #[.int .i64 0, .int .i64 0] 25 (0, 0)) (kv_ BK252) NB252_0.out (by simp)); replace HK := Aside0.mk (KeepBut.trans (ka1_ HK GW252) hk (.inl rfl)); replace HB := Aside0.mk (hb); replace HI0 := Aside0.mk (hi); (try clear hb); (try clear hb2); (try clear hk); (try clear hi)) | ((with_reducible refine gate_callee (f := 67) rfl ?_); refine gl_ 7 Try.func67 #[.pointer (some ⟨g, 0, none⟩), .int .i64 t253] rfl mp_ ?_; (with_reducible refine (spec_l2Draw.calls k g s0_0 t254 t255 t253 t256 t257 t258 t259 w0 _ ?side1 ?side2 A3.out).mono ?_); (case side1 => exact ia1_ HI0 NB0_252); (case side2 => exact bi1_ HB HI0 GE252); rintro e w26 ⟨rfl, hi, hb, hk⟩; refine ⟨_, rfl, ?_⟩; replace BK252 := Aside0.mk (KeepBut.blk hk (g' := gb252) (o := .cells #[.int .i64 0, .int .i64 0] 25 (0, 0)) (kv_ BK252) NB252_0.out (by simp)); replace HK := Aside0.mk (KeepBut.trans (ka1_ HK GW252) hk (.inl rfl)); replace HB := Aside0.mk (hb); replace HI0 := Aside0.mk (hi); (try clear hb); (try clear hb2); (try clear hk); (try clear hi)) | ((with_reducible refine gate_dst (N := 3) rfl ?_); refine bx_ 3 #[.int .i64 0, .int .i64 0] 25 ?_; intro gb260 hg w27 hbox hb; replace HB := Aside0.mk (below_step (bi1_ HB HI0 GE252) hb); have BK260 := Aside0.mk (hbox); have GW260 := Aside0.mk ((by rw [hg]; exact (keep_size (w := w) (g := g) (row := none) (ka1_ HK GW252)) : w.heap.size ≤ gb260)); have GE260 := Aside0.mk ((Nat.le_trans HW0.out (by rw [hg]; exact (keep_size (w := w) (g := g) (row := none) (ka1_ HK GW252)) : w.heap.size ≤ gb260) : w0.heap.size ≤ gb260)); replace HK := Aside0.mk (KeepBut.trans (ka1_ HK GW252) (KeepBut.of_below hb g none) (.inl rfl)); have NB252_260 := nb_ hg (blk_lt (g := gb252) (o := .cells #[.int .i64 0, .int .i64 0] 25 (0, 0)) (kv_ BK252)); have NB260_252 := nc_ hg (blk_lt (g := gb252) (o := .cells #[.int .i64 0, .int .i64 0] 25 (0, 0)) (kv_ BK252)); replace BK252 := kb_ BK252 hb; have NB0_260 := Aside0.mk ((by rw [hg]; exact Nat.ne_of_lt (IsS87.lt (show IsS87 w0 _ g s0_0 t258 t259 from ia1_ HI0 NB0_252)) : g ≠ gb260)); have NB260_0 := Aside0.mk ((by rw [hg]; exact Nat.ne_of_gt (IsS87.lt (show IsS87 w0 _ g s0_0 t258 t259 from ia1_ HI0 NB0_252)) : gb260 ≠ g)); replace HI0 := Aside0.mk (IsS87.below (ia1_ HI0 NB0_252) hb); clear hb hbox hg; have hnb28 := NB260_252.out; have hnc28 := NB252_260.out; have hnb29 := NB260_0.out; have hnc29 := NB0_260.out; obtain ⟨hcz30_0, hcz30_1, hfz30_0, hfz30_1⟩ := c2_ BK260) | ((with_reducible refine gate_callee (f := 56) rfl ?_); refine gl_ 9 Try.func56 #[.pointer (some ⟨g, 0, none⟩), .int .i64 14] rfl mp_ ?_; (with_reducible refine (spec_l1Below.calls g s0_0 t258 t259 14 t261 t262 t263 w0 _ ?side1 ?side2 A4.out).mono ?_); (case side1 => exact ia2_ HI0 NB0_252 NB0_260); (case side2 => exact bi2_ HB HI0 GE252 GE260); rintro e w31 ⟨rfl, hi, hb, hk⟩; refine ⟨_, rfl, ?_⟩; replace BK252 := Aside0.mk (KeepBut.blk hk (g' := gb252) (o := .cells #[.int .i64 0, .int .i64 0] 25 (0, 0)) (by (with_reducible repeat (first | refine blk_drewN ?_ _ | refine blk_drew ?_ | refine blk_alloc ?_ _)); refine blk_far ?_ NB252_260.out _; (with_reducible repeat (first | refine blk_drewN ?_ _ | refine blk_drew ?_ | refine blk_alloc ?_ _)); refine blk_far ?_ NB252_260.out _; (with_reducible repeat (first | refine blk_drewN ?_ _ | refine blk_drew ?_ | refine blk_alloc ?_ _)); exact BK252.out) NB252_0.out (by simp)); replace BK260 := Aside0.mk (KeepBut.blk hk (g' := gb260) (o := .cells #[.int .i64 t256, .int .i64 t257] 25 (0, 0)) (by (with_reducible repeat (first | refine blk_drewN ?_ _ | refine blk_drew ?_ | refine blk_alloc ?_ _)); refine blk_put (cs := #[.int .i64 t256, .int .i64 0]) ?_ 1 _ rfl; (with_reducible repeat (first | refine blk_drewN ?_ _ | refine blk_drew ?_ | refine blk_alloc ?_ _)); refine blk_put (cs := #[.int .i64 0, .int .i64 0]) ?_ 0 _ rfl; (with_reducible repeat (first | refine blk_drewN ?_ _ | refine blk_drew ?_ | refine blk_alloc ?_ _)); exact BK260.out) NB260_0.out (by simp)); replace HK := Aside0.mk (KeepBut.trans (ka2_ HK GW252 GW260) hk (.inl rfl)); replace HB := Aside0.mk (hb); replace HI0 := Aside0.mk (hi); (try clear hb); (try clear hb2); (try clear hk); (try clear hi)) | ((with_reducible refine gate_dst (N := 19) rfl ?_); refine Kd.R_lit (Kd.int .i64) _ 3 ?hg (N := 19) ?hd (xs := ([(-1), 0, 1, 65536, 9223372036854775807] : List Int)) (inner := [.int .i64 (-1), .int .i64 0, .int .i64 1, .int .i64 65536, .int .i64 9223372036854775807]) (ok := fun _ => True) (okp := fun _ => True) ?hr ?hp (fun _ hk => hk) trivial (Below.refl _ _) (Nat.le_refl _) (by simp) ?_; (case hd => rfl); (case hg => rfl); (case hr => first | (go_simp; done) | (go_simp; rfl)); (case hp => exact (Reps.one (show Kd.M (Kd.int .i64) _ _ _ (-1) [.int .i64 (-1)] from rfl) (Reps.one (show Kd.M (Kd.int .i64) _ _ _ 0 [.int .i64 0] from rfl) (Reps.one (show Kd.M (Kd.int .i64) _ _ _ 1 [.int .i64 1] from rfl) (Reps.one (show Kd.M (Kd.int .i64) _ _ _ 65536 [.int .i64 65536] from rfl) (Reps.one (show Kd.M (Kd.int .i64) _ _ _ 9223372036854775807 [.int .i64 9223372036854775807] from rfl) (Reps.none _ _))))))); intro v271 w32 ho33 hb hg_ hnew_; clear hg_ hnew_; (first | rw [← Ny270.out] at ho33 | (simp only [Int.reduceToNat] at ho33; rw [← Ny270.out] at ho33)); have HO272 := Aside0.mk (Kd.R_lower ho33 (keep_size (w := w) (g := g) (row := none) (ka2_ HK GW252 GW260))); replace BK252 := kb_ BK252 hb; replace BK260 := kb_ BK260 hb; replace HK := Aside0.mk (KeepBut.trans (ka2_ HK GW252 GW260) (KeepBut.of_below hb g none) (.inl rfl)); replace HB := Aside0.mk (below_step (bi2_ HB HI0 GE252 GE260) hb); replace HI0 := Aside0.mk (IsS87.below (ia2_ HI0 NB0_252 NB0_260) hb); clear hb ho33; obtain ⟨Ao34, co34, eo34⟩ := Kd.R_slice HO272.out; subst eo34) | ((with_reducible refine gate_callee (f := 68) rfl ?_); refine gl_ 20 Try.func68 #[.pointer (some ⟨g, 0, none⟩), .slice Ao34 y270.length co34] rfl mp_ ?_; (with_reducible refine (spec_l1PickInt.calls g s0_0 t262 t263 _ _ y270 t273 t274 t275 w0 _ ?side1 ?side2 ?side3 ?side4 ?side5 A23.out).mono ?_); (case side1 => exact ia2_ HI0 NB0_252 NB0_260); (case side2 => exact bi2_ HB HI0 GE252 GE260); (case side3 => repeat (first | exact (Kd.R_reads' HO272.out).2.2 | (with_reducible refine Kd.C_alloc ?_ _) | (with_reducible refine Kd.C_drewN ?_ _) | (with_reducible refine Kd.C_drew ?_))); (case side4 => exact (Kd.R_reads' HO272.out).2.1); (case side5 => exact far_slice (IsS87.own_ne HI0.out HO272.out (by decide))); rintro e w35 ⟨rfl, hi, hb, hk⟩; refine ⟨_, rfl, ?_⟩; replace BK252 := Aside0.mk (KeepBut.blk hk (g' := gb252) (o := .cells #[.int .i64 0, .int .i64 0] 25 (0, 0)) (kv_ BK252) NB252_0.out (by simp)); replace BK260 := Aside0.mk (KeepBut.blk hk (g' := gb260) (o := .cells #[.int .i64 t256, .int .i64 t257] 25 (0, 0)) (kv_ BK260) NB260_0.out (by simp)); replace HO272 := Aside0.mk (Kd.R_mono (Kd.R_keep (IsS87.apart (show IsS87 w0 _ g s0_0 t262 t263 from ia2_ HI0 NB0_252 NB0_260) (rv_ HO272) (by decide)) hk (fun _ h => h.2)) (fun _ h => h.1)); replace HK := Aside0.mk (KeepBut.trans (ka2_ HK GW252 GW260) hk (.inl rfl)); replace HB := Aside0.mk (hb); replace HI0 := Aside0.mk (hi); (try clear hb); (try clear hb2); (try clear hk); (try clear hi); obtain ⟨hcz36_0, hcz36_1, hfz36_0, hfz36_1⟩ := c2_ BK260; have hnb37 := NB252_0.out; have hnc37 := NB0_252.out; obtain ⟨hcz38_0, hcz38_1, hfz38_0, hfz38_1⟩ := c2_ BK252))
   refine bodyPost_ret (results_cell_row rfl _ _ gb252 25 #[.int .i64 t256, .int .i64 t273] (0, 0) _ rfl (by (with_reducible repeat (first | refine blk_drewN ?_ _ | refine blk_drew ?_ | refine blk_alloc ?_ _)); refine blk_put (cs := #[.int .i64 t256, .int .i64 0]) ?_ 1 _ rfl; (with_reducible repeat (first | refine blk_drewN ?_ _ | refine blk_drew ?_ | refine blk_alloc ?_ _)); refine blk_put (cs := #[.int .i64 0, .int .i64 0]) ?_ 0 _ rfl; (with_reducible repeat (first | refine blk_drewN ?_ _ | refine blk_drew ?_ | refine blk_alloc ?_ _)); refine blk_far ?_ NB252_260.out _; (with_reducible repeat (first | refine blk_drewN ?_ _ | refine blk_drew ?_ | refine blk_alloc ?_ _)); exact BK252.out) Try.underlying25 rfl (by kernel_rfl)) rfl ?_
   exact ⟨er_, ia2_ HI0 NB0_252 NB0_260, bi2_ HB HI0 GE252 GE260, ka2_ HK GW252 GW260⟩
  ·rw [if_neg c22] at H
   have c22b0 : (t261 == 1) = false := beq_eq_false_iff_ne.mpr c22
   have c22b1 : (t261 != 1) = true := bne_iff_ne.mpr c22
   simp only [Option.some.injEq, Prod.mk.injEq] at H
   obtain ⟨rfl, rfl, rfl, rfl⟩ := H
   go_enter Try.func39, Try.ntmps39
   go_wp2_with (first | ((with_reducible refine gate_dst (N := 2) rfl ?_); refine bx_ 2 #[.int .i64 0, .int .i64 0] 25 ?_; intro gb252 hg w39 hbox hb; replace HB := Aside0.mk (below_step (bi_ HB HI0) hb); have BK252 := Aside0.mk (hbox); have GW252 := Aside0.mk ((by rw [hg]; exact (keep_size (w := w) (g := g) (row := none) (ka_ HK)) : w.heap.size ≤ gb252)); have GE252 := Aside0.mk ((Nat.le_trans HW0.out (by rw [hg]; exact (keep_size (w := w) (g := g) (row := none) (ka_ HK)) : w.heap.size ≤ gb252) : w0.heap.size ≤ gb252)); replace HK := Aside0.mk (KeepBut.trans (ka_ HK) (KeepBut.of_below hb g none) (.inl rfl)); have NB0_252 := Aside0.mk ((by rw [hg]; exact Nat.ne_of_lt (IsS87.lt (show IsS87 w0 _ g s0_0 s0_1 s0_2 from ia_ HI0)) : g ≠ gb252)); have NB252_0 := Aside0.mk ((by rw [hg]; exact Nat.ne_of_gt (IsS87.lt (show IsS87 w0 _ g s0_0 s0_1 s0_2 from ia_ HI0)) : gb252 ≠ g)); replace HI0 := Aside0.mk (IsS87.below (ia_ HI0) hb); clear hb hbox hg) | ((with_reducible refine gate_callee (f := 56) rfl ?_); refine gl_ 6 Try.func56 #[.pointer (some ⟨g, 0, none⟩), .int .i64 5] rfl mp_ ?_; (with_reducible refine (spec_l1Below.calls g s0_0 s0_1 s0_2 5 t253 t254 t255 w0 _ ?side1 ?side2 A2.out).mono ?_); (case side1 => exact ia1_ HI0 NB0_252); (case side2 => exact bi1_ HB HI0 GE252); rintro e w40 ⟨rfl, hi, hb, hk⟩; refine ⟨_, rfl, ?_⟩; replace BK252 := Aside0.mk (KeepBut.blk hk (g' := gb252) (o := .cells #[.int .i64 0, .int .i64 0] 25 (0, 0)) (kv_ BK252) NB252_0.out (by simp)); replace HK := Aside0.mk (KeepBut.trans (ka1_ HK GW252) hk (.inl rfl)); replace HB := Aside0.mk (hb); replace HI0 := Aside0.mk (hi); (try clear hb); (try clear hb2); (try clear hk); (try clear hi)) | ((with_reducible refine gate_callee (f := 67) rfl ?_); refine gl_ 7 Try.func67 #[.pointer (some ⟨g, 0, none⟩), .int .i64 t253] rfl mp_ ?_; (with_reducible refine (spec_l2Draw.calls k g s0_0 t254 t255 t253 t256 t257 t258 t259 w0 _ ?side1 ?side2 A3.out).mono ?_); (case side1 => exact ia1_ HI0 NB0_252); (case side2 => exact bi1_ HB HI0 GE252); rintro e w41 ⟨rfl, hi, hb, hk⟩; refine ⟨_, rfl, ?_⟩; replace BK252 := Aside0.mk (KeepBut.blk hk (g' := gb252) (o := .cells #[.int .i64 0, .int .i64 0] 25 (0, 0)) (kv_ BK252) NB252_0.out (by simp)); replace HK := Aside0.mk (KeepBut.trans (ka1_ HK GW252) hk (.inl rfl)); replace HB := Aside0.mk (hb); replace HI0 := Aside0.mk (hi); (try clear hb); (try clear hb2); (try clear hk); (try clear hi)) | ((with_reducible refine gate_dst (N := 3) rfl ?_); refine bx_ 3 #[.int .i64 0, .int .i64 0] 25 ?_; intro gb260 hg w42 hbox hb; replace HB := Aside0.mk (below_step (bi1_ HB HI0 GE252) hb); have BK260 := Aside0.mk (hbox); have GW260 := Aside0.mk ((by rw [hg]; exact (keep_size (w := w) (g := g) (row := none) (ka1_ HK GW252)) : w.heap.size ≤ gb260)); have GE260 := Aside0.mk ((Nat.le_trans HW0.out (by rw [hg]; exact (keep_size (w := w) (g := g) (row := none) (ka1_ HK GW252)) : w.heap.size ≤ gb260) : w0.heap.size ≤ gb260)); replace HK := Aside0.mk (KeepBut.trans (ka1_ HK GW252) (KeepBut.of_below hb g none) (.inl rfl)); have NB252_260 := nb_ hg (blk_lt (g := gb252) (o := .cells #[.int .i64 0, .int .i64 0] 25 (0, 0)) (kv_ BK252)); have NB260_252 := nc_ hg (blk_lt (g := gb252) (o := .cells #[.int .i64 0, .int .i64 0] 25 (0, 0)) (kv_ BK252)); replace BK252 := kb_ BK252 hb; have NB0_260 := Aside0.mk ((by rw [hg]; exact Nat.ne_of_lt (IsS87.lt (show IsS87 w0 _ g s0_0 t258 t259 from ia1_ HI0 NB0_252)) : g ≠ gb260)); have NB260_0 := Aside0.mk ((by rw [hg]; exact Nat.ne_of_gt (IsS87.lt (show IsS87 w0 _ g s0_0 t258 t259 from ia1_ HI0 NB0_252)) : gb260 ≠ g)); replace HI0 := Aside0.mk (IsS87.below (ia1_ HI0 NB0_252) hb); clear hb hbox hg; have hnb43 := NB260_252.out; have hnc43 := NB252_260.out; have hnb44 := NB260_0.out; have hnc44 := NB0_260.out; obtain ⟨hcz45_0, hcz45_1, hfz45_0, hfz45_1⟩ := c2_ BK260) | ((with_reducible refine gate_callee (f := 56) rfl ?_); refine gl_ 9 Try.func56 #[.pointer (some ⟨g, 0, none⟩), .int .i64 14] rfl mp_ ?_; (with_reducible refine (spec_l1Below.calls g s0_0 t258 t259 14 t261 t262 t263 w0 _ ?side1 ?side2 A4.out).mono ?_); (case side1 => exact ia2_ HI0 NB0_252 NB0_260); (case side2 => exact bi2_ HB HI0 GE252 GE260); rintro e w46 ⟨rfl, hi, hb, hk⟩; refine ⟨_, rfl, ?_⟩; replace BK252 := Aside0.mk (KeepBut.blk hk (g' := gb252) (o := .cells #[.int .i64 0, .int .i64 0] 25 (0, 0)) (by (with_reducible repeat (first | refine blk_drewN ?_ _ | refine blk_drew ?_ | refine blk_alloc ?_ _)); refine blk_far ?_ NB252_260.out _; (with_reducible repeat (first | refine blk_drewN ?_ _ | refine blk_drew ?_ | refine blk_alloc ?_ _)); refine blk_far ?_ NB252_260.out _; (with_reducible repeat (first | refine blk_drewN ?_ _ | refine blk_drew ?_ | refine blk_alloc ?_ _)); exact BK252.out) NB252_0.out (by simp)); replace BK260 := Aside0.mk (KeepBut.blk hk (g' := gb260) (o := .cells #[.int .i64 t256, .int .i64 t257] 25 (0, 0)) (by (with_reducible repeat (first | refine blk_drewN ?_ _ | refine blk_drew ?_ | refine blk_alloc ?_ _)); refine blk_put (cs := #[.int .i64 t256, .int .i64 0]) ?_ 1 _ rfl; (with_reducible repeat (first | refine blk_drewN ?_ _ | refine blk_drew ?_ | refine blk_alloc ?_ _)); refine blk_put (cs := #[.int .i64 0, .int .i64 0]) ?_ 0 _ rfl; (with_reducible repeat (first | refine blk_drewN ?_ _ | refine blk_drew ?_ | refine blk_alloc ?_ _)); exact BK260.out) NB260_0.out (by simp)); replace HK := Aside0.mk (KeepBut.trans (ka2_ HK GW252 GW260) hk (.inl rfl)); replace HB := Aside0.mk (hb); replace HI0 := Aside0.mk (hi); (try clear hb); (try clear hb2); (try clear hk); (try clear hi); obtain ⟨hcz47_0, hcz47_1, hfz47_0, hfz47_1⟩ := c2_ BK260; have hnb48 := NB252_0.out; have hnc48 := NB0_252.out; obtain ⟨hcz49_0, hcz49_1, hfz49_0, hfz49_1⟩ := c2_ BK252))
   refine bodyPost_ret (results_cell_row rfl _ _ gb252 25 #[.int .i64 t256, .int .i64 t257] (0, 0) _ rfl (by (with_reducible repeat (first | refine blk_drewN ?_ _ | refine blk_drew ?_ | refine blk_alloc ?_ _)); refine blk_put (cs := #[.int .i64 t256, .int .i64 0]) ?_ 1 _ rfl; (with_reducible repeat (first | refine blk_drewN ?_ _ | refine blk_drew ?_ | refine blk_alloc ?_ _)); refine blk_put (cs := #[.int .i64 0, .int .i64 0]) ?_ 0 _ rfl; (with_reducible repeat (first | refine blk_drewN ?_ _ | refine blk_drew ?_ | refine blk_alloc ?_ _)); exact BK252.out) Try.underlying25 rfl (by kernel_rfl)) rfl ?_
   exact ⟨er_, ia2_ HI0 NB0_252 NB0_260, bi2_ HB HI0 GE252 GE260, ka2_ HK GW252 GW260⟩


/-! ### spec_l1New: function 40 -/
def spec_l1New.l0 : Nat → List Int → Int → Int → Option (List Int × Int × Int)
 | 0, _, _, _ => none
 | k + 1, x0, x3, x4 => if x4 < (x0.length : Int) then (if x4 < 4000 then (if 0 ≤ x4 then (spec_l1New.l0 k x0 (Go.bits .and .i64 (wrap64 ((wrap64 ((wrap64 (x3 * 131)) + (wrap64 (rd x0 x4)))) + 7)) 1073741823) (wrap64 (x4 + 1))) else (none)) else (some (x0, 0, x3))) else (some (x0, 0, x3))
def spec_l1New.f (k : Nat) (l0 : List Int) : Option (List Int × Int × Int) := spec_l1New.l0 k l0 (wrap64 (10101 + (l0.length : Int))) 0
theorem spec_l1New.mono_l : ∀ k, (∀ y0 y1 y2, LeO (spec_l1New.l0 k y0 y1 y2) (spec_l1New.l0 (k + 1) y0 y1 y2))
 | 0 => fun _ _ _ r h => by simp [spec_l1New.l0] at h
 | k + 1 => by
  have ih0 := spec_l1New.mono_l k
  ·intro y0 y1 y2
   unfold spec_l1New.l0
   repeat' first
   | (with_reducible exact ih0 _ _ _)
   | (with_reducible exact LeO.refl _)
   | (with_reducible exact LeO.none _)
   | (with_reducible refine LeO.ite ?_ ?_)
   | (with_reducible refine LeO.bind ?_ (fun _ => ?_))
   | exact ih0 _ _ _
   | exact LeO.none _
   | refine LeO.ite ?_ ?_
   | refine LeO.bind ?_ (fun _ => ?_)
theorem spec_l1New.mono : ∀ a0 k, LeO (spec_l1New.f k a0) (spec_l1New.f (k + 1) a0) := by
 intro a0 k
 have ih0 := spec_l1New.mono_l k
 unfold spec_l1New.f
 repeat' first
   | (with_reducible exact ih0 _ _ _)
   | (with_reducible exact LeO.refl _)
   | (with_reducible exact LeO.none _)
   | (with_reducible refine LeO.ite ?_ ?_)
   | (with_reducible refine LeO.bind ?_ (fun _ => ?_))
   | exact ih0 _ _ _
   | exact LeO.none _
   | refine LeO.ite ?_ ?_
   | refine LeO.bind ?_ (fun _ => ?_)
set_option maxHeartbeats 8000000 in
set_option maxRecDepth 100000 in
theorem spec_l1New.calls (k : Nat) (A0 : Option Addr) (c0 : Nat) (l0 : List Int) (r1 : List Int) (r2 : Int) (r3 : Int) (w0 w : World) (hB : Below w0.heap.size w0 w) (hr0 : Kd.C (Kd.int .u8) w0 A0 l0.length l0) (hc0 : l0.length ≤ c0) (h : spec_l1New.f k l0 = some (r1, r2, r3)) :
  Calls Try.prog 40 #[.slice A0 l0.length c0] w fun e w' => ∃ g_ : Nat, e = .returned (.pointer (some ⟨g_, 0, none⟩)) ∧ IsS87 w0 w' g_ r1 r2 r3 ∧ Below w0.heap.size w0 w' ∧ Below w.heap.size w w' := by
 have hu87 := Try.underlying87
 have HR0 := Aside0.mk hr0
 have HC0 := Aside0.mk hc0
 clear hr0 hc0
 have HBW := Aside0.mk (Below.refl w.heap.size w)
 have HW0 := Aside0.mk hB.size
 have HB := Aside0.mk hB
 clear hB
 have H : (spec_l1New.l0 k l0 (wrap64 (10101 + (l0.length : Int))) 0) = some (r1, r2, r3) := h
 clear h
 have H' := Aside0.mk H
 clear H
 go_enter Try.func40, Try.ntmps40
 go_wp2
 go_loopg [3, 4] k (fun kq v3 v4 w' => ∃ (x3_1 : Int) (x4_1 : Int), v3 = .int .i64 x3_1 ∧ v4 = .int .i64 x4_1 ∧ Aside0 (spec_l1New.l0 kq l0 x3_1 x4_1 = some (r1, r2, r3)) ∧ Aside0 (kq ≤ k) ∧ Aside0 (Below w0.heap.size w0 w') ∧ Aside0 (Below w.heap.size w w'))
 case atStart => exact ⟨(wrap64 (10101 + (l0.length : Int))), (0), (by first | rfl | (simp; done) | (simp [*]; done)), (by first | rfl | (simp; done) | (simp [*]; done)), H', ⟨Nat.le_refl _⟩, ⟨bv_ HB⟩, ⟨bv_ HBW⟩⟩
 case round =>
  clear H'
  obtain ⟨x3_1, x4_1, rfl, rfl, HA, HK1, HB, HBW⟩ := hrel
  cases gk with
  | zero => exact absurd HA.out (by simp [spec_l1New.l0])
  | succ k1 =>
   have H := HA.out
   clear HA
   simp only [spec_l1New.l0] at H
   by_cases c2 : x4_1 < (l0.length : Int)
   ·rw [if_pos c2] at H
    have c2b0 : decide (x4_1 < (l0.length : Int)) = true := decide_eq_true c2
    clear c2
    by_cases c3 : x4_1 < 4000
    ·rw [if_pos c3] at H
     have c3b0 : decide (x4_1 < 4000) = true := decide_eq_true c3
     clear c3
     by_cases c4 : 0 ≤ x4_1
     ·rw [if_pos c4] at H
      have c4b0 : decide (0 ≤ x4_1) = true := decide_eq_true c4
      clear c4
      have H' := Aside0.mk H
      clear H
      have p276 : 0 ≤ (x4_1 : Int) := of_decide_eq_true (by first | (with_reducible assumption) | assumption)
      have q276 : x4_1 < (l0.length : Int) := of_decide_eq_true (by first | (with_reducible assumption) | assumption)
      obtain ⟨ad276, e276, hx276_0⟩ := Kd.at_int HR0.out x4_1 p276 q276
      cases e276
      replace hx276_0 := pw_cell_below HB.out hx276_0
      replace p276 := eq_true p276
      replace q276 := eq_true q276
      go_wp2
      go_roundg k1
      case measure => have := HK1.out; omega
      case rel => exact ⟨(Go.bits .and .i64 (wrap64 ((wrap64 ((wrap64 (x3_1 * 131)) + (wrap64 (rd l0 x4_1)))) + 7)) 1073741823), (wrap64 (x4_1 + 1)), (by first | rfl | (simp; done) | (simp [*]; done)), (by first | rfl | (simp; done) | (simp [*]; done)), H', ⟨by have := HK1.out; omega⟩, ⟨bv_ HB⟩, ⟨bv_ HBW⟩⟩
     ·rw [if_neg c4] at H
      exact absurd H (by simp)
    ·rw [if_neg c3] at H
     have c3b0 : decide (x4_1 < 4000) = false := decide_eq_false c3
     clear c3
     simp only [Option.some.injEq, Prod.mk.injEq] at H
     obtain ⟨rfl, rfl, rfl⟩ := H
     go_wp2_with (first | ((with_reducible refine gate_dst (N := 31) rfl ?_); refine bx_ 31 #[.slice A0 l0.length c0, .int .i64 0, .int .i64 x3_1] 87 ?_; intro gb277 hg w5 hbox hb; replace HB := Aside0.mk (below_step (bv_ HB) hb); have BK277 := Aside0.mk (hbox); have GW277 := gw_ hg (below_size (bv_ HBW)); have GE277 := Aside0.mk ((Nat.le_trans HW0.out (by rw [hg]; exact (below_size (bv_ HBW)) : w.heap.size ≤ gb277) : w0.heap.size ≤ gb277)); replace HBW := Aside0.mk (below_step HBW.out hb); clear hb hbox hg))
     go_ret
     exact ⟨_, rfl, (show IsS87 w0 _ gb277 l0 0 x3_1 from ⟨_, _, by (with_reducible repeat (first | refine blk_drewN ?_ _ | refine blk_drew ?_ | refine blk_alloc ?_ _)); exact BK277.out, GE277.out, HR0.out⟩), bv1_ HB GE277, bv1_ HBW GW277⟩
   ·rw [if_neg c2] at H
    have c2b0 : decide (x4_1 < (l0.length : Int)) = false := decide_eq_false c2
    clear c2
    simp only [Option.some.injEq, Prod.mk.injEq] at H
    obtain ⟨rfl, rfl, rfl⟩ := H
    go_wp2_with (first | ((with_reducible refine gate_dst (N := 31) rfl ?_); refine bx_ 31 #[.slice A0 l0.length c0, .int .i64 0, .int .i64 x3_1] 87 ?_; intro gb278 hg w6 hbox hb; replace HB := Aside0.mk (below_step (bv_ HB) hb); have BK278 := Aside0.mk (hbox); have GW278 := gw_ hg (below_size (bv_ HBW)); have GE278 := Aside0.mk ((Nat.le_trans HW0.out (by rw [hg]; exact (below_size (bv_ HBW)) : w.heap.size ≤ gb278) : w0.heap.size ≤ gb278)); replace HBW := Aside0.mk (below_step HBW.out hb); clear hb hbox hg))
    go_ret
    exact ⟨_, rfl, (show IsS87 w0 _ gb278 l0 0 x3_1 from ⟨_, _, by (with_reducible repeat (first | refine blk_drewN ?_ _ | refine blk_drew ?_ | refine blk_alloc ?_ _)); exact BK278.out, GE278.out, HR0.out⟩), bv1_ HB GE278, bv1_ HBW GW278⟩


/-! ### spec_DrawCanonicalTable: function 9 -/
def spec_DrawCanonicalTable.f (k : Nat) (l0 : List Int) : Option (Int × Int) := (spec_l1New.f k l0).bind fun bt280 => ((spec_l2Any.f k bt280.1 bt280.2.1 bt280.2.2).bind fun bt284 => (some (bt284.1, bt284.2.1)))
theorem spec_DrawCanonicalTable.mono : ∀ a0 k, LeO (spec_DrawCanonicalTable.f k a0) (spec_DrawCanonicalTable.f (k + 1) a0) := by
 intro a0 k
 unfold spec_DrawCanonicalTable.f
 repeat' first
   | (with_reducible exact spec_l1New.mono _ _)
   | (with_reducible exact spec_l2Any.mono _ _ _ _)
   | (with_reducible exact LeO.refl _)
   | (with_reducible exact LeO.none _)
   | (with_reducible refine LeO.ite ?_ ?_)
   | (with_reducible refine LeO.bind ?_ (fun _ => ?_))
   | exact spec_l1New.mono _ _
   | exact spec_l2Any.mono _ _ _ _
   | exact LeO.none _
   | refine LeO.ite ?_ ?_
   | refine LeO.bind ?_ (fun _ => ?_)
set_option maxHeartbeats 8000000 in
set_option maxRecDepth 100000 in
theorem spec_DrawCanonicalTable.calls (k : Nat) (A0 : Option Addr) (c0 : Nat) (l0 : List Int) (r1 : Int) (r2 : Int) (w : World) (hr0 : Kd.C (Kd.int .u8) w A0 l0.length l0) (hc0 : l0.length ≤ c0) (h : spec_DrawCanonicalTable.f k l0 = some (r1, r2)) :
  Calls Try.prog 9 #[.slice A0 l0.length c0] w fun e w' => e = .returned (.agg #[.int .i64 r1, .int .i64 r2]) ∧ Below w.heap.size w w' := by
 have hu25 := Try.underlying25
 have HR0 := Aside0.mk hr0
 have HC0 := Aside0.mk hc0
 clear hr0 hc0
 have HB := Aside0.mk (Below.refl w.heap.size w)
 have H : ((spec_l1New.f k l0).bind fun bt280 => ((spec_l2Any.f k bt280.1 bt280.2.1 bt280.2.2).bind fun bt284 => (some (bt284.1, bt284.2.1)))) = some (r1, r2) := h
 clear h
 replace H := Option.bind_eq_some_iff.mp H
 obtain ⟨⟨t280, t281, t282⟩, A20, H⟩ := H
 replace H : ((spec_l2Any.f k t280 t281 t282).bind fun bt284 => (some (bt284.1, bt284.2.1))) = some (r1, r2) := H
 have A2 := Aside0.mk A20
 clear A20
 replace H := Option.bind_eq_some_iff.mp H
 obtain ⟨⟨t284, t285, t286, t287⟩, A30, H⟩ := H
 replace H : (some (t284, t285)) = some (r1, r2) := H
 have A3 := Aside0.mk A30
 clear A30
 simp only [Option.some.injEq, Prod.mk.injEq] at H
 obtain ⟨rfl, rfl⟩ := H
 go_enter Try.func9, Try.ntmps9
 go_wp2_with (first | ((with_reducible refine gate_dst (N := 2) rfl ?_); refine bx_ 2 #[.int .i64 0, .int .i64 0] 25 ?_; intro gb279 hg w4 hbox hb; have BK279 := Aside0.mk (hbox); have GW279 := gw_ hg (below_size (bv_ HB)); have GE279 := GW279; replace HB := Aside0.mk (below_step (bv_ HB) hb); clear hb hbox hg) | ((with_reducible refine gate_callee (f := 40) rfl ?_); refine gl_ 4 Try.func40 #[.slice A0 l0.length c0] rfl mp_ ?_; (with_reducible refine (spec_l1New.calls k _ _ l0 t280 t281 t282 w _ ?side1 ?side2 ?side3 A2.out).mono ?_); (case side1 => repeat (first | (with_reducible first | exact HB.out | apply below_alloc | apply pw_below_drewN | apply below_drew1 | refine below_set ?_ GE279.out) | exact HB.out)); (case side2 => exact HR0.out); (case side3 => exact HC0.out); rintro e w5 ⟨g283, rfl, hi, hb, hb2⟩; refine ⟨_, rfl, ?_⟩; replace HB := Aside0.mk (hb); have HI283 := Aside0.mk (hi); have NB283_279 := Aside0.mk (IsS87.ne_blk hi (blk_below (g := gb279) (o := .cells #[.int .i64 0, .int .i64 0] 25 (0, 0)) (kv_ BK279) hb2) (by decide)); have NB279_283 := Aside0.mk (Ne.symm (IsS87.ne_blk hi (blk_below (g := gb279) (o := .cells #[.int .i64 0, .int .i64 0] 25 (0, 0)) (kv_ BK279) hb2) (by decide))); replace BK279 := kb_ BK279 hb2; (try clear hb); (try clear hb2); (try clear hk); (try clear hi)) | ((with_reducible refine gate_callee (f := 39) rfl ?_); refine gl_ 5 Try.func39 #[.pointer (some ⟨g283, 0, none⟩)] rfl mp_ ?_; (with_reducible refine (spec_l2Any.calls k g283 t280 t281 t282 t284 t285 t286 t287 w _ ?side1 ?side2 A3.out).mono ?_); (case side1 => exact ia1_ HI283 NB283_279); (case side2 => exact bi1_ HB HI283 GE279); rintro e w6 ⟨rfl, hi, hb, hk⟩; refine ⟨_, rfl, ?_⟩; replace BK279 := Aside0.mk (KeepBut.blk hk (g' := gb279) (o := .cells #[.int .i64 0, .int .i64 0] 25 (0, 0)) (kv_ BK279) NB279_283.out (by simp)); replace HB := Aside0.mk (hb); replace HI283 := Aside0.mk (hi); (try clear hb); (try clear hb2); (try clear hk); (try clear hi); have hnb7 := NB279_283.out; have hnc7 := NB283_279.out; obtain ⟨hcz8_0, hcz8_1, hfz8_0, hfz8_1⟩ := c2_ BK279))
 refine bodyPost_ret (results_cell_row rfl _ _ gb279 25 #[.int .i64 t284, .int .i64 t285] (0, 0) _ rfl (by (with_reducible repeat (first | refine blk_drewN ?_ _ | refine blk_drew ?_ | refine blk_alloc ?_ _)); refine blk_put (cs := #[.int .i64 t284, .int .i64 0]) ?_ 1 _ rfl; (with_reducible repeat (first | refine blk_drewN ?_ _ | refine blk_drew ?_ | refine blk_alloc ?_ _)); refine blk_put (cs := #[.int .i64 0, .int .i64 0]) ?_ 0 _ rfl; (with_reducible repeat (first | refine blk_drewN ?_ _ | refine blk_drew ?_ | refine blk_alloc ?_ _)); exact BK279.out) Try.underlying25 rfl (by kernel_rfl)) rfl ?_
 exact ⟨er_, bi1_ HB HI283 GE279⟩


/-! ### impl_isBits: function 62 -/
def impl_isBits.f (a0 : Int) : Option (Bool) := if a0 ≥ 0 then (some (decide (a0 ≤ 5))) else (some false)
set_option maxHeartbeats 8000000 in
set_option maxRecDepth 100000 in
theorem impl_isBits.calls (a0 : Int) (r : Bool) (w : World) (h : impl_isBits.f a0 = some r) :
  Calls Try.prog 62 #[.int .i64 a0] w fun e w' => e = .returned (.bool r) ∧ Drawn0 w w' := by
 have H : (if a0 ≥ 0 then (some (decide (a0 ≤ 5))) else (some false)) = some r := h
 clear h
 by_cases c2 : a0 ≥ 0
 ·rw [if_pos c2] at H
  have c2b0 : decide (0 ≤ a0) = true := decide_eq_true c2
  clear c2
  obtain rfl := Option.some.inj H
  go_enter Try.func62, Try.ntmps62
  go_wp2
  go_ret
  exact ⟨by first | rfl | (simp; done) | (simp [*]; done), by repeat (first | exact Drawn0.refl _ | apply Drawn0.step)⟩
 ·rw [if_neg c2] at H
  have c2b0 : decide (0 ≤ a0) = false := decide_eq_false c2
  clear c2
  obtain rfl := Option.some.inj H
  go_enter Try.func62, Try.ntmps62
  go_wp2
  go_ret
  exact ⟨by first | rfl | (simp; done) | (simp [*]; done), by repeat (first | exact Drawn0.refl _ | apply Drawn0.step)⟩


end Go.Proofs.Yteljkpglgjjnlaa.P
