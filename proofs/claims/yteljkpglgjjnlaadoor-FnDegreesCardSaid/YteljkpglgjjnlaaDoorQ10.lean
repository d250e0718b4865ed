-- Out of the translation, by this session's program over the printer's; Lean checks it.
import Derived.Test.YteljkpglgjjnlaaDoorSh
import Derived.Test.YteljkpglgjjnlaaDoorQ0
import Derived.Test.YteljkpglgjjnlaaDoorQ3
import Derived.Test.YteljkpglgjjnlaaDoorQ4
namespace Go.Proofs.YteljkpglgjjnlaaDoor.P
open Go.RowKit Go.Proofs.YteljkpglgjjnlaaDoorW.PrintWords Go.Proofs.YteljkpglgjjnlaaDoorW.PrintLast Go.Proofs.YteljkpglgjjnlaaDoorW.PrintMore
attribute [local go_sem] max2_int min2_int max_two min_two max_three min_three max_four min_four
set_option linter.unusedVariables false
set_option linter.unusedSimpArgs false

/-! ### spec_AnfOf: function 11 -/
def spec_AnfOf.f (k : Nat) (a0_0 : Int) (a0_1 : Int) : Option (Int × Int × Bool) := (spec_IsTable.f a0_0 a0_1).bind fun t576 => (if t576 = true then ((spec_l11Anf.f k a0_0 a0_1).bind fun t577 => (some (a0_0, t577, true))) else (some (0, 0, false)))
theorem spec_AnfOf.mono : ∀ a0 a1 k, LeO (spec_AnfOf.f k a0 a1) (spec_AnfOf.f (k + 1) a0 a1) := by
 intro a0 a1 k
 unfold spec_AnfOf.f
 repeat' first
   | (with_reducible exact spec_l11Anf.mono _ _ _)
   | (with_reducible exact LeO.refl _)
   | (with_reducible exact LeO.none _)
   | (with_reducible refine LeO.ite ?_ ?_)
   | (with_reducible refine LeO.bind ?_ (fun _ => ?_))
   | exact spec_l11Anf.mono _ _ _
   | exact LeO.none _
   | refine LeO.ite ?_ ?_
   | refine LeO.bind ?_ (fun _ => ?_)
set_option maxHeartbeats 8000000 in
set_option maxRecDepth 100000 in
theorem spec_AnfOf.calls (k : Nat) (a0_0 : Int) (a0_1 : Int) (r1 : Int) (r2 : Int) (r3 : Bool) (w : World) (h : spec_AnfOf.f k a0_0 a0_1 = some (r1, r2, r3)) :
  Calls Tryd.prog 11 #[.agg #[.int .i64 a0_0, .int .i64 a0_1]] w fun e w' => e = .returned (.tuple #[.agg #[.int .i64 r1, .int .i64 r2], .bool r3]) ∧ Below w.heap.size w w' := by
 have hu23 := Tryd.underlying23
 have HB := Aside0.mk (Below.refl w.heap.size w)
 have H : ((spec_IsTable.f a0_0 a0_1).bind fun t576 => (if t576 = true then ((spec_l11Anf.f k a0_0 a0_1).bind fun t577 => (some (a0_0, t577, true))) else (some (0, 0, false)))) = some (r1, r2, r3) := h
 clear h
 replace H := Option.bind_eq_some_iff.mp H
 obtain ⟨t576, A20, H⟩ := H
 have A2 := Aside0.mk A20
 clear A20
 by_cases c3 : t576 = true
 ·subst c3
  rw [if_pos rfl] at H
  replace H := Option.bind_eq_some_iff.mp H
  obtain ⟨t577, A40, H⟩ := H
  have A4 := Aside0.mk A40
  clear A40
  simp only [Option.some.injEq, Prod.mk.injEq] at H
  obtain ⟨rfl, rfl, rfl⟩ := H
  go_enter Tryd.func11, Tryd.ntmps11
  try go_wp2_with (first | ((with_reducible refine gate_dst (N := 1) rfl ?_); refine bx_ 1 #[.int .i64 a0_0, .int .i64 a0_1] 23 ?_; intro gb574 hg w5 hbox hb; have BK574 := Aside0.mk (hbox); have GW574 := gw_ hg (below_size (bv_ HB)); have GE574 := GW574; replace HB := Aside0.mk (below_step (bv_ HB) hb); clear hb hbox hg) | ((with_reducible refine gate_dst (N := 2) rfl ?_); refine bx_ 2 #[.int .i64 0, .int .i64 0] 23 ?_; intro gb575 hg w6 hbox hb; have BK575 := Aside0.mk (hbox); have GW575 := gw_ hg (below_size (bv1_ HB GE574)); have GE575 := GW575; replace HB := Aside0.mk (below_step (bv1_ HB GE574) hb); have NB574_575 := nb_ hg (blk_lt (g := gb574) (o := .cells #[.int .i64 a0_0, .int .i64 a0_1] 23 (0, 0)) (kv_ BK574)); have NB575_574 := nc_ hg (blk_lt (g := gb574) (o := .cells #[.int .i64 a0_0, .int .i64 a0_1] 23 (0, 0)) (kv_ BK574)); replace BK574 := kb_ BK574 hb; clear hb hbox hg; have hnb7 := NB574_575.out; have hnc7 := NB575_574.out; obtain ⟨hcz8_0, hcz8_1, hfz8_0, hfz8_1⟩ := c2_ BK574) | ((with_reducible refine gate_callee (f := 38) rfl ?_); refine gl_ 5 Tryd.func38 #[.agg #[.int .i64 a0_0, .int .i64 a0_1]] rfl mp_ ?_; (with_reducible refine (spec_IsTable.calls a0_0 a0_1 true _ A2.out).mono ?_); rintro e w9 ⟨rfl, hb⟩; refine ⟨_, rfl, ?_⟩; replace BK574 := kb_ BK574 hb; replace BK575 := kb_ BK575 hb; replace HB := Aside0.mk (below_step (bv2_ HB GE574 GE575) hb); (try clear hb); (try clear hb2); (try clear hk); (try clear hi)))
  replace BK574 := Aside0.mk (blk_drew BK574.out)
  replace BK575 := Aside0.mk (blk_drew BK575.out)
  replace HB := Aside0.mk (below_drew1 HB.out)
  refine start_ (n := 7) (S := fun w' => w'.cell? ⟨gb574, 0, none⟩ = some (.int .i64 a0_0) ∧ w'.cell? ⟨gb574, 1, none⟩ = some (.int .i64 a0_1)) (ds := []) (bs 7 0) (by kernel_rfl) rfl (by kernel_rfl) ⟨(blk_cell BK574.out 0).trans rfl, (blk_cell BK574.out 1).trans rfl⟩ (fun hHeld => ?_)
  generalize w9.drew = w10 at BK574 BK575 HB hHeld ⊢
  refine pure_ (i := 0) (N := some 8) (v := ?_) (a' := ?_) (bs 7 1) rfl rfl (by kernel_rfl) (fun _ _ _ h => h) (Or.inl ⟨by rfl, ?_⟩) ?_ ?_
  rotate_left
  ·intro w'
   go_simp
   with_reducible rfl
  rotate_left
  ·simp only [Act.put, List.setIfInBounds_toArray, List.set_cons_zero, List.set_cons_succ, i64_w, i32_w]
   rfl
  refine take_ (i := 1) (N := some 9) (v := ?_) (a' := ?_) (bs 7 3) rfl rfl (by kernel_rfl) (fun _ _ _ h => h) (Or.inl ⟨by rfl, ?_⟩) hHeld ?_ ?_
  rotate_left
  ·rintro w' ⟨s0, s1⟩
   go_simp
   with_reducible rfl
  rotate_left
  ·simp only [Act.put, List.setIfInBounds_toArray, List.set_cons_zero, List.set_cons_succ, i64_w, i32_w]
   rfl
  refine take_ (i := 2) (N := some 10) (v := ?_) (a' := ?_) (bs 7 7) rfl rfl (by kernel_rfl) (fun _ _ _ h => h) (Or.inl ⟨by rfl, ?_⟩) hHeld ?_ ?_
  rotate_left
  ·rintro w' ⟨s0, s1⟩
   go_simp
   with_reducible rfl
  rotate_left
  ·simp only [Act.put, List.setIfInBounds_toArray, List.set_cons_zero, List.set_cons_succ, i64_w, i32_w]
   rfl
  refine one_ (i := 3) (N := some 11) (bs 7 15) rfl rfl (by kernel_rfl) (by decide) (fun K hK => ?_)
  refine goes_ Tryd.func30 (by kernel_rfl) rfl #[.agg #[.int .i64 a0_0, .int .i64 a0_1]] (by rfl) rfl rfl mp_ ?_
  with_reducible refine (spec_l11Anf.calls k a0_0 a0_1 t577 _ A4.out).mono ?_
  rintro e w11 ⟨rfl, hb⟩
  refine ⟨_, rfl, ?_⟩
  replace BK574 := kb_ BK574 hb
  replace BK575 := kb_ BK575 hb
  replace HB := Aside0.mk (below_step (bv2_ HB GE574 GE575) hb)
  (try clear hb)
  (try clear hb2)
  (try clear hk)
  (try clear hi)
  refine hK.out _ _ ⟨(blk_cell BK574.out 0).trans rfl, (blk_cell BK574.out 1).trans rfl⟩ (fun hHeld => ?_)
  clear hK K
  refine no_ 11 ?_
  refine pure_ (i := 4) (N := some 12) (v := ?_) (a' := ?_) (bs 7 31) rfl rfl (by kernel_rfl) (fun _ _ _ h => h) (Or.inl ⟨by rfl, ?_⟩) ?_ ?_
  rotate_left
  ·intro w'
   go_simp
   with_reducible rfl
  rotate_left
  ·simp only [Act.put, List.setIfInBounds_toArray, List.set_cons_zero, List.set_cons_succ, i64_w, i32_w]
   rfl
  refine one_ (i := 5) (N := none) (bs 7 63) rfl rfl (by kernel_rfl) (by decide) (fun K hK => ?_)
  have hs12 : w11.cell? ⟨gb575, 0, none⟩ = some (.int .i64 0) := (blk_cell BK575.out 0).trans rfl
  have hfs12 := blk_frozen BK575.out 0
  have hns12_0 := NB574_575.out
  have hms12_0 := NB575_574.out
  have hs13 : w11.cell? ⟨gb575, 1, none⟩ = some (.int .i64 0) := (blk_cell BK575.out 1).trans rfl
  have hfs13 := blk_frozen BK575.out 1
  have hns13_0 := NB574_575.out
  have hms13_0 := NB575_574.out
  refine skip_ (w1 := ?_) (by rfl) rfl ?_ ?_
  rotate_left
  ·go_simp
   rfl
  refine hK.out _ _ ⟨((cell_far (p := ⟨gb575, _, none⟩) NB574_575.out _).trans (((cell_far (p := ⟨gb575, _, none⟩) NB574_575.out _).trans (hHeld.1)))), ((cell_far (p := ⟨gb575, _, none⟩) NB574_575.out _).trans (((cell_far (p := ⟨gb575, _, none⟩) NB574_575.out _).trans (hHeld.2))))⟩ (fun hHeld => ?_)
  clear hK K
  refine pure_ (i := 6) (N := some 3) (v := ?_) (a' := ?_) (bs 7 127) rfl rfl (by kernel_rfl) (fun _ _ _ h => h) (Or.inl ⟨by rfl, ?_⟩) ?_ ?_
  rotate_left
  ·intro w'
   go_simp
   with_reducible rfl
  rotate_left
  ·simp only [Act.put, List.setIfInBounds_toArray, List.set_cons_zero, List.set_cons_succ, i64_w, i32_w]
   rfl
  refine done_ (by kernel_rfl) ?_
  try go_wp2
  refine bodyPost_ret (results_ct rfl _ _ gb575 23 #[.int .i64 a0_0, .int .i64 t577] (0, 0) _ rfl (by (with_reducible repeat (first | refine blk_drewN ?_ _ | refine blk_drew ?_ | refine blk_alloc ?_ _)); refine blk_put (cs := #[.int .i64 a0_0, .int .i64 0]) ?_ 1 _ rfl; (with_reducible repeat (first | refine blk_drewN ?_ _ | refine blk_drew ?_ | refine blk_alloc ?_ _)); refine blk_put (cs := #[.int .i64 0, .int .i64 0]) ?_ 0 _ rfl; (with_reducible repeat (first | refine blk_drewN ?_ _ | refine blk_drew ?_ | refine blk_alloc ?_ _)); exact BK575.out) Tryd.underlying23 rfl (by kernel_rfl)) rfl ?_
  exact ⟨er_, bv2_ HB GE574 GE575⟩
 ·replace c3 := Bool.eq_false_iff.mpr c3
  subst c3
  rw [if_neg (show ¬ (false = true) by decide)] at H
  simp only [Option.some.injEq, Prod.mk.injEq] at H
  obtain ⟨rfl, rfl, rfl⟩ := H
  go_enter Tryd.func11, Tryd.ntmps11
  go_wp2_with (first | ((with_reducible refine gate_dst (N := 1) rfl ?_); refine bx_ 1 #[.int .i64 a0_0, .int .i64 a0_1] 23 ?_; intro gb574 hg w14 hbox hb; have BK574 := Aside0.mk (hbox); have GW574 := gw_ hg (below_size (bv_ HB)); have GE574 := GW574; replace HB := Aside0.mk (below_step (bv_ HB) hb); clear hb hbox hg) | ((with_reducible refine gate_dst (N := 2) rfl ?_); refine bx_ 2 #[.int .i64 0, .int .i64 0] 23 ?_; intro gb575 hg w15 hbox hb; have BK575 := Aside0.mk (hbox); have GW575 := gw_ hg (below_size (bv1_ HB GE574)); have GE575 := GW575; replace HB := Aside0.mk (below_step (bv1_ HB GE574) hb); have NB574_575 := nb_ hg (blk_lt (g := gb574) (o := .cells #[.int .i64 a0_0, .int .i64 a0_1] 23 (0, 0)) (kv_ BK574)); have NB575_574 := nc_ hg (blk_lt (g := gb574) (o := .cells #[.int .i64 a0_0, .int .i64 a0_1] 23 (0, 0)) (kv_ BK574)); replace BK574 := kb_ BK574 hb; clear hb hbox hg; have hnb16 := NB574_575.out; have hnc16 := NB575_574.out; obtain ⟨hcz17_0, hcz17_1, hfz17_0, hfz17_1⟩ := c2_ BK574) | ((with_reducible refine gate_callee (f := 38) rfl ?_); refine gl_ 5 Tryd.func38 #[.agg #[.int .i64 a0_0, .int .i64 a0_1]] rfl mp_ ?_; (with_reducible refine (spec_IsTable.calls a0_0 a0_1 false _ A2.out).mono ?_); rintro e w18 ⟨rfl, hb⟩; refine ⟨_, rfl, ?_⟩; replace BK574 := kb_ BK574 hb; replace BK575 := kb_ BK575 hb; replace HB := Aside0.mk (below_step (bv2_ HB GE574 GE575) hb); (try clear hb); (try clear hb2); (try clear hk); (try clear hi); obtain ⟨hcz19_0, hcz19_1, hfz19_0, hfz19_1⟩ := c2_ BK575))
  refine bodyPost_ret (results_ct rfl _ _ gb575 23 #[.int .i64 0, .int .i64 0] (0, 0) _ rfl (by (with_reducible repeat (first | refine blk_drewN ?_ _ | refine blk_drew ?_ | refine blk_alloc ?_ _)); refine blk_put (cs := #[.int .i64 0, .int .i64 0]) ?_ 1 _ rfl; (with_reducible repeat (first | refine blk_drewN ?_ _ | refine blk_drew ?_ | refine blk_alloc ?_ _)); refine blk_put (cs := #[.int .i64 0, .int .i64 0]) ?_ 0 _ rfl; (with_reducible repeat (first | refine blk_drewN ?_ _ | refine blk_drew ?_ | refine blk_alloc ?_ _)); exact BK575.out) Tryd.underlying23 rfl (by kernel_rfl)) rfl ?_
  exact ⟨er_, bv2_ HB GE574 GE575⟩


/-! ### impl_Table_coefficients: function 39 -/
mutual
def impl_Table_coefficients.l0 : Nat → List Int → Int → Int → Int → Int → Option (List Int)
 | 0, _, _, _, _, _ => none
 | k + 1, x3, x10, x11, x579000, x579001 => if x11 < x10 then ((impl_Table_size.f x579000 x579001).bind fun t583 => (impl_Table_coefficients.l1 k x3 x11 x10 x11 t583 0 x579000 x579001)) else (some x3)
def impl_Table_coefficients.l1 : Nat → List Int → Int → Int → Int → Int → Int → Int → Int → Option (List Int)
 | 0, _, _, _, _, _, _, _, _ => none
 | k + 1, x3, x4, x10, x11, x15, x16, x579000, x579001 => if x16 < x15 then (if (Go.bits .andNot .i64 x16 x4) = 0 then ((impl_ones.f (Go.bits .xor .i64 x4 x16)).bind fun t584 => (if (Int.tmod t584 2) = 0 then (if 0 ≤ x4 then (if x4 < (x3.length : Int) then ((impl_Table_at.f x579000 x579001 x16).bind fun t586 => (impl_Table_coefficients.l1 k (x3.set (x4 : Int).toNat (wrap64 ((rd x3 x4) + t586))) x4 x10 x11 x15 (wrap64 (x16 + 1)) x579000 x579001)) else (none)) else (none)) else (if 0 ≤ x4 then (if x4 < (x3.length : Int) then ((impl_Table_at.f x579000 x579001 x16).bind fun t589 => (impl_Table_coefficients.l1 k (x3.set (x4 : Int).toNat (wrap64 ((rd x3 x4) - t589))) x4 x10 x11 x15 (wrap64 (x16 + 1)) x579000 x579001)) else (none)) else (none)))) else (impl_Table_coefficients.l1 k x3 x4 x10 x11 x15 (wrap64 (x16 + 1)) x579000 x579001)) else (impl_Table_coefficients.l0 k x3 x10 (wrap64 (x11 + 1)) x579000 x579001)
end
def impl_Table_coefficients.f (k : Nat) (a0_0 : Int) (a0_1 : Int) : Option (List Int) := (impl_Table_size.f a0_0 a0_1).bind fun t579 => (if 0 ≤ t579 then (if (t579 : Int).toNat ≤ 35184372088832 then ((some (List.replicate (t579 : Int).toNat 0 : List Int)).bind fun y580 => (impl_Table_coefficients.l0 k y580 (y580.length : Int) 0 a0_0 a0_1)) else (none)) else (none))
theorem impl_Table_coefficients.mono_l : ∀ k, (∀ y0 y1 y2 y3 y4, LeO (impl_Table_coefficients.l0 k y0 y1 y2 y3 y4) (impl_Table_coefficients.l0 (k + 1) y0 y1 y2 y3 y4)) ∧ (∀ y0 y1 y2 y3 y4 y5 y6 y7, LeO (impl_Table_coefficients.l1 k y0 y1 y2 y3 y4 y5 y6 y7) (impl_Table_coefficients.l1 (k + 1) y0 y1 y2 y3 y4 y5 y6 y7))
 | 0 => ⟨fun _ _ _ _ _ r h => by simp [impl_Table_coefficients.l0] at h, fun _ _ _ _ _ _ _ _ r h => by simp [impl_Table_coefficients.l1] at h⟩
 | k + 1 => by
  obtain ⟨ih0, ih1⟩ := impl_Table_coefficients.mono_l k
  refine ⟨?_, ?_⟩
  ·intro y0 y1 y2 y3 y4
   unfold impl_Table_coefficients.l0
   repeat' first
   | (with_reducible exact ih0 _ _ _ _ _)
   | (with_reducible exact ih1 _ _ _ _ _ _ _ _)
   | (with_reducible exact LeO.refl _)
   | (with_reducible exact LeO.none _)
   | (with_reducible refine LeO.ite ?_ ?_)
   | (with_reducible refine LeO.bind ?_ (fun _ => ?_))
   | exact ih0 _ _ _ _ _
   | exact ih1 _ _ _ _ _ _ _ _
   | exact LeO.none _
   | refine LeO.ite ?_ ?_
   | refine LeO.bind ?_ (fun _ => ?_)
  ·intro y0 y1 y2 y3 y4 y5 y6 y7
   unfold impl_Table_coefficients.l1
   repeat' first
   | (with_reducible exact ih0 _ _ _ _ _)
   | (with_reducible exact ih1 _ _ _ _ _ _ _ _)
   | (with_reducible exact LeO.refl _)
   | (with_reducible exact LeO.none _)
   | (with_reducible refine LeO.ite ?_ ?_)
   | (with_reducible refine LeO.bind ?_ (fun _ => ?_))
   | exact ih0 _ _ _ _ _
   | exact ih1 _ _ _ _ _ _ _ _
   | exact LeO.none _
   | refine LeO.ite ?_ ?_
   | refine LeO.bind ?_ (fun _ => ?_)
theorem impl_Table_coefficients.mono : ∀ a0 a1 k, LeO (impl_Table_coefficients.f k a0 a1) (impl_Table_coefficients.f (k + 1) a0 a1) := by
 intro a0 a1 k
 obtain ⟨ih0, ih1⟩ := impl_Table_coefficients.mono_l k
 unfold impl_Table_coefficients.f
 repeat' first
   | (with_reducible exact ih0 _ _ _ _ _)
   | (with_reducible exact ih1 _ _ _ _ _ _ _ _)
   | (with_reducible exact LeO.refl _)
   | (with_reducible exact LeO.none _)
   | (with_reducible refine LeO.ite ?_ ?_)
   | (with_reducible refine LeO.bind ?_ (fun _ => ?_))
   | exact ih0 _ _ _ _ _
   | exact ih1 _ _ _ _ _ _ _ _
   | exact LeO.none _
   | refine LeO.ite ?_ ?_
   | refine LeO.bind ?_ (fun _ => ?_)
def impl_Table_coefficients.T8 : Bool × List (List Nat × List Nat) := (true, [([], []), ([], []), ([0, 1], [0, 1]), ([2], [2]), ([], []), ([], []), ([4, 5], [4, 5]), ([3, 6], [3, 6]), ([0, 1, 0, 1, 2, 3, 4, 5, 6, 7], [0, 1]), ([8, 7, 6, 0, 1, 2, 3, 4, 5, 6, 7], [7, 8])])
def impl_Table_coefficients.B8 : List Nat := [0, 0, 3, 7, 0, 0, 48, 127, 255, 511]
theorem impl_Table_coefficients.tab8 : rtab .any (opsOf Tryd.f39 8) = impl_Table_coefficients.T8 := by kernel_rfl
theorem impl_Table_coefficients.bits8 : waitsOk impl_Table_coefficients.T8.2 impl_Table_coefficients.B8 = true := by kernel_rfl
def impl_Table_coefficients.T11 : Bool × List (List Nat × List Nat) := (true, [([], []), ([], []), ([0, 1], [0, 1]), ([2], [2]), ([], []), ([], []), ([4, 5], [4, 5]), ([3, 6], [3, 6]), ([0, 1, 0, 1, 2, 3, 4, 5, 6, 7], [0, 1]), ([8, 7, 6, 0, 1, 2, 3, 4, 5, 6, 7], [7, 8])])
def impl_Table_coefficients.B11 : List Nat := [0, 0, 3, 7, 0, 0, 48, 127, 255, 511]
theorem impl_Table_coefficients.tab11 : rtab .any (opsOf Tryd.f39 11) = impl_Table_coefficients.T11 := by kernel_rfl
theorem impl_Table_coefficients.bits11 : waitsOk impl_Table_coefficients.T11.2 impl_Table_coefficients.B11 = true := by kernel_rfl
set_option maxHeartbeats 8000000 in
set_option maxRecDepth 100000 in
theorem impl_Table_coefficients.calls (k : Nat) (a0_0 : Int) (a0_1 : Int) (r : List Int) (w : World) (h : impl_Table_coefficients.f k a0_0 a0_1 = some r) :
  Calls Tryd.prog 39 #[.agg #[.int .i64 a0_0, .int .i64 a0_1]] w fun e w' => ∃ v0_ : Value, e = .returned (v0_) ∧ Kd.R (Kd.int .i64) 3 w' w.heap.size (fun _ => True) v0_ r ∧ Below w.heap.size w w' := by
 have hu23 := Tryd.underlying23
 have HB := Aside0.mk (Below.refl w.heap.size w)
 have H : ((impl_Table_size.f a0_0 a0_1).bind fun t579 => (if 0 ≤ t579 then (if (t579 : Int).toNat ≤ 35184372088832 then ((some (List.replicate (t579 : Int).toNat 0 : List Int)).bind fun y580 => (impl_Table_coefficients.l0 k y580 (y580.length : Int) 0 a0_0 a0_1)) else (none)) else (none))) = some r := h
 clear h
 replace H := Option.bind_eq_some_iff.mp H
 obtain ⟨t579, A20, H⟩ := H
 have A2 := Aside0.mk A20
 clear A20
 by_cases c3 : 0 ≤ t579
 ·rw [if_pos c3] at H
  have c3b0 := eq_true c3
  have c3b1 : decide (0 ≤ t579) = true := decide_eq_true c3
  clear c3
  by_cases c4 : (t579 : Int).toNat ≤ 35184372088832
  ·rw [if_pos c4] at H
   have c4b0 := eq_true c4
   have c4b1 : decide ((t579 : Int).toNat ≤ 35184372088832) = true := decide_eq_true c4
   clear c4
   obtain ⟨y580, hy580⟩ : ∃ y_ : List Int, y_ = (List.replicate (t579 : Int).toNat 0) := ⟨_, rfl⟩
   replace H : (impl_Table_coefficients.l0 k y580 (y580.length : Int) 0 a0_0 a0_1) = some r := by first | (rw [hy580]; with_reducible exact H) | (have H2_ := (Option.bind_some _ _).symm.trans H; rw [hy580]; with_reducible exact H2_) | (have H2_ := (Option.bind_some _ _).symm.trans H; with_reducible exact H2_) | with_reducible exact H | (rw [hy580]; exact H) | exact H
   have Ny580 := Aside0.mk hy580
   clear hy580
   have H' := Aside0.mk H
   clear H
   go_enter Tryd.func39, Tryd.ntmps39
   go_wp2_with (first | ((with_reducible refine gate_dst (N := 1) rfl ?_); refine bx_ 1 #[.int .i64 a0_0, .int .i64 a0_1] 23 ?_; intro gb578 hg w5 hbox hb; have BK578 := Aside0.mk (hbox); have GW578 := gw_ hg (below_size (bv_ HB)); have GE578 := GW578; replace HB := Aside0.mk (below_step (bv_ HB) hb); clear hb hbox hg; obtain ⟨hcz6_0, hcz6_1, hfz6_0, hfz6_1⟩ := c2_ BK578) | ((with_reducible refine gate_callee (f := 46) rfl ?_); refine gl_ 7 Tryd.func46 #[.agg #[.int .i64 a0_0, .int .i64 a0_1]] rfl mp_ ?_; (with_reducible refine (impl_Table_size.calls a0_0 a0_1 t579 _ A2.out).mono ?_); rintro e w7 ⟨rfl, hb⟩; refine ⟨_, rfl, ?_⟩; replace BK578 := kb_ BK578 hb; replace HB := Aside0.mk (below_step (bv1_ HB GE578) hb); (try clear hb); (try clear hb2); (try clear hk); (try clear hi)) | ((with_reducible refine gate_dst (N := 8) rfl ?_); refine Kd.R_make (Kd.int .i64) _ 3 rfl (N := 8) rfl 32 _ _ rfl t579 rfl rfl Tryd.underlying32 (.int .i64 0) 8 info3 rfl (by decide) (by omega) 0 (ok := fun _ => True) (okp := fun _ => True) rfl (fun _ hk => hk) trivial (of_decide_eq_true (by first | (with_reducible assumption) | assumption)) (Nat.le_trans (Nat.mul_le_mul_right _ (of_decide_eq_true (by first | (with_reducible assumption) | assumption) : t579.toNat ≤ 35184372088832)) (by omega)) (Below.refl _ _) (Nat.le_refl _) ?_; intro v581 w8 ho9 hb hg_ hnew_; clear hg_ hnew_; (first | rw [← Ny580.out] at ho9 | (simp only [Int.reduceToNat] at ho9; rw [← Ny580.out] at ho9)); have HO582 := Aside0.mk (Kd.R_lower ho9 (below_size (bv1_ HB GE578))); replace BK578 := kb_ BK578 hb; replace HB := Aside0.mk (below_step (bv1_ HB GE578) hb); clear hb ho9; obtain ⟨Ao10, co10, eo10⟩ := Kd.R_slice HO582.out; subst eo10))
   go_loopg [11] k (fun kq v11 w' => ∃ (x3_1 : List Int) (x11_1 : Int), v11 = .int .i64 x11_1 ∧ Aside0 (impl_Table_coefficients.l0 kq x3_1 (y580.length : Int) x11_1 a0_0 a0_1 = some r) ∧ Aside0 (kq ≤ k) ∧ Aside0 (Kd.R (Kd.int .i64) 3 w' w.heap.size (fun _ => True) (.slice Ao10 y580.length co10) x3_1) ∧ Aside0 (w'.heap[gb578]? = some (.cells #[.int .i64 a0_0, .int .i64 a0_1] 23 (0, 0))) ∧ Aside0 (Below w.heap.size w w'))
   case atStart => exact ⟨(y580), (0), (by first | rfl | (simp; done) | (simp [*]; done)), H', ⟨Nat.le_refl _⟩, ⟨by (with_reducible repeat (first | apply Kd.R_alloc | apply Kd.R_drewN | apply Kd.R_drew)); exact HO582.out⟩, ⟨by (with_reducible repeat (first | refine blk_drewN ?_ _ | refine blk_drew ?_ | refine blk_alloc ?_ _)); exact BK578.out⟩, ⟨bv1_ HB GE578⟩⟩
   case round =>
    clear H'
    try clear p2
    try clear c3
    try clear c3b0
    try clear c3b1
    try clear c4
    try clear c4b0
    try clear c4b1
    try clear hcz6_0
    try clear hcz6_1
    try clear hfz6_0
    try clear hfz6_1
    obtain ⟨x3_1, x11_1, rfl, HA, HK1, HO_3, BK578, HB⟩ := hrel
    have hl3_1 := (Kd.R_reads' HO_3.out).1
    rw [hl3_1] at HO_3
    (try simp only [hl3_1])
    (try simp only [hl3_1] at BK578)
    cases gk with
    | zero => exact absurd HA.out (by simp [impl_Table_coefficients.l0])
    | succ k1 =>
     have H := HA.out
     clear HA
     simp only [impl_Table_coefficients.l0] at H
     by_cases c11 : x11_1 < (y580.length : Int)
     ·rw [if_pos c11] at H
      have c11b0 : decide (x11_1 < (y580.length : Int)) = true := decide_eq_true c11
      (try simp only [hl3_1] at c11b0)
      clear c11
      replace H := Option.bind_eq_some_iff.mp H
      obtain ⟨t583, A120, H⟩ := H
      have A12 := Aside0.mk A120
      clear A120
      have H' := Aside0.mk H
      clear H
      obtain ⟨hcz13_0, hcz13_1, hfz13_0, hfz13_1⟩ := c2_ BK578
      go_wp2_with (first | ((with_reducible refine gate_callee (f := 46) rfl ?_); refine gl_ 15 Tryd.func46 #[.agg #[.int .i64 a0_0, .int .i64 a0_1]] rfl mp_ ?_; (with_reducible refine (impl_Table_size.calls a0_0 a0_1 t583 _ A12.out).mono ?_); rintro e w14 ⟨rfl, hb⟩; refine ⟨_, rfl, ?_⟩; have n0_ := Aside0.mk (Kd.R_below (rv_ HO_3) hb); have n1_ := kb_ BK578 hb; have n2_ := Aside0.mk (below_step (bv1_ HB GE578) hb); clear HO_3; clear BK578; clear HB; have HO_3 := n0_; have BK578 := n1_; have HB := n2_; clear n0_ n1_ n2_; (try clear hb); (try clear hb2); (try clear hk); (try clear hi)))
      go_loopg [16] k1 (fun kq v16 w' => ∃ (x3_2 : List Int) (x16_2 : Int), v16 = .int .i64 x16_2 ∧ Aside0 (impl_Table_coefficients.l1 kq x3_2 x11_1 (y580.length : Int) x11_1 t583 x16_2 a0_0 a0_1 = some r) ∧ Aside0 (kq ≤ k1) ∧ Aside0 (Kd.R (Kd.int .i64) 3 w' w.heap.size (fun _ => True) (.slice Ao10 x3_1.length co10) x3_2) ∧ Aside0 (w'.heap[gb578]? = some (.cells #[.int .i64 a0_0, .int .i64 a0_1] 23 (0, 0))) ∧ Aside0 (Below w.heap.size w w'))
      case atStart => exact ⟨(x3_1), (0), (by first | rfl | (simp; done) | (simp [*]; done)), H', ⟨Nat.le_refl _⟩, ⟨by (try simp only [hl3_1]); (with_reducible repeat (first | apply Kd.R_alloc | apply Kd.R_drewN | apply Kd.R_drew)); exact HO_3.out⟩, ⟨by (try simp only [hl3_1]); (with_reducible repeat (first | refine blk_drewN ?_ _ | refine blk_drew ?_ | refine blk_alloc ?_ _)); exact BK578.out⟩, ⟨bv1_ HB GE578⟩⟩
      case round =>
       clear H'
       try clear c1
       try clear p2
       try clear c3
       try clear c3b0
       try clear c3b1
       try clear c4
       try clear c4b0
       try clear c4b1
       try clear c11
       try clear c11b0
       try clear hcz13_0
       try clear hcz13_1
       try clear hcz6_0
       try clear hcz6_1
       try clear hfz13_0
       try clear hfz13_1
       try clear hfz6_0
       try clear hfz6_1
       try clear p2
       obtain ⟨x3_2, x16_2, rfl, HA, HK2, HO_3, BK578, HB⟩ := hrel
       have hl3_2 := (Kd.R_reads' HO_3.out).1
       rw [hl3_2] at HO_3
       (try simp only [hl3_2])
       (try simp only [hl3_2] at BK578)
       cases gk with
       | zero => exact absurd HA.out (by simp [impl_Table_coefficients.l1])
       | succ k2 =>
        have H := HA.out
        clear HA
        simp only [impl_Table_coefficients.l1] at H
        by_cases c15 : x16_2 < t583
        ·rw [if_pos c15] at H
         have c15b0 : decide (x16_2 < t583) = true := decide_eq_true c15
         (try simp only [hl3_1] at c15b0)
         (try simp only [hl3_2] at c15b0)
         clear c15
         by_cases c16 : (Go.bits .andNot .i64 x16_2 x11_1) = 0
         ·rw [if_pos c16] at H
          have c16b0 : ((Go.bits .andNot .i64 x16_2 x11_1) == 0) = true := beq_iff_eq.mpr c16
          have c16b1 : ((Go.bits .andNot .i64 x16_2 x11_1) != 0) = false := bne_eq_false_iff_eq.mpr c16
          clear c16
          replace H := Option.bind_eq_some_iff.mp H
          obtain ⟨t584, A170, H⟩ := H
          have A17 := Aside0.mk A170
          clear A170
          by_cases c18 : (Int.tmod t584 2) = 0
          ·rw [if_pos c18] at H
           have c18b0 : ((Int.tmod t584 2) == 0) = true := beq_iff_eq.mpr c18
           have c18b1 : ((Int.tmod t584 2) != 0) = false := bne_eq_false_iff_eq.mpr c18
           clear c18
           by_cases c19 : 0 ≤ x11_1
           ·rw [if_pos c19] at H
            have c19b0 : decide (0 ≤ x11_1) = true := decide_eq_true c19
            (try simp only [hl3_1] at c19b0)
            (try simp only [hl3_2] at c19b0)
            clear c19
            by_cases c20 : x11_1 < (x3_2.length : Int)
            ·rw [if_pos c20] at H
             have c20b0 : decide (x11_1 < (x3_2.length : Int)) = true := decide_eq_true c20
             (try simp only [hl3_1] at c20b0)
             (try simp only [hl3_2] at c20b0)
             clear c20
             replace H := Option.bind_eq_some_iff.mp H
             obtain ⟨t586, A210, H⟩ := H
             have A21 := Aside0.mk A210
             clear A210
             obtain ⟨y587, hy587⟩ : ∃ y_ : List Int, y_ = (x3_2.set (x11_1 : Int).toNat (wrap64 ((rd x3_2 x11_1) + t586))) := ⟨_, rfl⟩
             replace H : (impl_Table_coefficients.l1 k2 y587 x11_1 (y580.length : Int) x11_1 t583 (wrap64 (x16_2 + 1)) a0_0 a0_1) = some r := by first | (rw [hy587]; with_reducible exact H) | (have H2_ := (Option.bind_some _ _).symm.trans H; rw [hy587]; with_reducible exact H2_) | (have H2_ := (Option.bind_some _ _).symm.trans H; with_reducible exact H2_) | with_reducible exact H | (rw [hy587]; exact H) | exact H
             have Ny587 := Aside0.mk hy587
             clear hy587
             have H' := Aside0.mk H
             clear H
             try go_wp2_with (first | ((with_reducible refine gate_callee (f := 50) rfl ?_); refine gl_ 37 Tryd.func50 #[.int .i64 (Go.bits .xor .i64 x11_1 x16_2)] rfl mp_ ?_; (with_reducible refine (impl_ones.calls (Go.bits .xor .i64 x11_1 x16_2) t584 _ A17.out).mono ?_); rintro e w' ⟨rfl, ⟨nd, rfl⟩⟩; refine ⟨_, rfl, ?_⟩; (try (rw [drewN_self wr]; generalize hq_ : World.drewN wr _ = wr; have n0_ : Aside0 (Kd.R (Kd.int .i64) 3 wr w.heap.size (fun _ => True) (.slice Ao10 x3_2.length co10) x3_2) := ⟨by rw [← hq_]; exact (rv_ HO_3)⟩; have n1_ : Aside0 (wr.heap[gb578]? = some (.cells #[.int .i64 a0_0, .int .i64 a0_1] 23 (0, 0))) := ⟨by rw [← hq_]; exact (kv_ BK578)⟩; have n2_ : Aside0 (Below w.heap.size w wr) := ⟨by rw [← hq_]; exact (bv1_ HB GE578)⟩; clear HO_3 BK578 HB hq_; have HO_3 := n0_; have BK578 := n1_; have HB := n2_; clear n0_ n1_ n2_))))
             replace HO_3 := Aside0.mk (Kd.R_drew HO_3.out)
             replace BK578 := Aside0.mk (blk_drew BK578.out)
             replace HB := Aside0.mk (below_drew1 HB.out)
             have p585 : 0 ≤ (x11_1 : Int) := of_decide_eq_true (by first | (with_reducible assumption) | assumption)
             have q585 : x11_1 < (x3_2.length : Int) := of_decide_eq_true (by first | (with_reducible assumption) | assumption)
             obtain ⟨ad585, e585, hx585_0⟩ := Kd.at_int (Kd.R_reads' HO_3.out).2.2 x11_1 p585 q585
             cases e585
             replace p585 := eq_true p585
             replace q585 := eq_true q585
             refine start_ (n := 10) (S := fun w' => w'.cell? ⟨gb578, 0, none⟩ = some (.int .i64 a0_0) ∧ w'.cell? ⟨gb578, 1, none⟩ = some (.int .i64 a0_1) ∧ w'.cell? (ad585.add (x11_1).toNat) = some (.int .i64 (rd x3_2 x11_1))) (ds := [9]) (bs 10 0) (by kernel_rfl) rfl (by kernel_rfl) ⟨(blk_cell BK578.out 0).trans rfl, (blk_cell BK578.out 1).trans rfl, hx585_0⟩ (fun hHeld => ?_); refine with_tabW impl_Table_coefficients.tab11 impl_Table_coefficients.bits11 (fun HT_ HW_ => ?_)
             generalize wr.drew = w23 at HO_3 BK578 HB hx585_0 hHeld ⊢
             refine pu_ HT_ 0 40 (bs 10 1) ?_
             refine pu_ HT_ 1 41 (bs 10 3) ?_
             refine pu_ HT_ 2 42 (bs 10 7) ?_
             refine pu_ HT_ 5 45 (bs 10 39) ?_
             refine ta3_ HT_ HW_ 3 43 (bs 10 47) hHeld ?_
             refine ta3_ HT_ HW_ 4 44 (bs 10 63) hHeld ?_
             refine on_ HT_ 6 46 (bs 10 127) (fun K hK => ?_)
             refine goes_ Tryd.func43 (by kernel_rfl) rfl #[.agg #[.int .i64 a0_0, .int .i64 a0_1], .int .i64 x16_2] (by rfl) rfl rfl mp_ ?_
             with_reducible refine (impl_Table_at.calls a0_0 a0_1 x16_2 t586 _ A21.out).mono ?_
             rintro e w24 ⟨rfl, hb⟩
             have HS2_ := (hb.cell (World.block_lt_of_cell? _ _ (hHeld.2.2))).trans (hHeld.2.2)
             refine ⟨_, rfl, ?_⟩
             replace HO_3 := Aside0.mk (Kd.R_below (rv_ HO_3) hb)
             replace BK578 := kb_ BK578 hb
             replace HB := Aside0.mk (below_step (bv1_ HB GE578) hb)
             (try clear hb)
             (try clear hb2)
             (try clear hk)
             (try clear hi)
             have p22 : 0 ≤ (x11_1 : Int) := of_decide_eq_true (by first | (with_reducible assumption) | assumption)
             have q22 : (x11_1 : Int) < ((x3_2.length : Int) : Int) := of_decide_eq_true (by first | (with_reducible assumption) | assumption)
             obtain ⟨go22, co22, eo22, gb22, gl22, cl22, HG22⟩ := Kd.R_form HO_3.out (by omega)
             (first | cases eo22 | (injection eo22 with ea_ en_ ec_; (first | subst ea_ | (injection ea_ with ea_; subst ea_)); subst ec_; clear en_))
             have GB22 := Aside0.mk gb22
             have GG22 := Aside0.mk HG22
             clear gb22 gl22 HG22
             (first | simp only [add_plain] at hx585_0 | skip)
             obtain ⟨hx22_0, hf22_0⟩ := Kd.R_celln 0 HO_3.out (x11_1 : Int) p22 q22
             replace p22 := eq_true p22
             replace q22 := eq_true q22
             have HP25 := Kd.R_putn HO_3.out (x11_1 : Int) (wrap64 ((rd x3_2 x11_1) + t586))
             rw [← Ny587.out] at HP25
             have HQ25 := Aside0.mk HP25
             clear HP25
             refine hK.out _ _ ⟨(blk_cell BK578.out 0).trans rfl, (blk_cell BK578.out 1).trans rfl, HS2_⟩ (fun hHeld => ?_)
             clear hK K
             refine no_ 46 ?_
             refine pu_ HT_ 7 47 (bs 10 255) ?_
             refine pu_ HT_ 8 48 (bs 10 511) ?_
             refine last_ (i := 9) (N := none) (bs 10 1023) rfl rfl (one_of HT_.out (by kernel_rfl)) (by decide) (fun K hK => ?_)
             refine skip_ (w1 := ?_) (by rfl) rfl ?_ ?_
             rotate_left
             ·go_simp
              rfl
             refine hK.out _ _ ?_
             clear hK K
             refine done_ (done_of HT_.out (by kernel_rfl)) ?_
             try go_wp2
             (try simp only [← hl3_2])
             go_roundg k2
             case measure => have := HK1.out; have := HK2.out; omega
             case rel => exact ⟨(y587), (wrap64 (x16_2 + 1)), (by first | rfl | (simp; done) | (simp [*]; done)), H', ⟨by have := HK1.out; have := HK2.out; omega⟩, ⟨by (try simp only [hl3_1]); (try simp only [hl3_2]); (with_reducible repeat (first | apply Kd.R_alloc | apply Kd.R_drewN | apply Kd.R_drew)); exact HQ25.out⟩, ⟨by (try simp only [hl3_1]); (try simp only [hl3_2]); (with_reducible repeat (first | refine blk_drewN ?_ _ | refine blk_drew ?_ | refine blk_alloc ?_ _)); refine blk_far ?_ (by have h_ := Kd.R_ne HO_3.out BK578.out (by decide); intro e_; exact h_ (by rw [e_]; rfl)) _; (with_reducible repeat (first | refine blk_drewN ?_ _ | refine blk_drew ?_ | refine blk_alloc ?_ _)); exact BK578.out⟩, ⟨bv2_ HB GB22 GE578⟩⟩
            ·rw [if_neg c20] at H
             exact absurd H (by simp)
           ·rw [if_neg c19] at H
            exact absurd H (by simp)
          ·rw [if_neg c18] at H
           have c18b0 : ((Int.tmod t584 2) == 0) = false := beq_eq_false_iff_ne.mpr c18
           have c18b1 : ((Int.tmod t584 2) != 0) = true := bne_iff_ne.mpr c18
           by_cases c26 : 0 ≤ x11_1
           ·rw [if_pos c26] at H
            have c26b0 : decide (0 ≤ x11_1) = true := decide_eq_true c26
            (try simp only [hl3_1] at c26b0)
            (try simp only [hl3_2] at c26b0)
            clear c26
            by_cases c27 : x11_1 < (x3_2.length : Int)
            ·rw [if_pos c27] at H
             have c27b0 : decide (x11_1 < (x3_2.length : Int)) = true := decide_eq_true c27
             (try simp only [hl3_1] at c27b0)
             (try simp only [hl3_2] at c27b0)
             clear c27
             replace H := Option.bind_eq_some_iff.mp H
             obtain ⟨t589, A280, H⟩ := H
             have A28 := Aside0.mk A280
             clear A280
             obtain ⟨y590, hy590⟩ : ∃ y_ : List Int, y_ = (x3_2.set (x11_1 : Int).toNat (wrap64 ((rd x3_2 x11_1) - t589))) := ⟨_, rfl⟩
             replace H : (impl_Table_coefficients.l1 k2 y590 x11_1 (y580.length : Int) x11_1 t583 (wrap64 (x16_2 + 1)) a0_0 a0_1) = some r := by first | (rw [hy590]; with_reducible exact H) | (have H2_ := (Option.bind_some _ _).symm.trans H; rw [hy590]; with_reducible exact H2_) | (have H2_ := (Option.bind_some _ _).symm.trans H; with_reducible exact H2_) | with_reducible exact H | (rw [hy590]; exact H) | exact H
             have Ny590 := Aside0.mk hy590
             clear hy590
             have H' := Aside0.mk H
             clear H
             try go_wp2_with (first | ((with_reducible refine gate_callee (f := 50) rfl ?_); refine gl_ 37 Tryd.func50 #[.int .i64 (Go.bits .xor .i64 x11_1 x16_2)] rfl mp_ ?_; (with_reducible refine (impl_ones.calls (Go.bits .xor .i64 x11_1 x16_2) t584 _ A17.out).mono ?_); rintro e w' ⟨rfl, ⟨nd, rfl⟩⟩; refine ⟨_, rfl, ?_⟩; (try (rw [drewN_self wr]; generalize hq_ : World.drewN wr _ = wr; have n0_ : Aside0 (Kd.R (Kd.int .i64) 3 wr w.heap.size (fun _ => True) (.slice Ao10 x3_2.length co10) x3_2) := ⟨by rw [← hq_]; exact (rv_ HO_3)⟩; have n1_ : Aside0 (wr.heap[gb578]? = some (.cells #[.int .i64 a0_0, .int .i64 a0_1] 23 (0, 0))) := ⟨by rw [← hq_]; exact (kv_ BK578)⟩; have n2_ : Aside0 (Below w.heap.size w wr) := ⟨by rw [← hq_]; exact (bv1_ HB GE578)⟩; clear HO_3 BK578 HB hq_; have HO_3 := n0_; have BK578 := n1_; have HB := n2_; clear n0_ n1_ n2_))))
             replace HO_3 := Aside0.mk (Kd.R_drew HO_3.out)
             replace BK578 := Aside0.mk (blk_drew BK578.out)
             replace HB := Aside0.mk (below_drew1 HB.out)
             have p588 : 0 ≤ (x11_1 : Int) := of_decide_eq_true (by first | (with_reducible assumption) | assumption)
             have q588 : x11_1 < (x3_2.length : Int) := of_decide_eq_true (by first | (with_reducible assumption) | assumption)
             obtain ⟨ad588, e588, hx588_0⟩ := Kd.at_int (Kd.R_reads' HO_3.out).2.2 x11_1 p588 q588
             cases e588
             replace p588 := eq_true p588
             replace q588 := eq_true q588
             refine start_ (n := 10) (S := fun w' => w'.cell? ⟨gb578, 0, none⟩ = some (.int .i64 a0_0) ∧ w'.cell? ⟨gb578, 1, none⟩ = some (.int .i64 a0_1) ∧ w'.cell? (ad588.add (x11_1).toNat) = some (.int .i64 (rd x3_2 x11_1))) (ds := [9]) (bs 10 0) (by kernel_rfl) rfl (by kernel_rfl) ⟨(blk_cell BK578.out 0).trans rfl, (blk_cell BK578.out 1).trans rfl, hx588_0⟩ (fun hHeld => ?_); refine with_tabW impl_Table_coefficients.tab8 impl_Table_coefficients.bits8 (fun HT_ HW_ => ?_)
             generalize wr.drew = w30 at HO_3 BK578 HB hx588_0 hHeld ⊢
             refine pu_ HT_ 0 19 (bs 10 1) ?_
             refine pu_ HT_ 1 20 (bs 10 3) ?_
             refine pu_ HT_ 2 21 (bs 10 7) ?_
             refine pu_ HT_ 5 24 (bs 10 39) ?_
             refine ta3_ HT_ HW_ 3 22 (bs 10 47) hHeld ?_
             refine ta3_ HT_ HW_ 4 23 (bs 10 63) hHeld ?_
             refine on_ HT_ 6 25 (bs 10 127) (fun K hK => ?_)
             refine goes_ Tryd.func43 (by kernel_rfl) rfl #[.agg #[.int .i64 a0_0, .int .i64 a0_1], .int .i64 x16_2] (by rfl) rfl rfl mp_ ?_
             with_reducible refine (impl_Table_at.calls a0_0 a0_1 x16_2 t589 _ A28.out).mono ?_
             rintro e w31 ⟨rfl, hb⟩
             have HS2_ := (hb.cell (World.block_lt_of_cell? _ _ (hHeld.2.2))).trans (hHeld.2.2)
             refine ⟨_, rfl, ?_⟩
             replace HO_3 := Aside0.mk (Kd.R_below (rv_ HO_3) hb)
             replace BK578 := kb_ BK578 hb
             replace HB := Aside0.mk (below_step (bv1_ HB GE578) hb)
             (try clear hb)
             (try clear hb2)
             (try clear hk)
             (try clear hi)
             have p29 : 0 ≤ (x11_1 : Int) := of_decide_eq_true (by first | (with_reducible assumption) | assumption)
             have q29 : (x11_1 : Int) < ((x3_2.length : Int) : Int) := of_decide_eq_true (by first | (with_reducible assumption) | assumption)
             obtain ⟨go29, co29, eo29, gb29, gl29, cl29, HG29⟩ := Kd.R_form HO_3.out (by omega)
             (first | cases eo29 | (injection eo29 with ea_ en_ ec_; (first | subst ea_ | (injection ea_ with ea_; subst ea_)); subst ec_; clear en_))
             have GB29 := Aside0.mk gb29
             have GG29 := Aside0.mk HG29
             clear gb29 gl29 HG29
             (first | simp only [add_plain] at hx588_0 | skip)
             obtain ⟨hx29_0, hf29_0⟩ := Kd.R_celln 0 HO_3.out (x11_1 : Int) p29 q29
             replace p29 := eq_true p29
             replace q29 := eq_true q29
             have HP32 := Kd.R_putn HO_3.out (x11_1 : Int) (wrap64 ((rd x3_2 x11_1) - t589))
             rw [← Ny590.out] at HP32
             have HQ32 := Aside0.mk HP32
             clear HP32
             refine hK.out _ _ ⟨(blk_cell BK578.out 0).trans rfl, (blk_cell BK578.out 1).trans rfl, HS2_⟩ (fun hHeld => ?_)
             clear hK K
             refine no_ 25 ?_
             refine pu_ HT_ 7 26 (bs 10 255) ?_
             refine pu_ HT_ 8 27 (bs 10 511) ?_
             refine last_ (i := 9) (N := none) (bs 10 1023) rfl rfl (one_of HT_.out (by kernel_rfl)) (by decide) (fun K hK => ?_)
             refine skip_ (w1 := ?_) (by rfl) rfl ?_ ?_
             rotate_left
             ·go_simp
              rfl
             refine hK.out _ _ ?_
             clear hK K
             refine done_ (done_of HT_.out (by kernel_rfl)) ?_
             try go_wp2
             (try simp only [← hl3_2])
             go_roundg k2
             case measure => have := HK1.out; have := HK2.out; omega
             case rel => exact ⟨(y590), (wrap64 (x16_2 + 1)), (by first | rfl | (simp; done) | (simp [*]; done)), H', ⟨by have := HK1.out; have := HK2.out; omega⟩, ⟨by (try simp only [hl3_1]); (try simp only [hl3_2]); (with_reducible repeat (first | apply Kd.R_alloc | apply Kd.R_drewN | apply Kd.R_drew)); exact HQ32.out⟩, ⟨by (try simp only [hl3_1]); (try simp only [hl3_2]); (with_reducible repeat (first | refine blk_drewN ?_ _ | refine blk_drew ?_ | refine blk_alloc ?_ _)); refine blk_far ?_ (by have h_ := Kd.R_ne HO_3.out BK578.out (by decide); intro e_; exact h_ (by rw [e_]; rfl)) _; (with_reducible repeat (first | refine blk_drewN ?_ _ | refine blk_drew ?_ | refine blk_alloc ?_ _)); exact BK578.out⟩, ⟨bv2_ HB GB29 GE578⟩⟩
            ·rw [if_neg c27] at H
             exact absurd H (by simp)
           ·rw [if_neg c26] at H
            exact absurd H (by simp)
         ·rw [if_neg c16] at H
          have c16b0 : ((Go.bits .andNot .i64 x16_2 x11_1) == 0) = false := beq_eq_false_iff_ne.mpr c16
          have c16b1 : ((Go.bits .andNot .i64 x16_2 x11_1) != 0) = true := bne_iff_ne.mpr c16
          have H' := Aside0.mk H
          clear H
          go_wp2
          (try simp only [← hl3_2])
          go_roundg k2
          case measure => have := HK1.out; have := HK2.out; omega
          case rel => exact ⟨(x3_2), (wrap64 (x16_2 + 1)), (by first | rfl | (simp; done) | (simp [*]; done)), H', ⟨by have := HK1.out; have := HK2.out; omega⟩, ⟨by (try simp only [hl3_1]); (try simp only [hl3_2]); (with_reducible repeat (first | apply Kd.R_alloc | apply Kd.R_drewN | apply Kd.R_drew)); exact HO_3.out⟩, ⟨by (try simp only [hl3_1]); (try simp only [hl3_2]); (with_reducible repeat (first | refine blk_drewN ?_ _ | refine blk_drew ?_ | refine blk_alloc ?_ _)); exact BK578.out⟩, ⟨bv1_ HB GE578⟩⟩
        ·rw [if_neg c15] at H
         have c15b0 : decide (x16_2 < t583) = false := decide_eq_false c15
         (try simp only [hl3_1] at c15b0)
         (try simp only [hl3_2] at c15b0)
         clear c15
         have H' := Aside0.mk H
         clear H
         go_wp2
         (try simp only [← hl3_1, ← hl3_2])
         go_roundg k2
         case measure => have := HK1.out; have := HK2.out; omega
         case rel => exact ⟨(x3_2), (wrap64 (x11_1 + 1)), (by first | rfl | (simp; done) | (simp [*]; done)), H', ⟨by have := HK1.out; have := HK2.out; omega⟩, ⟨by (try simp only [hl3_1]); (try simp only [hl3_2]); (with_reducible repeat (first | apply Kd.R_alloc | apply Kd.R_drewN | apply Kd.R_drew)); exact HO_3.out⟩, ⟨by (try simp only [hl3_1]); (try simp only [hl3_2]); (with_reducible repeat (first | refine blk_drewN ?_ _ | refine blk_drew ?_ | refine blk_alloc ?_ _)); exact BK578.out⟩, ⟨bv1_ HB GE578⟩⟩
     ·rw [if_neg c11] at H
      have c11b0 : decide (x11_1 < (y580.length : Int)) = false := decide_eq_false c11
      (try simp only [hl3_1] at c11b0)
      clear c11
      obtain rfl := Option.some.inj H
      go_wp2
      go_ret
      exact ⟨_, er_, by (with_reducible repeat (first | apply Kd.R_alloc | apply Kd.R_drewN | apply Kd.R_drew)); exact HO_3.out, bv1_ HB GE578⟩
  ·rw [if_neg c4] at H
   exact absurd H (by simp)
 ·rw [if_neg c3] at H
  exact absurd H (by simp)


/-! ### impl_RealCoefficients: function 12 -/
def impl_RealCoefficients.f (k : Nat) (a0_0 : Int) (a0_1 : Int) : Option (List Int) := (impl_IsTable.f a0_0 a0_1).bind fun t592 => (if t592 = true then ((impl_Table_coefficients.f k a0_0 a0_1).bind fun t593 => (some t593)) else (some ([] : List Int)))
theorem impl_RealCoefficients.mono : ∀ a0 a1 k, LeO (impl_RealCoefficients.f k a0 a1) (impl_RealCoefficients.f (k + 1) a0 a1) := by
 intro a0 a1 k
 unfold impl_RealCoefficients.f
 repeat' first
   | (with_reducible exact impl_Table_coefficients.mono _ _ _)
   | (with_reducible exact LeO.refl _)
   | (with_reducible exact LeO.none _)
   | (with_reducible refine LeO.ite ?_ ?_)
   | (with_reducible refine LeO.bind ?_ (fun _ => ?_))
   | exact impl_Table_coefficients.mono _ _ _
   | exact LeO.none _
   | refine LeO.ite ?_ ?_
   | refine LeO.bind ?_ (fun _ => ?_)
set_option maxHeartbeats 8000000 in
set_option maxRecDepth 100000 in
theorem impl_RealCoefficients.calls (k : Nat) (a0_0 : Int) (a0_1 : Int) (r : List Int) (w : World) (h : impl_RealCoefficients.f k a0_0 a0_1 = some r) :
  Calls Tryd.prog 12 #[.agg #[.int .i64 a0_0, .int .i64 a0_1]] w fun e w' => ∃ v0_ : Value, e = .returned (v0_) ∧ Kd.R (Kd.int .i64) 3 w' w.heap.size (fun _ => True) v0_ r ∧ Below w.heap.size w w' := by
 have hu23 := Tryd.underlying23
 have HB := Aside0.mk (Below.refl w.heap.size w)
 have H : ((impl_IsTable.f a0_0 a0_1).bind fun t592 => (if t592 = true then ((impl_Table_coefficients.f k a0_0 a0_1).bind fun t593 => (some t593)) else (some ([] : List Int)))) = some r := h
 clear h
 replace H := Option.bind_eq_some_iff.mp H
 obtain ⟨t592, A20, H⟩ := H
 have A2 := Aside0.mk A20
 clear A20
 by_cases c3 : t592 = true
 ·subst c3
  rw [if_pos rfl] at H
  replace H := Option.bind_eq_some_iff.mp H
  obtain ⟨t593, A40, H⟩ := H
  have A4 := Aside0.mk A40
  clear A40
  obtain rfl := Option.some.inj H
  go_enter Tryd.func12, Tryd.ntmps12
  go_wp2_with (first | ((with_reducible refine gate_dst (N := 1) rfl ?_); refine bx_ 1 #[.int .i64 a0_0, .int .i64 a0_1] 23 ?_; intro gb591 hg w5 hbox hb; have BK591 := Aside0.mk (hbox); have GW591 := gw_ hg (below_size (bv_ HB)); have GE591 := GW591; replace HB := Aside0.mk (below_step (bv_ HB) hb); clear hb hbox hg; obtain ⟨hcz6_0, hcz6_1, hfz6_0, hfz6_1⟩ := c2_ BK591) | ((with_reducible refine gate_callee (f := 37) rfl ?_); refine gl_ 4 Tryd.func37 #[.agg #[.int .i64 a0_0, .int .i64 a0_1]] rfl mp_ ?_; (with_reducible refine (impl_IsTable.calls a0_0 a0_1 true _ A2.out).mono ?_); rintro e w7 ⟨rfl, hb⟩; refine ⟨_, rfl, ?_⟩; replace BK591 := kb_ BK591 hb; replace HB := Aside0.mk (below_step (bv1_ HB GE591) hb); (try clear hb); (try clear hb2); (try clear hk); (try clear hi); obtain ⟨hcz8_0, hcz8_1, hfz8_0, hfz8_1⟩ := c2_ BK591) | ((with_reducible refine gate_callee (f := 39) rfl ?_); refine gl_ 7 Tryd.func39 #[.agg #[.int .i64 a0_0, .int .i64 a0_1]] rfl mp_ ?_; (with_reducible refine (impl_Table_coefficients.calls k a0_0 a0_1 t593 _ A4.out).mono ?_); rintro e w9 ⟨v594, rfl, ho0, hb⟩; refine ⟨_, rfl, ?_⟩; have HO595 := Aside0.mk (Kd.R_lower ho0 (below_size (bv1_ HB GE591))); replace BK591 := kb_ BK591 hb; replace HB := Aside0.mk (below_step (bv1_ HB GE591) hb); (try clear hb); (try clear hb2); (try clear hk); (try clear hi); (try clear ho0)))
  go_ret
  exact ⟨_, er_, by (with_reducible repeat (first | apply Kd.R_alloc | apply Kd.R_drewN | apply Kd.R_drew)); exact HO595.out, bv1_ HB GE591⟩
 ·replace c3 := Bool.eq_false_iff.mpr c3
  subst c3
  rw [if_neg (show ¬ (false = true) by decide)] at H
  obtain rfl := Option.some.inj H
  go_enter Tryd.func12, Tryd.ntmps12
  go_wp2_with (first | ((with_reducible refine gate_dst (N := 1) rfl ?_); refine bx_ 1 #[.int .i64 a0_0, .int .i64 a0_1] 23 ?_; intro gb591 hg w10 hbox hb; have BK591 := Aside0.mk (hbox); have GW591 := gw_ hg (below_size (bv_ HB)); have GE591 := GW591; replace HB := Aside0.mk (below_step (bv_ HB) hb); clear hb hbox hg; obtain ⟨hcz11_0, hcz11_1, hfz11_0, hfz11_1⟩ := c2_ BK591) | ((with_reducible refine gate_callee (f := 37) rfl ?_); refine gl_ 4 Tryd.func37 #[.agg #[.int .i64 a0_0, .int .i64 a0_1]] rfl mp_ ?_; (with_reducible refine (impl_IsTable.calls a0_0 a0_1 false _ A2.out).mono ?_); rintro e w12 ⟨rfl, hb⟩; refine ⟨_, rfl, ?_⟩; replace BK591 := kb_ BK591 hb; replace HB := Aside0.mk (below_step (bv1_ HB GE591) hb); (try clear hb); (try clear hb2); (try clear hk); (try clear hi)))
  go_ret
  exact ⟨_, er_, by first | exact Kd.R_nil _ _ _ _ _ | exact Kd.N_nil _ _ _ _ _ | exact Kd.V_nil _ _ _ _ _ | exact Kd.Q_nil _ _ _ _ _ | exact Kd.S_nil _ _ _ _ _, bv1_ HB GE591⟩


/-! ### laws_sameInts: function 13 -/
def laws_sameInts.l0 : Nat → List Int → List Int → Int → Option (Bool)
 | 0, _, _, _ => none
 | k + 1, x0, x1, x5 => if x5 < (x0.length : Int) then (if 0 ≤ x5 then (if x5 < (x1.length : Int) then (if (rd x0 x5) = (rd x1 x5) then (laws_sameInts.l0 k x0 x1 (wrap64 (x5 + 1))) else (some false)) else (none)) else (none)) else (some true)
def laws_sameInts.f (k : Nat) (l0 : List Int) (l1 : List Int) : Option (Bool) := if (l0.length : Int) = (l1.length : Int) then (laws_sameInts.l0 k l0 l1 0) else (some false)
theorem laws_sameInts.mono_l : ∀ k, (∀ y0 y1 y2, LeO (laws_sameInts.l0 k y0 y1 y2) (laws_sameInts.l0 (k + 1) y0 y1 y2))
 | 0 => fun _ _ _ r h => by simp [laws_sameInts.l0] at h
 | k + 1 => by
  have ih0 := laws_sameInts.mono_l k
  ·intro y0 y1 y2
   unfold laws_sameInts.l0
   repeat' first
   | (with_reducible exact ih0 _ _ _)
   | (with_reducible exact LeO.refl _)
   | (with_reducible exact LeO.none _)
   | (with_reducible refine LeO.ite ?_ ?_)
   | (with_reducible refine LeO.bind ?_ (fun _ => ?_))
   | exact ih0 _ _ _
   | exact LeO.none _
   | refine LeO.ite ?_ ?_
   | refine LeO.bind ?_ (fun _ => ?_)
theorem laws_sameInts.mono : ∀ a0 a1 k, LeO (laws_sameInts.f k a0 a1) (laws_sameInts.f (k + 1) a0 a1) := by
 intro a0 a1 k
 have ih0 := laws_sameInts.mono_l k
 unfold laws_sameInts.f
 repeat' first
   | (with_reducible exact ih0 _ _ _)
   | (with_reducible exact LeO.refl _)
   | (with_reducible exact LeO.none _)
   | (with_reducible refine LeO.ite ?_ ?_)
   | (with_reducible refine LeO.bind ?_ (fun _ => ?_))
   | exact ih0 _ _ _
   | exact LeO.none _
   | refine LeO.ite ?_ ?_
   | refine LeO.bind ?_ (fun _ => ?_)
set_option maxHeartbeats 8000000 in
set_option maxRecDepth 100000 in
theorem laws_sameInts.calls (k : Nat) (A0 : Option Addr) (c0 : Nat) (l0 : List Int) (A1 : Option Addr) (c1 : Nat) (l1 : List Int) (r : Bool) (w : World) (hr0 : Kd.C (Kd.int .i64) w A0 l0.length l0) (hc0 : l0.length ≤ c0) (hr1 : Kd.C (Kd.int .i64) w A1 l1.length l1) (hc1 : l1.length ≤ c1) (h : laws_sameInts.f k l0 l1 = some r) :
  Calls Tryd.prog 13 #[.slice A0 l0.length c0, .slice A1 l1.length c1] w fun e w' => e = .returned (.bool r) ∧ Drawn0 w w' := by
 have HR0 := Aside0.mk hr0
 have HC0 := Aside0.mk hc0
 clear hr0 hc0
 have HR1 := Aside0.mk hr1
 have HC1 := Aside0.mk hc1
 clear hr1 hc1
 have H : (if (l0.length : Int) = (l1.length : Int) then (laws_sameInts.l0 k l0 l1 0) else (some false)) = some r := h
 clear h
 by_cases c3 : (l0.length : Int) = (l1.length : Int)
 ·rw [if_pos c3] at H
  have c3b0 : ((l0.length : Int) == (l1.length : Int)) = true := beq_iff_eq.mpr c3
  have c3b1 : ((l0.length : Int) != (l1.length : Int)) = false := bne_eq_false_iff_eq.mpr c3
  have c3b2 : (l0.length == l1.length) = true := by first | simpa using c3 | (simp at c3 ⊢; omega)
  clear c3
  have H' := Aside0.mk H
  clear H
  go_enter Tryd.func13, Tryd.ntmps13
  go_wp2
  repeat (go_quiet (fail); try go_wp2)
  go_loopg [5] k (fun kq v5 w' => ∃ (x5_1 : Int), v5 = .int .i64 x5_1 ∧ Aside0 (laws_sameInts.l0 kq l0 l1 x5_1 = some r) ∧ Aside0 (kq ≤ k) ∧ Drawn0 w w')
  case atStart => exact ⟨(0), (by first | rfl | (simp; done) | (simp [*]; done)), H', ⟨Nat.le_refl _⟩, by repeat (first | exact Drawn0.refl _ | apply Drawn0.step)⟩
  case round =>
   clear H'
   try clear c1
   try clear p2
   try clear c3
   try clear c3b0
   try clear c3b1
   try clear c3b2
   obtain ⟨x5_1, rfl, HA, HK1, ⟨m1, rfl⟩⟩ := hrel
   cases gk with
   | zero => exact absurd HA.out (by simp [laws_sameInts.l0])
   | succ k1 =>
    have H := HA.out
    clear HA
    simp only [laws_sameInts.l0] at H
    by_cases c4 : x5_1 < (l0.length : Int)
    ·rw [if_pos c4] at H
     have c4b0 : decide (x5_1 < (l0.length : Int)) = true := decide_eq_true c4
     clear c4
     by_cases c5 : 0 ≤ x5_1
     ·rw [if_pos c5] at H
      have c5b0 : decide (0 ≤ x5_1) = true := decide_eq_true c5
      clear c5
      by_cases c6 : x5_1 < (l1.length : Int)
      ·rw [if_pos c6] at H
       have c6b0 : decide (x5_1 < (l1.length : Int)) = true := decide_eq_true c6
       clear c6
       by_cases c7 : (rd l0 x5_1) = (rd l1 x5_1)
       ·rw [if_pos c7] at H
        have c7b0 : ((rd l0 x5_1) == (rd l1 x5_1)) = true := beq_iff_eq.mpr c7
        have c7b1 : ((rd l0 x5_1) != (rd l1 x5_1)) = false := bne_eq_false_iff_eq.mpr c7
        clear c7
        have H' := Aside0.mk H
        clear H
        have p596 : 0 ≤ (x5_1 : Int) := of_decide_eq_true (by first | (with_reducible assumption) | assumption)
        have q596 : x5_1 < (l0.length : Int) := of_decide_eq_true (by first | (with_reducible assumption) | assumption)
        obtain ⟨ad596, e596, hx596_0⟩ := Kd.at_int HR0.out x5_1 p596 q596
        cases e596
        replace p596 := eq_true p596
        replace q596 := eq_true q596
        have p597 : 0 ≤ (x5_1 : Int) := of_decide_eq_true (by first | (with_reducible assumption) | assumption)
        have q597 : x5_1 < (l1.length : Int) := of_decide_eq_true (by first | (with_reducible assumption) | assumption)
        obtain ⟨ad597, e597, hx597_0⟩ := Kd.at_int HR1.out x5_1 p597 q597
        cases e597
        replace p597 := eq_true p597
        replace q597 := eq_true q597
        go_wp2
        repeat (go_quiet (fail); try go_wp2)
        go_roundg k1
        case measure => have := HK1.out; omega
        case rel => exact ⟨(wrap64 (x5_1 + 1)), (by first | rfl | (simp; done) | (simp [*]; done)), H', ⟨by have := HK1.out; omega⟩, by repeat (first | exact Drawn0.refl _ | apply Drawn0.step)⟩
       ·rw [if_neg c7] at H
        have c7b0 : ((rd l0 x5_1) == (rd l1 x5_1)) = false := beq_eq_false_iff_ne.mpr c7
        have c7b1 : ((rd l0 x5_1) != (rd l1 x5_1)) = true := bne_iff_ne.mpr c7
        obtain rfl := Option.some.inj H
        have p596 : 0 ≤ (x5_1 : Int) := of_decide_eq_true (by first | (with_reducible assumption) | assumption)
        have q596 : x5_1 < (l0.length : Int) := of_decide_eq_true (by first | (with_reducible assumption) | assumption)
        obtain ⟨ad596, e596, hx596_0⟩ := Kd.at_int HR0.out x5_1 p596 q596
        cases e596
        replace p596 := eq_true p596
        replace q596 := eq_true q596
        have p597 : 0 ≤ (x5_1 : Int) := of_decide_eq_true (by first | (with_reducible assumption) | assumption)
        have q597 : x5_1 < (l1.length : Int) := of_decide_eq_true (by first | (with_reducible assumption) | assumption)
        obtain ⟨ad597, e597, hx597_0⟩ := Kd.at_int HR1.out x5_1 p597 q597
        cases e597
        replace p597 := eq_true p597
        replace q597 := eq_true q597
        go_wp2
        repeat (go_quiet (fail); try go_wp2)
        go_ret
        exact ⟨by first | rfl | (simp; done) | (simp [*]; done), by repeat (first | exact Drawn0.refl _ | apply Drawn0.step)⟩
      ·rw [if_neg c6] at H
       exact absurd H (by simp)
     ·rw [if_neg c5] at H
      exact absurd H (by simp)
    ·rw [if_neg c4] at H
     have c4b0 : decide (x5_1 < (l0.length : Int)) = false := decide_eq_false c4
     clear c4
     obtain rfl := Option.some.inj H
     go_wp2
     repeat (go_quiet (fail); try go_wp2)
     go_ret
     exact ⟨by first | rfl | (simp; done) | (simp [*]; done), by repeat (first | exact Drawn0.refl _ | apply Drawn0.step)⟩
 ·rw [if_neg c3] at H
  have c3b0 : ((l0.length : Int) == (l1.length : Int)) = false := beq_eq_false_iff_ne.mpr c3
  have c3b1 : ((l0.length : Int) != (l1.length : Int)) = true := bne_iff_ne.mpr c3
  have c3b2 : (l0.length == l1.length) = false := by first | simpa using c3 | (simp at c3 ⊢; omega)
  obtain rfl := Option.some.inj H
  go_enter Tryd.func13, Tryd.ntmps13
  go_wp2
  repeat (go_quiet (fail); try go_wp2)
  go_ret
  exact ⟨by first | rfl | (simp; done) | (simp [*]; done), by repeat (first | exact Drawn0.refl _ | apply Drawn0.step)⟩


end Go.Proofs.YteljkpglgjjnlaaDoor.P
