-- Out of the translation, by this session's program over the printer's; Lean checks it.
import Derived.Test.YteljkpglgjjnlaaDoorSh
import Derived.Test.YteljkpglgjjnlaaDoorQ0
import Derived.Test.YteljkpglgjjnlaaDoorQ3
import Derived.Test.YteljkpglgjjnlaaDoorQ4
import Derived.Test.YteljkpglgjjnlaaDoorQ7
import Derived.Test.YteljkpglgjjnlaaDoorQ8
namespace Go.Proofs.YteljkpglgjjnlaaDoor.P
open Go.RowKit Go.Proofs.YteljkpglgjjnlaaDoorW.PrintWords Go.Proofs.YteljkpglgjjnlaaDoorW.PrintLast Go.Proofs.YteljkpglgjjnlaaDoorW.PrintMore
attribute [local go_sem] max2_int min2_int max_two min_two max_three min_three max_four min_four
set_option linter.unusedVariables false
set_option linter.unusedSimpArgs false

/-! ### spec_l2Any: function 35 -/
def spec_l2Any.f (k : Nat) (s0_0 : List Int) (s0_1 : Int) (s0_2 : Int) : Option (Int × Int × Int × Int) := (spec_l1Below.f s0_0 s0_1 s0_2 5).bind fun bt534 => ((spec_l2Draw.f k s0_0 bt534.2.1 bt534.2.2 bt534.1).bind fun bt537 => ((spec_l1Below.f s0_0 bt537.2.2.1 bt537.2.2.2 14).bind fun bt542 => (if bt542.1 = 0 then ((spec_l1PickInt.f s0_0 bt542.2.1 bt542.2.2 (([(-1), 6, 5, 0, 9223372036854775807] : List Int))).bind fun bt548 => (some (bt548.1, bt537.2.1, bt548.2.1, bt548.2.2))) else (if bt542.1 = 1 then ((spec_l1PickInt.f s0_0 bt542.2.1 bt542.2.2 (([(-1), 0, 1, 65536, 9223372036854775807] : List Int))).bind fun bt554 => (some (bt537.1, bt554.1, bt554.2.1, bt554.2.2))) else (some (bt537.1, bt537.2.1, bt542.2.1, bt542.2.2))))))
theorem spec_l2Any.mono : ∀ a0 a1 a2 k, LeO (spec_l2Any.f k a0 a1 a2) (spec_l2Any.f (k + 1) a0 a1 a2) := by
 intro a0 a1 a2 k
 unfold spec_l2Any.f
 repeat' first
   | (with_reducible exact spec_l2Draw.mono _ _ _ _ _)
   | (with_reducible exact LeO.refl _)
   | (with_reducible exact LeO.none _)
   | (with_reducible refine LeO.ite ?_ ?_)
   | (with_reducible refine LeO.bind ?_ (fun _ => ?_))
   | exact spec_l2Draw.mono _ _ _ _ _
   | exact LeO.none _
   | refine LeO.ite ?_ ?_
   | refine LeO.bind ?_ (fun _ => ?_)
set_option maxHeartbeats 8000000 in
set_option maxRecDepth 100000 in
theorem spec_l2Any.calls (k : Nat) (g : Nat) (s0_0 : List Int) (s0_1 : Int) (s0_2 : Int) (r1 : Int) (r2 : Int) (r3 : Int) (r4 : Int) (w0 w : World) (hI : IsS75 w0 w g s0_0 s0_1 s0_2) (hB : Below w0.heap.size w0 w) (h : spec_l2Any.f k s0_0 s0_1 s0_2 = some (r1, r2, r3, r4)) :
  Calls Tryd.prog 35 #[.pointer (some ⟨g, 0, none⟩)] w fun e w' => e = .returned (.agg #[.int .i64 r1, .int .i64 r2]) ∧ IsS75 w0 w' g s0_0 r3 r4 ∧ Below w0.heap.size w0 w' ∧ KeepBut w w' g none := by
 have hu23 := Tryd.underlying23
 have HI0 := Aside0.mk hI
 have HK := Aside0.mk (KeepBut.refl w g none)
 have HL := Aside0.mk hB.size
 clear hI
 have HW0 := Aside0.mk hB.size
 have HB := Aside0.mk hB
 clear hB
 have H : ((spec_l1Below.f s0_0 s0_1 s0_2 5).bind fun bt534 => ((spec_l2Draw.f k s0_0 bt534.2.1 bt534.2.2 bt534.1).bind fun bt537 => ((spec_l1Below.f s0_0 bt537.2.2.1 bt537.2.2.2 14).bind fun bt542 => (if bt542.1 = 0 then ((spec_l1PickInt.f s0_0 bt542.2.1 bt542.2.2 (([(-1), 6, 5, 0, 9223372036854775807] : List Int))).bind fun bt548 => (some (bt548.1, bt537.2.1, bt548.2.1, bt548.2.2))) else (if bt542.1 = 1 then ((spec_l1PickInt.f s0_0 bt542.2.1 bt542.2.2 (([(-1), 0, 1, 65536, 9223372036854775807] : List Int))).bind fun bt554 => (some (bt537.1, bt554.1, bt554.2.1, bt554.2.2))) else (some (bt537.1, bt537.2.1, bt542.2.1, bt542.2.2))))))) = some (r1, r2, r3, r4) := h
 clear h
 replace H := Option.bind_eq_some_iff.mp H
 obtain ⟨⟨t534, t535, t536⟩, A20, H⟩ := H
 dsimp only at H
 have A2 := Aside0.mk A20
 clear A20
 replace H := Option.bind_eq_some_iff.mp H
 obtain ⟨⟨t537, t538, t539, t540⟩, A30, H⟩ := H
 dsimp only at H
 have A3 := Aside0.mk A30
 clear A30
 replace H := Option.bind_eq_some_iff.mp H
 obtain ⟨⟨t542, t543, t544⟩, A40, H⟩ := H
 dsimp only at H
 have A4 := Aside0.mk A40
 clear A40
 by_cases c5 : t542 = 0
 ·rw [if_pos c5] at H
  have c5b0 : (t542 == 0) = true := beq_iff_eq.mpr c5
  have c5b1 : (t542 != 0) = false := bne_eq_false_iff_eq.mpr c5
  clear c5
  obtain ⟨y545, hy545⟩ : ∃ y_ : List Int, y_ = (([(-1), 6, 5, 0, 9223372036854775807] : List Int)) := ⟨_, rfl⟩
  replace H : ((spec_l1PickInt.f s0_0 t543 t544 y545).bind fun bt548 => (some (bt548.1, t538, bt548.2.1, bt548.2.2))) = some (r1, r2, r3, r4) := by first | (rw [hy545]; with_reducible exact H) | (have H2_ := (Option.bind_some _ _).symm.trans H; rw [hy545]; with_reducible exact H2_) | (have H2_ := (Option.bind_some _ _).symm.trans H; with_reducible exact H2_) | with_reducible exact H | (rw [hy545]; exact H) | exact H
  have Ny545 := Aside0.mk hy545
  clear hy545
  replace H := Option.bind_eq_some_iff.mp H
  obtain ⟨⟨t548, t549, t550⟩, A60, H⟩ := H
  replace H : (some (t548, t538, t549, t550)) = some (r1, r2, r3, r4) := H
  have A6 := Aside0.mk A60
  clear A60
  simp only [Option.some.injEq, Prod.mk.injEq] at H
  obtain ⟨rfl, rfl, rfl, rfl⟩ := H
  go_enter Tryd.func35, Tryd.ntmps35
  go_wp2_with (first | ((with_reducible refine gate_dst (N := 2) rfl ?_); refine bx_ 2 #[.int .i64 0, .int .i64 0] 23 ?_; intro gb533 hg w7 hbox hb; replace HB := Aside0.mk (below_step (bi_ HB HI0) hb); have BK533 := Aside0.mk (hbox); have GW533 := Aside0.mk ((by rw [hg]; exact (keep_size (w := w) (g := g) (row := none) (ka_ HK)) : w.heap.size ≤ gb533)); have GE533 := Aside0.mk ((Nat.le_trans HW0.out (by rw [hg]; exact (keep_size (w := w) (g := g) (row := none) (ka_ HK)) : w.heap.size ≤ gb533) : w0.heap.size ≤ gb533)); replace HK := Aside0.mk (KeepBut.trans (ka_ HK) (KeepBut.of_below hb g none) (.inl rfl)); have NB0_533 := Aside0.mk ((by rw [hg]; exact Nat.ne_of_lt (IsS75.lt (show IsS75 w0 _ g s0_0 s0_1 s0_2 from ia_ HI0)) : g ≠ gb533)); have NB533_0 := Aside0.mk ((by rw [hg]; exact Nat.ne_of_gt (IsS75.lt (show IsS75 w0 _ g s0_0 s0_1 s0_2 from ia_ HI0)) : gb533 ≠ g)); replace HI0 := Aside0.mk (IsS75.below (ia_ HI0) hb); clear hb hbox hg) | ((with_reducible refine gate_callee (f := 54) rfl ?_); refine gl_ 6 Tryd.func54 #[.pointer (some ⟨g, 0, none⟩), .int .i64 5] rfl mp_ ?_; (with_reducible refine (spec_l1Below.calls g s0_0 s0_1 s0_2 5 t534 t535 t536 w0 _ ?side1 ?side2 A2.out).mono ?_); (case side1 => exact ia1_ HI0 NB0_533); (case side2 => exact bi1_ HB HI0 GE533); rintro e w8 ⟨rfl, hi, hb, hk⟩; refine ⟨_, rfl, ?_⟩; replace BK533 := Aside0.mk (KeepBut.blk hk (g' := gb533) (o := .cells #[.int .i64 0, .int .i64 0] 23 (0, 0)) (kv_ BK533) NB533_0.out (by simp)); replace HK := Aside0.mk (KeepBut.trans (ka1_ HK GW533) hk (.inl rfl)); replace HB := Aside0.mk (hb); replace HI0 := Aside0.mk (hi); (try clear hb); (try clear hb2); (try clear hk); (try clear hi)) | ((with_reducible refine gate_callee (f := 62) rfl ?_); refine gl_ 7 Tryd.func62 #[.pointer (some ⟨g, 0, none⟩), .int .i64 t534] rfl mp_ ?_; (with_reducible refine (spec_l2Draw.calls k g s0_0 t535 t536 t534 t537 t538 t539 t540 w0 _ ?side1 ?side2 A3.out).mono ?_); (case side1 => exact ia1_ HI0 NB0_533); (case side2 => exact bi1_ HB HI0 GE533); rintro e w9 ⟨rfl, hi, hb, hk⟩; refine ⟨_, rfl, ?_⟩; replace BK533 := Aside0.mk (KeepBut.blk hk (g' := gb533) (o := .cells #[.int .i64 0, .int .i64 0] 23 (0, 0)) (kv_ BK533) NB533_0.out (by simp)); replace HK := Aside0.mk (KeepBut.trans (ka1_ HK GW533) hk (.inl rfl)); replace HB := Aside0.mk (hb); replace HI0 := Aside0.mk (hi); (try clear hb); (try clear hb2); (try clear hk); (try clear hi)) | ((with_reducible refine gate_dst (N := 3) rfl ?_); refine bx_ 3 #[.int .i64 0, .int .i64 0] 23 ?_; intro gb541 hg w10 hbox hb; replace HB := Aside0.mk (below_step (bi1_ HB HI0 GE533) hb); have BK541 := Aside0.mk (hbox); have GW541 := Aside0.mk ((by rw [hg]; exact (keep_size (w := w) (g := g) (row := none) (ka1_ HK GW533)) : w.heap.size ≤ gb541)); have GE541 := Aside0.mk ((Nat.le_trans HW0.out (by rw [hg]; exact (keep_size (w := w) (g := g) (row := none) (ka1_ HK GW533)) : w.heap.size ≤ gb541) : w0.heap.size ≤ gb541)); replace HK := Aside0.mk (KeepBut.trans (ka1_ HK GW533) (KeepBut.of_below hb g none) (.inl rfl)); have NB533_541 := nb_ hg (blk_lt (g := gb533) (o := .cells #[.int .i64 0, .int .i64 0] 23 (0, 0)) (kv_ BK533)); have NB541_533 := nc_ hg (blk_lt (g := gb533) (o := .cells #[.int .i64 0, .int .i64 0] 23 (0, 0)) (kv_ BK533)); replace BK533 := kb_ BK533 hb; have NB0_541 := Aside0.mk ((by rw [hg]; exact Nat.ne_of_lt (IsS75.lt (show IsS75 w0 _ g s0_0 t539 t540 from ia1_ HI0 NB0_533)) : g ≠ gb541)); have NB541_0 := Aside0.mk ((by rw [hg]; exact Nat.ne_of_gt (IsS75.lt (show IsS75 w0 _ g s0_0 t539 t540 from ia1_ HI0 NB0_533)) : gb541 ≠ g)); replace HI0 := Aside0.mk (IsS75.below (ia1_ HI0 NB0_533) hb); clear hb hbox hg; have hnb11 := NB541_533.out; have hnc11 := NB533_541.out; have hnb12 := NB541_0.out; have hnc12 := NB0_541.out; obtain ⟨hcz13_0, hcz13_1, hfz13_0, hfz13_1⟩ := c2_ BK541) | ((with_reducible refine gate_callee (f := 54) rfl ?_); refine gl_ 9 Tryd.func54 #[.pointer (some ⟨g, 0, none⟩), .int .i64 14] rfl mp_ ?_; (with_reducible refine (spec_l1Below.calls g s0_0 t539 t540 14 t542 t543 t544 w0 _ ?side1 ?side2 A4.out).mono ?_); (case side1 => exact ia2_ HI0 NB0_533 NB0_541); (case side2 => exact bi2_ HB HI0 GE533 GE541); rintro e w14 ⟨rfl, hi, hb, hk⟩; refine ⟨_, rfl, ?_⟩; replace BK533 := Aside0.mk (KeepBut.blk hk (g' := gb533) (o := .cells #[.int .i64 0, .int .i64 0] 23 (0, 0)) (by (with_reducible repeat (first | refine blk_drewN ?_ _ | refine blk_drew ?_ | refine blk_alloc ?_ _)); refine blk_far ?_ NB533_541.out _; (with_reducible repeat (first | refine blk_drewN ?_ _ | refine blk_drew ?_ | refine blk_alloc ?_ _)); refine blk_far ?_ NB533_541.out _; (with_reducible repeat (first | refine blk_drewN ?_ _ | refine blk_drew ?_ | refine blk_alloc ?_ _)); exact BK533.out) NB533_0.out (by simp)); replace BK541 := Aside0.mk (KeepBut.blk hk (g' := gb541) (o := .cells #[.int .i64 t537, .int .i64 t538] 23 (0, 0)) (by (with_reducible repeat (first | refine blk_drewN ?_ _ | refine blk_drew ?_ | refine blk_alloc ?_ _)); refine blk_put (cs := #[.int .i64 t537, .int .i64 0]) ?_ 1 _ rfl; (with_reducible repeat (first | refine blk_drewN ?_ _ | refine blk_drew ?_ | refine blk_alloc ?_ _)); refine blk_put (cs := #[.int .i64 0, .int .i64 0]) ?_ 0 _ rfl; (with_reducible repeat (first | refine blk_drewN ?_ _ | refine blk_drew ?_ | refine blk_alloc ?_ _)); exact BK541.out) NB541_0.out (by simp)); replace HK := Aside0.mk (KeepBut.trans (ka2_ HK GW533 GW541) hk (.inl rfl)); replace HB := Aside0.mk (hb); replace HI0 := Aside0.mk (hi); (try clear hb); (try clear hb2); (try clear hk); (try clear hi)) | ((with_reducible refine gate_dst (N := 13) rfl ?_); refine Kd.R_lit (Kd.int .i64) _ 3 ?hg (N := 13) ?hd (xs := ([(-1), 6, 5, 0, 9223372036854775807] : List Int)) (inner := [.int .i64 (-1), .int .i64 6, .int .i64 5, .int .i64 0, .int .i64 9223372036854775807]) (ok := fun _ => True) (okp := fun _ => True) ?hr ?hp (fun _ hk => hk) trivial (Below.refl _ _) (Nat.le_refl _) (by simp) ?_; (case hd => rfl); (case hg => rfl); (case hr => first | (go_simp; done) | (go_simp; rfl)); (case hp => exact (Reps.one (show Kd.M (Kd.int .i64) _ _ _ (-1) [.int .i64 (-1)] from rfl) (Reps.one (show Kd.M (Kd.int .i64) _ _ _ 6 [.int .i64 6] from rfl) (Reps.one (show Kd.M (Kd.int .i64) _ _ _ 5 [.int .i64 5] from rfl) (Reps.one (show Kd.M (Kd.int .i64) _ _ _ 0 [.int .i64 0] from rfl) (Reps.one (show Kd.M (Kd.int .i64) _ _ _ 9223372036854775807 [.int .i64 9223372036854775807] from rfl) (Reps.none _ _))))))); intro v546 w15 ho16 hb hg_ hnew_; clear hg_ hnew_; (first | rw [← Ny545.out] at ho16 | (simp only [Int.reduceToNat] at ho16; rw [← Ny545.out] at ho16)); have HO547 := Aside0.mk (Kd.R_lower ho16 (keep_size (w := w) (g := g) (row := none) (ka2_ HK GW533 GW541))); replace BK533 := kb_ BK533 hb; replace BK541 := kb_ BK541 hb; replace HK := Aside0.mk (KeepBut.trans (ka2_ HK GW533 GW541) (KeepBut.of_below hb g none) (.inl rfl)); replace HB := Aside0.mk (below_step (bi2_ HB HI0 GE533 GE541) hb); replace HI0 := Aside0.mk (IsS75.below (ia2_ HI0 NB0_533 NB0_541) hb); clear hb ho16; obtain ⟨Ao17, co17, eo17⟩ := Kd.R_slice HO547.out; subst eo17) | ((with_reducible refine gate_callee (f := 53) rfl ?_); refine gl_ 14 Tryd.func53 #[.pointer (some ⟨g, 0, none⟩), .slice Ao17 y545.length co17] rfl mp_ ?_; (with_reducible refine (spec_l1PickInt.calls g s0_0 t543 t544 _ _ y545 t548 t549 t550 w0 _ ?side1 ?side2 ?side3 ?side4 ?side5 A6.out).mono ?_); (case side1 => exact ia2_ HI0 NB0_533 NB0_541); (case side2 => exact bi2_ HB HI0 GE533 GE541); (case side3 => repeat (first | exact (Kd.R_reads' HO547.out).2.2 | (with_reducible refine Kd.C_alloc ?_ _) | (with_reducible refine Kd.C_drewN ?_ _) | (with_reducible refine Kd.C_drew ?_))); (case side4 => exact (Kd.R_reads' HO547.out).2.1); (case side5 => exact far_slice (IsS75.own_ne HI0.out HO547.out (by decide))); rintro e w18 ⟨rfl, hi, hb, hk⟩; refine ⟨_, rfl, ?_⟩; replace BK533 := Aside0.mk (KeepBut.blk hk (g' := gb533) (o := .cells #[.int .i64 0, .int .i64 0] 23 (0, 0)) (kv_ BK533) NB533_0.out (by simp)); replace BK541 := Aside0.mk (KeepBut.blk hk (g' := gb541) (o := .cells #[.int .i64 t537, .int .i64 t538] 23 (0, 0)) (kv_ BK541) NB541_0.out (by simp)); replace HO547 := Aside0.mk (Kd.R_mono (Kd.R_keep (IsS75.apart (show IsS75 w0 _ g s0_0 t543 t544 from ia2_ HI0 NB0_533 NB0_541) (rv_ HO547) (by decide)) hk (fun _ h => h.2)) (fun _ h => h.1)); replace HK := Aside0.mk (KeepBut.trans (ka2_ HK GW533 GW541) hk (.inl rfl)); replace HB := Aside0.mk (hb); replace HI0 := Aside0.mk (hi); (try clear hb); (try clear hb2); (try clear hk); (try clear hi); obtain ⟨hcz19_0, hcz19_1, hfz19_0, hfz19_1⟩ := c2_ BK541; have hnb20 := NB533_0.out; have hnc20 := NB0_533.out; obtain ⟨hcz21_0, hcz21_1, hfz21_0, hfz21_1⟩ := c2_ BK533))
  refine bodyPost_ret (results_cell_row rfl _ _ gb533 23 #[.int .i64 t548, .int .i64 t538] (0, 0) _ rfl (by (with_reducible repeat (first | refine blk_drewN ?_ _ | refine blk_drew ?_ | refine blk_alloc ?_ _)); refine blk_put (cs := #[.int .i64 t548, .int .i64 0]) ?_ 1 _ rfl; (with_reducible repeat (first | refine blk_drewN ?_ _ | refine blk_drew ?_ | refine blk_alloc ?_ _)); refine blk_put (cs := #[.int .i64 0, .int .i64 0]) ?_ 0 _ rfl; (with_reducible repeat (first | refine blk_drewN ?_ _ | refine blk_drew ?_ | refine blk_alloc ?_ _)); refine blk_far ?_ NB533_541.out _; (with_reducible repeat (first | refine blk_drewN ?_ _ | refine blk_drew ?_ | refine blk_alloc ?_ _)); exact BK533.out) Tryd.underlying23 rfl (by kernel_rfl)) rfl ?_
  exact ⟨er_, ia2_ HI0 NB0_533 NB0_541, bi2_ HB HI0 GE533 GE541, ka2_ HK GW533 GW541⟩
 ·rw [if_neg c5] at H
  have c5b0 : (t542 == 0) = false := beq_eq_false_iff_ne.mpr c5
  have c5b1 : (t542 != 0) = true := bne_iff_ne.mpr c5
  by_cases c22 : t542 = 1
  ·rw [if_pos c22] at H
   have c22b0 : (t542 == 1) = true := beq_iff_eq.mpr c22
   have c22b1 : (t542 != 1) = false := bne_eq_false_iff_eq.mpr c22
   clear c22
   obtain ⟨y551, hy551⟩ : ∃ y_ : List Int, y_ = (([(-1), 0, 1, 65536, 9223372036854775807] : List Int)) := ⟨_, rfl⟩
   replace H : ((spec_l1PickInt.f s0_0 t543 t544 y551).bind fun bt554 => (some (t537, bt554.1, bt554.2.1, bt554.2.2))) = some (r1, r2, r3, r4) := by first | (rw [hy551]; with_reducible exact H) | (have H2_ := (Option.bind_some _ _).symm.trans H; rw [hy551]; with_reducible exact H2_) | (have H2_ := (Option.bind_some _ _).symm.trans H; with_reducible exact H2_) | with_reducible exact H | (rw [hy551]; exact H) | exact H
   have Ny551 := Aside0.mk hy551
   clear hy551
   replace H := Option.bind_eq_some_iff.mp H
   obtain ⟨⟨t554, t555, t556⟩, A230, H⟩ := H
   replace H : (some (t537, t554, t555, t556)) = some (r1, r2, r3, r4) := H
   have A23 := Aside0.mk A230
   clear A230
   simp only [Option.some.injEq, Prod.mk.injEq] at H
   obtain ⟨rfl, rfl, rfl, rfl⟩ := H
   go_enter Tryd.func35, Tryd.ntmps35
   go_wp2_with (first | ((with_reducible refine gate_dst (N := 2) rfl ?_); refine bx_ 2 #[.int .i64 0, .int .i64 0] 23 ?_; intro gb533 hg w24 hbox hb; replace HB := Aside0.mk (below_step (bi_ HB HI0) hb); have BK533 := Aside0.mk (hbox); have GW533 := Aside0.mk ((by rw [hg]; exact (keep_size (w := w) (g := g) (row := none) (ka_ HK)) : w.heap.size ≤ gb533)); have GE533 := Aside0.mk ((Nat.le_trans HW0.out (by rw [hg]; exact (keep_size (w := w) (g := g) (row := none) (ka_ HK)) : w.heap.size ≤ gb533) : w0.heap.size ≤ gb533)); replace HK := Aside0.mk (KeepBut.trans (ka_ HK) (KeepBut.of_below hb g none) (.inl rfl)); have NB0_533 := Aside0.mk ((by rw [hg]; exact Nat.ne_of_lt (IsS75.lt (show IsS75 w0 _ g s0_0 s0_1 s0_2 from ia_ HI0)) : g ≠ gb533)); have NB533_0 := Aside0.mk ((by rw [hg]; exact Nat.ne_of_gt (IsS75.lt (show IsS75 w0 _ g s0_0 s0_1 s0_2 from ia_ HI0)) : gb533 ≠ g)); replace HI0 := Aside0.mk (IsS75.below (ia_ HI0) hb); clear hb hbox hg) | ((with_reducible refine gate_callee (f := 54) rfl ?_); refine gl_ 6 Tryd.func54 #[.pointer (some ⟨g, 0, none⟩), .int .i64 5] rfl mp_ ?_; (with_reducible refine (spec_l1Below.calls g s0_0 s0_1 s0_2 5 t534 t535 t536 w0 _ ?side1 ?side2 A2.out).mono ?_); (case side1 => exact ia1_ HI0 NB0_533); (case side2 => exact bi1_ HB HI0 GE533); rintro e w25 ⟨rfl, hi, hb, hk⟩; refine ⟨_, rfl, ?_⟩; replace BK533 := Aside0.mk (KeepBut.blk hk (g' := gb533) (o := .cells #[.int .i64 0, .int .i64 0] 23 (0, 0)) (kv_ BK533) NB533_0.out (by simp)); replace HK := Aside0.mk (KeepBut.trans (ka1_ HK GW533) hk (.inl rfl)); replace HB := Aside0.mk (hb); replace HI0 := Aside0.mk (hi); (try clear hb); (try clear hb2); (try clear hk); (try clear hi)) | ((with_reducible refine gate_callee (f := 62) rfl ?_); refine gl_ 7 Tryd.func62 #[.pointer (some ⟨g, 0, none⟩), .int .i64 t534] rfl mp_ ?_; (with_reducible refine (spec_l2Draw.calls k g s0_0 t535 t536 t534 t537 t538 t539 t540 w0 _ ?side1 ?side2 A3.out).mono ?_); (case side1 => exact ia1_ HI0 NB0_533); (case side2 => exact bi1_ HB HI0 GE533); rintro e w26 ⟨rfl, hi, hb, hk⟩; refine ⟨_, rfl, ?_⟩; replace BK533 := Aside0.mk (KeepBut.blk hk (g' := gb533) (o := .cells #[.int .i64 0, .int .i64 0] 23 (0, 0)) (kv_ BK533) NB533_0.out (by simp)); replace HK := Aside0.mk (KeepBut.trans (ka1_ HK GW533) hk (.inl rfl)); replace HB := Aside0.mk (hb); replace HI0 := Aside0.mk (hi); (try clear hb); (try clear hb2); (try clear hk); (try clear hi)) | ((with_reducible refine gate_dst (N := 3) rfl ?_); refine bx_ 3 #[.int .i64 0, .int .i64 0] 23 ?_; intro gb541 hg w27 hbox hb; replace HB := Aside0.mk (below_step (bi1_ HB HI0 GE533) hb); have BK541 := Aside0.mk (hbox); have GW541 := Aside0.mk ((by rw [hg]; exact (keep_size (w := w) (g := g) (row := none) (ka1_ HK GW533)) : w.heap.size ≤ gb541)); have GE541 := Aside0.mk ((Nat.le_trans HW0.out (by rw [hg]; exact (keep_size (w := w) (g := g) (row := none) (ka1_ HK GW533)) : w.heap.size ≤ gb541) : w0.heap.size ≤ gb541)); replace HK := Aside0.mk (KeepBut.trans (ka1_ HK GW533) (KeepBut.of_below hb g none) (.inl rfl)); have NB533_541 := nb_ hg (blk_lt (g := gb533) (o := .cells #[.int .i64 0, .int .i64 0] 23 (0, 0)) (kv_ BK533)); have NB541_533 := nc_ hg (blk_lt (g := gb533) (o := .cells #[.int .i64 0, .int .i64 0] 23 (0, 0)) (kv_ BK533)); replace BK533 := kb_ BK533 hb; have NB0_541 := Aside0.mk ((by rw [hg]; exact Nat.ne_of_lt (IsS75.lt (show IsS75 w0 _ g s0_0 t539 t540 from ia1_ HI0 NB0_533)) : g ≠ gb541)); have NB541_0 := Aside0.mk ((by rw [hg]; exact Nat.ne_of_gt (IsS75.lt (show IsS75 w0 _ g s0_0 t539 t540 from ia1_ HI0 NB0_533)) : gb541 ≠ g)); replace HI0 := Aside0.mk (IsS75.below (ia1_ HI0 NB0_533) hb); clear hb hbox hg; have hnb28 := NB541_533.out; have hnc28 := NB533_541.out; have hnb29 := NB541_0.out; have hnc29 := NB0_541.out; obtain ⟨hcz30_0, hcz30_1, hfz30_0, hfz30_1⟩ := c2_ BK541) | ((with_reducible refine gate_callee (f := 54) rfl ?_); refine gl_ 9 Tryd.func54 #[.pointer (some ⟨g, 0, none⟩), .int .i64 14] rfl mp_ ?_; (with_reducible refine (spec_l1Below.calls g s0_0 t539 t540 14 t542 t543 t544 w0 _ ?side1 ?side2 A4.out).mono ?_); (case side1 => exact ia2_ HI0 NB0_533 NB0_541); (case side2 => exact bi2_ HB HI0 GE533 GE541); rintro e w31 ⟨rfl, hi, hb, hk⟩; refine ⟨_, rfl, ?_⟩; replace BK533 := Aside0.mk (KeepBut.blk hk (g' := gb533) (o := .cells #[.int .i64 0, .int .i64 0] 23 (0, 0)) (by (with_reducible repeat (first | refine blk_drewN ?_ _ | refine blk_drew ?_ | refine blk_alloc ?_ _)); refine blk_far ?_ NB533_541.out _; (with_reducible repeat (first | refine blk_drewN ?_ _ | refine blk_drew ?_ | refine blk_alloc ?_ _)); refine blk_far ?_ NB533_541.out _; (with_reducible repeat (first | refine blk_drewN ?_ _ | refine blk_drew ?_ | refine blk_alloc ?_ _)); exact BK533.out) NB533_0.out (by simp)); replace BK541 := Aside0.mk (KeepBut.blk hk (g' := gb541) (o := .cells #[.int .i64 t537, .int .i64 t538] 23 (0, 0)) (by (with_reducible repeat (first | refine blk_drewN ?_ _ | refine blk_drew ?_ | refine blk_alloc ?_ _)); refine blk_put (cs := #[.int .i64 t537, .int .i64 0]) ?_ 1 _ rfl; (with_reducible repeat (first | refine blk_drewN ?_ _ | refine blk_drew ?_ | refine blk_alloc ?_ _)); refine blk_put (cs := #[.int .i64 0, .int .i64 0]) ?_ 0 _ rfl; (with_reducible repeat (first | refine blk_drewN ?_ _ | refine blk_drew ?_ | refine blk_alloc ?_ _)); exact BK541.out) NB541_0.out (by simp)); replace HK := Aside0.mk (KeepBut.trans (ka2_ HK GW533 GW541) hk (.inl rfl)); replace HB := Aside0.mk (hb); replace HI0 := Aside0.mk (hi); (try clear hb); (try clear hb2); (try clear hk); (try clear hi)) | ((with_reducible refine gate_dst (N := 19) rfl ?_); refine Kd.R_lit (Kd.int .i64) _ 3 ?hg (N := 19) ?hd (xs := ([(-1), 0, 1, 65536, 9223372036854775807] : List Int)) (inner := [.int .i64 (-1), .int .i64 0, .int .i64 1, .int .i64 65536, .int .i64 9223372036854775807]) (ok := fun _ => True) (okp := fun _ => True) ?hr ?hp (fun _ hk => hk) trivial (Below.refl _ _) (Nat.le_refl _) (by simp) ?_; (case hd => rfl); (case hg => rfl); (case hr => first | (go_simp; done) | (go_simp; rfl)); (case hp => exact (Reps.one (show Kd.M (Kd.int .i64) _ _ _ (-1) [.int .i64 (-1)] from rfl) (Reps.one (show Kd.M (Kd.int .i64) _ _ _ 0 [.int .i64 0] from rfl) (Reps.one (show Kd.M (Kd.int .i64) _ _ _ 1 [.int .i64 1] from rfl) (Reps.one (show Kd.M (Kd.int .i64) _ _ _ 65536 [.int .i64 65536] from rfl) (Reps.one (show Kd.M (Kd.int .i64) _ _ _ 9223372036854775807 [.int .i64 9223372036854775807] from rfl) (Reps.none _ _))))))); intro v552 w32 ho33 hb hg_ hnew_; clear hg_ hnew_; (first | rw [← Ny551.out] at ho33 | (simp only [Int.reduceToNat] at ho33; rw [← Ny551.out] at ho33)); have HO553 := Aside0.mk (Kd.R_lower ho33 (keep_size (w := w) (g := g) (row := none) (ka2_ HK GW533 GW541))); replace BK533 := kb_ BK533 hb; replace BK541 := kb_ BK541 hb; replace HK := Aside0.mk (KeepBut.trans (ka2_ HK GW533 GW541) (KeepBut.of_below hb g none) (.inl rfl)); replace HB := Aside0.mk (below_step (bi2_ HB HI0 GE533 GE541) hb); replace HI0 := Aside0.mk (IsS75.below (ia2_ HI0 NB0_533 NB0_541) hb); clear hb ho33; obtain ⟨Ao34, co34, eo34⟩ := Kd.R_slice HO553.out; subst eo34) | ((with_reducible refine gate_callee (f := 53) rfl ?_); refine gl_ 20 Tryd.func53 #[.pointer (some ⟨g, 0, none⟩), .slice Ao34 y551.length co34] rfl mp_ ?_; (with_reducible refine (spec_l1PickInt.calls g s0_0 t543 t544 _ _ y551 t554 t555 t556 w0 _ ?side1 ?side2 ?side3 ?side4 ?side5 A23.out).mono ?_); (case side1 => exact ia2_ HI0 NB0_533 NB0_541); (case side2 => exact bi2_ HB HI0 GE533 GE541); (case side3 => repeat (first | exact (Kd.R_reads' HO553.out).2.2 | (with_reducible refine Kd.C_alloc ?_ _) | (with_reducible refine Kd.C_drewN ?_ _) | (with_reducible refine Kd.C_drew ?_))); (case side4 => exact (Kd.R_reads' HO553.out).2.1); (case side5 => exact far_slice (IsS75.own_ne HI0.out HO553.out (by decide))); rintro e w35 ⟨rfl, hi, hb, hk⟩; refine ⟨_, rfl, ?_⟩; replace BK533 := Aside0.mk (KeepBut.blk hk (g' := gb533) (o := .cells #[.int .i64 0, .int .i64 0] 23 (0, 0)) (kv_ BK533) NB533_0.out (by simp)); replace BK541 := Aside0.mk (KeepBut.blk hk (g' := gb541) (o := .cells #[.int .i64 t537, .int .i64 t538] 23 (0, 0)) (kv_ BK541) NB541_0.out (by simp)); replace HO553 := Aside0.mk (Kd.R_mono (Kd.R_keep (IsS75.apart (show IsS75 w0 _ g s0_0 t543 t544 from ia2_ HI0 NB0_533 NB0_541) (rv_ HO553) (by decide)) hk (fun _ h => h.2)) (fun _ h => h.1)); replace HK := Aside0.mk (KeepBut.trans (ka2_ HK GW533 GW541) hk (.inl rfl)); replace HB := Aside0.mk (hb); replace HI0 := Aside0.mk (hi); (try clear hb); (try clear hb2); (try clear hk); (try clear hi); obtain ⟨hcz36_0, hcz36_1, hfz36_0, hfz36_1⟩ := c2_ BK541; have hnb37 := NB533_0.out; have hnc37 := NB0_533.out; obtain ⟨hcz38_0, hcz38_1, hfz38_0, hfz38_1⟩ := c2_ BK533))
   refine bodyPost_ret (results_cell_row rfl _ _ gb533 23 #[.int .i64 t537, .int .i64 t554] (0, 0) _ rfl (by (with_reducible repeat (first | refine blk_drewN ?_ _ | refine blk_drew ?_ | refine blk_alloc ?_ _)); refine blk_put (cs := #[.int .i64 t537, .int .i64 0]) ?_ 1 _ rfl; (with_reducible repeat (first | refine blk_drewN ?_ _ | refine blk_drew ?_ | refine blk_alloc ?_ _)); refine blk_put (cs := #[.int .i64 0, .int .i64 0]) ?_ 0 _ rfl; (with_reducible repeat (first | refine blk_drewN ?_ _ | refine blk_drew ?_ | refine blk_alloc ?_ _)); refine blk_far ?_ NB533_541.out _; (with_reducible repeat (first | refine blk_drewN ?_ _ | refine blk_drew ?_ | refine blk_alloc ?_ _)); exact BK533.out) Tryd.underlying23 rfl (by kernel_rfl)) rfl ?_
   exact ⟨er_, ia2_ HI0 NB0_533 NB0_541, bi2_ HB HI0 GE533 GE541, ka2_ HK GW533 GW541⟩
  ·rw [if_neg c22] at H
   have c22b0 : (t542 == 1) = false := beq_eq_false_iff_ne.mpr c22
   have c22b1 : (t542 != 1) = true := bne_iff_ne.mpr c22
   simp only [Option.some.injEq, Prod.mk.injEq] at H
   obtain ⟨rfl, rfl, rfl, rfl⟩ := H
   go_enter Tryd.func35, Tryd.ntmps35
   go_wp2_with (first | ((with_reducible refine gate_dst (N := 2) rfl ?_); refine bx_ 2 #[.int .i64 0, .int .i64 0] 23 ?_; intro gb533 hg w39 hbox hb; replace HB := Aside0.mk (below_step (bi_ HB HI0) hb); have BK533 := Aside0.mk (hbox); have GW533 := Aside0.mk ((by rw [hg]; exact (keep_size (w := w) (g := g) (row := none) (ka_ HK)) : w.heap.size ≤ gb533)); have GE533 := Aside0.mk ((Nat.le_trans HW0.out (by rw [hg]; exact (keep_size (w := w) (g := g) (row := none) (ka_ HK)) : w.heap.size ≤ gb533) : w0.heap.size ≤ gb533)); replace HK := Aside0.mk (KeepBut.trans (ka_ HK) (KeepBut.of_below hb g none) (.inl rfl)); have NB0_533 := Aside0.mk ((by rw [hg]; exact Nat.ne_of_lt (IsS75.lt (show IsS75 w0 _ g s0_0 s0_1 s0_2 from ia_ HI0)) : g ≠ gb533)); have NB533_0 := Aside0.mk ((by rw [hg]; exact Nat.ne_of_gt (IsS75.lt (show IsS75 w0 _ g s0_0 s0_1 s0_2 from ia_ HI0)) : gb533 ≠ g)); replace HI0 := Aside0.mk (IsS75.below (ia_ HI0) hb); clear hb hbox hg) | ((with_reducible refine gate_callee (f := 54) rfl ?_); refine gl_ 6 Tryd.func54 #[.pointer (some ⟨g, 0, none⟩), .int .i64 5] rfl mp_ ?_; (with_reducible refine (spec_l1Below.calls g s0_0 s0_1 s0_2 5 t534 t535 t536 w0 _ ?side1 ?side2 A2.out).mono ?_); (case side1 => exact ia1_ HI0 NB0_533); (case side2 => exact bi1_ HB HI0 GE533); rintro e w40 ⟨rfl, hi, hb, hk⟩; refine ⟨_, rfl, ?_⟩; replace BK533 := Aside0.mk (KeepBut.blk hk (g' := gb533) (o := .cells #[.int .i64 0, .int .i64 0] 23 (0, 0)) (kv_ BK533) NB533_0.out (by simp)); replace HK := Aside0.mk (KeepBut.trans (ka1_ HK GW533) hk (.inl rfl)); replace HB := Aside0.mk (hb); replace HI0 := Aside0.mk (hi); (try clear hb); (try clear hb2); (try clear hk); (try clear hi)) | ((with_reducible refine gate_callee (f := 62) rfl ?_); refine gl_ 7 Tryd.func62 #[.pointer (some ⟨g, 0, none⟩), .int .i64 t534] rfl mp_ ?_; (with_reducible refine (spec_l2Draw.calls k g s0_0 t535 t536 t534 t537 t538 t539 t540 w0 _ ?side1 ?side2 A3.out).mono ?_); (case side1 => exact ia1_ HI0 NB0_533); (case side2 => exact bi1_ HB HI0 GE533); rintro e w41 ⟨rfl, hi, hb, hk⟩; refine ⟨_, rfl, ?_⟩; replace BK533 := Aside0.mk (KeepBut.blk hk (g' := gb533) (o := .cells #[.int .i64 0, .int .i64 0] 23 (0, 0)) (kv_ BK533) NB533_0.out (by simp)); replace HK := Aside0.mk (KeepBut.trans (ka1_ HK GW533) hk (.inl rfl)); replace HB := Aside0.mk (hb); replace HI0 := Aside0.mk (hi); (try clear hb); (try clear hb2); (try clear hk); (try clear hi)) | ((with_reducible refine gate_dst (N := 3) rfl ?_); refine bx_ 3 #[.int .i64 0, .int .i64 0] 23 ?_; intro gb541 hg w42 hbox hb; replace HB := Aside0.mk (below_step (bi1_ HB HI0 GE533) hb); have BK541 := Aside0.mk (hbox); have GW541 := Aside0.mk ((by rw [hg]; exact (keep_size (w := w) (g := g) (row := none) (ka1_ HK GW533)) : w.heap.size ≤ gb541)); have GE541 := Aside0.mk ((Nat.le_trans HW0.out (by rw [hg]; exact (keep_size (w := w) (g := g) (row := none) (ka1_ HK GW533)) : w.heap.size ≤ gb541) : w0.heap.size ≤ gb541)); replace HK := Aside0.mk (KeepBut.trans (ka1_ HK GW533) (KeepBut.of_below hb g none) (.inl rfl)); have NB533_541 := nb_ hg (blk_lt (g := gb533) (o := .cells #[.int .i64 0, .int .i64 0] 23 (0, 0)) (kv_ BK533)); have NB541_533 := nc_ hg (blk_lt (g := gb533) (o := .cells #[.int .i64 0, .int .i64 0] 23 (0, 0)) (kv_ BK533)); replace BK533 := kb_ BK533 hb; have NB0_541 := Aside0.mk ((by rw [hg]; exact Nat.ne_of_lt (IsS75.lt (show IsS75 w0 _ g s0_0 t539 t540 from ia1_ HI0 NB0_533)) : g ≠ gb541)); have NB541_0 := Aside0.mk ((by rw [hg]; exact Nat.ne_of_gt (IsS75.lt (show IsS75 w0 _ g s0_0 t539 t540 from ia1_ HI0 NB0_533)) : gb541 ≠ g)); replace HI0 := Aside0.mk (IsS75.below (ia1_ HI0 NB0_533) hb); clear hb hbox hg; have hnb43 := NB541_533.out; have hnc43 := NB533_541.out; have hnb44 := NB541_0.out; have hnc44 := NB0_541.out; obtain ⟨hcz45_0, hcz45_1, hfz45_0, hfz45_1⟩ := c2_ BK541) | ((with_reducible refine gate_callee (f := 54) rfl ?_); refine gl_ 9 Tryd.func54 #[.pointer (some ⟨g, 0, none⟩), .int .i64 14] rfl mp_ ?_; (with_reducible refine (spec_l1Below.calls g s0_0 t539 t540 14 t542 t543 t544 w0 _ ?side1 ?side2 A4.out).mono ?_); (case side1 => exact ia2_ HI0 NB0_533 NB0_541); (case side2 => exact bi2_ HB HI0 GE533 GE541); rintro e w46 ⟨rfl, hi, hb, hk⟩; refine ⟨_, rfl, ?_⟩; replace BK533 := Aside0.mk (KeepBut.blk hk (g' := gb533) (o := .cells #[.int .i64 0, .int .i64 0] 23 (0, 0)) (by (with_reducible repeat (first | refine blk_drewN ?_ _ | refine blk_drew ?_ | refine blk_alloc ?_ _)); refine blk_far ?_ NB533_541.out _; (with_reducible repeat (first | refine blk_drewN ?_ _ | refine blk_drew ?_ | refine blk_alloc ?_ _)); refine blk_far ?_ NB533_541.out _; (with_reducible repeat (first | refine blk_drewN ?_ _ | refine blk_drew ?_ | refine blk_alloc ?_ _)); exact BK533.out) NB533_0.out (by simp)); replace BK541 := Aside0.mk (KeepBut.blk hk (g' := gb541) (o := .cells #[.int .i64 t537, .int .i64 t538] 23 (0, 0)) (by (with_reducible repeat (first | refine blk_drewN ?_ _ | refine blk_drew ?_ | refine blk_alloc ?_ _)); refine blk_put (cs := #[.int .i64 t537, .int .i64 0]) ?_ 1 _ rfl; (with_reducible repeat (first | refine blk_drewN ?_ _ | refine blk_drew ?_ | refine blk_alloc ?_ _)); refine blk_put (cs := #[.int .i64 0, .int .i64 0]) ?_ 0 _ rfl; (with_reducible repeat (first | refine blk_drewN ?_ _ | refine blk_drew ?_ | refine blk_alloc ?_ _)); exact BK541.out) NB541_0.out (by simp)); replace HK := Aside0.mk (KeepBut.trans (ka2_ HK GW533 GW541) hk (.inl rfl)); replace HB := Aside0.mk (hb); replace HI0 := Aside0.mk (hi); (try clear hb); (try clear hb2); (try clear hk); (try clear hi); obtain ⟨hcz47_0, hcz47_1, hfz47_0, hfz47_1⟩ := c2_ BK541; have hnb48 := NB533_0.out; have hnc48 := NB0_533.out; obtain ⟨hcz49_0, hcz49_1, hfz49_0, hfz49_1⟩ := c2_ BK533))
   refine bodyPost_ret (results_cell_row rfl _ _ gb533 23 #[.int .i64 t537, .int .i64 t538] (0, 0) _ rfl (by (with_reducible repeat (first | refine blk_drewN ?_ _ | refine blk_drew ?_ | refine blk_alloc ?_ _)); refine blk_put (cs := #[.int .i64 t537, .int .i64 0]) ?_ 1 _ rfl; (with_reducible repeat (first | refine blk_drewN ?_ _ | refine blk_drew ?_ | refine blk_alloc ?_ _)); refine blk_put (cs := #[.int .i64 0, .int .i64 0]) ?_ 0 _ rfl; (with_reducible repeat (first | refine blk_drewN ?_ _ | refine blk_drew ?_ | refine blk_alloc ?_ _)); exact BK533.out) Tryd.underlying23 rfl (by kernel_rfl)) rfl ?_
   exact ⟨er_, ia2_ HI0 NB0_533 NB0_541, bi2_ HB HI0 GE533 GE541, ka2_ HK GW533 GW541⟩


/-! ### spec_l1New: function 36 -/
def spec_l1New.l0 : Nat → List Int → Int → Int → Option (List Int × Int × Int)
 | 0, _, _, _ => none
 | k + 1, x0, x3, x4 => if x4 < (x0.length : Int) then (if x4 < 4000 then (if 0 ≤ x4 then (spec_l1New.l0 k x0 (Go.bits .and .i64 (wrap64 ((wrap64 ((wrap64 (x3 * 131)) + (wrap64 (rd x0 x4)))) + 7)) 1073741823) (wrap64 (x4 + 1))) else (none)) else (some (x0, 0, x3))) else (some (x0, 0, x3))
def spec_l1New.f (k : Nat) (l0 : List Int) : Option (List Int × Int × Int) := spec_l1New.l0 k l0 (wrap64 (10101 + (l0.length : Int))) 0
theorem spec_l1New.mono_l : ∀ k, (∀ y0 y1 y2, LeO (spec_l1New.l0 k y0 y1 y2) (spec_l1New.l0 (k + 1) y0 y1 y2))
 | 0 => fun _ _ _ r h => by simp [spec_l1New.l0] at h
 | k + 1 => by
  have ih0 := spec_l1New.mono_l k
  ·intro y0 y1 y2
   unfold spec_l1New.l0
   repeat' first
   | (with_reducible exact ih0 _ _ _)
   | (with_reducible exact LeO.refl _)
   | (with_reducible exact LeO.none _)
   | (with_reducible refine LeO.ite ?_ ?_)
   | (with_reducible refine LeO.bind ?_ (fun _ => ?_))
   | exact ih0 _ _ _
   | exact LeO.none _
   | refine LeO.ite ?_ ?_
   | refine LeO.bind ?_ (fun _ => ?_)
theorem spec_l1New.mono : ∀ a0 k, LeO (spec_l1New.f k a0) (spec_l1New.f (k + 1) a0) := by
 intro a0 k
 have ih0 := spec_l1New.mono_l k
 unfold spec_l1New.f
 repeat' first
   | (with_reducible exact ih0 _ _ _)
   | (with_reducible exact LeO.refl _)
   | (with_reducible exact LeO.none _)
   | (with_reducible refine LeO.ite ?_ ?_)
   | (with_reducible refine LeO.bind ?_ (fun _ => ?_))
   | exact ih0 _ _ _
   | exact LeO.none _
   | refine LeO.ite ?_ ?_
   | refine LeO.bind ?_ (fun _ => ?_)
set_option maxHeartbeats 8000000 in
set_option maxRecDepth 100000 in
theorem spec_l1New.calls (k : Nat) (A0 : Option Addr) (c0 : Nat) (l0 : List Int) (r1 : List Int) (r2 : Int) (r3 : Int) (w0 w : World) (hB : Below w0.heap.size w0 w) (hr0 : Kd.C (Kd.int .u8) w0 A0 l0.length l0) (hc0 : l0.length ≤ c0) (h : spec_l1New.f k l0 = some (r1, r2, r3)) :
  Calls Tryd.prog 36 #[.slice A0 l0.length c0] w fun e w' => ∃ g_ : Nat, e = .returned (.pointer (some ⟨g_, 0, none⟩)) ∧ IsS75 w0 w' g_ r1 r2 r3 ∧ Below w0.heap.size w0 w' ∧ Below w.heap.size w w' := by
 have hu75 := Tryd.underlying75
 have HR0 := Aside0.mk hr0
 have HC0 := Aside0.mk hc0
 clear hr0 hc0
 have HBW := Aside0.mk (Below.refl w.heap.size w)
 have HW0 := Aside0.mk hB.size
 have HB := Aside0.mk hB
 clear hB
 have H : (spec_l1New.l0 k l0 (wrap64 (10101 + (l0.length : Int))) 0) = some (r1, r2, r3) := h
 clear h
 have H' := Aside0.mk H
 clear H
 go_enter Tryd.func36, Tryd.ntmps36
 go_wp2
 go_loopg [3, 4] k (fun kq v3 v4 w' => ∃ (x3_1 : Int) (x4_1 : Int), v3 = .int .i64 x3_1 ∧ v4 = .int .i64 x4_1 ∧ Aside0 (spec_l1New.l0 kq l0 x3_1 x4_1 = some (r1, r2, r3)) ∧ Aside0 (kq ≤ k) ∧ Aside0 (Below w0.heap.size w0 w') ∧ Aside0 (Below w.heap.size w w'))
 case atStart => exact ⟨(wrap64 (10101 + (l0.length : Int))), (0), (by first | rfl | (simp; done) | (simp [*]; done)), (by first | rfl | (simp; done) | (simp [*]; done)), H', ⟨Nat.le_refl _⟩, ⟨bv_ HB⟩, ⟨bv_ HBW⟩⟩
 case round =>
  clear H'
  obtain ⟨x3_1, x4_1, rfl, rfl, HA, HK1, HB, HBW⟩ := hrel
  cases gk with
  | zero => exact absurd HA.out (by simp [spec_l1New.l0])
  | succ k1 =>
   have H := HA.out
   clear HA
   simp only [spec_l1New.l0] at H
   by_cases c2 : x4_1 < (l0.length : Int)
   ·rw [if_pos c2] at H
    have c2b0 : decide (x4_1 < (l0.length : Int)) = true := decide_eq_true c2
    clear c2
    by_cases c3 : x4_1 < 4000
    ·rw [if_pos c3] at H
     have c3b0 : decide (x4_1 < 4000) = true := decide_eq_true c3
     clear c3
     by_cases c4 : 0 ≤ x4_1
     ·rw [if_pos c4] at H
      have c4b0 : decide (0 ≤ x4_1) = true := decide_eq_true c4
      clear c4
      have H' := Aside0.mk H
      clear H
      have p557 : 0 ≤ (x4_1 : Int) := of_decide_eq_true (by first | (with_reducible assumption) | assumption)
      have q557 : x4_1 < (l0.length : Int) := of_decide_eq_true (by first | (with_reducible assumption) | assumption)
      obtain ⟨ad557, e557, hx557_0⟩ := Kd.at_int HR0.out x4_1 p557 q557
      cases e557
      replace hx557_0 := pw_cell_below HB.out hx557_0
      replace p557 := eq_true p557
      replace q557 := eq_true q557
      go_wp2
      go_roundg k1
      case measure => have := HK1.out; omega
      case rel => exact ⟨(Go.bits .and .i64 (wrap64 ((wrap64 ((wrap64 (x3_1 * 131)) + (wrap64 (rd l0 x4_1)))) + 7)) 1073741823), (wrap64 (x4_1 + 1)), (by first | rfl | (simp; done) | (simp [*]; done)), (by first | rfl | (simp; done) | (simp [*]; done)), H', ⟨by have := HK1.out; omega⟩, ⟨bv_ HB⟩, ⟨bv_ HBW⟩⟩
     ·rw [if_neg c4] at H
      exact absurd H (by simp)
    ·rw [if_neg c3] at H
     have c3b0 : decide (x4_1 < 4000) = false := decide_eq_false c3
     clear c3
     simp only [Option.some.injEq, Prod.mk.injEq] at H
     obtain ⟨rfl, rfl, rfl⟩ := H
     go_wp2_with (first | ((with_reducible refine gate_dst (N := 31) rfl ?_); refine bx_ 31 #[.slice A0 l0.length c0, .int .i64 0, .int .i64 x3_1] 75 ?_; intro gb558 hg w5 hbox hb; replace HB := Aside0.mk (below_step (bv_ HB) hb); have BK558 := Aside0.mk (hbox); have GW558 := gw_ hg (below_size (bv_ HBW)); have GE558 := Aside0.mk ((Nat.le_trans HW0.out (by rw [hg]; exact (below_size (bv_ HBW)) : w.heap.size ≤ gb558) : w0.heap.size ≤ gb558)); replace HBW := Aside0.mk (below_step HBW.out hb); clear hb hbox hg))
     go_ret
     exact ⟨_, rfl, (show IsS75 w0 _ gb558 l0 0 x3_1 from ⟨_, _, by (with_reducible repeat (first | refine blk_drewN ?_ _ | refine blk_drew ?_ | refine blk_alloc ?_ _)); exact BK558.out, GE558.out, HR0.out⟩), bv1_ HB GE558, bv1_ HBW GW558⟩
   ·rw [if_neg c2] at H
    have c2b0 : decide (x4_1 < (l0.length : Int)) = false := decide_eq_false c2
    clear c2
    simp only [Option.some.injEq, Prod.mk.injEq] at H
    obtain ⟨rfl, rfl, rfl⟩ := H
    go_wp2_with (first | ((with_reducible refine gate_dst (N := 31) rfl ?_); refine bx_ 31 #[.slice A0 l0.length c0, .int .i64 0, .int .i64 x3_1] 75 ?_; intro gb559 hg w6 hbox hb; replace HB := Aside0.mk (below_step (bv_ HB) hb); have BK559 := Aside0.mk (hbox); have GW559 := gw_ hg (below_size (bv_ HBW)); have GE559 := Aside0.mk ((Nat.le_trans HW0.out (by rw [hg]; exact (below_size (bv_ HBW)) : w.heap.size ≤ gb559) : w0.heap.size ≤ gb559)); replace HBW := Aside0.mk (below_step HBW.out hb); clear hb hbox hg))
    go_ret
    exact ⟨_, rfl, (show IsS75 w0 _ gb559 l0 0 x3_1 from ⟨_, _, by (with_reducible repeat (first | refine blk_drewN ?_ _ | refine blk_drew ?_ | refine blk_alloc ?_ _)); exact BK559.out, GE559.out, HR0.out⟩), bv1_ HB GE559, bv1_ HBW GW559⟩


/-! ### spec_DrawAnfOf: function 9 -/
def spec_DrawAnfOf.f (k : Nat) (l0 : List Int) : Option (Int × Int) := (spec_l1New.f k l0).bind fun bt561 => ((spec_l2Any.f k bt561.1 bt561.2.1 bt561.2.2).bind fun bt565 => (some (bt565.1, bt565.2.1)))
theorem spec_DrawAnfOf.mono : ∀ a0 k, LeO (spec_DrawAnfOf.f k a0) (spec_DrawAnfOf.f (k + 1) a0) := by
 intro a0 k
 unfold spec_DrawAnfOf.f
 repeat' first
   | (with_reducible exact spec_l1New.mono _ _)
   | (with_reducible exact spec_l2Any.mono _ _ _ _)
   | (with_reducible exact LeO.refl _)
   | (with_reducible exact LeO.none _)
   | (with_reducible refine LeO.ite ?_ ?_)
   | (with_reducible refine LeO.bind ?_ (fun _ => ?_))
   | exact spec_l1New.mono _ _
   | exact spec_l2Any.mono _ _ _ _
   | exact LeO.none _
   | refine LeO.ite ?_ ?_
   | refine LeO.bind ?_ (fun _ => ?_)
set_option maxHeartbeats 8000000 in
set_option maxRecDepth 100000 in
theorem spec_DrawAnfOf.calls (k : Nat) (A0 : Option Addr) (c0 : Nat) (l0 : List Int) (r1 : Int) (r2 : Int) (w : World) (hr0 : Kd.C (Kd.int .u8) w A0 l0.length l0) (hc0 : l0.length ≤ c0) (h : spec_DrawAnfOf.f k l0 = some (r1, r2)) :
  Calls Tryd.prog 9 #[.slice A0 l0.length c0] w fun e w' => e = .returned (.agg #[.int .i64 r1, .int .i64 r2]) ∧ Below w.heap.size w w' := by
 have hu23 := Tryd.underlying23
 have HR0 := Aside0.mk hr0
 have HC0 := Aside0.mk hc0
 clear hr0 hc0
 have HB := Aside0.mk (Below.refl w.heap.size w)
 have H : ((spec_l1New.f k l0).bind fun bt561 => ((spec_l2Any.f k bt561.1 bt561.2.1 bt561.2.2).bind fun bt565 => (some (bt565.1, bt565.2.1)))) = some (r1, r2) := h
 clear h
 replace H := Option.bind_eq_some_iff.mp H
 obtain ⟨⟨t561, t562, t563⟩, A20, H⟩ := H
 replace H : ((spec_l2Any.f k t561 t562 t563).bind fun bt565 => (some (bt565.1, bt565.2.1))) = some (r1, r2) := H
 have A2 := Aside0.mk A20
 clear A20
 replace H := Option.bind_eq_some_iff.mp H
 obtain ⟨⟨t565, t566, t567, t568⟩, A30, H⟩ := H
 replace H : (some (t565, t566)) = some (r1, r2) := H
 have A3 := Aside0.mk A30
 clear A30
 simp only [Option.some.injEq, Prod.mk.injEq] at H
 obtain ⟨rfl, rfl⟩ := H
 go_enter Tryd.func9, Tryd.ntmps9
 go_wp2_with (first | ((with_reducible refine gate_dst (N := 2) rfl ?_); refine bx_ 2 #[.int .i64 0, .int .i64 0] 23 ?_; intro gb560 hg w4 hbox hb; have BK560 := Aside0.mk (hbox); have GW560 := gw_ hg (below_size (bv_ HB)); have GE560 := GW560; replace HB := Aside0.mk (below_step (bv_ HB) hb); clear hb hbox hg) | ((with_reducible refine gate_callee (f := 36) rfl ?_); refine gl_ 4 Tryd.func36 #[.slice A0 l0.length c0] rfl mp_ ?_; (with_reducible refine (spec_l1New.calls k _ _ l0 t561 t562 t563 w _ ?side1 ?side2 ?side3 A2.out).mono ?_); (case side1 => repeat (first | (with_reducible first | exact HB.out | apply below_alloc | apply pw_below_drewN | apply below_drew1 | refine below_set ?_ GE560.out) | exact HB.out)); (case side2 => exact HR0.out); (case side3 => exact HC0.out); rintro e w5 ⟨g564, rfl, hi, hb, hb2⟩; refine ⟨_, rfl, ?_⟩; replace HB := Aside0.mk (hb); have HI564 := Aside0.mk (hi); have NB564_560 := Aside0.mk (IsS75.ne_blk hi (blk_below (g := gb560) (o := .cells #[.int .i64 0, .int .i64 0] 23 (0, 0)) (kv_ BK560) hb2) (by decide)); have NB560_564 := Aside0.mk (Ne.symm (IsS75.ne_blk hi (blk_below (g := gb560) (o := .cells #[.int .i64 0, .int .i64 0] 23 (0, 0)) (kv_ BK560) hb2) (by decide))); replace BK560 := kb_ BK560 hb2; (try clear hb); (try clear hb2); (try clear hk); (try clear hi)) | ((with_reducible refine gate_callee (f := 35) rfl ?_); refine gl_ 5 Tryd.func35 #[.pointer (some ⟨g564, 0, none⟩)] rfl mp_ ?_; (with_reducible refine (spec_l2Any.calls k g564 t561 t562 t563 t565 t566 t567 t568 w _ ?side1 ?side2 A3.out).mono ?_); (case side1 => exact ia1_ HI564 NB564_560); (case side2 => exact bi1_ HB HI564 GE560); rintro e w6 ⟨rfl, hi, hb, hk⟩; refine ⟨_, rfl, ?_⟩; replace BK560 := Aside0.mk (KeepBut.blk hk (g' := gb560) (o := .cells #[.int .i64 0, .int .i64 0] 23 (0, 0)) (kv_ BK560) NB560_564.out (by simp)); replace HB := Aside0.mk (hb); replace HI564 := Aside0.mk (hi); (try clear hb); (try clear hb2); (try clear hk); (try clear hi); have hnb7 := NB560_564.out; have hnc7 := NB564_560.out; obtain ⟨hcz8_0, hcz8_1, hfz8_0, hfz8_1⟩ := c2_ BK560))
 refine bodyPost_ret (results_cell_row rfl _ _ gb560 23 #[.int .i64 t565, .int .i64 t566] (0, 0) _ rfl (by (with_reducible repeat (first | refine blk_drewN ?_ _ | refine blk_drew ?_ | refine blk_alloc ?_ _)); refine blk_put (cs := #[.int .i64 t565, .int .i64 0]) ?_ 1 _ rfl; (with_reducible repeat (first | refine blk_drewN ?_ _ | refine blk_drew ?_ | refine blk_alloc ?_ _)); refine blk_put (cs := #[.int .i64 0, .int .i64 0]) ?_ 0 _ rfl; (with_reducible repeat (first | refine blk_drewN ?_ _ | refine blk_drew ?_ | refine blk_alloc ?_ _)); exact BK560.out) Tryd.underlying23 rfl (by kernel_rfl)) rfl ?_
 exact ⟨er_, bi1_ HB HI564 GE560⟩


/-! ### impl_AnfOf: function 10 -/
def impl_AnfOf.f (a0_0 : Int) (a0_1 : Int) : Option (Int × Int × Bool) := (impl_IsTable.f a0_0 a0_1).bind fun t571 => (if t571 = true then ((impl_Table_anf.f a0_0 a0_1).bind fun bt572 => (some (bt572.1, bt572.2, true))) else (some (0, 0, false)))
set_option maxHeartbeats 8000000 in
set_option maxRecDepth 100000 in
theorem impl_AnfOf.calls (a0_0 : Int) (a0_1 : Int) (r1 : Int) (r2 : Int) (r3 : Bool) (w : World) (h : impl_AnfOf.f a0_0 a0_1 = some (r1, r2, r3)) :
  Calls Tryd.prog 10 #[.agg #[.int .i64 a0_0, .int .i64 a0_1]] w fun e w' => e = .returned (.tuple #[.agg #[.int .i64 r1, .int .i64 r2], .bool r3]) ∧ Below w.heap.size w w' := by
 have hu23 := Tryd.underlying23
 have HB := Aside0.mk (Below.refl w.heap.size w)
 have H : ((impl_IsTable.f a0_0 a0_1).bind fun t571 => (if t571 = true then ((impl_Table_anf.f a0_0 a0_1).bind fun bt572 => (some (bt572.1, bt572.2, true))) else (some (0, 0, false)))) = some (r1, r2, r3) := h
 clear h
 replace H := Option.bind_eq_some_iff.mp H
 obtain ⟨t571, A20, H⟩ := H
 have A2 := Aside0.mk A20
 clear A20
 by_cases c3 : t571 = true
 ·subst c3
  rw [if_pos rfl] at H
  replace H := Option.bind_eq_some_iff.mp H
  obtain ⟨⟨t572, t573⟩, A40, H⟩ := H
  replace H : (some (t572, t573, true)) = some (r1, r2, r3) := H
  have A4 := Aside0.mk A40
  clear A40
  simp only [Option.some.injEq, Prod.mk.injEq] at H
  obtain ⟨rfl, rfl, rfl⟩ := H
  go_enter Tryd.func10, Tryd.ntmps10
  go_wp2_with (first | ((with_reducible refine gate_dst (N := 1) rfl ?_); refine bx_ 1 #[.int .i64 a0_0, .int .i64 a0_1] 23 ?_; intro gb569 hg w5 hbox hb; have BK569 := Aside0.mk (hbox); have GW569 := gw_ hg (below_size (bv_ HB)); have GE569 := GW569; replace HB := Aside0.mk (below_step (bv_ HB) hb); clear hb hbox hg) | ((with_reducible refine gate_dst (N := 2) rfl ?_); refine bx_ 2 #[.int .i64 0, .int .i64 0] 23 ?_; intro gb570 hg w6 hbox hb; have BK570 := Aside0.mk (hbox); have GW570 := gw_ hg (below_size (bv1_ HB GE569)); have GE570 := GW570; replace HB := Aside0.mk (below_step (bv1_ HB GE569) hb); have NB569_570 := nb_ hg (blk_lt (g := gb569) (o := .cells #[.int .i64 a0_0, .int .i64 a0_1] 23 (0, 0)) (kv_ BK569)); have NB570_569 := nc_ hg (blk_lt (g := gb569) (o := .cells #[.int .i64 a0_0, .int .i64 a0_1] 23 (0, 0)) (kv_ BK569)); replace BK569 := kb_ BK569 hb; clear hb hbox hg; have hnb7 := NB569_570.out; have hnc7 := NB570_569.out; obtain ⟨hcz8_0, hcz8_1, hfz8_0, hfz8_1⟩ := c2_ BK569) | ((with_reducible refine gate_callee (f := 37) rfl ?_); refine gl_ 5 Tryd.func37 #[.agg #[.int .i64 a0_0, .int .i64 a0_1]] rfl mp_ ?_; (with_reducible refine (impl_IsTable.calls a0_0 a0_1 true _ A2.out).mono ?_); rintro e w9 ⟨rfl, hb⟩; refine ⟨_, rfl, ?_⟩; replace BK569 := kb_ BK569 hb; replace BK570 := kb_ BK570 hb; replace HB := Aside0.mk (below_step (bv2_ HB GE569 GE570) hb); (try clear hb); (try clear hb2); (try clear hk); (try clear hi); obtain ⟨hcz10_0, hcz10_1, hfz10_0, hfz10_1⟩ := c2_ BK569) | ((with_reducible refine gate_callee (f := 34) rfl ?_); refine gl_ 9 Tryd.func34 #[.agg #[.int .i64 a0_0, .int .i64 a0_1]] rfl mp_ ?_; (with_reducible refine (impl_Table_anf.calls a0_0 a0_1 t572 t573 _ A4.out).mono ?_); rintro e w11 ⟨rfl, hb⟩; refine ⟨_, rfl, ?_⟩; replace BK569 := kb_ BK569 hb; replace BK570 := kb_ BK570 hb; replace HB := Aside0.mk (below_step (bv2_ HB GE569 GE570) hb); (try clear hb); (try clear hb2); (try clear hk); (try clear hi); obtain ⟨hcz12_0, hcz12_1, hfz12_0, hfz12_1⟩ := c2_ BK570))
  refine bodyPost_ret (results_ct rfl _ _ gb570 23 #[.int .i64 t572, .int .i64 t573] (0, 0) _ rfl (by (with_reducible repeat (first | refine blk_drewN ?_ _ | refine blk_drew ?_ | refine blk_alloc ?_ _)); refine blk_put (cs := #[.int .i64 t572, .int .i64 0]) ?_ 1 _ rfl; (with_reducible repeat (first | refine blk_drewN ?_ _ | refine blk_drew ?_ | refine blk_alloc ?_ _)); refine blk_put (cs := #[.int .i64 0, .int .i64 0]) ?_ 0 _ rfl; (with_reducible repeat (first | refine blk_drewN ?_ _ | refine blk_drew ?_ | refine blk_alloc ?_ _)); exact BK570.out) Tryd.underlying23 rfl (by kernel_rfl)) rfl ?_
  exact ⟨er_, bv2_ HB GE569 GE570⟩
 ·replace c3 := Bool.eq_false_iff.mpr c3
  subst c3
  rw [if_neg (show ¬ (false = true) by decide)] at H
  simp only [Option.some.injEq, Prod.mk.injEq] at H
  obtain ⟨rfl, rfl, rfl⟩ := H
  go_enter Tryd.func10, Tryd.ntmps10
  go_wp2_with (first | ((with_reducible refine gate_dst (N := 1) rfl ?_); refine bx_ 1 #[.int .i64 a0_0, .int .i64 a0_1] 23 ?_; intro gb569 hg w13 hbox hb; have BK569 := Aside0.mk (hbox); have GW569 := gw_ hg (below_size (bv_ HB)); have GE569 := GW569; replace HB := Aside0.mk (below_step (bv_ HB) hb); clear hb hbox hg) | ((with_reducible refine gate_dst (N := 2) rfl ?_); refine bx_ 2 #[.int .i64 0, .int .i64 0] 23 ?_; intro gb570 hg w14 hbox hb; have BK570 := Aside0.mk (hbox); have GW570 := gw_ hg (below_size (bv1_ HB GE569)); have GE570 := GW570; replace HB := Aside0.mk (below_step (bv1_ HB GE569) hb); have NB569_570 := nb_ hg (blk_lt (g := gb569) (o := .cells #[.int .i64 a0_0, .int .i64 a0_1] 23 (0, 0)) (kv_ BK569)); have NB570_569 := nc_ hg (blk_lt (g := gb569) (o := .cells #[.int .i64 a0_0, .int .i64 a0_1] 23 (0, 0)) (kv_ BK569)); replace BK569 := kb_ BK569 hb; clear hb hbox hg; have hnb15 := NB569_570.out; have hnc15 := NB570_569.out; obtain ⟨hcz16_0, hcz16_1, hfz16_0, hfz16_1⟩ := c2_ BK569) | ((with_reducible refine gate_callee (f := 37) rfl ?_); refine gl_ 5 Tryd.func37 #[.agg #[.int .i64 a0_0, .int .i64 a0_1]] rfl mp_ ?_; (with_reducible refine (impl_IsTable.calls a0_0 a0_1 false _ A2.out).mono ?_); rintro e w17 ⟨rfl, hb⟩; refine ⟨_, rfl, ?_⟩; replace BK569 := kb_ BK569 hb; replace BK570 := kb_ BK570 hb; replace HB := Aside0.mk (below_step (bv2_ HB GE569 GE570) hb); (try clear hb); (try clear hb2); (try clear hk); (try clear hi); obtain ⟨hcz18_0, hcz18_1, hfz18_0, hfz18_1⟩ := c2_ BK570))
  refine bodyPost_ret (results_ct rfl _ _ gb570 23 #[.int .i64 0, .int .i64 0] (0, 0) _ rfl (by (with_reducible repeat (first | refine blk_drewN ?_ _ | refine blk_drew ?_ | refine blk_alloc ?_ _)); refine blk_put (cs := #[.int .i64 0, .int .i64 0]) ?_ 1 _ rfl; (with_reducible repeat (first | refine blk_drewN ?_ _ | refine blk_drew ?_ | refine blk_alloc ?_ _)); refine blk_put (cs := #[.int .i64 0, .int .i64 0]) ?_ 0 _ rfl; (with_reducible repeat (first | refine blk_drewN ?_ _ | refine blk_drew ?_ | refine blk_alloc ?_ _)); exact BK570.out) Tryd.underlying23 rfl (by kernel_rfl)) rfl ?_
  exact ⟨er_, bv2_ HB GE569 GE570⟩


end Go.Proofs.YteljkpglgjjnlaaDoor.P
