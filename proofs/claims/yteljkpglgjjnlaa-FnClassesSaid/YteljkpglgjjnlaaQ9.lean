-- Out of the translation, by this session's program over the printer's; Lean checks it.
import Derived.Test.YteljkpglgjjnlaaSh
import Derived.Test.YteljkpglgjjnlaaQ0
import Derived.Test.YteljkpglgjjnlaaQ4
import Derived.Test.YteljkpglgjjnlaaQ6
import Derived.Test.YteljkpglgjjnlaaQ8
namespace Go.Proofs.Yteljkpglgjjnlaa.P
open Go.RowKit Go.Proofs.YteljkpglgjjnlaaW.PrintWords Go.Proofs.YteljkpglgjjnlaaW.PrintLast Go.Proofs.YteljkpglgjjnlaaW.PrintMore
attribute [local go_sem] max2_int min2_int max_two min_two max_three min_three max_four min_four
set_option linter.unusedVariables false
set_option linter.unusedSimpArgs false

/-! ### spec_CanonicalTable: function 11 -/
def spec_CanonicalTable.f (k : Nat) (a0_0 : Int) (a0_1 : Int) : Option (Int × Int × Bool) := (spec_IsTable.f a0_0 a0_1).bind fun t632 => (if t632 = true then (if a0_0 > 4 then (some (0, 0, false)) else ((spec_l4Least.f k a0_0 a0_1).bind fun bt633 => (some (a0_0, bt633.1, true)))) else (some (0, 0, false)))
theorem spec_CanonicalTable.mono : ∀ a0 a1 k, LeO (spec_CanonicalTable.f k a0 a1) (spec_CanonicalTable.f (k + 1) a0 a1) := by
 intro a0 a1 k
 unfold spec_CanonicalTable.f
 repeat' first
   | (with_reducible exact spec_l4Least.mono _ _ _)
   | (with_reducible exact LeO.refl _)
   | (with_reducible exact LeO.none _)
   | (with_reducible refine LeO.ite ?_ ?_)
   | (with_reducible refine LeO.bind ?_ (fun _ => ?_))
   | exact spec_l4Least.mono _ _ _
   | exact LeO.none _
   | refine LeO.ite ?_ ?_
   | refine LeO.bind ?_ (fun _ => ?_)
set_option maxHeartbeats 8000000 in
set_option maxRecDepth 100000 in
theorem spec_CanonicalTable.calls (k : Nat) (a0_0 : Int) (a0_1 : Int) (r1 : Int) (r2 : Int) (r3 : Bool) (w : World) (h : spec_CanonicalTable.f k a0_0 a0_1 = some (r1, r2, r3)) :
  Calls Try.prog 11 #[.agg #[.int .i64 a0_0, .int .i64 a0_1]] w fun e w' => e = .returned (.tuple #[.agg #[.int .i64 r1, .int .i64 r2], .bool r3]) ∧ Below w.heap.size w w' := by
 have hu25 := Try.underlying25
 have HB := Aside0.mk (Below.refl w.heap.size w)
 have H : ((spec_IsTable.f a0_0 a0_1).bind fun t632 => (if t632 = true then (if a0_0 > 4 then (some (0, 0, false)) else ((spec_l4Least.f k a0_0 a0_1).bind fun bt633 => (some (a0_0, bt633.1, true)))) else (some (0, 0, false)))) = some (r1, r2, r3) := h
 clear h
 replace H := Option.bind_eq_some_iff.mp H
 obtain ⟨t632, A20, H⟩ := H
 have A2 := Aside0.mk A20
 clear A20
 by_cases c3 : t632 = true
 ·subst c3
  rw [if_pos rfl] at H
  by_cases c4 : a0_0 > 4
  ·rw [if_pos c4] at H
   have c4b0 : decide (4 < a0_0) = true := decide_eq_true c4
   clear c4
   simp only [Option.some.injEq, Prod.mk.injEq] at H
   obtain ⟨rfl, rfl, rfl⟩ := H
   go_enter Try.func11, Try.ntmps11
   go_wp2_with (first | ((with_reducible refine gate_dst (N := 1) rfl ?_); refine bx_ 1 #[.int .i64 a0_0, .int .i64 a0_1] 25 ?_; intro gb630 hg w5 hbox hb; have BK630 := Aside0.mk (hbox); have GW630 := gw_ hg (below_size (bv_ HB)); have GE630 := GW630; replace HB := Aside0.mk (below_step (bv_ HB) hb); clear hb hbox hg) | ((with_reducible refine gate_dst (N := 2) rfl ?_); refine bx_ 2 #[.int .i64 0, .int .i64 0] 25 ?_; intro gb631 hg w6 hbox hb; have BK631 := Aside0.mk (hbox); have GW631 := gw_ hg (below_size (bv1_ HB GE630)); have GE631 := GW631; replace HB := Aside0.mk (below_step (bv1_ HB GE630) hb); have NB630_631 := nb_ hg (blk_lt (g := gb630) (o := .cells #[.int .i64 a0_0, .int .i64 a0_1] 25 (0, 0)) (kv_ BK630)); have NB631_630 := nc_ hg (blk_lt (g := gb630) (o := .cells #[.int .i64 a0_0, .int .i64 a0_1] 25 (0, 0)) (kv_ BK630)); replace BK630 := kb_ BK630 hb; clear hb hbox hg; have hnb7 := NB630_631.out; have hnc7 := NB631_630.out; obtain ⟨hcz8_0, hcz8_1, hfz8_0, hfz8_1⟩ := c2_ BK630) | ((with_reducible refine gate_callee (f := 31) rfl ?_); refine gl_ 7 Try.func31 #[.agg #[.int .i64 a0_0, .int .i64 a0_1]] rfl mp_ ?_; (with_reducible refine (spec_IsTable.calls a0_0 a0_1 true _ A2.out).mono ?_); rintro e w9 ⟨rfl, hb⟩; refine ⟨_, rfl, ?_⟩; replace BK630 := kb_ BK630 hb; replace BK631 := kb_ BK631 hb; replace HB := Aside0.mk (below_step (bv2_ HB GE630 GE631) hb); (try clear hb); (try clear hb2); (try clear hk); (try clear hi); obtain ⟨hcz10_0, hcz10_1, hfz10_0, hfz10_1⟩ := c2_ BK630; obtain ⟨hcz11_0, hcz11_1, hfz11_0, hfz11_1⟩ := c2_ BK631))
   refine bodyPost_ret (results_ct rfl _ _ gb631 25 #[.int .i64 0, .int .i64 0] (0, 0) _ rfl (by (with_reducible repeat (first | refine blk_drewN ?_ _ | refine blk_drew ?_ | refine blk_alloc ?_ _)); refine blk_put (cs := #[.int .i64 0, .int .i64 0]) ?_ 1 _ rfl; (with_reducible repeat (first | refine blk_drewN ?_ _ | refine blk_drew ?_ | refine blk_alloc ?_ _)); refine blk_put (cs := #[.int .i64 0, .int .i64 0]) ?_ 0 _ rfl; (with_reducible repeat (first | refine blk_drewN ?_ _ | refine blk_drew ?_ | refine blk_alloc ?_ _)); exact BK631.out) Try.underlying25 rfl (by kernel_rfl)) rfl ?_
   exact ⟨er_, bv2_ HB GE630 GE631⟩
  ·rw [if_neg c4] at H
   have c4b0 : decide (4 < a0_0) = false := decide_eq_false c4
   clear c4
   replace H := Option.bind_eq_some_iff.mp H
   obtain ⟨⟨t633, t634⟩, A120, H⟩ := H
   replace H : (some (a0_0, t633, true)) = some (r1, r2, r3) := H
   have A12 := Aside0.mk A120
   clear A120
   simp only [Option.some.injEq, Prod.mk.injEq] at H
   obtain ⟨rfl, rfl, rfl⟩ := H
   go_enter Try.func11, Try.ntmps11
   go_wp2_with (first | ((with_reducible refine gate_dst (N := 1) rfl ?_); refine bx_ 1 #[.int .i64 a0_0, .int .i64 a0_1] 25 ?_; intro gb630 hg w13 hbox hb; have BK630 := Aside0.mk (hbox); have GW630 := gw_ hg (below_size (bv_ HB)); have GE630 := GW630; replace HB := Aside0.mk (below_step (bv_ HB) hb); clear hb hbox hg) | ((with_reducible refine gate_dst (N := 2) rfl ?_); refine bx_ 2 #[.int .i64 0, .int .i64 0] 25 ?_; intro gb631 hg w14 hbox hb; have BK631 := Aside0.mk (hbox); have GW631 := gw_ hg (below_size (bv1_ HB GE630)); have GE631 := GW631; replace HB := Aside0.mk (below_step (bv1_ HB GE630) hb); have NB630_631 := nb_ hg (blk_lt (g := gb630) (o := .cells #[.int .i64 a0_0, .int .i64 a0_1] 25 (0, 0)) (kv_ BK630)); have NB631_630 := nc_ hg (blk_lt (g := gb630) (o := .cells #[.int .i64 a0_0, .int .i64 a0_1] 25 (0, 0)) (kv_ BK630)); replace BK630 := kb_ BK630 hb; clear hb hbox hg; have hnb15 := NB630_631.out; have hnc15 := NB631_630.out; obtain ⟨hcz16_0, hcz16_1, hfz16_0, hfz16_1⟩ := c2_ BK630) | ((with_reducible refine gate_callee (f := 31) rfl ?_); refine gl_ 7 Try.func31 #[.agg #[.int .i64 a0_0, .int .i64 a0_1]] rfl mp_ ?_; (with_reducible refine (spec_IsTable.calls a0_0 a0_1 true _ A2.out).mono ?_); rintro e w17 ⟨rfl, hb⟩; refine ⟨_, rfl, ?_⟩; replace BK630 := kb_ BK630 hb; replace BK631 := kb_ BK631 hb; replace HB := Aside0.mk (below_step (bv2_ HB GE630 GE631) hb); (try clear hb); (try clear hb2); (try clear hk); (try clear hi); obtain ⟨hcz18_0, hcz18_1, hfz18_0, hfz18_1⟩ := c2_ BK630) | ((with_reducible refine gate_callee (f := 43) rfl ?_); refine gl_ 17 Try.func43 #[.agg #[.int .i64 a0_0, .int .i64 a0_1]] rfl mp_ ?_; (with_reducible refine (spec_l4Least.calls k a0_0 a0_1 t633 t634 _ A12.out).mono ?_); rintro e w19 ⟨rfl, hb⟩; refine ⟨_, rfl, ?_⟩; replace BK630 := kb_ BK630 hb; replace BK631 := kb_ BK631 hb; replace HB := Aside0.mk (below_step (bv2_ HB GE630 GE631) hb); (try clear hb); (try clear hb2); (try clear hk); (try clear hi); obtain ⟨hcz20_0, hcz20_1, hfz20_0, hfz20_1⟩ := c2_ BK630; obtain ⟨hcz21_0, hcz21_1, hfz21_0, hfz21_1⟩ := c2_ BK631))
   refine bodyPost_ret (results_ct rfl _ _ gb631 25 #[.int .i64 a0_0, .int .i64 t633] (0, 0) _ rfl (by (with_reducible repeat (first | refine blk_drewN ?_ _ | refine blk_drew ?_ | refine blk_alloc ?_ _)); refine blk_put (cs := #[.int .i64 a0_0, .int .i64 0]) ?_ 1 _ rfl; (with_reducible repeat (first | refine blk_drewN ?_ _ | refine blk_drew ?_ | refine blk_alloc ?_ _)); refine blk_put (cs := #[.int .i64 0, .int .i64 0]) ?_ 0 _ rfl; (with_reducible repeat (first | refine blk_drewN ?_ _ | refine blk_drew ?_ | refine blk_alloc ?_ _)); exact BK631.out) Try.underlying25 rfl (by kernel_rfl)) rfl ?_
   exact ⟨er_, bv2_ HB GE630 GE631⟩
 ·replace c3 := Bool.eq_false_iff.mpr c3
  subst c3
  rw [if_neg (show ¬ (false = true) by decide)] at H
  simp only [Option.some.injEq, Prod.mk.injEq] at H
  obtain ⟨rfl, rfl, rfl⟩ := H
  go_enter Try.func11, Try.ntmps11
  go_wp2_with (first | ((with_reducible refine gate_dst (N := 1) rfl ?_); refine bx_ 1 #[.int .i64 a0_0, .int .i64 a0_1] 25 ?_; intro gb630 hg w22 hbox hb; have BK630 := Aside0.mk (hbox); have GW630 := gw_ hg (below_size (bv_ HB)); have GE630 := GW630; replace HB := Aside0.mk (below_step (bv_ HB) hb); clear hb hbox hg) | ((with_reducible refine gate_dst (N := 2) rfl ?_); refine bx_ 2 #[.int .i64 0, .int .i64 0] 25 ?_; intro gb631 hg w23 hbox hb; have BK631 := Aside0.mk (hbox); have GW631 := gw_ hg (below_size (bv1_ HB GE630)); have GE631 := GW631; replace HB := Aside0.mk (below_step (bv1_ HB GE630) hb); have NB630_631 := nb_ hg (blk_lt (g := gb630) (o := .cells #[.int .i64 a0_0, .int .i64 a0_1] 25 (0, 0)) (kv_ BK630)); have NB631_630 := nc_ hg (blk_lt (g := gb630) (o := .cells #[.int .i64 a0_0, .int .i64 a0_1] 25 (0, 0)) (kv_ BK630)); replace BK630 := kb_ BK630 hb; clear hb hbox hg; have hnb24 := NB630_631.out; have hnc24 := NB631_630.out; obtain ⟨hcz25_0, hcz25_1, hfz25_0, hfz25_1⟩ := c2_ BK630) | ((with_reducible refine gate_callee (f := 31) rfl ?_); refine gl_ 7 Try.func31 #[.agg #[.int .i64 a0_0, .int .i64 a0_1]] rfl mp_ ?_; (with_reducible refine (spec_IsTable.calls a0_0 a0_1 false _ A2.out).mono ?_); rintro e w26 ⟨rfl, hb⟩; refine ⟨_, rfl, ?_⟩; replace BK630 := kb_ BK630 hb; replace BK631 := kb_ BK631 hb; replace HB := Aside0.mk (below_step (bv2_ HB GE630 GE631) hb); (try clear hb); (try clear hb2); (try clear hk); (try clear hi); obtain ⟨hcz27_0, hcz27_1, hfz27_0, hfz27_1⟩ := c2_ BK631))
  refine bodyPost_ret (results_ct rfl _ _ gb631 25 #[.int .i64 0, .int .i64 0] (0, 0) _ rfl (by (with_reducible repeat (first | refine blk_drewN ?_ _ | refine blk_drew ?_ | refine blk_alloc ?_ _)); refine blk_put (cs := #[.int .i64 0, .int .i64 0]) ?_ 1 _ rfl; (with_reducible repeat (first | refine blk_drewN ?_ _ | refine blk_drew ?_ | refine blk_alloc ?_ _)); refine blk_put (cs := #[.int .i64 0, .int .i64 0]) ?_ 0 _ rfl; (with_reducible repeat (first | refine blk_drewN ?_ _ | refine blk_drew ?_ | refine blk_alloc ?_ _)); exact BK631.out) Try.underlying25 rfl (by kernel_rfl)) rfl ?_
  exact ⟨er_, bv2_ HB GE630 GE631⟩


/-! ### impl_SymmetriesOf: function 12 -/
set_option maxHeartbeats 4000000 in
set_option maxRecDepth 100000 in
theorem impl_SymmetriesOf.in_calls (a0 a1 c g0 g1 : Int) (B1 B2 : Nat) (hne : B1 ≠ B2) (W : World) (h1 : W.heap[B1]? = some (.cells #[.int .i64 a0, .int .i64 a1] 25 (0, 0))) (h2 : W.heap[B2]? = some (.cells #[.int .i64 c] 3 (0, 0))) :
    Calls Try.prog 45 #[.agg #[.int .i64 g0, .int .i64 g1], .pointer (some ⟨B1, 0, none⟩), .pointer (some ⟨B2, 0, none⟩)] W fun e w' => e = .returned (.tuple #[]) ∧ w'.heap[B2]? = some (.cells #[.int .i64 (if g0 = a0 ∧ g1 = a1 then wrap64 (c + 1) else c)] 3 (0, 0)) ∧ KeepO W w' B2 := by
  have hu := Try.underlying25
  have BK := Aside0.mk h1
  have CK := Aside0.mk h2
  have hlt := blk_lt h1
  have hlt2 := blk_lt h2
  have hne2 : B2 ≠ B1 := fun e => hne e.symm
  clear h1 h2
  go_enter Try.func45, Try.ntmps45
  go_wp2_with (first | ((with_reducible refine gate_dst (N := 3) rfl ?_); refine box_event ?hg (N := 3) ?hd (cs := #[.int .i64 g0, .int .i64 g1]) (t := 25) ?hr ?_; (case hd => rfl); (case hg => rfl); (case hr => first | (go_simp; done) | (go_simp; rfl)); intro gb hg w1 hbox hb; have HB1 := Aside0.mk hb; have RK := Aside0.mk hbox; have BK1 := Aside0.mk (blk_below BK.out hb); have CK1 := Aside0.mk (blk_below CK.out hb); have ne1 : gb ≠ B2 := (by omega); have ne2 : B2 ≠ gb := (by omega); clear hg hbox hb; have k0 := (blk_cell RK.out 0).trans rfl; have k1 := (blk_cell RK.out 1).trans rfl; have b_0 := (blk_cell BK1.out 0).trans rfl; have b_1 := (blk_cell BK1.out 1).trans rfl; have c_0 := (blk_cell CK1.out 0).trans rfl; have f_0 := blk_frozen CK1.out 0))
  all_goals (try go_wp2)
  all_goals first
    | exact Go.Great.bodyPost_end0 (by kernel_rfl) rfl ⟨rfl, blk_put (cs := #[.int .i64 c]) CK1.out 0 _ rfl, KeepO.set_ (KeepO.of_below HB1.out B2) _ _⟩
    | exact Go.Great.bodyPost_end0 (by kernel_rfl) rfl ⟨rfl, CK1.out, KeepO.of_below HB1.out B2⟩
/-- How often the table comes among its images. -/
def impl_SymmetriesOf.f (n0 W0 : Int) : Option Int := (impl_isSmall.f n0 W0 4).bind fun b => if b = true then (impl_Table_images.f n0 W0).bind fun ws => some (ws.foldl (fun s b => if b = W0 then wrap64 (s + 1) else s) 0) else some (-1)
set_option maxHeartbeats 4000000 in
set_option maxRecDepth 100000 in
theorem impl_SymmetriesOf.calls_ (n0 W0 : Int) (ws : List Int) (w : World) (hsm : impl_isSmall.f n0 W0 4 = some true) (hws : impl_Table_images.f n0 W0 = some ws) :
    Calls Try.prog 12 #[.agg #[.int .i64 n0, .int .i64 W0]] w fun e w' => e = .returned (.int .i64 (ws.foldl (fun s b => if b = W0 then wrap64 (s + 1) else s) 0)) ∧ Below w.heap.size w w' := by
  have hu := Try.underlying25
  have A1 := Aside0.mk hsm
  have hcall := fun (B1 B2 : Nat) (hne : B1 ≠ B2) (W : World) (h1 : W.heap[B1]? = some (.cells #[.int .i64 n0, .int .i64 W0] 25 (0, 0))) (h2 : W.heap[B2]? = some (.cells #[.int .i64 0] 3 (0, 0))) =>
    impl_Table_images.calls45 n0 W0 #[.pointer (some ⟨B1, 0, none⟩), .pointer (some ⟨B2, 0, none⟩)] (fun W' s => W'.heap[B1]? = some (.cells #[.int .i64 n0, .int .i64 W0] 25 (0, 0)) ∧ W'.heap[B2]? = some (.cells #[.int .i64 s] 3 (0, 0))) B2 (fun s b => if b = W0 then wrap64 (s + 1) else s) ws 0 W (blk_lt h2) ⟨h1, h2⟩ (fun W1 W2 s h _ k => ⟨(k B1 (blk_lt h1)).trans h.1, (k B2 (blk_lt h2)).trans h.2⟩) (fun W1 s b _ h => (impl_SymmetriesOf.in_calls n0 W0 s n0 b B1 B2 hne W1 h.1 h.2).mono fun e w' ⟨he, hc, hk⟩ => ⟨he, ⟨KeepBut.blk hk.1 h.1 hne (by simp), by simpa using hc⟩, hk⟩) hws
  generalize (ws.foldl (fun s b => if b = W0 then wrap64 (s + 1) else s) 0) = r at hcall ⊢
  clear hws hsm
  have HC := Aside0.mk hcall
  clear hcall
  go_enter Try.func12, Try.ntmps12
  go_wp2_with (first | ((with_reducible refine gate_dst (N := 1) rfl ?_); refine box_event ?hg (N := 1) ?hd (cs := #[.int .i64 n0, .int .i64 W0]) (t := 25) ?hr ?_; (case hd => rfl); (case hg => rfl); (case hr => first | (go_simp; done) | (go_simp; rfl)); intro g1 hg w1 hbox hb; have HB1 := Aside0.mk hb; have R1 := Aside0.mk hbox; have h1z : w.heap.size ≤ g1 := (by omega); have hs1 := hb.size; clear hg hbox hb; have k0 := (blk_cell R1.out 0).trans rfl; have k1 := (blk_cell R1.out 1).trans rfl) | (go_at_call 41; (with_reducible refine (impl_isSmall.calls n0 W0 4 true _ A1.out).mono ?_); rintro e w2 ⟨rfl, hb2⟩; have HB2 := Aside0.mk hb2; have R12 := Aside0.mk (blk_below R1.out hb2); have hs2 := hb2.size; clear hb2) | ((with_reducible refine gate_dst (N := 3) rfl ?_); refine box_event ?hg (N := 3) ?hd (cs := #[.int .i64 0]) (t := 3) ?hr ?_; (case hd => rfl); (case hg => rfl); (case hr => first | (go_simp; done) | (go_simp; rfl)); intro g3 hg w3 hbox hb; have HB3 := Aside0.mk hb; have R3 := Aside0.mk hbox; have R13 := Aside0.mk (blk_below R12.out hb); have h3z : w.heap.size ≤ g3 := (by omega); have h31 : g3 ≠ g1 := (by have := blk_lt R12.out; omega); have h13 : g1 ≠ g3 := (fun e => h31 e.symm); clear hg hbox hb; have q0 := (blk_cell R13.out 0).trans rfl; have q1 := (blk_cell R13.out 1).trans rfl; have m0 := (blk_cell R3.out 0).trans rfl; have mf0 := blk_frozen R3.out 0) | (go_at_call 44; refine (HC.out g1 g3 h13 _ (blk_far R13.out (by first | exact h13 | exact h31) _) (blk_put (cs := #[.int .i64 0]) R3.out 0 (.int .i64 0) rfl)).mono ?_; rintro e w5 ⟨rfl, hr5, hk5⟩; have R35 := Aside0.mk hr5.2; have HK5 := Aside0.mk hk5; have z0 := (blk_cell R35.out 0).trans rfl; clear hr5 hk5))
  go_ret
  have B3 := below_set (j := 0) (v := .int .i64 0) (below_step (below_step HB1.out HB2.out) HB3.out) h3z
  exact ⟨rfl, B3.trans (KeepO.below HK5.out (B := w.heap.size) h3z B3.size)⟩
set_option maxHeartbeats 4000000 in
set_option maxRecDepth 100000 in
theorem impl_SymmetriesOf.calls (n0 W0 r : Int) (w : World) (h : impl_SymmetriesOf.f n0 W0 = some r) :
    Calls Try.prog 12 #[.agg #[.int .i64 n0, .int .i64 W0]] w fun e w' => e = .returned (.int .i64 r) ∧ Below w.heap.size w w' := by
  unfold impl_SymmetriesOf.f at h
  obtain ⟨b, hb, h⟩ := Option.bind_eq_some_iff.mp h
  cases b with
  | true =>
    rw [if_pos rfl] at h
    obtain ⟨ws, hws, h⟩ := Option.bind_eq_some_iff.mp h
    obtain rfl := Option.some.inj h
    exact impl_SymmetriesOf.calls_ n0 W0 ws w hb hws
  | false =>
    have hr := Option.some.inj h
    subst hr
    have AS := Aside0.mk hb
    have hu := Try.underlying25
    clear h hb
    go_enter Try.func12, Try.ntmps12
    go_wp2_with (first | ((with_reducible refine gate_dst (N := 1) rfl ?_); refine box_event ?hg (N := 1) ?hd (cs := #[.int .i64 n0, .int .i64 W0]) (t := 25) ?hr ?_; (case hd => rfl); (case hg => rfl); (case hr => first | (go_simp; done) | (go_simp; rfl)); intro gb hg w1 hbox hb; have HB1 := Aside0.mk hb; have RK := Aside0.mk hbox; clear hg hbox hb; have k0 := (blk_cell RK.out 0).trans rfl; have k1 := (blk_cell RK.out 1).trans rfl) | (go_at_call 41; (with_reducible refine (impl_isSmall.calls n0 W0 4 _ _ AS.out).mono ?_); rintro e w2 ⟨rfl, hb2⟩; have HB2 := Aside0.mk (below_step HB1.out hb2); clear hb2))
    go_ret
    exact ⟨rfl, HB2.out⟩


/-! ### spec_SymmetriesOf: function 13 -/
def spec_SymmetriesOf.f (k : Nat) (a0_0 : Int) (a0_1 : Int) : Option (Int) := (spec_IsTable.f a0_0 a0_1).bind fun t676 => (if t676 = true then (if a0_0 > 4 then (some (-1)) else ((spec_l4Least.f k a0_0 a0_1).bind fun bt677 => (some bt677.2))) else (some (-1)))
theorem spec_SymmetriesOf.mono : ∀ a0 a1 k, LeO (spec_SymmetriesOf.f k a0 a1) (spec_SymmetriesOf.f (k + 1) a0 a1) := by
 intro a0 a1 k
 unfold spec_SymmetriesOf.f
 repeat' first
   | (with_reducible exact spec_l4Least.mono _ _ _)
   | (with_reducible exact LeO.refl _)
   | (with_reducible exact LeO.none _)
   | (with_reducible refine LeO.ite ?_ ?_)
   | (with_reducible refine LeO.bind ?_ (fun _ => ?_))
   | exact spec_l4Least.mono _ _ _
   | exact LeO.none _
   | refine LeO.ite ?_ ?_
   | refine LeO.bind ?_ (fun _ => ?_)
set_option maxHeartbeats 8000000 in
set_option maxRecDepth 100000 in
theorem spec_SymmetriesOf.calls (k : Nat) (a0_0 : Int) (a0_1 : Int) (r : Int) (w : World) (h : spec_SymmetriesOf.f k a0_0 a0_1 = some r) :
  Calls Try.prog 13 #[.agg #[.int .i64 a0_0, .int .i64 a0_1]] w fun e w' => e = .returned (.int .i64 r) ∧ Below w.heap.size w w' := by
 have hu25 := Try.underlying25
 have HB := Aside0.mk (Below.refl w.heap.size w)
 have H : ((spec_IsTable.f a0_0 a0_1).bind fun t676 => (if t676 = true then (if a0_0 > 4 then (some (-1)) else ((spec_l4Least.f k a0_0 a0_1).bind fun bt677 => (some bt677.2))) else (some (-1)))) = some r := h
 clear h
 replace H := Option.bind_eq_some_iff.mp H
 obtain ⟨t676, A20, H⟩ := H
 have A2 := Aside0.mk A20
 clear A20
 by_cases c3 : t676 = true
 ·subst c3
  rw [if_pos rfl] at H
  by_cases c4 : a0_0 > 4
  ·rw [if_pos c4] at H
   have c4b0 : decide (4 < a0_0) = true := decide_eq_true c4
   clear c4
   obtain rfl := Option.some.inj H
   go_enter Try.func13, Try.ntmps13
   go_wp2_with (first | ((with_reducible refine gate_dst (N := 1) rfl ?_); refine bx_ 1 #[.int .i64 a0_0, .int .i64 a0_1] 25 ?_; intro gb675 hg w5 hbox hb; have BK675 := Aside0.mk (hbox); have GW675 := gw_ hg (below_size (bv_ HB)); have GE675 := GW675; replace HB := Aside0.mk (below_step (bv_ HB) hb); clear hb hbox hg; obtain ⟨hcz6_0, hcz6_1, hfz6_0, hfz6_1⟩ := c2_ BK675) | ((with_reducible refine gate_callee (f := 31) rfl ?_); refine gl_ 6 Try.func31 #[.agg #[.int .i64 a0_0, .int .i64 a0_1]] rfl mp_ ?_; (with_reducible refine (spec_IsTable.calls a0_0 a0_1 true _ A2.out).mono ?_); rintro e w7 ⟨rfl, hb⟩; refine ⟨_, rfl, ?_⟩; replace BK675 := kb_ BK675 hb; replace HB := Aside0.mk (below_step (bv1_ HB GE675) hb); (try clear hb); (try clear hb2); (try clear hk); (try clear hi); obtain ⟨hcz8_0, hcz8_1, hfz8_0, hfz8_1⟩ := c2_ BK675))
   go_ret
   exact ⟨er_, bv1_ HB GE675⟩
  ·rw [if_neg c4] at H
   have c4b0 : decide (4 < a0_0) = false := decide_eq_false c4
   clear c4
   replace H := Option.bind_eq_some_iff.mp H
   obtain ⟨⟨t677, t678⟩, A90, H⟩ := H
   replace H : (some t678) = some r := H
   have A9 := Aside0.mk A90
   clear A90
   obtain rfl := Option.some.inj H
   go_enter Try.func13, Try.ntmps13
   go_wp2_with (first | ((with_reducible refine gate_dst (N := 1) rfl ?_); refine bx_ 1 #[.int .i64 a0_0, .int .i64 a0_1] 25 ?_; intro gb675 hg w10 hbox hb; have BK675 := Aside0.mk (hbox); have GW675 := gw_ hg (below_size (bv_ HB)); have GE675 := GW675; replace HB := Aside0.mk (below_step (bv_ HB) hb); clear hb hbox hg; obtain ⟨hcz11_0, hcz11_1, hfz11_0, hfz11_1⟩ := c2_ BK675) | ((with_reducible refine gate_callee (f := 31) rfl ?_); refine gl_ 6 Try.func31 #[.agg #[.int .i64 a0_0, .int .i64 a0_1]] rfl mp_ ?_; (with_reducible refine (spec_IsTable.calls a0_0 a0_1 true _ A2.out).mono ?_); rintro e w12 ⟨rfl, hb⟩; refine ⟨_, rfl, ?_⟩; replace BK675 := kb_ BK675 hb; replace HB := Aside0.mk (below_step (bv1_ HB GE675) hb); (try clear hb); (try clear hb2); (try clear hk); (try clear hi); obtain ⟨hcz13_0, hcz13_1, hfz13_0, hfz13_1⟩ := c2_ BK675) | ((with_reducible refine gate_callee (f := 43) rfl ?_); refine gl_ 15 Try.func43 #[.agg #[.int .i64 a0_0, .int .i64 a0_1]] rfl mp_ ?_; (with_reducible refine (spec_l4Least.calls k a0_0 a0_1 t677 t678 _ A9.out).mono ?_); rintro e w14 ⟨rfl, hb⟩; refine ⟨_, rfl, ?_⟩; replace BK675 := kb_ BK675 hb; replace HB := Aside0.mk (below_step (bv1_ HB GE675) hb); (try clear hb); (try clear hb2); (try clear hk); (try clear hi)))
   go_ret
   exact ⟨er_, bv1_ HB GE675⟩
 ·replace c3 := Bool.eq_false_iff.mpr c3
  subst c3
  rw [if_neg (show ¬ (false = true) by decide)] at H
  obtain rfl := Option.some.inj H
  go_enter Try.func13, Try.ntmps13
  go_wp2_with (first | ((with_reducible refine gate_dst (N := 1) rfl ?_); refine bx_ 1 #[.int .i64 a0_0, .int .i64 a0_1] 25 ?_; intro gb675 hg w15 hbox hb; have BK675 := Aside0.mk (hbox); have GW675 := gw_ hg (below_size (bv_ HB)); have GE675 := GW675; replace HB := Aside0.mk (below_step (bv_ HB) hb); clear hb hbox hg; obtain ⟨hcz16_0, hcz16_1, hfz16_0, hfz16_1⟩ := c2_ BK675) | ((with_reducible refine gate_callee (f := 31) rfl ?_); refine gl_ 6 Try.func31 #[.agg #[.int .i64 a0_0, .int .i64 a0_1]] rfl mp_ ?_; (with_reducible refine (spec_IsTable.calls a0_0 a0_1 false _ A2.out).mono ?_); rintro e w17 ⟨rfl, hb⟩; refine ⟨_, rfl, ?_⟩; replace BK675 := kb_ BK675 hb; replace HB := Aside0.mk (below_step (bv1_ HB GE675) hb); (try clear hb); (try clear hb2); (try clear hk); (try clear hi)))
  go_ret
  exact ⟨er_, bv1_ HB GE675⟩


/-! ### impl_ClassSize: function 14 -/
/-! A map from words to true as a set: the block of the map, and what lies in it. -/
def impl_ClassSize.ins (s : List Int) (b : Int) : List Int := if b ∈ s then s else b :: s
theorem impl_ClassSize.key (b : Int) (hb : (Lit.int .i64 b).wf = true) : keyOf Try.prog 3 (.int .i64 b) = some (.int .i64 b) := Go.Maps.keyOf_int_mk Try.underlying3 hb
def impl_ClassSize.M (W : World) (B2 BM : Nat) (s : List Int) : Prop :=
  W.heap[B2]? = some (.cells #[.map (some BM)] 63 (0, 0)) ∧ B2 ≠ BM ∧ ∃ D : DataW Unit, W.ownsMap Try.prog 3 (plainElem Try.prog 4) BM s.length D ∧ Go.Maps.size D = s.length ∧ ∀ x, (Lit.int .i64 x).wf = true → Go.Maps.has D (.int .i64 x) = decide (x ∈ s)
theorem impl_ClassSize.M.lt {W : World} {B2 BM : Nat} {s : List Int} (h : impl_ClassSize.M W B2 BM s) : B2 < W.heap.size ∧ BM < W.heap.size := by
  obtain ⟨h1, _, D, h2, _⟩ := h
  exact ⟨blk_lt h1, h2.lt⟩
theorem impl_ClassSize.M.kept {W W' : World} {B2 BM : Nat} {s : List Int} (h : impl_ClassSize.M W B2 BM s) (h1 : W'.heap[B2]? = W.heap[B2]?) (h2 : W'.heap[BM]? = W.heap[BM]?) : impl_ClassSize.M W' B2 BM s := by
  obtain ⟨k1, kne, D, ⟨es, clock, hb, rest⟩, k3, k4⟩ := h
  exact ⟨h1.trans k1, kne, D, ⟨es, clock, h2.trans hb, rest⟩, k3, k4⟩
theorem impl_ClassSize.M.below {W W' : World} {B2 BM : Nat} {s : List Int} (h : impl_ClassSize.M W B2 BM s) (hb : Below W.heap.size W W') : impl_ClassSize.M W' B2 BM s :=
  h.kept (hb.block _ h.lt.1) (hb.block _ h.lt.2)
theorem impl_ClassSize.fit {W : World} {BM k : Nat} {D : DataW Unit} (h : W.ownsMap Try.prog 3 (plainElem Try.prog 4) BM k D) : W.ownsMap Try.prog 3 (plainElem Try.prog 4) BM (Go.Maps.size D) D := by
  obtain ⟨es, clock, hb, F, hs, rfl⟩ := h
  exact ⟨es, clock, hb, F, by rw [Go.Maps.size_eq, length_read]; exact Nat.le_refl _, rfl⟩
theorem impl_ClassSize.M.store {W : World} {B2 BM : Nat} {s : List Int} (h : impl_ClassSize.M W B2 BM s) (hs : s.length < maxLen) {b : Int} (hb : (Lit.int .i64 b).wf = true) :
    ∃ w', (Instr.mapUpdate 63 (.map (some BM)) (.int .i64 b) (.bool true)).run Try.prog W = .ok () w' ∧ impl_ClassSize.M w' B2 BM (impl_ClassSize.ins s b) ∧ W.mapTurned w' BM := by
  obtain ⟨k1, kne, D, k2, k3, k4⟩ := h
  have law : Go.Maps.Keyed Try.prog 3 := Go.Maps.int_keyed Try.underlying3
  have hl := impl_ClassSize.key b hb
  obtain ⟨w', hrun, ho', ht⟩ := k2.store law Try.underlying63 hs hl (plainElem_bool Try.underlying4 true)
  have hk : WideAt.IsKeyLit (.int .i64 b) := law.key hl
  have hsz : Go.Maps.size (D.put (.int .i64 b) (.lit (.bool true))) = (impl_ClassSize.ins s b).length := by
    rw [Go.Maps.size_put (k2.tidy law), k4 b hb, k3]
    unfold impl_ClassSize.ins
    by_cases hm : b ∈ s
    · simp [hm]
    · simp [hm]
  have hf := impl_ClassSize.fit ho'
  rw [hsz] at hf
  refine ⟨w', hrun, ⟨blk_grown k1 ht.grown (by simp; exact kne), kne, _, hf, hsz, fun x hx => ?_⟩, ht⟩
  by_cases e : x = b
  · subst e
    rw [Go.Maps.has_put_same k2.isMap hk]
    unfold impl_ClassSize.ins
    by_cases hm : x ∈ s <;> simp [hm]
  · rw [Go.Maps.has_put_other (fun h_ => e (by injection h_)), k4 x hx]
    unfold impl_ClassSize.ins
    by_cases hm : b ∈ s <;> simp [hm, e]
theorem impl_ClassSize.ins_nodup {s : List Int} (h : s.Nodup) (b : Int) : (impl_ClassSize.ins s b).Nodup := by
  unfold impl_ClassSize.ins
  by_cases hm : b ∈ s
  · rw [if_pos hm]; exact h
  · rw [if_neg hm]; exact List.nodup_cons.mpr ⟨hm, h⟩
theorem impl_ClassSize.len_le : ∀ (s l : List Int), s.Nodup → (∀ x ∈ s, x ∈ l) → s.length ≤ l.length
  | [], _, _, _ => Nat.zero_le _
  | a :: s, l, h, hs => by
    have ha := hs a (List.mem_cons_self)
    have h2 := impl_ClassSize.len_le s (l.erase a) (List.nodup_cons.mp h).2 (fun x hx => (List.mem_erase_of_ne (by rintro rfl; exact (List.nodup_cons.mp h).1 hx)).mpr (hs x (List.mem_cons_of_mem _ hx)))
    rw [List.length_erase_of_mem ha] at h2
    have : 0 < l.length := List.length_pos_of_mem ha
    simp only [List.length_cons]
    omega
set_option maxHeartbeats 4000000 in
set_option maxRecDepth 100000 in
theorem impl_ClassSize.in_calls (g0 b : Int) (s : List Int) (B2 BM : Nat) (W : World) (h : impl_ClassSize.M W B2 BM s) (hs : s.length < maxLen) (hb : (Lit.int .i64 b).wf = true) :
    Calls Try.prog 46 #[.agg #[.int .i64 g0, .int .i64 b], .pointer (some ⟨B2, 0, none⟩)] W fun e w' => e = .returned (.tuple #[]) ∧ impl_ClassSize.M w' B2 BM (impl_ClassSize.ins s b) ∧ KeepO W w' BM := by
  have hu := Try.underlying25
  have HM := Aside0.mk h
  have HW := Aside0.mk hb
  have HS := Aside0.mk hs
  clear h hb hs
  go_enter Try.func46, Try.ntmps46
  go_wp2_with (first | ((with_reducible refine gate_dst (N := 2) rfl ?_); refine box_event ?hg (N := 2) ?hd (cs := #[.int .i64 g0, .int .i64 b]) (t := 25) ?hr ?_; (case hd => rfl); (case hg => rfl); (case hr => first | (go_simp; done) | (go_simp; rfl)); intro gb hg w1 hbox hb; have HB1 := Aside0.mk hb; have RK := Aside0.mk hbox; have HM1 := Aside0.mk (HM.out.below hb); clear hg hbox hb; obtain ⟨w2, hrun, hm2, ht2⟩ := HM1.out.store HS.out HW.out; have HM2 := Aside0.mk hm2; have HT2 := Aside0.mk ht2; clear hm2 ht2; have k0 := (blk_cell RK.out 0).trans rfl; have k1 := (blk_cell RK.out 1).trans rfl; have q0 := (blk_cell HM1.out.1 0).trans rfl))
  exact Go.Great.bodyPost_end0 (by kernel_rfl) rfl ⟨rfl, HM2.out, KeepO.trans (KeepO.of_below HB1.out BM) ⟨⟨HT2.out.grown.size, fun i hi hne _ => HT2.out.grown.block i hi (by simpa using hne)⟩, HT2.out.grown.os, HT2.out.grown.tape, HT2.out.grown.output⟩⟩
theorem impl_ClassSize.made {w2 w3 : World} {g3 : Nat} (hb : Below (w2.alloc (.map #[] 0)).heap.size (w2.alloc (.map #[] 0)) w3) (hbox : w3.heap[g3]? = some (.cells #[.map none] 63 (0, 0))) (hg : g3 = (w2.alloc (.map #[] 0)).heap.size) :
    impl_ClassSize.M (w3.setCell ⟨g3, 0, none⟩ (.map (some w2.heap.size))) g3 w2.heap.size [] := by
  have hs : (w2.alloc (.map #[] 0)).heap.size = w2.heap.size + 1 := by simp
  have hne : g3 ≠ w2.heap.size := by omega
  have ho := (World.ownsMap_made (H := Unit) w2 Try.prog 3 (plainElem Try.prog 4)).kept (grown_of_below hb none) (by simp)
  exact ⟨blk_put hbox 0 _ rfl, hne, _, ho.setCell (a := ⟨g3, 0, none⟩) (fun e => hne e.symm) _, rfl, fun x _ => by simp [Go.Maps.has]⟩
/-- How many words the images have. -/
def impl_ClassSize.f (n0 W0 : Int) : Option Int := (impl_isSmall.f n0 W0 4).bind fun b => if b = true then (impl_Table_images.f n0 W0).bind fun ws => some ((ws.foldl impl_ClassSize.ins []).length : Int) else some (-1)
set_option maxHeartbeats 4000000 in
set_option maxRecDepth 100000 in
theorem impl_ClassSize.calls_ (n0 W0 : Int) (ws : List Int) (w : World) (hsm : impl_isSmall.f n0 W0 4 = some true) (hws : impl_Table_images.f n0 W0 = some ws) :
    Calls Try.prog 14 #[.agg #[.int .i64 n0, .int .i64 W0]] w fun e w' => e = .returned (.int .i64 ((ws.foldl impl_ClassSize.ins []).length : Int)) ∧ Below w.heap.size w w' := by
  have hu := Try.underlying25
  have hmm := @run_makeMap Try.prog
  have A1 := Aside0.mk hsm
  obtain ⟨-, -, -, -, -, -, -, -, -, -, -, -, -, hlen, hwf⟩ := impl_Table_images.f_is hws
  have hcall := fun (B2 BM : Nat) (W : World) (h : impl_ClassSize.M W B2 BM []) =>
    impl_Table_images.calls46 n0 W0 #[.pointer (some ⟨B2, 0, none⟩)] (fun W' s => impl_ClassSize.M W' B2 BM s ∧ s.Nodup ∧ ∀ x ∈ s, x ∈ ws) BM impl_ClassSize.ins ws [] W h.lt.2 ⟨h, List.nodup_nil, by simp⟩
      (fun W1 W2 s hi _ k => ⟨hi.1.kept (k B2 h.lt.1) (k BM h.lt.2), hi.2⟩)
      (fun W1 s b hb hi => (impl_ClassSize.in_calls n0 b s B2 BM W1 hi.1 (by have := impl_ClassSize.len_le s ws hi.2.1 hi.2.2; simp only [maxLen]; omega) (hwf b hb)).mono fun e w' ⟨he, hc, hk⟩ => ⟨he, ⟨hc, impl_ClassSize.ins_nodup hi.2.1 b, fun x hx => by
        unfold impl_ClassSize.ins at hx
        by_cases hm : b ∈ s
        · rw [if_pos hm] at hx; exact hi.2.2 x hx
        · rw [if_neg hm] at hx
          rcases List.mem_cons.mp hx with rfl | hx
          · exact hb
          · exact hi.2.2 x hx⟩, hk⟩) hws
  generalize ws.foldl impl_ClassSize.ins [] = r at hcall ⊢
  clear hws hsm hlen hwf
  have HC := Aside0.mk hcall
  clear hcall
  go_enter Try.func14, Try.ntmps14
  go_wp2_with (first | ((with_reducible refine gate_dst (N := 1) rfl ?_); refine box_event ?hg (N := 1) ?hd (cs := #[.int .i64 n0, .int .i64 W0]) (t := 25) ?hr ?_; (case hd => rfl); (case hg => rfl); (case hr => first | (go_simp; done) | (go_simp; rfl)); intro g1 hg w1 hbox hb; have HB1 := Aside0.mk hb; have R1 := Aside0.mk hbox; have h1z : w.heap.size ≤ g1 := (by omega); clear hg hbox hb; have k0 := (blk_cell R1.out 0).trans rfl; have k1 := (blk_cell R1.out 1).trans rfl) | (go_at_call 41; (with_reducible refine (impl_isSmall.calls n0 W0 4 true _ A1.out).mono ?_); rintro e w2 ⟨rfl, hb2⟩; have HB2 := Aside0.mk (below_step HB1.out hb2); have R12 := Aside0.mk (blk_below R1.out hb2); have h2z := HB2.out.size; clear hb2 HB1) | ((with_reducible refine gate_dst (N := 3) rfl ?_); refine box_event ?hg (N := 3) ?hd (cs := #[.map none]) (t := 63) ?hr ?_; (case hd => rfl); (case hg => rfl); (case hr => first | (go_simp; done) | (go_simp; rfl)); intro g3 hg w3 hbox hb; have HM3 := Aside0.mk (impl_ClassSize.made hb hbox hg); have HB3 := Aside0.mk (below_step (below_alloc HB2.out (.map #[] 0)) hb); have R13 := Aside0.mk (blk_below (blk_alloc R12.out (.map #[] 0)) hb); have h3z : w.heap.size ≤ g3 := (by have := (below_alloc HB2.out (.map #[] 0)).size; omega); have h31 : g3 ≠ g1 := (by have := blk_lt R12.out; have e_ : (w2.alloc (.map #[] 0)).heap.size = w2.heap.size + 1 := (by simp); omega); have h13 : g1 ≠ g3 := (fun e => h31 e.symm); have m0 := (blk_cell hbox 0).trans rfl; have mf0 := blk_frozen hbox 0; clear hg hbox hb; have q0 := (blk_cell R13.out 0).trans rfl; have q1 := (blk_cell R13.out 1).trans rfl) | (go_at_call 44; refine (HC.out g3 w2.heap.size _ HM3.out).mono ?_; rintro e w5 ⟨rfl, ⟨hm5, -, -⟩, hk5⟩; have HM5 := Aside0.mk hm5; have HK5 := Aside0.mk hk5; have z0 := (blk_cell HM5.out.1 0).trans rfl; obtain ⟨D5, ho5, hs5, -⟩ := hm5.2.2; have HO5 := Aside0.mk ho5; have HS5 := Aside0.mk hs5; clear hm5 hk5 ho5 hs5) | (at_len; refine wpList_len_own _ rfl _ 63 rfl 3 4 Try.underlying63 _ w2.heap.size _ D5 rfl HO5.out ?_))
  go_ret
  have B3 := below_set (j := 0) (v := .map (some w2.heap.size)) HB3.out h3z
  exact ⟨by rw [HS5.out]; rfl, B3.trans (KeepO.below HK5.out (B := w.heap.size) h2z B3.size)⟩
set_option maxHeartbeats 4000000 in
set_option maxRecDepth 100000 in
theorem impl_ClassSize.calls (n0 W0 r : Int) (w : World) (h : impl_ClassSize.f n0 W0 = some r) :
    Calls Try.prog 14 #[.agg #[.int .i64 n0, .int .i64 W0]] w fun e w' => e = .returned (.int .i64 r) ∧ Below w.heap.size w w' := by
  unfold impl_ClassSize.f at h
  obtain ⟨b, hb, h⟩ := Option.bind_eq_some_iff.mp h
  cases b with
  | true =>
    rw [if_pos rfl] at h
    obtain ⟨ws, hws, h⟩ := Option.bind_eq_some_iff.mp h
    obtain rfl := Option.some.inj h
    exact impl_ClassSize.calls_ n0 W0 ws w hb hws
  | false =>
    have hr := Option.some.inj h
    subst hr
    have AS := Aside0.mk hb
    have hu := Try.underlying25
    clear h hb
    go_enter Try.func14, Try.ntmps14
    go_wp2_with (first | ((with_reducible refine gate_dst (N := 1) rfl ?_); refine box_event ?hg (N := 1) ?hd (cs := #[.int .i64 n0, .int .i64 W0]) (t := 25) ?hr ?_; (case hd => rfl); (case hg => rfl); (case hr => first | (go_simp; done) | (go_simp; rfl)); intro gb hg w1 hbox hb; have HB1 := Aside0.mk hb; have RK := Aside0.mk hbox; clear hg hbox hb; have k0 := (blk_cell RK.out 0).trans rfl; have k1 := (blk_cell RK.out 1).trans rfl) | (go_at_call 41; (with_reducible refine (impl_isSmall.calls n0 W0 4 _ _ AS.out).mono ?_); rintro e w2 ⟨rfl, hb2⟩; have HB2 := Aside0.mk (below_step HB1.out hb2); clear hb2))
    go_ret
    exact ⟨rfl, HB2.out⟩


/-! ### spec_ClassSize: function 15 -/
def spec_ClassSize.l0 : Nat → Int → Int → Int → Int → Int → Option (Int)
 | 0, _, _, _, _, _ => none
 | k + 1, x3, x4, x5, x720000, x720001 => if x5 ≤ x720000 then (spec_ClassSize.l0 k x3 (wrap64 ((wrap64 (x4 * 2)) * x5)) (wrap64 (x5 + 1)) x720000 x720001) else (if x3 = 0 then (none) else (some (wrap64 (Int.tdiv x4 x3))))
def spec_ClassSize.f (k : Nat) (a0_0 : Int) (a0_1 : Int) : Option (Int) := (spec_SymmetriesOf.f k a0_0 a0_1).bind fun t720 => (if t720 < 0 then (some (-1)) else (spec_ClassSize.l0 k t720 2 1 a0_0 a0_1))
theorem spec_ClassSize.mono_l : ∀ k, (∀ y0 y1 y2 y3 y4, LeO (spec_ClassSize.l0 k y0 y1 y2 y3 y4) (spec_ClassSize.l0 (k + 1) y0 y1 y2 y3 y4))
 | 0 => fun _ _ _ _ _ r h => by simp [spec_ClassSize.l0] at h
 | k + 1 => by
  have ih0 := spec_ClassSize.mono_l k
  ·intro y0 y1 y2 y3 y4
   unfold spec_ClassSize.l0
   repeat' first
   | (with_reducible exact ih0 _ _ _ _ _)
   | (with_reducible exact spec_SymmetriesOf.mono _ _ _)
   | (with_reducible exact LeO.refl _)
   | (with_reducible exact LeO.none _)
   | (with_reducible refine LeO.ite ?_ ?_)
   | (with_reducible refine LeO.bind ?_ (fun _ => ?_))
   | exact ih0 _ _ _ _ _
   | exact spec_SymmetriesOf.mono _ _ _
   | exact LeO.none _
   | refine LeO.ite ?_ ?_
   | refine LeO.bind ?_ (fun _ => ?_)
theorem spec_ClassSize.mono : ∀ a0 a1 k, LeO (spec_ClassSize.f k a0 a1) (spec_ClassSize.f (k + 1) a0 a1) := by
 intro a0 a1 k
 have ih0 := spec_ClassSize.mono_l k
 unfold spec_ClassSize.f
 repeat' first
   | (with_reducible exact ih0 _ _ _ _ _)
   | (with_reducible exact spec_SymmetriesOf.mono _ _ _)
   | (with_reducible exact LeO.refl _)
   | (with_reducible exact LeO.none _)
   | (with_reducible refine LeO.ite ?_ ?_)
   | (with_reducible refine LeO.bind ?_ (fun _ => ?_))
   | exact ih0 _ _ _ _ _
   | exact spec_SymmetriesOf.mono _ _ _
   | exact LeO.none _
   | refine LeO.ite ?_ ?_
   | refine LeO.bind ?_ (fun _ => ?_)
set_option maxHeartbeats 8000000 in
set_option maxRecDepth 100000 in
theorem spec_ClassSize.calls (k : Nat) (a0_0 : Int) (a0_1 : Int) (r : Int) (w : World) (h : spec_ClassSize.f k a0_0 a0_1 = some r) :
  Calls Try.prog 15 #[.agg #[.int .i64 a0_0, .int .i64 a0_1]] w fun e w' => e = .returned (.int .i64 r) ∧ Below w.heap.size w w' := by
 have hu25 := Try.underlying25
 have HB := Aside0.mk (Below.refl w.heap.size w)
 have H : ((spec_SymmetriesOf.f k a0_0 a0_1).bind fun t720 => (if t720 < 0 then (some (-1)) else (spec_ClassSize.l0 k t720 2 1 a0_0 a0_1))) = some r := h
 clear h
 replace H := Option.bind_eq_some_iff.mp H
 obtain ⟨t720, A20, H⟩ := H
 have A2 := Aside0.mk A20
 clear A20
 by_cases c3 : t720 < 0
 ·rw [if_pos c3] at H
  have c3b0 : decide (t720 < 0) = true := decide_eq_true c3
  clear c3
  obtain rfl := Option.some.inj H
  go_enter Try.func15, Try.ntmps15
  go_wp2_with (first | ((with_reducible refine gate_dst (N := 1) rfl ?_); refine bx_ 1 #[.int .i64 a0_0, .int .i64 a0_1] 25 ?_; intro gb719 hg w4 hbox hb; have BK719 := Aside0.mk (hbox); have GW719 := gw_ hg (below_size (bv_ HB)); have GE719 := GW719; replace HB := Aside0.mk (below_step (bv_ HB) hb); clear hb hbox hg; obtain ⟨hcz5_0, hcz5_1, hfz5_0, hfz5_1⟩ := c2_ BK719) | ((with_reducible refine gate_callee (f := 13) rfl ?_); refine gl_ 7 Try.func13 #[.agg #[.int .i64 a0_0, .int .i64 a0_1]] rfl mp_ ?_; (with_reducible refine (spec_SymmetriesOf.calls k a0_0 a0_1 t720 _ A2.out).mono ?_); rintro e w6 ⟨rfl, hb⟩; refine ⟨_, rfl, ?_⟩; replace BK719 := kb_ BK719 hb; replace HB := Aside0.mk (below_step (bv1_ HB GE719) hb); (try clear hb); (try clear hb2); (try clear hk); (try clear hi)))
  go_ret
  exact ⟨er_, bv1_ HB GE719⟩
 ·rw [if_neg c3] at H
  have c3b0 : decide (t720 < 0) = false := decide_eq_false c3
  clear c3
  have H' := Aside0.mk H
  clear H
  go_enter Try.func15, Try.ntmps15
  go_wp2_with (first | ((with_reducible refine gate_dst (N := 1) rfl ?_); refine bx_ 1 #[.int .i64 a0_0, .int .i64 a0_1] 25 ?_; intro gb719 hg w7 hbox hb; have BK719 := Aside0.mk (hbox); have GW719 := gw_ hg (below_size (bv_ HB)); have GE719 := GW719; replace HB := Aside0.mk (below_step (bv_ HB) hb); clear hb hbox hg; obtain ⟨hcz8_0, hcz8_1, hfz8_0, hfz8_1⟩ := c2_ BK719) | ((with_reducible refine gate_callee (f := 13) rfl ?_); refine gl_ 7 Try.func13 #[.agg #[.int .i64 a0_0, .int .i64 a0_1]] rfl mp_ ?_; (with_reducible refine (spec_SymmetriesOf.calls k a0_0 a0_1 t720 _ A2.out).mono ?_); rintro e w9 ⟨rfl, hb⟩; refine ⟨_, rfl, ?_⟩; replace BK719 := kb_ BK719 hb; replace HB := Aside0.mk (below_step (bv1_ HB GE719) hb); (try clear hb); (try clear hb2); (try clear hk); (try clear hi)))
  go_loopg [4, 5] k (fun kq v4 v5 w' => ∃ (x4_1 : Int) (x5_1 : Int), v4 = .int .i64 x4_1 ∧ v5 = .int .i64 x5_1 ∧ Aside0 (spec_ClassSize.l0 kq t720 x4_1 x5_1 a0_0 a0_1 = some r) ∧ Aside0 (kq ≤ k) ∧ Aside0 (w'.heap[gb719]? = some (.cells #[.int .i64 a0_0, .int .i64 a0_1] 25 (0, 0))) ∧ Aside0 (Below w.heap.size w w'))
  case atStart => exact ⟨(2), (1), (by first | rfl | (simp; done) | (simp [*]; done)), (by first | rfl | (simp; done) | (simp [*]; done)), H', ⟨Nat.le_refl _⟩, ⟨by (with_reducible repeat (first | refine blk_drewN ?_ _ | refine blk_drew ?_ | refine blk_alloc ?_ _)); exact BK719.out⟩, ⟨bv1_ HB GE719⟩⟩
  case round =>
   clear H'
   try clear c1
   try clear p2
   try clear c3
   try clear c3b0
   try clear hcz5_0
   try clear hcz5_1
   try clear hcz8_0
   try clear hcz8_1
   try clear hfz5_0
   try clear hfz5_1
   try clear hfz8_0
   try clear hfz8_1
   obtain ⟨x4_1, x5_1, rfl, rfl, HA, HK1, BK719, HB⟩ := hrel
   cases gk with
   | zero => exact absurd HA.out (by simp [spec_ClassSize.l0])
   | succ k1 =>
    have H := HA.out
    clear HA
    simp only [spec_ClassSize.l0] at H
    by_cases c10 : x5_1 ≤ a0_0
    ·rw [if_pos c10] at H
     have c10b0 : decide (x5_1 ≤ a0_0) = true := decide_eq_true c10
     clear c10
     have H' := Aside0.mk H
     clear H
     obtain ⟨hcz11_0, hcz11_1, hfz11_0, hfz11_1⟩ := c2_ BK719
     go_wp2
     go_roundg k1
     case measure => have := HK1.out; omega
     case rel => exact ⟨(wrap64 ((wrap64 (x4_1 * 2)) * x5_1)), (wrap64 (x5_1 + 1)), (by first | rfl | (simp; done) | (simp [*]; done)), (by first | rfl | (simp; done) | (simp [*]; done)), H', ⟨by have := HK1.out; omega⟩, ⟨by (with_reducible repeat (first | refine blk_drewN ?_ _ | refine blk_drew ?_ | refine blk_alloc ?_ _)); exact BK719.out⟩, ⟨bv1_ HB GE719⟩⟩
    ·rw [if_neg c10] at H
     have c10b0 : decide (x5_1 ≤ a0_0) = false := decide_eq_false c10
     clear c10
     by_cases c12 : t720 = 0
     ·rw [if_pos c12] at H
      exact absurd H (by simp)
     ·rw [if_neg c12] at H
      have c12b0 : (t720 == 0) = false := beq_eq_false_iff_ne.mpr c12
      have c12b1 : (t720 != 0) = true := bne_iff_ne.mpr c12
      obtain rfl := Option.some.inj H
      obtain ⟨hcz13_0, hcz13_1, hfz13_0, hfz13_1⟩ := c2_ BK719
      go_wp2
      go_ret
      exact ⟨er_, bv1_ HB GE719⟩


/-! ### impl_PermutationsOf: function 16 -/
def impl_PermutationsOf.f (a0 : Int) : Option ((List (List Int)) × Bool) := if a0 < 0 then (some (([] : List (List Int)), false)) else (if a0 > 4 then (some (([] : List (List Int)), false)) else ((impl_permutations.f a0).bind fun t721 => (some (t721, true))))
set_option maxHeartbeats 8000000 in
set_option maxRecDepth 100000 in
theorem impl_PermutationsOf.calls (a0 : Int) (r1 : List (List Int)) (r2 : Bool) (w : World) (h : impl_PermutationsOf.f a0 = some (r1, r2)) :
  Calls Try.prog 16 #[.int .i64 a0] w fun e w' => ∃ v0_ : Value, e = .returned (.tuple #[v0_, .bool r2]) ∧ Kd.N (Kd.slice 3 (Kd.int .i64)) 38 w' w.heap.size (fun k_ => (w.heap.size ≤ k_)) v0_ r1 ∧ Below w.heap.size w w' := by
 have HB := Aside0.mk (Below.refl w.heap.size w)
 have H : (if a0 < 0 then (some (([] : List (List Int)), false)) else (if a0 > 4 then (some (([] : List (List Int)), false)) else ((impl_permutations.f a0).bind fun t721 => (some (t721, true))))) = some (r1, r2) := h
 clear h
 by_cases c2 : a0 < 0
 ·rw [if_pos c2] at H
  have c2b0 : decide (a0 < 0) = true := decide_eq_true c2
  clear c2
  simp only [Option.some.injEq, Prod.mk.injEq] at H
  obtain ⟨rfl, rfl⟩ := H
  go_enter Try.func16, Try.ntmps16
  go_wp2
  go_ret2
  exact ⟨_, er_, by first | exact Kd.S_nil _ _ _ _ _ | exact Kd.N_nil _ _ _ _ _ | exact Kd.V_nil _ _ _ _ _ | exact Kd.Q_nil _ _ _ _ _ | exact Kd.R_nil _ _ _ _ _, bv_ HB⟩
 ·rw [if_neg c2] at H
  have c2b0 : decide (a0 < 0) = false := decide_eq_false c2
  clear c2
  by_cases c3 : a0 > 4
  ·rw [if_pos c3] at H
   have c3b0 : decide (4 < a0) = true := decide_eq_true c3
   clear c3
   simp only [Option.some.injEq, Prod.mk.injEq] at H
   obtain ⟨rfl, rfl⟩ := H
   go_enter Try.func16, Try.ntmps16
   go_wp2
   go_ret2
   exact ⟨_, er_, by first | exact Kd.S_nil _ _ _ _ _ | exact Kd.N_nil _ _ _ _ _ | exact Kd.V_nil _ _ _ _ _ | exact Kd.Q_nil _ _ _ _ _ | exact Kd.R_nil _ _ _ _ _, bv_ HB⟩
  ·rw [if_neg c3] at H
   have c3b0 : decide (4 < a0) = false := decide_eq_false c3
   clear c3
   replace H := Option.bind_eq_some_iff.mp H
   obtain ⟨t721, A40, H⟩ := H
   have A4 := Aside0.mk A40
   clear A40
   simp only [Option.some.injEq, Prod.mk.injEq] at H
   obtain ⟨rfl, rfl⟩ := H
   go_enter Try.func16, Try.ntmps16
   go_wp2_with (first | ((with_reducible refine gate_callee (f := 47) rfl ?_); refine gl_ 11 Try.func47 #[.int .i64 a0] rfl mp_ ?_; (with_reducible refine (impl_permutations.calls a0 t721 _ A4.out).mono ?_); rintro e w5 ⟨v722, rfl, ho0, hb⟩; refine ⟨_, rfl, ?_⟩; have HO723 := Aside0.mk (Kd.N_lower (Kd.N_mono (ok' := fun k_ => (w.heap.size ≤ k_)) ho0 (fun k_ hk_ => (Nat.le_trans (below_size (bv_ HB)) hk_))) (below_size (bv_ HB))); replace HB := Aside0.mk (below_step (bv_ HB) hb); (try clear hb); (try clear hb2); (try clear hk); (try clear hi); (try clear ho0)))
   go_ret2
   exact ⟨_, er_, by (with_reducible repeat (first | apply Kd.N_alloc | apply Kd.N_drewN | apply Kd.N_drew)); exact HO723.out, bv_ HB⟩


/-! ### spec_l3Perm: function 48 -/
mutual
def spec_l3Perm.l0 : Nat → List Int → Int → Int → Option (Bool)
 | 0, _, _, _ => none
 | k + 1, x0, x1, x5 => if x5 < (x0.length : Int) then (if 0 ≤ x5 then ((spec_l1In.f (rd x0 x5) 0 (wrap64 (x1 - 1))).bind fun t725 => (if t725 = true then (spec_l3Perm.l1 k x0 x1 x5 0) else (some false))) else (none)) else (some ((x0.length : Int) == x1))
def spec_l3Perm.l1 : Nat → List Int → Int → Int → Int → Option (Bool)
 | 0, _, _, _, _ => none
 | k + 1, x0, x1, x5, x6 => if x6 < x5 then (if 0 ≤ x6 then (if x6 < (x0.length : Int) then (if 0 ≤ x5 then (if x5 < (x0.length : Int) then (if (rd x0 x6) = (rd x0 x5) then (some false) else (spec_l3Perm.l1 k x0 x1 x5 (wrap64 (x6 + 1)))) else (none)) else (none)) else (none)) else (none)) else (spec_l3Perm.l0 k x0 x1 (wrap64 (x5 + 1)))
end
def spec_l3Perm.f (k : Nat) (l0 : List Int) (a1 : Int) : Option (Bool) := spec_l3Perm.l0 k l0 a1 0
theorem spec_l3Perm.mono_l : ∀ k, (∀ y0 y1 y2, LeO (spec_l3Perm.l0 k y0 y1 y2) (spec_l3Perm.l0 (k + 1) y0 y1 y2)) ∧ (∀ y0 y1 y2 y3, LeO (spec_l3Perm.l1 k y0 y1 y2 y3) (spec_l3Perm.l1 (k + 1) y0 y1 y2 y3))
 | 0 => ⟨fun _ _ _ r h => by simp [spec_l3Perm.l0] at h, fun _ _ _ _ r h => by simp [spec_l3Perm.l1] at h⟩
 | k + 1 => by
  obtain ⟨ih0, ih1⟩ := spec_l3Perm.mono_l k
  refine ⟨?_, ?_⟩
  ·intro y0 y1 y2
   unfold spec_l3Perm.l0
   repeat' first
   | (with_reducible exact ih0 _ _ _)
   | (with_reducible exact ih1 _ _ _ _)
   | (with_reducible exact LeO.refl _)
   | (with_reducible exact LeO.none _)
   | (with_reducible refine LeO.ite ?_ ?_)
   | (with_reducible refine LeO.bind ?_ (fun _ => ?_))
   | exact ih0 _ _ _
   | exact ih1 _ _ _ _
   | exact LeO.none _
   | refine LeO.ite ?_ ?_
   | refine LeO.bind ?_ (fun _ => ?_)
  ·intro y0 y1 y2 y3
   unfold spec_l3Perm.l1
   repeat' first
   | (with_reducible exact ih0 _ _ _)
   | (with_reducible exact ih1 _ _ _ _)
   | (with_reducible exact LeO.refl _)
   | (with_reducible exact LeO.none _)
   | (with_reducible refine LeO.ite ?_ ?_)
   | (with_reducible refine LeO.bind ?_ (fun _ => ?_))
   | exact ih0 _ _ _
   | exact ih1 _ _ _ _
   | exact LeO.none _
   | refine LeO.ite ?_ ?_
   | refine LeO.bind ?_ (fun _ => ?_)
theorem spec_l3Perm.mono : ∀ a0 a1 k, LeO (spec_l3Perm.f k a0 a1) (spec_l3Perm.f (k + 1) a0 a1) := by
 intro a0 a1 k
 obtain ⟨ih0, ih1⟩ := spec_l3Perm.mono_l k
 unfold spec_l3Perm.f
 repeat' first
   | (with_reducible exact ih0 _ _ _)
   | (with_reducible exact ih1 _ _ _ _)
   | (with_reducible exact LeO.refl _)
   | (with_reducible exact LeO.none _)
   | (with_reducible refine LeO.ite ?_ ?_)
   | (with_reducible refine LeO.bind ?_ (fun _ => ?_))
   | exact ih0 _ _ _
   | exact ih1 _ _ _ _
   | exact LeO.none _
   | refine LeO.ite ?_ ?_
   | refine LeO.bind ?_ (fun _ => ?_)
set_option maxHeartbeats 8000000 in
set_option maxRecDepth 100000 in
theorem spec_l3Perm.calls (k : Nat) (A0 : Option Addr) (c0 : Nat) (l0 : List Int) (a1 : Int) (r : Bool) (w : World) (hr0 : Kd.C (Kd.int .i64) w A0 l0.length l0) (hc0 : l0.length ≤ c0) (h : spec_l3Perm.f k l0 a1 = some r) :
  Calls Try.prog 48 #[.slice A0 l0.length c0, .int .i64 a1] w fun e w' => e = .returned (.bool r) ∧ Drawn0 w w' := by
 have HR0 := Aside0.mk hr0
 have HC0 := Aside0.mk hc0
 clear hr0 hc0
 have H : (spec_l3Perm.l0 k l0 a1 0) = some r := h
 clear h
 have H' := Aside0.mk H
 clear H
 go_enter Try.func48, Try.ntmps48
 go_wp2
 repeat (go_quiet (fail); try go_wp2)
 go_loopg [5] k (fun kq v5 w' => ∃ (x5_1 : Int), v5 = .int .i64 x5_1 ∧ Aside0 (spec_l3Perm.l0 kq l0 a1 x5_1 = some r) ∧ Aside0 (kq ≤ k) ∧ Drawn0 w w')
 case atStart => exact ⟨(0), (by first | rfl | (simp; done) | (simp [*]; done)), H', ⟨Nat.le_refl _⟩, by repeat (first | exact Drawn0.refl _ | apply Drawn0.step)⟩
 case round =>
  clear H'
  try clear p2
  obtain ⟨x5_1, rfl, HA, HK1, ⟨m1, rfl⟩⟩ := hrel
  cases gk with
  | zero => exact absurd HA.out (by simp [spec_l3Perm.l0])
  | succ k1 =>
   have H := HA.out
   clear HA
   simp only [spec_l3Perm.l0] at H
   by_cases c3 : x5_1 < (l0.length : Int)
   ·rw [if_pos c3] at H
    have c3b0 : decide (x5_1 < (l0.length : Int)) = true := decide_eq_true c3
    clear c3
    by_cases c4 : 0 ≤ x5_1
    ·rw [if_pos c4] at H
     have c4b0 : decide (0 ≤ x5_1) = true := decide_eq_true c4
     clear c4
     replace H := Option.bind_eq_some_iff.mp H
     obtain ⟨t725, A50, H⟩ := H
     have A5 := Aside0.mk A50
     clear A50
     by_cases c6 : t725 = true
     ·subst c6
      rw [if_pos rfl] at H
      have H' := Aside0.mk H
      clear H
      have p724 : 0 ≤ (x5_1 : Int) := of_decide_eq_true (by first | (with_reducible assumption) | assumption)
      have q724 : x5_1 < (l0.length : Int) := of_decide_eq_true (by first | (with_reducible assumption) | assumption)
      obtain ⟨ad724, e724, hx724_0⟩ := Kd.at_int HR0.out x5_1 p724 q724
      cases e724
      replace p724 := eq_true p724
      replace q724 := eq_true q724
      go_wp2_with (first | (go_at_call 50; (with_reducible refine (spec_l1In.calls (rd l0 x5_1) 0 (wrap64 (a1 - 1)) true _ A5.out).mono ?_); rintro e w' ⟨rfl, ⟨nd, rfl⟩⟩; (try first | exact ⟨rfl, _, World.drewN_drewN _ _ _⟩ | exact ⟨rfl, _, Eq.trans (World.drewN_drewN _ _ _) (congrArg (World.drewN _) (Nat.add_assoc _ _ _))⟩)))
      repeat (go_quiet (first | (go_at_call 50; (with_reducible refine (spec_l1In.calls (rd l0 x5_1) 0 (wrap64 (a1 - 1)) true _ A5.out).mono ?_); rintro e w' ⟨rfl, ⟨nd, rfl⟩⟩; (try first | exact ⟨rfl, _, World.drewN_drewN _ _ _⟩ | exact ⟨rfl, _, Eq.trans (World.drewN_drewN _ _ _) (congrArg (World.drewN _) (Nat.add_assoc _ _ _))⟩))); try go_wp2_with (first | (go_at_call 50; (with_reducible refine (spec_l1In.calls (rd l0 x5_1) 0 (wrap64 (a1 - 1)) true _ A5.out).mono ?_); rintro e w' ⟨rfl, ⟨nd, rfl⟩⟩; (try first | exact ⟨rfl, _, World.drewN_drewN _ _ _⟩ | exact ⟨rfl, _, Eq.trans (World.drewN_drewN _ _ _) (congrArg (World.drewN _) (Nat.add_assoc _ _ _))⟩))))
      go_loopg [6] k1 (fun kq v6 w' => ∃ (x6_2 : Int), v6 = .int .i64 x6_2 ∧ Aside0 (spec_l3Perm.l1 kq l0 a1 x5_1 x6_2 = some r) ∧ Aside0 (kq ≤ k1) ∧ Drawn0 w w')
      case atStart => exact ⟨(0), (by first | rfl | (simp; done) | (simp [*]; done)), H', ⟨Nat.le_refl _⟩, by repeat (first | exact Drawn0.refl _ | apply Drawn0.step)⟩
      case round =>
       clear H'
       try clear p2
       try clear c3
       try clear c3b0
       try clear c4
       try clear c4b0
       try clear c6
       try clear p6
       try clear hx724_0
       try clear p2
       try clear p724
       try clear q724
       obtain ⟨x6_2, rfl, HA, HK2, ⟨m2, rfl⟩⟩ := hrel
       cases gk with
       | zero => exact absurd HA.out (by simp [spec_l3Perm.l1])
       | succ k2 =>
        have H := HA.out
        clear HA
        simp only [spec_l3Perm.l1] at H
        by_cases c7 : x6_2 < x5_1
        ·rw [if_pos c7] at H
         have c7b0 : decide (x6_2 < x5_1) = true := decide_eq_true c7
         clear c7
         by_cases c8 : 0 ≤ x6_2
         ·rw [if_pos c8] at H
          have c8b0 : decide (0 ≤ x6_2) = true := decide_eq_true c8
          clear c8
          by_cases c9 : x6_2 < (l0.length : Int)
          ·rw [if_pos c9] at H
           have c9b0 : decide (x6_2 < (l0.length : Int)) = true := decide_eq_true c9
           clear c9
           by_cases c10 : 0 ≤ x5_1
           ·rw [if_pos c10] at H
            have c10b0 : decide (0 ≤ x5_1) = true := decide_eq_true c10
            clear c10
            by_cases c11 : x5_1 < (l0.length : Int)
            ·rw [if_pos c11] at H
             have c11b0 : decide (x5_1 < (l0.length : Int)) = true := decide_eq_true c11
             clear c11
             by_cases c12 : (rd l0 x6_2) = (rd l0 x5_1)
             ·rw [if_pos c12] at H
              have c12b0 : ((rd l0 x6_2) == (rd l0 x5_1)) = true := beq_iff_eq.mpr c12
              have c12b1 : ((rd l0 x6_2) != (rd l0 x5_1)) = false := bne_eq_false_iff_eq.mpr c12
              clear c12
              obtain rfl := Option.some.inj H
              have p726 : 0 ≤ (x6_2 : Int) := of_decide_eq_true (by first | (with_reducible assumption) | assumption)
              have q726 : x6_2 < (l0.length : Int) := of_decide_eq_true (by first | (with_reducible assumption) | assumption)
              obtain ⟨ad726, e726, hx726_0⟩ := Kd.at_int HR0.out x6_2 p726 q726
              obtain rfl : ad724 = ad726 := (by injection e726)
              replace p726 := eq_true p726
              replace q726 := eq_true q726
              have p727 : 0 ≤ (x5_1 : Int) := of_decide_eq_true (by first | (with_reducible assumption) | assumption)
              have q727 : x5_1 < (l0.length : Int) := of_decide_eq_true (by first | (with_reducible assumption) | assumption)
              obtain ⟨ad727, e727, hx727_0⟩ := Kd.at_int HR0.out x5_1 p727 q727
              obtain rfl : ad724 = ad727 := (by injection e727)
              replace p727 := eq_true p727
              replace q727 := eq_true q727
              go_wp2
              repeat (go_quiet (fail); try go_wp2)
              go_ret
              exact ⟨by first | rfl | (simp; done) | (simp [*]; done), by repeat (first | exact Drawn0.refl _ | apply Drawn0.step)⟩
             ·rw [if_neg c12] at H
              have c12b0 : ((rd l0 x6_2) == (rd l0 x5_1)) = false := beq_eq_false_iff_ne.mpr c12
              have c12b1 : ((rd l0 x6_2) != (rd l0 x5_1)) = true := bne_iff_ne.mpr c12
              have H' := Aside0.mk H
              clear H
              have p726 : 0 ≤ (x6_2 : Int) := of_decide_eq_true (by first | (with_reducible assumption) | assumption)
              have q726 : x6_2 < (l0.length : Int) := of_decide_eq_true (by first | (with_reducible assumption) | assumption)
              obtain ⟨ad726, e726, hx726_0⟩ := Kd.at_int HR0.out x6_2 p726 q726
              obtain rfl : ad724 = ad726 := (by injection e726)
              replace p726 := eq_true p726
              replace q726 := eq_true q726
              have p727 : 0 ≤ (x5_1 : Int) := of_decide_eq_true (by first | (with_reducible assumption) | assumption)
              have q727 : x5_1 < (l0.length : Int) := of_decide_eq_true (by first | (with_reducible assumption) | assumption)
              obtain ⟨ad727, e727, hx727_0⟩ := Kd.at_int HR0.out x5_1 p727 q727
              obtain rfl : ad724 = ad727 := (by injection e727)
              replace p727 := eq_true p727
              replace q727 := eq_true q727
              go_wp2
              repeat (go_quiet (fail); try go_wp2)
              go_roundg k2
              case measure => have := HK1.out; have := HK2.out; omega
              case rel => exact ⟨(wrap64 (x6_2 + 1)), (by first | rfl | (simp; done) | (simp [*]; done)), H', ⟨by have := HK1.out; have := HK2.out; omega⟩, by repeat (first | exact Drawn0.refl _ | apply Drawn0.step)⟩
            ·rw [if_neg c11] at H
             exact absurd H (by simp)
           ·rw [if_neg c10] at H
            exact absurd H (by simp)
          ·rw [if_neg c9] at H
           exact absurd H (by simp)
         ·rw [if_neg c8] at H
          exact absurd H (by simp)
        ·rw [if_neg c7] at H
         have c7b0 : decide (x6_2 < x5_1) = false := decide_eq_false c7
         clear c7
         have H' := Aside0.mk H
         clear H
         go_wp2
         repeat (go_quiet (fail); try go_wp2)
         go_roundg k2
         case measure => have := HK1.out; have := HK2.out; omega
         case rel => exact ⟨(wrap64 (x5_1 + 1)), (by first | rfl | (simp; done) | (simp [*]; done)), H', ⟨by have := HK1.out; have := HK2.out; omega⟩, by repeat (first | exact Drawn0.refl _ | apply Drawn0.step)⟩
     ·replace c6 := Bool.eq_false_iff.mpr c6
      subst c6
      rw [if_neg (show ¬ (false = true) by decide)] at H
      obtain rfl := Option.some.inj H
      have p724 : 0 ≤ (x5_1 : Int) := of_decide_eq_true (by first | (with_reducible assumption) | assumption)
      have q724 : x5_1 < (l0.length : Int) := of_decide_eq_true (by first | (with_reducible assumption) | assumption)
      obtain ⟨ad724, e724, hx724_0⟩ := Kd.at_int HR0.out x5_1 p724 q724
      cases e724
      replace p724 := eq_true p724
      replace q724 := eq_true q724
      go_wp2_with (first | (go_at_call 50; (with_reducible refine (spec_l1In.calls (rd l0 x5_1) 0 (wrap64 (a1 - 1)) false _ A5.out).mono ?_); rintro e w' ⟨rfl, ⟨nd, rfl⟩⟩; (try first | exact ⟨rfl, _, World.drewN_drewN _ _ _⟩ | exact ⟨rfl, _, Eq.trans (World.drewN_drewN _ _ _) (congrArg (World.drewN _) (Nat.add_assoc _ _ _))⟩)))
      repeat (go_quiet (first | (go_at_call 50; (with_reducible refine (spec_l1In.calls (rd l0 x5_1) 0 (wrap64 (a1 - 1)) false _ A5.out).mono ?_); rintro e w' ⟨rfl, ⟨nd, rfl⟩⟩; (try first | exact ⟨rfl, _, World.drewN_drewN _ _ _⟩ | exact ⟨rfl, _, Eq.trans (World.drewN_drewN _ _ _) (congrArg (World.drewN _) (Nat.add_assoc _ _ _))⟩))); try go_wp2_with (first | (go_at_call 50; (with_reducible refine (spec_l1In.calls (rd l0 x5_1) 0 (wrap64 (a1 - 1)) false _ A5.out).mono ?_); rintro e w' ⟨rfl, ⟨nd, rfl⟩⟩; (try first | exact ⟨rfl, _, World.drewN_drewN _ _ _⟩ | exact ⟨rfl, _, Eq.trans (World.drewN_drewN _ _ _) (congrArg (World.drewN _) (Nat.add_assoc _ _ _))⟩))))
      go_ret
      exact ⟨by first | rfl | (simp; done) | (simp [*]; done), by repeat (first | exact Drawn0.refl _ | apply Drawn0.step)⟩
    ·rw [if_neg c4] at H
     exact absurd H (by simp)
   ·rw [if_neg c3] at H
    have c3b0 : decide (x5_1 < (l0.length : Int)) = false := decide_eq_false c3
    clear c3
    obtain rfl := Option.some.inj H
    go_wp2
    repeat (go_quiet (fail); try go_wp2)
    go_ret
    exact ⟨by first | rfl | (simp; done) | (simp [*]; done), by repeat (first | exact Drawn0.refl _ | apply Drawn0.step)⟩


end Go.Proofs.Yteljkpglgjjnlaa.P
