-- Out of the translation, by this session's program over the printer's; Lean checks it.
import Derived.Test.YtkipjpfkdkkpdaaPx0
import Derived.Test.YtkipjpfkdkkpdaaPx1
import Derived.Test.YtkipjpfkdkkpdaaPx8
import Derived.Test.YtkipjpfkdkkpdaaPx10
import Derived.Test.YtkipjpfkdkkpdaaPx11
import Derived.Test.YtkipjpfkdkkpdaaPx14
namespace Go.Proofs.Ytkipjpfkdkkpdaa.P
open Go.RowKit Go.Proofs.YtkipjpfkdkkpdaaW.PrintWords Go.Proofs.YtkipjpfkdkkpdaaW.PrintLast Go.Proofs.YtkipjpfkdkkpdaaW.PrintMore
attribute [local go_sem] max2_int min2_int max_two min_two max_three min_three max_four min_four   -- for this text's walks alone
set_option linter.unusedVariables false
set_option linter.unusedSimpArgs false

/-! ### spec_AskedOf: function 17 -/
def spec_AskedOf.f (k : Nat) (a0_0 : Int) (a0_1 : Int) (a1 : Int) (a2 : Int) : Option (Int) := (spec_l8Fine.f a0_0 a0_1 a1 a2).bind fun t532 => (if t532 = true then ((spec_l7Best.f k a0_0 a0_1 a1 a2).bind fun t533 => (if t533.toList = ([48] : List UInt8) then (some (-1)) else (if t533.toList = ([49] : List UInt8) then (some (-1)) else (if 0 < (t533.size : Int) then (some (wrap64 ((wrap64 (bt t533 0)) - 97))) else (none))))) else (some (-1)))
theorem spec_AskedOf.mono : ∀ a0 a1 a2 a3 k, LeO (spec_AskedOf.f k a0 a1 a2 a3) (spec_AskedOf.f (k + 1) a0 a1 a2 a3) := by
  intro a0 a1 a2 a3 k
  unfold spec_AskedOf.f
  repeat' first
      | (with_reducible exact spec_l7Best.mono _ _ _ _ _)
      | (with_reducible exact LeO.refl _)
      | (with_reducible exact LeO.none _)
      | (with_reducible refine LeO.ite ?_ ?_)
      | (with_reducible refine LeO.bind ?_ (fun _ => ?_))
      | exact spec_l7Best.mono _ _ _ _ _
      | exact LeO.none _
      | refine LeO.ite ?_ ?_
      | refine LeO.bind ?_ (fun _ => ?_)
set_option maxHeartbeats 8000000 in
set_option maxRecDepth 100000 in
theorem spec_AskedOf.calls (k : Nat) (a0_0 : Int) (a0_1 : Int) (a1 : Int) (a2 : Int) (r : Int) (w : World) (h : spec_AskedOf.f k a0_0 a0_1 a1 a2 = some r) :
    Calls Try.prog 17 #[.agg #[.int .i64 a0_0, .int .i64 a0_1], .int .i64 a1, .int .i64 a2] w fun e w' => e = .returned (.int .i64 r) ∧ Below w.heap.size w w' := by
  have hu25 := Try.underlying25
  have HB := Aside0.mk (Below.refl w.heap.size w)
  have H : ((spec_l8Fine.f a0_0 a0_1 a1 a2).bind fun t532 => (if t532 = true then ((spec_l7Best.f k a0_0 a0_1 a1 a2).bind fun t533 => (if t533.toList = ([48] : List UInt8) then (some (-1)) else (if t533.toList = ([49] : List UInt8) then (some (-1)) else (if 0 < (t533.size : Int) then (some (wrap64 ((wrap64 (bt t533 0)) - 97))) else (none))))) else (some (-1)))) = some r := h
  clear h
  replace H := Option.bind_eq_some_iff.mp H
  obtain ⟨t532, A40, H⟩ := H
  replace H : (if t532 = true then ((spec_l7Best.f k a0_0 a0_1 a1 a2).bind fun t533 => (if t533.toList = ([48] : List UInt8) then (some (-1)) else (if t533.toList = ([49] : List UInt8) then (some (-1)) else (if 0 < (t533.size : Int) then (some (wrap64 ((wrap64 (bt t533 0)) - 97))) else (none))))) else (some (-1))) = some r := H
  have A4 := Aside0.mk A40
  clear A40
  by_cases c5 : t532 = true
  · subst c5
    have H1 : ((spec_l7Best.f k a0_0 a0_1 a1 a2).bind fun t533 => (if t533.toList = ([48] : List UInt8) then (some (-1)) else (if t533.toList = ([49] : List UInt8) then (some (-1)) else (if 0 < (t533.size : Int) then (some (wrap64 ((wrap64 (bt t533 0)) - 97))) else (none))))) = some r := by rw [if_pos rfl] at H; exact H
    clear H
    have H := H1
    clear H1
    replace H := Option.bind_eq_some_iff.mp H
    obtain ⟨t533, A60, H⟩ := H
    replace H : (if t533.toList = ([48] : List UInt8) then (some (-1)) else (if t533.toList = ([49] : List UInt8) then (some (-1)) else (if 0 < (t533.size : Int) then (some (wrap64 ((wrap64 (bt t533 0)) - 97))) else (none)))) = some r := H
    have A6 := Aside0.mk A60
    clear A60
    by_cases c7 : t533.toList = ([48] : List UInt8)
    · rw [if_pos c7] at H
      have c7b0 : (t533.toList == ([48] : List UInt8)) = true := beq_iff_eq.mpr c7
      have c7b1 : (t533.toList != ([48] : List UInt8)) = false := bne_eq_false_iff_eq.mpr c7
      clear c7
      obtain rfl := Option.some.inj H
      go_enter Try.func17, Try.ntmps17
      go_wp2_with (first | ((with_reducible refine gate_dst (N := 3) rfl ?_); refine box_event ?hg (N := 3) ?hd (cs := #[.int .i64 a0_0, .int .i64 a0_1]) (t := 25) ?hr ?_; (case hd => rfl); (case hg => rfl); (case hr => first | (go_simp; done) | (go_simp; rfl)); intro gb531 hg w8 hbox hb; have n0_ := Aside0.mk (below_step (by repeat (first | (with_reducible first | exact HB.out | apply below_alloc | apply pw_below_drewN | apply below_drew1) | exact HB.out)) hb); have n1_ := Aside0.mk (hbox); have n2_ := Aside0.mk ((by rw [hg]; exact (below_size (by repeat (first | (with_reducible first | exact HB.out | apply below_alloc | apply pw_below_drewN | apply below_drew1) | exact HB.out))) : w.heap.size ≤ gb531)); have n3_ := Aside0.mk ((by rw [hg]; exact (below_size (by repeat (first | (with_reducible first | exact HB.out | apply below_alloc | apply pw_below_drewN | apply below_drew1) | exact HB.out))) : w.heap.size ≤ gb531)); clear HB; have HB := n0_; have BK531 := n1_; have GW531 := n2_; have GE531 := n3_; clear n0_ n1_ n2_ n3_; clear hb hbox hg; have hcz9_0 : w8.cell? ⟨gb531, 0, none⟩ = some (.int .i64 a0_0) := (blk_cell BK531.out 0).trans rfl; have hcz9_1 : w8.cell? ⟨gb531, 1, none⟩ = some (.int .i64 a0_1) := (blk_cell BK531.out 1).trans rfl; have hfz9_0 := blk_frozen BK531.out 0; have hfz9_1 := blk_frozen BK531.out 1) | ((with_reducible refine gate_callee (f := 35) rfl ?_); refine goesL_ (some 11) rfl rfl Try.func35 (by kernel_rfl) rfl #[.agg #[.int .i64 a0_0, .int .i64 a0_1], .int .i64 a1, .int .i64 a2] rfl (by (try simp only [List.map_toArray, List.map_cons, List.map_nil]); first | done | rfl | (simp only [List.length_drop, List.length_take]; rfl)) ?_; (with_reducible refine (spec_l8Fine.calls a0_0 a0_1 a1 a2 true _ A4.out).mono ?_); rintro e w10 ⟨rfl, hb⟩; refine ⟨_, rfl, ?_⟩; have n0_ := Aside0.mk (blk_below (g := gb531) (o := .cells #[.int .i64 a0_0, .int .i64 a0_1] 25 (0, 0)) (by (with_reducible repeat (first | refine blk_drewN ?_ _ | refine blk_drew ?_ | refine blk_alloc ?_ _)); exact BK531.out) hb); have n1_ := Aside0.mk (below_step (by repeat (first | (with_reducible first | exact HB.out | apply below_alloc | apply pw_below_drewN | apply below_drew1 | refine below_set ?_ GE531.out) | exact HB.out)) hb); clear BK531; clear HB; have BK531 := n0_; have HB := n1_; clear n0_ n1_; (try clear hb); (try clear hb2); (try clear hk); (try clear hi); have hcz11_0 : w10.cell? ⟨gb531, 0, none⟩ = some (.int .i64 a0_0) := (blk_cell BK531.out 0).trans rfl; have hcz11_1 : w10.cell? ⟨gb531, 1, none⟩ = some (.int .i64 a0_1) := (blk_cell BK531.out 1).trans rfl; have hfz11_0 := blk_frozen BK531.out 0; have hfz11_1 := blk_frozen BK531.out 1) | ((with_reducible refine gate_callee (f := 41) rfl ?_); refine goesL_ (some 16) rfl rfl Try.func41 (by kernel_rfl) rfl #[.agg #[.int .i64 a0_0, .int .i64 a0_1], .int .i64 a1, .int .i64 a2] rfl (by (try simp only [List.map_toArray, List.map_cons, List.map_nil]); first | done | rfl | (simp only [List.length_drop, List.length_take]; rfl)) ?_; (with_reducible refine (spec_l7Best.calls k a0_0 a0_1 a1 a2 t533 _ A6.out).mono ?_); rintro e w12 ⟨rfl, hb⟩; refine ⟨_, rfl, ?_⟩; have n0_ := Aside0.mk (blk_below (g := gb531) (o := .cells #[.int .i64 a0_0, .int .i64 a0_1] 25 (0, 0)) (by (with_reducible repeat (first | refine blk_drewN ?_ _ | refine blk_drew ?_ | refine blk_alloc ?_ _)); exact BK531.out) hb); have n1_ := Aside0.mk (below_step (by repeat (first | (with_reducible first | exact HB.out | apply below_alloc | apply pw_below_drewN | apply below_drew1 | refine below_set ?_ GE531.out) | exact HB.out)) hb); clear BK531; clear HB; have BK531 := n0_; have HB := n1_; clear n0_ n1_; (try clear hb); (try clear hb2); (try clear hk); (try clear hi)))
      go_ret
      exact ⟨by first | rfl | (simp [errW_none, errW_some] <;> rfl) | (simp [*, errW_none, errW_some] <;> rfl), by repeat (first | (with_reducible first | exact HB.out | apply below_alloc | apply pw_below_drewN | apply below_drew1 | refine below_set ?_ GE531.out) | exact HB.out)⟩
    · rw [if_neg c7] at H
      have c7b0 : (t533.toList == ([48] : List UInt8)) = false := beq_eq_false_iff_ne.mpr c7
      have c7b1 : (t533.toList != ([48] : List UInt8)) = true := bne_iff_ne.mpr c7
      by_cases c13 : t533.toList = ([49] : List UInt8)
      · rw [if_pos c13] at H
        have c13b0 : (t533.toList == ([49] : List UInt8)) = true := beq_iff_eq.mpr c13
        have c13b1 : (t533.toList != ([49] : List UInt8)) = false := bne_eq_false_iff_eq.mpr c13
        clear c13
        obtain rfl := Option.some.inj H
        go_enter Try.func17, Try.ntmps17
        go_wp2_with (first | ((with_reducible refine gate_dst (N := 3) rfl ?_); refine box_event ?hg (N := 3) ?hd (cs := #[.int .i64 a0_0, .int .i64 a0_1]) (t := 25) ?hr ?_; (case hd => rfl); (case hg => rfl); (case hr => first | (go_simp; done) | (go_simp; rfl)); intro gb531 hg w14 hbox hb; have n0_ := Aside0.mk (below_step (by repeat (first | (with_reducible first | exact HB.out | apply below_alloc | apply pw_below_drewN | apply below_drew1) | exact HB.out)) hb); have n1_ := Aside0.mk (hbox); have n2_ := Aside0.mk ((by rw [hg]; exact (below_size (by repeat (first | (with_reducible first | exact HB.out | apply below_alloc | apply pw_below_drewN | apply below_drew1) | exact HB.out))) : w.heap.size ≤ gb531)); have n3_ := Aside0.mk ((by rw [hg]; exact (below_size (by repeat (first | (with_reducible first | exact HB.out | apply below_alloc | apply pw_below_drewN | apply below_drew1) | exact HB.out))) : w.heap.size ≤ gb531)); clear HB; have HB := n0_; have BK531 := n1_; have GW531 := n2_; have GE531 := n3_; clear n0_ n1_ n2_ n3_; clear hb hbox hg; have hcz15_0 : w14.cell? ⟨gb531, 0, none⟩ = some (.int .i64 a0_0) := (blk_cell BK531.out 0).trans rfl; have hcz15_1 : w14.cell? ⟨gb531, 1, none⟩ = some (.int .i64 a0_1) := (blk_cell BK531.out 1).trans rfl; have hfz15_0 := blk_frozen BK531.out 0; have hfz15_1 := blk_frozen BK531.out 1) | ((with_reducible refine gate_callee (f := 35) rfl ?_); refine goesL_ (some 11) rfl rfl Try.func35 (by kernel_rfl) rfl #[.agg #[.int .i64 a0_0, .int .i64 a0_1], .int .i64 a1, .int .i64 a2] rfl (by (try simp only [List.map_toArray, List.map_cons, List.map_nil]); first | done | rfl | (simp only [List.length_drop, List.length_take]; rfl)) ?_; (with_reducible refine (spec_l8Fine.calls a0_0 a0_1 a1 a2 true _ A4.out).mono ?_); rintro e w16 ⟨rfl, hb⟩; refine ⟨_, rfl, ?_⟩; have n0_ := Aside0.mk (blk_below (g := gb531) (o := .cells #[.int .i64 a0_0, .int .i64 a0_1] 25 (0, 0)) (by (with_reducible repeat (first | refine blk_drewN ?_ _ | refine blk_drew ?_ | refine blk_alloc ?_ _)); exact BK531.out) hb); have n1_ := Aside0.mk (below_step (by repeat (first | (with_reducible first | exact HB.out | apply below_alloc | apply pw_below_drewN | apply below_drew1 | refine below_set ?_ GE531.out) | exact HB.out)) hb); clear BK531; clear HB; have BK531 := n0_; have HB := n1_; clear n0_ n1_; (try clear hb); (try clear hb2); (try clear hk); (try clear hi); have hcz17_0 : w16.cell? ⟨gb531, 0, none⟩ = some (.int .i64 a0_0) := (blk_cell BK531.out 0).trans rfl; have hcz17_1 : w16.cell? ⟨gb531, 1, none⟩ = some (.int .i64 a0_1) := (blk_cell BK531.out 1).trans rfl; have hfz17_0 := blk_frozen BK531.out 0; have hfz17_1 := blk_frozen BK531.out 1) | ((with_reducible refine gate_callee (f := 41) rfl ?_); refine goesL_ (some 16) rfl rfl Try.func41 (by kernel_rfl) rfl #[.agg #[.int .i64 a0_0, .int .i64 a0_1], .int .i64 a1, .int .i64 a2] rfl (by (try simp only [List.map_toArray, List.map_cons, List.map_nil]); first | done | rfl | (simp only [List.length_drop, List.length_take]; rfl)) ?_; (with_reducible refine (spec_l7Best.calls k a0_0 a0_1 a1 a2 t533 _ A6.out).mono ?_); rintro e w18 ⟨rfl, hb⟩; refine ⟨_, rfl, ?_⟩; have n0_ := Aside0.mk (blk_below (g := gb531) (o := .cells #[.int .i64 a0_0, .int .i64 a0_1] 25 (0, 0)) (by (with_reducible repeat (first | refine blk_drewN ?_ _ | refine blk_drew ?_ | refine blk_alloc ?_ _)); exact BK531.out) hb); have n1_ := Aside0.mk (below_step (by repeat (first | (with_reducible first | exact HB.out | apply below_alloc | apply pw_below_drewN | apply below_drew1 | refine below_set ?_ GE531.out) | exact HB.out)) hb); clear BK531; clear HB; have BK531 := n0_; have HB := n1_; clear n0_ n1_; (try clear hb); (try clear hb2); (try clear hk); (try clear hi)))
        go_ret
        exact ⟨by first | rfl | (simp [errW_none, errW_some] <;> rfl) | (simp [*, errW_none, errW_some] <;> rfl), by repeat (first | (with_reducible first | exact HB.out | apply below_alloc | apply pw_below_drewN | apply below_drew1 | refine below_set ?_ GE531.out) | exact HB.out)⟩
      · rw [if_neg c13] at H
        have c13b0 : (t533.toList == ([49] : List UInt8)) = false := beq_eq_false_iff_ne.mpr c13
        have c13b1 : (t533.toList != ([49] : List UInt8)) = true := bne_iff_ne.mpr c13
        by_cases c19 : 0 < (t533.size : Int)
        · rw [if_pos c19] at H
          have c19b0 : decide (0 < (t533.size : Int)) = true := decide_eq_true c19
          have c19b1 : decide (0 < t533.size) = true := decide_eq_true (by omega)
          clear c19
          obtain rfl := Option.some.inj H
          go_enter Try.func17, Try.ntmps17
          go_wp2_with (first | ((with_reducible refine gate_dst (N := 3) rfl ?_); refine box_event ?hg (N := 3) ?hd (cs := #[.int .i64 a0_0, .int .i64 a0_1]) (t := 25) ?hr ?_; (case hd => rfl); (case hg => rfl); (case hr => first | (go_simp; done) | (go_simp; rfl)); intro gb531 hg w21 hbox hb; have n0_ := Aside0.mk (below_step (by repeat (first | (with_reducible first | exact HB.out | apply below_alloc | apply pw_below_drewN | apply below_drew1) | exact HB.out)) hb); have n1_ := Aside0.mk (hbox); have n2_ := Aside0.mk ((by rw [hg]; exact (below_size (by repeat (first | (with_reducible first | exact HB.out | apply below_alloc | apply pw_below_drewN | apply below_drew1) | exact HB.out))) : w.heap.size ≤ gb531)); have n3_ := Aside0.mk ((by rw [hg]; exact (below_size (by repeat (first | (with_reducible first | exact HB.out | apply below_alloc | apply pw_below_drewN | apply below_drew1) | exact HB.out))) : w.heap.size ≤ gb531)); clear HB; have HB := n0_; have BK531 := n1_; have GW531 := n2_; have GE531 := n3_; clear n0_ n1_ n2_ n3_; clear hb hbox hg; have hcz22_0 : w21.cell? ⟨gb531, 0, none⟩ = some (.int .i64 a0_0) := (blk_cell BK531.out 0).trans rfl; have hcz22_1 : w21.cell? ⟨gb531, 1, none⟩ = some (.int .i64 a0_1) := (blk_cell BK531.out 1).trans rfl; have hfz22_0 := blk_frozen BK531.out 0; have hfz22_1 := blk_frozen BK531.out 1) | ((with_reducible refine gate_callee (f := 35) rfl ?_); refine goesL_ (some 11) rfl rfl Try.func35 (by kernel_rfl) rfl #[.agg #[.int .i64 a0_0, .int .i64 a0_1], .int .i64 a1, .int .i64 a2] rfl (by (try simp only [List.map_toArray, List.map_cons, List.map_nil]); first | done | rfl | (simp only [List.length_drop, List.length_take]; rfl)) ?_; (with_reducible refine (spec_l8Fine.calls a0_0 a0_1 a1 a2 true _ A4.out).mono ?_); rintro e w23 ⟨rfl, hb⟩; refine ⟨_, rfl, ?_⟩; have n0_ := Aside0.mk (blk_below (g := gb531) (o := .cells #[.int .i64 a0_0, .int .i64 a0_1] 25 (0, 0)) (by (with_reducible repeat (first | refine blk_drewN ?_ _ | refine blk_drew ?_ | refine blk_alloc ?_ _)); exact BK531.out) hb); have n1_ := Aside0.mk (below_step (by repeat (first | (with_reducible first | exact HB.out | apply below_alloc | apply pw_below_drewN | apply below_drew1 | refine below_set ?_ GE531.out) | exact HB.out)) hb); clear BK531; clear HB; have BK531 := n0_; have HB := n1_; clear n0_ n1_; (try clear hb); (try clear hb2); (try clear hk); (try clear hi); have hcz24_0 : w23.cell? ⟨gb531, 0, none⟩ = some (.int .i64 a0_0) := (blk_cell BK531.out 0).trans rfl; have hcz24_1 : w23.cell? ⟨gb531, 1, none⟩ = some (.int .i64 a0_1) := (blk_cell BK531.out 1).trans rfl; have hfz24_0 := blk_frozen BK531.out 0; have hfz24_1 := blk_frozen BK531.out 1) | ((with_reducible refine gate_callee (f := 41) rfl ?_); refine goesL_ (some 16) rfl rfl Try.func41 (by kernel_rfl) rfl #[.agg #[.int .i64 a0_0, .int .i64 a0_1], .int .i64 a1, .int .i64 a2] rfl (by (try simp only [List.map_toArray, List.map_cons, List.map_nil]); first | done | rfl | (simp only [List.length_drop, List.length_take]; rfl)) ?_; (with_reducible refine (spec_l7Best.calls k a0_0 a0_1 a1 a2 t533 _ A6.out).mono ?_); rintro e w25 ⟨rfl, hb⟩; refine ⟨_, rfl, ?_⟩; have n0_ := Aside0.mk (blk_below (g := gb531) (o := .cells #[.int .i64 a0_0, .int .i64 a0_1] 25 (0, 0)) (by (with_reducible repeat (first | refine blk_drewN ?_ _ | refine blk_drew ?_ | refine blk_alloc ?_ _)); exact BK531.out) hb); have n1_ := Aside0.mk (below_step (by repeat (first | (with_reducible first | exact HB.out | apply below_alloc | apply pw_below_drewN | apply below_drew1 | refine below_set ?_ GE531.out) | exact HB.out)) hb); clear BK531; clear HB; have BK531 := n0_; have HB := n1_; clear n0_ n1_; (try clear hb); (try clear hb2); (try clear hk); (try clear hi); have p20 : 0 ≤ (0 : Int) := (by omega); have q20 : 0 < t533.size := (by have : (0 : Int) < (t533.size : Int) := of_decide_eq_true (by first | (with_reducible assumption) | assumption); omega); have hx20 : ∀ h : 0 < t533.size, ((t533[0]'h).toNat : Int) = bt t533 0 := bt_at t533 0; clear p20; have qi20 : (0 < (t533.size : Int)) = True := eq_true (of_decide_eq_true (by first | (with_reducible assumption) | assumption)); replace q20 := eq_true q20))
          go_ret
          exact ⟨by first | rfl | (simp [errW_none, errW_some] <;> rfl) | (simp [*, errW_none, errW_some] <;> rfl), by repeat (first | (with_reducible first | exact HB.out | apply below_alloc | apply pw_below_drewN | apply below_drew1 | refine below_set ?_ GE531.out) | exact HB.out)⟩
        · rw [if_neg c19] at H
          exact absurd H (by simp)
  · replace c5 := Bool.eq_false_iff.mpr c5
    subst c5
    have H1 : (some (-1)) = some r := by rw [if_neg (show ¬ (false = true) by decide)] at H; exact H
    clear H
    have H := H1
    clear H1
    obtain rfl := Option.some.inj H
    go_enter Try.func17, Try.ntmps17
    go_wp2_with (first | ((with_reducible refine gate_dst (N := 3) rfl ?_); refine box_event ?hg (N := 3) ?hd (cs := #[.int .i64 a0_0, .int .i64 a0_1]) (t := 25) ?hr ?_; (case hd => rfl); (case hg => rfl); (case hr => first | (go_simp; done) | (go_simp; rfl)); intro gb531 hg w26 hbox hb; have n0_ := Aside0.mk (below_step (by repeat (first | (with_reducible first | exact HB.out | apply below_alloc | apply pw_below_drewN | apply below_drew1) | exact HB.out)) hb); have n1_ := Aside0.mk (hbox); have n2_ := Aside0.mk ((by rw [hg]; exact (below_size (by repeat (first | (with_reducible first | exact HB.out | apply below_alloc | apply pw_below_drewN | apply below_drew1) | exact HB.out))) : w.heap.size ≤ gb531)); have n3_ := Aside0.mk ((by rw [hg]; exact (below_size (by repeat (first | (with_reducible first | exact HB.out | apply below_alloc | apply pw_below_drewN | apply below_drew1) | exact HB.out))) : w.heap.size ≤ gb531)); clear HB; have HB := n0_; have BK531 := n1_; have GW531 := n2_; have GE531 := n3_; clear n0_ n1_ n2_ n3_; clear hb hbox hg; have hcz27_0 : w26.cell? ⟨gb531, 0, none⟩ = some (.int .i64 a0_0) := (blk_cell BK531.out 0).trans rfl; have hcz27_1 : w26.cell? ⟨gb531, 1, none⟩ = some (.int .i64 a0_1) := (blk_cell BK531.out 1).trans rfl; have hfz27_0 := blk_frozen BK531.out 0; have hfz27_1 := blk_frozen BK531.out 1) | ((with_reducible refine gate_callee (f := 35) rfl ?_); refine goesL_ (some 11) rfl rfl Try.func35 (by kernel_rfl) rfl #[.agg #[.int .i64 a0_0, .int .i64 a0_1], .int .i64 a1, .int .i64 a2] rfl (by (try simp only [List.map_toArray, List.map_cons, List.map_nil]); first | done | rfl | (simp only [List.length_drop, List.length_take]; rfl)) ?_; (with_reducible refine (spec_l8Fine.calls a0_0 a0_1 a1 a2 false _ A4.out).mono ?_); rintro e w28 ⟨rfl, hb⟩; refine ⟨_, rfl, ?_⟩; have n0_ := Aside0.mk (blk_below (g := gb531) (o := .cells #[.int .i64 a0_0, .int .i64 a0_1] 25 (0, 0)) (by (with_reducible repeat (first | refine blk_drewN ?_ _ | refine blk_drew ?_ | refine blk_alloc ?_ _)); exact BK531.out) hb); have n1_ := Aside0.mk (below_step (by repeat (first | (with_reducible first | exact HB.out | apply below_alloc | apply pw_below_drewN | apply below_drew1 | refine below_set ?_ GE531.out) | exact HB.out)) hb); clear BK531; clear HB; have BK531 := n0_; have HB := n1_; clear n0_ n1_; (try clear hb); (try clear hb2); (try clear hk); (try clear hi)))
    go_ret
    exact ⟨by first | rfl | (simp [errW_none, errW_some] <;> rfl) | (simp [*, errW_none, errW_some] <;> rfl), by repeat (first | (with_reducible first | exact HB.out | apply below_alloc | apply pw_below_drewN | apply below_drew1 | refine below_set ?_ GE531.out) | exact HB.out)⟩

/-! ### impl_asker_first: function 42 -/
/-- The first variable from i on by which what is needed gets less, whatever the answer. -/
def impl_asker_first.l (n W m v need : Int) : Nat → Nat → Option Int
  | 0, _ => some (-1)
  | d + 1, i => if 0 < need then (if Go.bits .and .i64 (shr .i64 m (i : Int)) 1 = 0 then (impl_known_with.f m v (i : Int) 0).bind fun k0 => (impl_asker_left.f n W 6 k0.1 k0.2).bind fun x => if x < need then (impl_known_with.f m v (i : Int) 1).bind fun k1 => (impl_asker_left.f n W 6 k1.1 k1.2).bind fun y => if y < need then some (i : Int) else impl_asker_first.l n W m v need d (i + 1) else impl_asker_first.l n W m v need d (i + 1) else impl_asker_first.l n W m v need d (i + 1)) else impl_asker_first.l n W m v need d (i + 1)
def impl_asker_first.f (n W m v : Int) : Option Int := (impl_asker_left.f n W 6 m v).bind fun need => impl_asker_first.l n W m v need n.toNat 0
set_option maxHeartbeats 4000000 in
set_option maxRecDepth 100000 in
theorem impl_asker_first.calls (n W : Int) (RS : Int → Int → Int → Prop) (g BD BS : Nat) (m v r : Int) (k : Nat) (w : World) (h : impl_asker_first.f n W m v = some r) (wm : (Lit.int .i64 m).wf = true) (wv : (Lit.int .i64 v).wf = true)
    (hS : impl_Table_asking.S n W (impl_asker_left.R n W) RS g BD BS k w) (hk : k + 11 * impl_asker_left.cost 6 < 4294967296) :
    Calls Try.prog 42 #[.pointer (some ⟨g, 0, none⟩), .agg #[.int .i64 m, .int .i64 v]] w fun e w' => e = .returned (.int .i64 r) ∧ impl_Table_asking.S n W (impl_asker_left.R n W) RS g BD BS (k + 11 * impl_asker_left.cost 6) w' ∧ w.grownBy w' (some BD) := by
  have hu := Try.underlying53
  have hua := Try.underlying66
  have hut := Try.underlying25
  unfold impl_asker_first.f at h
  obtain ⟨need, hd, h⟩ := Option.bind_eq_some_iff.mp h
  have hn := impl_asker_left.range hd
  have AD := Aside0.mk hd
  have HS := Aside0.mk hS
  have IH := Aside0.mk (fun m v r k w => impl_asker_left.calls n W hn RS g BD BS 6 m v r k w)
  obtain ⟨N, rfl⟩ := Int.eq_ofNat_of_zero_le hn.1
  replace h : impl_asker_first.l N W m v need N 0 = some r := h
  have AF := Aside0.mk h
  generalize impl_asker_left.cost 6 = K at hk IH ⊢
  have HK := Aside0.mk hk
  have HK0 : Aside0 (k + K < 4294967296) := ⟨by omega⟩
  clear h hd hS hk
  go_enter Try.func42, Try.ntmps42
  go_wp2_with (first | ((with_reducible refine gate_dst (N := 3) rfl ?_); refine box_event ?hg (N := 3) ?hd (cs := #[.int .i64 m, .int .i64 v]) (t := 53) ?hr ?_; (case hd => rfl); (case hg => rfl); (case hr => first | (go_simp; done) | (go_simp; rfl)); intro gb hg w1 hbox hb; have S1 := Aside0.mk (HS.out.kept hb); have RK := Aside0.mk hbox; have G1 := Aside0.mk (grown_of_below hb (some BD)); clear hg hbox hb; have k0 := (blk_cell RK.out 0).trans rfl; have k1 := (blk_cell RK.out 1).trans rfl) | (go_at_call 38; (with_reducible refine (IH.out m v need _ _ AD.out wm wv S1.out HK0.out).mono ?_); rintro e w2 ⟨rfl, hs2, hg2⟩; have S2 := Aside0.mk hs2; have R2 := Aside0.mk (blk_grown RK.out hg2 (by have := S1.out.depth.ne RK.out; simp [this])); have G2 := Aside0.mk (G1.out.trans hg2); clear hs2 hg2; have c0 := (blk_cell S2.out.blk 0).trans rfl))
  go_loopw [15] (fun x15 wr => ∃ j : Nat, j ≤ N ∧ x15 = .int .i64 (j : Int) ∧ Aside0 (impl_asker_first.l N W m v need (N - j) j = some r) ∧ Aside0 (impl_Table_asking.S N W (impl_asker_left.R N W) RS g BD BS (k + K + 2 * j * K) wr) ∧ Aside0 (wr.heap[gb]? = some (.cells #[.int .i64 m, .int .i64 v] 53 (0, 0))) ∧ Aside0 (w.grownBy wr (some BD))) (fun x15 _ => N - (intOf x15).toNat)
  case atStart => exact ⟨0, Nat.zero_le _, rfl, AF, ⟨by simpa using S2.out⟩, R2, G2⟩
  case round =>
    obtain ⟨j, hj, rfl, AJ, SJ, RJ, GJ⟩ := hrel
    have k0 := (blk_cell RJ.out 0).trans rfl
    have k1 := (blk_cell RJ.out 1).trans rfl
    clear S2 R2 G2 S1 RK G1 AF AD
    have hne : some gb ≠ some BD := by have := SJ.out.depth.ne RJ.out; simp [this]
    have hcl : k + K + 2 * j * K ≤ k + 11 * K := by
      have : 2 * j * K ≤ 10 * K := Nat.mul_le_mul_right _ (by omega)
      omega
    by_cases hlt : j < N
    · obtain ⟨e, he⟩ : ∃ e, N - j = e + 1 := ⟨N - j - 1, by omega⟩
      have hN : N - (j + 1) = e := by omega
      have HA := AJ.out
      rw [he, impl_asker_first.l] at HA
      have hc2 : k + K + 2 * j * K + K + K = k + K + 2 * (j + 1) * K := by rw [Nat.mul_add, Nat.add_mul]; omega
      have hc3 : k + K + 2 * (j + 1) * K ≤ k + 11 * K := by
        have : 2 * (j + 1) * K ≤ 10 * K := Nat.mul_le_mul_right _ (by omega)
        omega
      have HK1 : Aside0 (k + K + 2 * j * K + K < 4294967296) := ⟨by have := HK.out; omega⟩
      have HK2 : Aside0 (k + K + 2 * j * K + K + K < 4294967296) := ⟨by have := HK.out; omega⟩
      have hsh : shr .i64 m (j : Int) = m / 2 ^ j := by
        unfold shr
        rw [Int.toNat_natCast, Nat.min_eq_left (show j ≤ IntKind.i64.bits by show j ≤ 64; omega)]
      have C2 := Aside0.mk hc2
      have C3 := Aside0.mk hc3
      have M0 : Aside0 (k + K + 2 * j * K ≤ k + K + 2 * (j + 1) * K) := ⟨by omega⟩
      have M1 : Aside0 (k + K + 2 * j * K + K ≤ k + K + 2 * (j + 1) * K) := ⟨by omega⟩
      have M2 : Aside0 (k + K + 2 * j * K + K + K ≤ k + 11 * K) := ⟨by omega⟩
      clear hc2 hc3 hcl he
      by_cases h1 : 0 < need
      · have h1b : decide (0 < need) = true := decide_eq_true h1
        rw [if_pos h1] at HA
        clear h1
        by_cases hq : Go.bits .and .i64 (shr .i64 m (j : Int)) 1 = 0
        · rw [if_pos hq] at HA
          have hqb : (Go.bits .and .i64 (m / 2 ^ j) 1 == 0) = true := by rw [← hsh]; exact beq_iff_eq.mpr hq
          obtain ⟨⟨m0, v0⟩, e0, HA⟩ := Option.bind_eq_some_iff.mp HA
          obtain ⟨x, ex, HA⟩ := Option.bind_eq_some_iff.mp HA
          have A0 := Aside0.mk e0
          have AX : Aside0 (impl_asker_left.f N W 6 m0 v0 = some x) := ⟨ex⟩
          clear e0 ex hq hsh
          by_cases hx : x < need
          · rw [if_pos hx] at HA
            have hxb : decide (x < need) = true := decide_eq_true hx
            obtain ⟨⟨m1, v1⟩, e1, HA⟩ := Option.bind_eq_some_iff.mp HA
            obtain ⟨y, ey, HA⟩ := Option.bind_eq_some_iff.mp HA
            have A1 := Aside0.mk e1
            have AY : Aside0 (impl_asker_left.f N W 6 m1 v1 = some y) := ⟨ey⟩
            clear e1 ey hx
            by_cases hy : y < need
            · rw [if_pos hy] at HA
              have hyb : decide (y < need) = true := decide_eq_true hy
              have hr := Option.some.inj HA
              subst hr
              clear HA hy AJ
              go_wp2_with (first | (go_at_call 47; (with_reducible refine (impl_known_with.calls m v _ 0 _ _ _ A0.out).mono ?_); rintro e wa ⟨rfl, hba⟩; have Sa := Aside0.mk (SJ.out.kept hba); have Ra := Aside0.mk (blk_below RJ.out hba); have Ga := Aside0.mk (GJ.out.trans (grown_of_below hba (some BD))); clear hba; have k0 := (blk_cell Ra.out 0).trans rfl; have k1 := (blk_cell Ra.out 1).trans rfl) | (go_at_call 38; (with_reducible refine (IH.out m0 v0 x _ _ AX.out (impl_asker_left.with_wf A0.out).1 (impl_asker_left.with_wf A0.out).2 Sa.out HK1.out).mono ?_); rintro e wb ⟨rfl, hsb, hgb⟩; have Sb := Aside0.mk hsb; have Rb := Aside0.mk (blk_grown Ra.out hgb hne); have Gb := Aside0.mk (Ga.out.trans hgb); clear hsb hgb; have k0 := (blk_cell Rb.out 0).trans rfl; have k1 := (blk_cell Rb.out 1).trans rfl) | (go_at_call 47; (with_reducible refine (impl_known_with.calls m v _ 1 _ _ _ A1.out).mono ?_); rintro e wc ⟨rfl, hbc⟩; have Sc := Aside0.mk (Sb.out.kept hbc); have Rc := Aside0.mk (blk_below Rb.out hbc); have Gc := Aside0.mk (Gb.out.trans (grown_of_below hbc (some BD))); clear hbc; have k0 := (blk_cell Rc.out 0).trans rfl; have k1 := (blk_cell Rc.out 1).trans rfl) | (go_at_call 38; (with_reducible refine (IH.out m1 v1 y _ _ AY.out (impl_asker_left.with_wf A1.out).1 (impl_asker_left.with_wf A1.out).2 Sc.out HK2.out).mono ?_); rintro e wd ⟨rfl, hsd, hgd⟩; have Sd := Aside0.mk hsd; have Rd := Aside0.mk (blk_grown Rc.out hgd hne); have Gd := Aside0.mk (Gc.out.trans hgd); clear hsd hgd))
              go_ret
              exact ⟨rfl, Sd.out.mono M2.out, Gd.out⟩
            · rw [if_neg hy] at HA
              have hyb : decide (y < need) = false := decide_eq_false hy
              have AN : Aside0 (impl_asker_first.l N W m v need (N - (j + 1)) (j + 1) = some r) := ⟨by rw [hN]; exact HA⟩
              clear HA hy AJ hN
              go_wp2_with (first | (go_at_call 47; (with_reducible refine (impl_known_with.calls m v _ 0 _ _ _ A0.out).mono ?_); rintro e wa ⟨rfl, hba⟩; have Sa := Aside0.mk (SJ.out.kept hba); have Ra := Aside0.mk (blk_below RJ.out hba); have Ga := Aside0.mk (GJ.out.trans (grown_of_below hba (some BD))); clear hba; have k0 := (blk_cell Ra.out 0).trans rfl; have k1 := (blk_cell Ra.out 1).trans rfl) | (go_at_call 38; (with_reducible refine (IH.out m0 v0 x _ _ AX.out (impl_asker_left.with_wf A0.out).1 (impl_asker_left.with_wf A0.out).2 Sa.out HK1.out).mono ?_); rintro e wb ⟨rfl, hsb, hgb⟩; have Sb := Aside0.mk hsb; have Rb := Aside0.mk (blk_grown Ra.out hgb hne); have Gb := Aside0.mk (Ga.out.trans hgb); clear hsb hgb; have k0 := (blk_cell Rb.out 0).trans rfl; have k1 := (blk_cell Rb.out 1).trans rfl) | (go_at_call 47; (with_reducible refine (impl_known_with.calls m v _ 1 _ _ _ A1.out).mono ?_); rintro e wc ⟨rfl, hbc⟩; have Sc := Aside0.mk (Sb.out.kept hbc); have Rc := Aside0.mk (blk_below Rb.out hbc); have Gc := Aside0.mk (Gb.out.trans (grown_of_below hbc (some BD))); clear hbc; have k0 := (blk_cell Rc.out 0).trans rfl; have k1 := (blk_cell Rc.out 1).trans rfl) | (go_at_call 38; (with_reducible refine (IH.out m1 v1 y _ _ AY.out (impl_asker_left.with_wf A1.out).1 (impl_asker_left.with_wf A1.out).2 Sc.out HK2.out).mono ?_); rintro e wd ⟨rfl, hsd, hgd⟩; have Sd := Aside0.mk hsd; have Rd := Aside0.mk (blk_grown Rc.out hgd hne); have Gd := Aside0.mk (Gc.out.trans hgd); clear hsd hgd))
              go_roundw
              case rel => exact ⟨j + 1, by omega, by go_num, AN, ⟨C2.out ▸ Sd.out⟩, Rd, Gd⟩
              case measure => simp [intOf]; omega
          · rw [if_neg hx] at HA
            have hxb : decide (x < need) = false := decide_eq_false hx
            have AN : Aside0 (impl_asker_first.l N W m v need (N - (j + 1)) (j + 1) = some r) := ⟨by rw [hN]; exact HA⟩
            clear HA hx AJ hN
            go_wp2_with (first | (go_at_call 47; (with_reducible refine (impl_known_with.calls m v _ 0 _ _ _ A0.out).mono ?_); rintro e wa ⟨rfl, hba⟩; have Sa := Aside0.mk (SJ.out.kept hba); have Ra := Aside0.mk (blk_below RJ.out hba); have Ga := Aside0.mk (GJ.out.trans (grown_of_below hba (some BD))); clear hba; have k0 := (blk_cell Ra.out 0).trans rfl; have k1 := (blk_cell Ra.out 1).trans rfl) | (go_at_call 38; (with_reducible refine (IH.out m0 v0 x _ _ AX.out (impl_asker_left.with_wf A0.out).1 (impl_asker_left.with_wf A0.out).2 Sa.out HK1.out).mono ?_); rintro e wb ⟨rfl, hsb, hgb⟩; have Sb := Aside0.mk hsb; have Rb := Aside0.mk (blk_grown Ra.out hgb hne); have Gb := Aside0.mk (Ga.out.trans hgb); clear hsb hgb; have k0 := (blk_cell Rb.out 0).trans rfl; have k1 := (blk_cell Rb.out 1).trans rfl))
            go_roundw
            case rel => exact ⟨j + 1, by omega, by go_num, AN, ⟨Sb.out.mono M1.out⟩, Rb, Gb⟩
            case measure => simp [intOf]; omega
        · rw [if_neg hq] at HA
          have hqb : (Go.bits .and .i64 (m / 2 ^ j) 1 == 0) = false := by rw [← hsh]; simpa using hq
          have AN : Aside0 (impl_asker_first.l N W m v need (N - (j + 1)) (j + 1) = some r) := ⟨by rw [hN]; exact HA⟩
          clear HA hq AJ hN hsh
          go_wp2_with fail
          go_roundw
          case rel => exact ⟨j + 1, by omega, by go_num, AN, ⟨SJ.out.mono M0.out⟩, RJ, GJ⟩
          case measure => simp [intOf]; omega
      · have h1b : decide (0 < need) = false := decide_eq_false h1
        rw [if_neg h1] at HA
        have AN : Aside0 (impl_asker_first.l N W m v need (N - (j + 1)) (j + 1) = some r) := ⟨by rw [hN]; exact HA⟩
        clear HA h1 AJ hN hsh
        go_wp2_with fail
        go_roundw
        case rel => exact ⟨j + 1, by omega, by go_num, AN, ⟨SJ.out.mono M0.out⟩, RJ, GJ⟩
        case measure => simp [intOf]; omega
    · obtain rfl : j = N := by omega
      have HA := AJ.out
      rw [Nat.sub_self, impl_asker_first.l] at HA
      have hr := Option.some.inj HA
      subst hr
      have CL := Aside0.mk hcl
      clear HA AJ hcl
      go_wp2_with fail
      go_ret
      exact ⟨rfl, SJ.out.mono CL.out, GJ.out⟩

/-! ### impl_AskedOf: function 18 -/
def impl_AskedOf.f (a0_0 a0_1 a1 a2 : Int) : Option Int := (impl_isKnown.f a0_0 a0_1 a1 a2).bind fun b => if b = true then (if (Lit.int .i64 a1).wf = true ∧ (Lit.int .i64 a2).wf = true then impl_asker_first.f a0_0 a0_1 a1 a2 else none) else some (-1)
set_option maxHeartbeats 4000000 in
set_option maxRecDepth 100000 in
theorem impl_AskedOf.calls (a0_0 a0_1 a1 a2 r : Int) (w : World) (h : impl_AskedOf.f a0_0 a0_1 a1 a2 = some r) :
    Calls Try.prog 18 #[.agg #[.int .i64 a0_0, .int .i64 a0_1], .int .i64 a1, .int .i64 a2] w fun e w' => e = .returned (.int .i64 r) ∧ Below w.heap.size w w' := by
  have hu := Try.underlying25
  have huk := Try.underlying53
  unfold impl_AskedOf.f at h
  obtain ⟨b, hb, h⟩ := Option.bind_eq_some_iff.mp h
  have AS := Aside0.mk hb
  cases b with
  | false =>
    have hr := Option.some.inj h
    subst hr
    clear h hb
    go_enter Try.func18, Try.ntmps18
    go_wp2_with (first | ((with_reducible refine gate_dst (N := 3) rfl ?_); refine box_event ?hg (N := 3) ?hd (cs := #[.int .i64 a0_0, .int .i64 a0_1]) (t := 25) ?hr ?_; (case hd => rfl); (case hg => rfl); (case hr => first | (go_simp; done) | (go_simp; rfl)); intro gb hg w1 hbox hb; have HB1 := Aside0.mk hb; have RK := Aside0.mk hbox; clear hg hbox hb; have k0 := (blk_cell RK.out 0).trans rfl; have k1 := (blk_cell RK.out 1).trans rfl) | (go_at_call 36; (with_reducible refine (impl_isKnown.calls a0_0 a0_1 a1 a2 _ _ AS.out).mono ?_); rintro e w2 ⟨rfl, hb2⟩; have HB2 := Aside0.mk (below_step HB1.out hb2); have RK2 := Aside0.mk (blk_below RK.out hb2); clear hb2; have k0 := (blk_cell RK2.out 0).trans rfl; have k1 := (blk_cell RK2.out 1).trans rfl))
    go_ret
    exact ⟨rfl, HB2.out⟩
  | true =>
    rw [if_pos rfl] at h
    by_cases hwf : (Lit.int .i64 a1).wf = true ∧ (Lit.int .i64 a2).wf = true
    case neg => rw [if_neg hwf] at h; exact absurd h (by simp)
    rw [if_pos hwf] at h
    have W1 := Aside0.mk hwf.1
    have W2 := Aside0.mk hwf.2
    clear hwf
    have AF := Aside0.mk h
    have hn := True.intro
    clear h hb
    go_enter Try.func18, Try.ntmps18
    go_wp2_with (first | ((with_reducible refine gate_dst (N := 3) rfl ?_); refine box_event ?hg (N := 3) ?hd (cs := #[.int .i64 a0_0, .int .i64 a0_1]) (t := 25) ?hr ?_; (case hd => rfl); (case hg => rfl); (case hr => first | (go_simp; done) | (go_simp; rfl)); intro gb hg w1 hbox hb; have HB1 := Aside0.mk hb; have RK := Aside0.mk hbox; clear hg hbox hb; have k0 := (blk_cell RK.out 0).trans rfl; have k1 := (blk_cell RK.out 1).trans rfl) | (go_at_call 36; (with_reducible refine (impl_isKnown.calls a0_0 a0_1 a1 a2 _ _ AS.out).mono ?_); rintro e w2 ⟨rfl, hb2⟩; have HB2 := Aside0.mk (below_step HB1.out hb2); have RK2 := Aside0.mk (blk_below RK.out hb2); clear hb2; have k0 := (blk_cell RK2.out 0).trans rfl; have k1 := (blk_cell RK2.out 1).trans rfl) | (go_at_call 37; (with_reducible refine (impl_Table_asking.calls a0_0 a0_1 (impl_asker_left.R a0_0 a0_1) (fun _ _ _ => True) _).mono ?_); rintro e w3 ⟨g, BD, BS, rfl, hS, hg, hd, hs, hb3⟩; have HS := Aside0.mk hS; have HG := Aside0.mk (And.intro hd hs); have HB3 := Aside0.mk (below_step HB2.out hb3); have HW := Aside0.mk HB2.out.size; clear hS hg hd hs hb3) | (go_at_call 42; (with_reducible refine (impl_asker_first.calls a0_0 a0_1 _ g BD BS a1 a2 r 0 _ AF.out W1.out W2.out HS.out (by decide)).mono ?_); rintro e w4 ⟨rfl, hS4, hg4⟩; have G4 := Aside0.mk hg4; clear hS4 hg4))
    go_ret
    exact ⟨rfl, pw_below_grown HB3.out _ HB3.out.size G4.out (by intro k hk; cases hk; exact Nat.le_trans HW.out HG.out.1)⟩

end Go.Proofs.Ytkipjpfkdkkpdaa.P
