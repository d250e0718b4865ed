-- Out of the translation, by this session's program over the printer's; Lean checks it.
import Derived.Test.YtmnjhhlnnbadaaaPx0
import Derived.Test.YtmnjhhlnnbadaaaPx1
import Derived.Test.YtmnjhhlnnbadaaaPx2
import Derived.Test.YtmnjhhlnnbadaaaPx6
namespace Go.Proofs.Ytmnjhhlnnbadaaa.P
open Go.RowKit Go.Proofs.YtmnjhhlnnbadaaaW.PrintWords Go.Proofs.YtmnjhhlnnbadaaaW.PrintLast Go.Proofs.YtmnjhhlnnbadaaaW.PrintMore
attribute [local go_sem] max2_int min2_int max_two min_two max_three min_three max_four min_four   -- for this text's walks alone
set_option linter.unusedVariables false
set_option linter.unusedSimpArgs false

/-! ### spec_DegreeMod2: function 22 -/
def spec_DegreeMod2.l0 : Nat → Int → Int → Int → Int → Int → Option (Int)
  | 0, _, _, _, _, _ => none
  | k + 1, x3, x4, x5, x343000, x343001 => if 0 ≤ x343000 then (if x5 < (shl .i64 1 x343000) then (if 0 ≤ x5 then (if (Go.bits .and .i64 (shr .i64 x3 x5) 1) = 1 then ((spec_l2Count.f k x5).bind fun t345 => (spec_DegreeMod2.l0 k x3 (mx x4 t345) (wrap64 (x5 + 1)) x343000 x343001)) else (spec_DegreeMod2.l0 k x3 x4 (wrap64 (x5 + 1)) x343000 x343001)) else (none)) else (some x4)) else (none)
def spec_DegreeMod2.f (k : Nat) (a0_0 : Int) (a0_1 : Int) : Option (Int) := (spec_IsTable.f a0_0 a0_1).bind fun t343 => (if t343 = true then ((spec_l11Anf.f k a0_0 a0_1).bind fun t344 => (spec_DegreeMod2.l0 k t344 (-1) 0 a0_0 a0_1)) else (some (-2)))
theorem spec_DegreeMod2.mono_l : ∀ k, (∀ y0 y1 y2 y3 y4, LeO (spec_DegreeMod2.l0 k y0 y1 y2 y3 y4) (spec_DegreeMod2.l0 (k + 1) y0 y1 y2 y3 y4))
  | 0 => fun _ _ _ _ _ r h => by simp [spec_DegreeMod2.l0] at h
  | k + 1 => by
    have ih0 := spec_DegreeMod2.mono_l k
    · intro y0 y1 y2 y3 y4
      unfold spec_DegreeMod2.l0
      repeat' first
      | (with_reducible exact ih0 _ _ _ _ _)
      | (with_reducible exact spec_l11Anf.mono _ _ _)
      | (with_reducible exact spec_l2Count.mono _ _)
      | (with_reducible exact LeO.refl _)
      | (with_reducible exact LeO.none _)
      | (with_reducible refine LeO.ite ?_ ?_)
      | (with_reducible refine LeO.bind ?_ (fun _ => ?_))
      | exact ih0 _ _ _ _ _
      | exact spec_l11Anf.mono _ _ _
      | exact spec_l2Count.mono _ _
      | exact LeO.none _
      | refine LeO.ite ?_ ?_
      | refine LeO.bind ?_ (fun _ => ?_)
theorem spec_DegreeMod2.mono : ∀ a0 a1 k, LeO (spec_DegreeMod2.f k a0 a1) (spec_DegreeMod2.f (k + 1) a0 a1) := by
  intro a0 a1 k
  have ih0 := spec_DegreeMod2.mono_l k
  unfold spec_DegreeMod2.f
  repeat' first
      | (with_reducible exact ih0 _ _ _ _ _)
      | (with_reducible exact spec_l11Anf.mono _ _ _)
      | (with_reducible exact spec_l2Count.mono _ _)
      | (with_reducible exact LeO.refl _)
      | (with_reducible exact LeO.none _)
      | (with_reducible refine LeO.ite ?_ ?_)
      | (with_reducible refine LeO.bind ?_ (fun _ => ?_))
      | exact ih0 _ _ _ _ _
      | exact spec_l11Anf.mono _ _ _
      | exact spec_l2Count.mono _ _
      | exact LeO.none _
      | refine LeO.ite ?_ ?_
      | refine LeO.bind ?_ (fun _ => ?_)
set_option maxHeartbeats 8000000 in
set_option maxRecDepth 100000 in
theorem spec_DegreeMod2.calls (k : Nat) (a0_0 : Int) (a0_1 : Int) (r : Int) (w : World) (h : spec_DegreeMod2.f k a0_0 a0_1 = some r) :
    Calls Try.prog 22 #[.agg #[.int .i64 a0_0, .int .i64 a0_1]] w fun e w' => e = .returned (.int .i64 r) ∧ Below w.heap.size w w' := by
  have hu24 := Try.underlying24
  have HB := Aside0.mk (Below.refl w.heap.size w)
  have H : ((spec_IsTable.f a0_0 a0_1).bind fun t343 => (if t343 = true then ((spec_l11Anf.f k a0_0 a0_1).bind fun t344 => (spec_DegreeMod2.l0 k t344 (-1) 0 a0_0 a0_1)) else (some (-2)))) = some r := h
  clear h
  replace H := Option.bind_eq_some_iff.mp H
  obtain ⟨t343, A20, H⟩ := H
  replace H : (if t343 = true then ((spec_l11Anf.f k a0_0 a0_1).bind fun t344 => (spec_DegreeMod2.l0 k t344 (-1) 0 a0_0 a0_1)) else (some (-2))) = some r := H
  have A2 := Aside0.mk A20
  clear A20
  by_cases c3 : t343 = true
  · subst c3
    have H1 : ((spec_l11Anf.f k a0_0 a0_1).bind fun t344 => (spec_DegreeMod2.l0 k t344 (-1) 0 a0_0 a0_1)) = some r := by rw [if_pos rfl] at H; exact H
    clear H
    have H := H1
    clear H1
    replace H := Option.bind_eq_some_iff.mp H
    obtain ⟨t344, A40, H⟩ := H
    replace H : (spec_DegreeMod2.l0 k t344 (-1) 0 a0_0 a0_1) = some r := H
    have A4 := Aside0.mk A40
    clear A40
    have H' := Aside0.mk H
    clear H
    go_enter Try.func22, Try.ntmps22
    go_wp2_with (first | ((with_reducible refine gate_dst (N := 1) rfl ?_); refine box_event ?hg (N := 1) ?hd (cs := #[.int .i64 a0_0, .int .i64 a0_1]) (t := 24) ?hr ?_; (case hd => rfl); (case hg => rfl); (case hr => first | (go_simp; done) | (go_simp; rfl)); intro gb342 hg w5 hbox hb; have n0_ := Aside0.mk (below_step (by repeat (first | (with_reducible first | exact HB.out | apply below_alloc | apply pw_below_drewN | apply below_drew1) | exact HB.out)) hb); have n1_ := Aside0.mk (hbox); have n2_ := Aside0.mk ((by rw [hg]; exact (below_size (by repeat (first | (with_reducible first | exact HB.out | apply below_alloc | apply pw_below_drewN | apply below_drew1) | exact HB.out))) : w.heap.size ≤ gb342)); have n3_ := Aside0.mk ((by rw [hg]; exact (below_size (by repeat (first | (with_reducible first | exact HB.out | apply below_alloc | apply pw_below_drewN | apply below_drew1) | exact HB.out))) : w.heap.size ≤ gb342)); clear HB; have HB := n0_; have BK342 := n1_; have GW342 := n2_; have GE342 := n3_; clear n0_ n1_ n2_ n3_; clear hb hbox hg; have hcz6_0 : w5.cell? ⟨gb342, 0, none⟩ = some (.int .i64 a0_0) := (blk_cell BK342.out 0).trans rfl; have hcz6_1 : w5.cell? ⟨gb342, 1, none⟩ = some (.int .i64 a0_1) := (blk_cell BK342.out 1).trans rfl; have hfz6_0 := blk_frozen BK342.out 0; have hfz6_1 := blk_frozen BK342.out 1) | ((with_reducible refine gate_callee (f := 38) rfl ?_); refine goesL_ (some 7) rfl rfl Try.func38 (by kernel_rfl) rfl #[.agg #[.int .i64 a0_0, .int .i64 a0_1]] rfl (by (try simp only [List.map_toArray, List.map_cons, List.map_nil]); first | done | rfl | (simp only [List.length_drop, List.length_take]; rfl)) ?_; (with_reducible refine (spec_IsTable.calls a0_0 a0_1 true _ A2.out).mono ?_); rintro e w7 ⟨rfl, hb⟩; refine ⟨_, rfl, ?_⟩; have n0_ := Aside0.mk (blk_below (g := gb342) (o := .cells #[.int .i64 a0_0, .int .i64 a0_1] 24 (0, 0)) (by (with_reducible repeat (first | refine blk_drewN ?_ _ | refine blk_drew ?_ | refine blk_alloc ?_ _)); exact BK342.out) hb); have n1_ := Aside0.mk (below_step (by repeat (first | (with_reducible first | exact HB.out | apply below_alloc | apply pw_below_drewN | apply below_drew1 | refine below_set ?_ GE342.out) | exact HB.out)) hb); clear BK342; clear HB; have BK342 := n0_; have HB := n1_; clear n0_ n1_; (try clear hb); (try clear hb2); (try clear hk); (try clear hi); have hcz8_0 : w7.cell? ⟨gb342, 0, none⟩ = some (.int .i64 a0_0) := (blk_cell BK342.out 0).trans rfl; have hcz8_1 : w7.cell? ⟨gb342, 1, none⟩ = some (.int .i64 a0_1) := (blk_cell BK342.out 1).trans rfl; have hfz8_0 := blk_frozen BK342.out 0; have hfz8_1 := blk_frozen BK342.out 1) | ((with_reducible refine gate_callee (f := 39) rfl ?_); refine goesL_ (some 10) rfl rfl Try.func39 (by kernel_rfl) rfl #[.agg #[.int .i64 a0_0, .int .i64 a0_1]] rfl (by (try simp only [List.map_toArray, List.map_cons, List.map_nil]); first | done | rfl | (simp only [List.length_drop, List.length_take]; rfl)) ?_; (with_reducible refine (spec_l11Anf.calls k a0_0 a0_1 t344 _ A4.out).mono ?_); rintro e w9 ⟨rfl, hb⟩; refine ⟨_, rfl, ?_⟩; have n0_ := Aside0.mk (blk_below (g := gb342) (o := .cells #[.int .i64 a0_0, .int .i64 a0_1] 24 (0, 0)) (by (with_reducible repeat (first | refine blk_drewN ?_ _ | refine blk_drew ?_ | refine blk_alloc ?_ _)); exact BK342.out) hb); have n1_ := Aside0.mk (below_step (by repeat (first | (with_reducible first | exact HB.out | apply below_alloc | apply pw_below_drewN | apply below_drew1 | refine below_set ?_ GE342.out) | exact HB.out)) hb); clear BK342; clear HB; have BK342 := n0_; have HB := n1_; clear n0_ n1_; (try clear hb); (try clear hb2); (try clear hk); (try clear hi)))
    go_loopg [4, 5] k (fun kq v4 v5 w' => ∃ (x4_1 : Int) (x5_1 : Int), v4 = .int .i64 x4_1 ∧ v5 = .int .i64 x5_1 ∧ Aside0 (spec_DegreeMod2.l0 kq t344 x4_1 x5_1 a0_0 a0_1 = some r) ∧ Aside0 (kq ≤ k) ∧ Aside0 (w'.heap[gb342]? = some (.cells #[.int .i64 a0_0, .int .i64 a0_1] 24 (0, 0))) ∧ Aside0 (Below w.heap.size w w'))
    case atStart => exact ⟨((-1)), (0), (by first | rfl | (simp; done) | (simp [*]; done)), (by first | rfl | (simp; done) | (simp [*]; done)), H', ⟨Nat.le_refl _⟩, ⟨by (with_reducible repeat (first | refine blk_drewN ?_ _ | refine blk_drew ?_ | refine blk_alloc ?_ _)); exact BK342.out⟩, ⟨by repeat (first | (with_reducible first | exact HB.out | apply below_alloc | apply pw_below_drewN | apply below_drew1 | refine below_set ?_ GE342.out) | exact HB.out)⟩⟩
    case round =>
      clear H'
      try clear c2
      try clear p2
      try clear c3
      try clear hcz6_0
      try clear hcz6_1
      try clear hcz8_0
      try clear hcz8_1
      try clear hfz6_0
      try clear hfz6_1
      try clear hfz8_0
      try clear hfz8_1
      obtain ⟨x4_1, x5_1, rfl, rfl, HA, HK1, BK342, HB⟩ := hrel
      cases gk with
      | zero => exact absurd HA.out (by simp [spec_DegreeMod2.l0])
      | succ k1 =>
        have H := HA.out
        clear HA
        simp only [spec_DegreeMod2.l0] at H
        by_cases c10 : 0 ≤ a0_0
        · rw [if_pos c10] at H
          have c10b0 := eq_true c10
          have c10b1 : decide (0 ≤ a0_0) = true := decide_eq_true c10
          clear c10
          obtain ⟨ji11, hji11⟩ : ∃ j_ : Int, (shl .i64 1 a0_0) = j_ := ⟨_, rfl⟩
          replace H : (if x5_1 < (ji11) then (if 0 ≤ x5_1 then (if (Go.bits .and .i64 (shr .i64 t344 x5_1) 1) = 1 then ((spec_l2Count.f k1 x5_1).bind fun t345 => (spec_DegreeMod2.l0 k1 t344 (mx x4_1 t345) (wrap64 (x5_1 + 1)) a0_0 a0_1)) else (spec_DegreeMod2.l0 k1 t344 x4_1 (wrap64 (x5_1 + 1)) a0_0 a0_1)) else (none)) else (some x4_1)) = some r := by first | (rw [hji11] at H; exact H) | (simp only [hji11] at H ⊢; exact H)
          have hji11_ : (IntKind.i64.wrap (1 * 2 ^ min a0_0.toNat 64)) = ji11 := hji11
          have hji11z : a0_0 ≤ 64 → (IntKind.i64.wrap (1 * 2 ^ a0_0.toNat)) = ji11 := shl_small hji11
          have hji11u : (IntKind.i64.wrap (2 ^ min a0_0.toNat 64)) = ji11 := by have h_ := hji11_; rw [Int.one_mul] at h_; exact h_
          have hji11v : a0_0 ≤ 64 → (IntKind.i64.wrap (2 ^ a0_0.toNat)) = ji11 := fun hle_ => by have h_ := hji11z hle_; rw [Int.one_mul] at h_; exact h_
          have hji11y : (wrap64 (1 * 2 ^ min a0_0.toNat 64)) = ji11 := (i64_w _).symm.trans hji11_
          have hji11x : a0_0 ≤ 64 → (wrap64 (1 * 2 ^ a0_0.toNat)) = ji11 := fun h_ => (i64_w _).symm.trans (hji11z h_)
          by_cases c12 : x5_1 < (ji11)
          · rw [if_pos c12] at H
            have c12b0 : decide (x5_1 < (ji11)) = true := decide_eq_true c12
            clear c12
            by_cases c13 : 0 ≤ x5_1
            · rw [if_pos c13] at H
              have c13b0 := eq_true c13
              have c13b1 : decide (0 ≤ x5_1) = true := decide_eq_true c13
              clear c13
              obtain ⟨ji14, hji14⟩ : ∃ j_ : Int, (shr .i64 t344 x5_1) = j_ := ⟨_, rfl⟩
              replace H : (if (Go.bits .and .i64 (ji14) 1) = 1 then ((spec_l2Count.f k1 x5_1).bind fun t345 => (spec_DegreeMod2.l0 k1 t344 (mx x4_1 t345) (wrap64 (x5_1 + 1)) a0_0 a0_1)) else (spec_DegreeMod2.l0 k1 t344 x4_1 (wrap64 (x5_1 + 1)) a0_0 a0_1)) = some r := by first | (rw [hji14] at H; exact H) | (simp only [hji14] at H ⊢; exact H)
              have hji14_ : (t344 / 2 ^ min x5_1.toNat 64) = ji14 := hji14
              have hji14z : x5_1 ≤ 64 → (t344 / 2 ^ x5_1.toNat) = ji14 := shr_small hji14
              by_cases c15 : (Go.bits .and .i64 (ji14) 1) = 1
              · rw [if_pos c15] at H
                have c15b0 : ((Go.bits .and .i64 (ji14) 1) == 1) = true := beq_iff_eq.mpr c15
                have c15b1 : ((Go.bits .and .i64 (ji14) 1) != 1) = false := bne_eq_false_iff_eq.mpr c15
                clear c15
                replace H := Option.bind_eq_some_iff.mp H
                obtain ⟨t345, A160, H⟩ := H
                replace H : (spec_DegreeMod2.l0 k1 t344 (mx x4_1 t345) (wrap64 (x5_1 + 1)) a0_0 a0_1) = some r := H
                have A16 := Aside0.mk A160
                clear A160
                obtain ⟨ji17, hji17⟩ : ∃ j_ : Int, (mx x4_1 t345) = j_ := ⟨_, rfl⟩
                replace H : (spec_DegreeMod2.l0 k1 t344 ji17 (wrap64 (x5_1 + 1)) a0_0 a0_1) = some r := by first | (rw [hji17] at H; exact H) | (simp only [hji17] at H ⊢; exact H)
                (try rw [hji17] at A16)
                have hji17_ : (if x4_1 < t345 then t345 else x4_1) = ji17 := hji17
                have H' := Aside0.mk H
                clear H
                have hcz18_0 : wr.cell? ⟨gb342, 0, none⟩ = some (.int .i64 a0_0) := (blk_cell BK342.out 0).trans rfl
                have hcz18_1 : wr.cell? ⟨gb342, 1, none⟩ = some (.int .i64 a0_1) := (blk_cell BK342.out 1).trans rfl
                have hfz18_0 := blk_frozen BK342.out 0
                have hfz18_1 := blk_frozen BK342.out 1
                go_wp2_with (first | ((with_reducible refine gate_callee (f := 50) rfl ?_); refine goesL_ (some 25) rfl rfl Try.func50 (by kernel_rfl) rfl #[.int .i64 x5_1] rfl (by (try simp only [List.map_toArray, List.map_cons, List.map_nil]); first | done | rfl | (simp only [List.length_drop, List.length_take]; rfl)) ?_; (with_reducible refine (spec_l2Count.calls k1 x5_1 t345 _ A16.out).mono ?_); rintro e w' ⟨rfl, ⟨nd, rfl⟩⟩; refine ⟨_, rfl, ?_⟩))
                go_roundg k1
                case measure => have := HK1.out; omega
                case rel => exact ⟨(ji17), (wrap64 (x5_1 + 1)), (by first | rfl | (simp; done) | (simp only [← hji17] <;> (first | rfl | simp)) | (simp [*]; done)), (by first | rfl | (simp; done) | (simp [*]; done)), H', ⟨by have := HK1.out; omega⟩, ⟨by (with_reducible repeat (first | refine blk_drewN ?_ _ | refine blk_drew ?_ | refine blk_alloc ?_ _)); exact BK342.out⟩, ⟨by repeat (first | (with_reducible first | exact HB.out | apply below_alloc | apply pw_below_drewN | apply below_drew1 | refine below_set ?_ GE342.out) | exact HB.out)⟩⟩
              · rw [if_neg c15] at H
                have c15b0 : ((Go.bits .and .i64 (ji14) 1) == 1) = false := beq_eq_false_iff_ne.mpr c15
                have c15b1 : ((Go.bits .and .i64 (ji14) 1) != 1) = true := bne_iff_ne.mpr c15
                have H' := Aside0.mk H
                clear H
                have hcz19_0 : wr.cell? ⟨gb342, 0, none⟩ = some (.int .i64 a0_0) := (blk_cell BK342.out 0).trans rfl
                have hcz19_1 : wr.cell? ⟨gb342, 1, none⟩ = some (.int .i64 a0_1) := (blk_cell BK342.out 1).trans rfl
                have hfz19_0 := blk_frozen BK342.out 0
                have hfz19_1 := blk_frozen BK342.out 1
                go_wp2
                go_roundg k1
                case measure => have := HK1.out; omega
                case rel => exact ⟨(x4_1), (wrap64 (x5_1 + 1)), (by first | rfl | (simp; done) | (simp [*]; done)), (by first | rfl | (simp; done) | (simp [*]; done)), H', ⟨by have := HK1.out; omega⟩, ⟨by (with_reducible repeat (first | refine blk_drewN ?_ _ | refine blk_drew ?_ | refine blk_alloc ?_ _)); exact BK342.out⟩, ⟨by repeat (first | (with_reducible first | exact HB.out | apply below_alloc | apply pw_below_drewN | apply below_drew1 | refine below_set ?_ GE342.out) | exact HB.out)⟩⟩
            · rw [if_neg c13] at H
              exact absurd H (by simp)
          · rw [if_neg c12] at H
            have c12b0 : decide (x5_1 < (ji11)) = false := decide_eq_false c12
            clear c12
            obtain rfl := Option.some.inj H
            have hcz20_0 : wr.cell? ⟨gb342, 0, none⟩ = some (.int .i64 a0_0) := (blk_cell BK342.out 0).trans rfl
            have hcz20_1 : wr.cell? ⟨gb342, 1, none⟩ = some (.int .i64 a0_1) := (blk_cell BK342.out 1).trans rfl
            have hfz20_0 := blk_frozen BK342.out 0
            have hfz20_1 := blk_frozen BK342.out 1
            go_wp2
            go_ret
            exact ⟨by first | rfl | (simp [errW_none, errW_some] <;> rfl) | (simp only [← hji11]; first | rfl | (simp [errW_none, errW_some] <;> rfl)) | (simp [*, errW_none, errW_some] <;> rfl), by repeat (first | (with_reducible first | exact HB.out | apply below_alloc | apply pw_below_drewN | apply below_drew1 | refine below_set ?_ GE342.out) | exact HB.out)⟩
        · rw [if_neg c10] at H
          exact absurd H (by simp)
  · replace c3 := Bool.eq_false_iff.mpr c3
    subst c3
    have H1 : (some (-2)) = some r := by rw [if_neg (show ¬ (false = true) by decide)] at H; exact H
    clear H
    have H := H1
    clear H1
    obtain rfl := Option.some.inj H
    go_enter Try.func22, Try.ntmps22
    go_wp2_with (first | ((with_reducible refine gate_dst (N := 1) rfl ?_); refine box_event ?hg (N := 1) ?hd (cs := #[.int .i64 a0_0, .int .i64 a0_1]) (t := 24) ?hr ?_; (case hd => rfl); (case hg => rfl); (case hr => first | (go_simp; done) | (go_simp; rfl)); intro gb342 hg w21 hbox hb; have n0_ := Aside0.mk (below_step (by repeat (first | (with_reducible first | exact HB.out | apply below_alloc | apply pw_below_drewN | apply below_drew1) | exact HB.out)) hb); have n1_ := Aside0.mk (hbox); have n2_ := Aside0.mk ((by rw [hg]; exact (below_size (by repeat (first | (with_reducible first | exact HB.out | apply below_alloc | apply pw_below_drewN | apply below_drew1) | exact HB.out))) : w.heap.size ≤ gb342)); have n3_ := Aside0.mk ((by rw [hg]; exact (below_size (by repeat (first | (with_reducible first | exact HB.out | apply below_alloc | apply pw_below_drewN | apply below_drew1) | exact HB.out))) : w.heap.size ≤ gb342)); clear HB; have HB := n0_; have BK342 := n1_; have GW342 := n2_; have GE342 := n3_; clear n0_ n1_ n2_ n3_; clear hb hbox hg; have hcz22_0 : w21.cell? ⟨gb342, 0, none⟩ = some (.int .i64 a0_0) := (blk_cell BK342.out 0).trans rfl; have hcz22_1 : w21.cell? ⟨gb342, 1, none⟩ = some (.int .i64 a0_1) := (blk_cell BK342.out 1).trans rfl; have hfz22_0 := blk_frozen BK342.out 0; have hfz22_1 := blk_frozen BK342.out 1) | ((with_reducible refine gate_callee (f := 38) rfl ?_); refine goesL_ (some 7) rfl rfl Try.func38 (by kernel_rfl) rfl #[.agg #[.int .i64 a0_0, .int .i64 a0_1]] rfl (by (try simp only [List.map_toArray, List.map_cons, List.map_nil]); first | done | rfl | (simp only [List.length_drop, List.length_take]; rfl)) ?_; (with_reducible refine (spec_IsTable.calls a0_0 a0_1 false _ A2.out).mono ?_); rintro e w23 ⟨rfl, hb⟩; refine ⟨_, rfl, ?_⟩; have n0_ := Aside0.mk (blk_below (g := gb342) (o := .cells #[.int .i64 a0_0, .int .i64 a0_1] 24 (0, 0)) (by (with_reducible repeat (first | refine blk_drewN ?_ _ | refine blk_drew ?_ | refine blk_alloc ?_ _)); exact BK342.out) hb); have n1_ := Aside0.mk (below_step (by repeat (first | (with_reducible first | exact HB.out | apply below_alloc | apply pw_below_drewN | apply below_drew1 | refine below_set ?_ GE342.out) | exact HB.out)) hb); clear BK342; clear HB; have BK342 := n0_; have HB := n1_; clear n0_ n1_; (try clear hb); (try clear hb2); (try clear hk); (try clear hi)))
    go_ret
    exact ⟨by first | rfl | (simp [errW_none, errW_some] <;> rfl) | (simp [*, errW_none, errW_some] <;> rfl), by repeat (first | (with_reducible first | exact HB.out | apply below_alloc | apply pw_below_drewN | apply below_drew1 | refine below_set ?_ GE342.out) | exact HB.out)⟩

/-! ### impl_degree: function 51 -/
/-- The greatest number of variables of a set that is such. -/
def impl_degree.most (g : Nat → Bool) : Nat → Int
  | 0 => -1
  | x + 1 => if g x = true then mx (impl_degree.most g x) ((impl_ones.f (x : Int)).getD 0) else impl_degree.most g x
theorem impl_degree.w (x : Int) (h0 : 0 ≤ x) (h1 : x ≤ 32) : wrap64 x = x := by unfold wrap64; omega
theorem impl_degree.size {a : Int} (h : 0 ≤ a ∧ a ≤ 5) : ∃ N : Nat, wrap64 ((2 : Int) ^ a.toNat) = (N : Int) ∧ 2 ^ a.toNat = N ∧ N ≤ 32 := by
  rcases (by omega : a = 0 ∨ a = 1 ∨ a = 2 ∨ a = 3 ∨ a = 4 ∨ a = 5) with rfl | rfl | rfl | rfl | rfl | rfl
  · exact ⟨1, (congrArg wrap64 (show ((2 : Int) ^ (0 : Int).toNat) = 1 by decide)).trans (impl_degree.w _ (by omega) (by omega)), by decide, by omega⟩
  · exact ⟨2, (congrArg wrap64 (show ((2 : Int) ^ (1 : Int).toNat) = 2 by decide)).trans (impl_degree.w _ (by omega) (by omega)), by decide, by omega⟩
  · exact ⟨4, (congrArg wrap64 (show ((2 : Int) ^ (2 : Int).toNat) = 4 by decide)).trans (impl_degree.w _ (by omega) (by omega)), by decide, by omega⟩
  · exact ⟨8, (congrArg wrap64 (show ((2 : Int) ^ (3 : Int).toNat) = 8 by decide)).trans (impl_degree.w _ (by omega) (by omega)), by decide, by omega⟩
  · exact ⟨16, (congrArg wrap64 (show ((2 : Int) ^ (4 : Int).toNat) = 16 by decide)).trans (impl_degree.w _ (by omega) (by omega)), by decide, by omega⟩
  · exact ⟨32, (congrArg wrap64 (show ((2 : Int) ^ (5 : Int).toNat) = 32 by decide)).trans (impl_degree.w _ (by omega) (by omega)), by decide, by omega⟩
-- EACH closure's number
set_option maxHeartbeats 4000000 in
set_option maxRecDepth 100000 in
theorem impl_degree.calls52 (n : Int) (hn : 0 ≤ n ∧ n ≤ 5) (caps : Array Value) (g : Nat → Bool) (w : World)
    (hp : ∀ (W : World) (x : Nat), Below w.heap.size w W → x < 2 ^ n.toNat → Calls Try.prog 52 (#[.int .i64 (x : Int)] ++ caps) W fun e w' => e = .returned (.bool (g x)) ∧ Below W.heap.size W w') :
    Calls Try.prog 51 #[.int .i64 n, .func (.func 52) #[] caps] w fun e w' => e = .returned (.int .i64 (impl_degree.most g (2 ^ n.toNat))) ∧ Below w.heap.size w w' := by
  obtain ⟨N, hN, hN2, hN32⟩ := impl_degree.size hn
  rw [hN2] at hp ⊢
  have HP := Aside0.mk hp
  have HB := Aside0.mk (Below.refl w.heap.size w)
  clear hN2 hp
  go_enter Try.func51, Try.ntmps51
  go_wp2_with fail
  rw [hN]
  go_loopw [5, 9] (fun v5 v9 wr => ∃ i : Nat, i ≤ N ∧ v5 = .int .i64 (impl_degree.most g i) ∧ v9 = .int .i64 (i : Int) ∧ Aside0 (Below w.heap.size w wr)) (fun _ v9 _ => N - (intOf v9).toNat)
  case atStart => exact ⟨0, Nat.zero_le _, rfl, rfl, HB⟩
  case round =>
    obtain ⟨i, hi, rfl, rfl, HB⟩ := hrel
    by_cases hlt : i < N
    · have hcall := HP.out wr i HB.out hlt
      replace hcall : Calls Try.prog 52 (#[.int .i64 (i : Int)] ++ caps) wr fun e w' => e = .returned (.bool (g i)) ∧ Below wr.heap.size wr w' := hcall
      cases hg : g i with
      | true =>
        rw [hg] at hcall
        obtain ⟨t, ht⟩ : ∃ t, impl_ones.f (i : Int) = some t := ⟨_, rfl⟩
        have S1 := Aside0.mk (show impl_degree.most g (i + 1) = mx (impl_degree.most g i) t by simp only [impl_degree.most]; rw [if_pos hg, ht]; rfl)
        have A1 := Aside0.mk ht
        clear hg ht
        generalize impl_degree.most g i = q at S1 ⊢
        go_wp2_with (first | (go_at_call 52; refine hcall.mono ?_; rintro e w2 ⟨rfl, hb2⟩) | (go_at_call 78; refine (impl_ones.calls _ _ _ A1.out).mono ?_; rintro e w3 ⟨rfl, ⟨n1, rfl⟩⟩))
        go_roundw
        case rel => exact ⟨i + 1, by omega, by rw [S1.out]; first | rfl | (simp [mx]; done), by go_num, ⟨by apply pw_below_drewN; exact below_step HB.out hb2⟩⟩
        case measure => simp [intOf]; omega
      | false =>
        rw [hg] at hcall
        have S1 := Aside0.mk (show impl_degree.most g (i + 1) = impl_degree.most g i by simp only [impl_degree.most]; rw [if_neg (by rw [hg]; decide)])
        clear hg
        go_wp2_with (go_at_call 52; refine hcall.mono ?_; rintro e w2 ⟨rfl, hb2⟩)
        go_roundw
        case rel => exact ⟨i + 1, by omega, by rw [S1.out], by go_num, ⟨below_step HB.out hb2⟩⟩
        case measure => simp [intOf]; omega
    · obtain rfl : i = N := by omega
      go_wp2
      go_ret
      exact ⟨rfl, HB.out⟩
-- EACH closure's number
set_option maxHeartbeats 4000000 in
set_option maxRecDepth 100000 in
theorem impl_degree.calls56 (n : Int) (hn : 0 ≤ n ∧ n ≤ 5) (caps : Array Value) (g : Nat → Bool) (w : World)
    (hp : ∀ (W : World) (x : Nat), Below w.heap.size w W → x < 2 ^ n.toNat → Calls Try.prog 56 (#[.int .i64 (x : Int)] ++ caps) W fun e w' => e = .returned (.bool (g x)) ∧ Below W.heap.size W w') :
    Calls Try.prog 51 #[.int .i64 n, .func (.func 56) #[] caps] w fun e w' => e = .returned (.int .i64 (impl_degree.most g (2 ^ n.toNat))) ∧ Below w.heap.size w w' := by
  obtain ⟨N, hN, hN2, hN32⟩ := impl_degree.size hn
  rw [hN2] at hp ⊢
  have HP := Aside0.mk hp
  have HB := Aside0.mk (Below.refl w.heap.size w)
  clear hN2 hp
  go_enter Try.func51, Try.ntmps51
  go_wp2_with fail
  rw [hN]
  go_loopw [5, 9] (fun v5 v9 wr => ∃ i : Nat, i ≤ N ∧ v5 = .int .i64 (impl_degree.most g i) ∧ v9 = .int .i64 (i : Int) ∧ Aside0 (Below w.heap.size w wr)) (fun _ v9 _ => N - (intOf v9).toNat)
  case atStart => exact ⟨0, Nat.zero_le _, rfl, rfl, HB⟩
  case round =>
    obtain ⟨i, hi, rfl, rfl, HB⟩ := hrel
    by_cases hlt : i < N
    · have hcall := HP.out wr i HB.out hlt
      replace hcall : Calls Try.prog 56 (#[.int .i64 (i : Int)] ++ caps) wr fun e w' => e = .returned (.bool (g i)) ∧ Below wr.heap.size wr w' := hcall
      cases hg : g i with
      | true =>
        rw [hg] at hcall
        obtain ⟨t, ht⟩ : ∃ t, impl_ones.f (i : Int) = some t := ⟨_, rfl⟩
        have S1 := Aside0.mk (show impl_degree.most g (i + 1) = mx (impl_degree.most g i) t by simp only [impl_degree.most]; rw [if_pos hg, ht]; rfl)
        have A1 := Aside0.mk ht
        clear hg ht
        generalize impl_degree.most g i = q at S1 ⊢
        go_wp2_with (first | (go_at_call 56; refine hcall.mono ?_; rintro e w2 ⟨rfl, hb2⟩) | (go_at_call 78; refine (impl_ones.calls _ _ _ A1.out).mono ?_; rintro e w3 ⟨rfl, ⟨n1, rfl⟩⟩))
        go_roundw
        case rel => exact ⟨i + 1, by omega, by rw [S1.out]; first | rfl | (simp [mx]; done), by go_num, ⟨by apply pw_below_drewN; exact below_step HB.out hb2⟩⟩
        case measure => simp [intOf]; omega
      | false =>
        rw [hg] at hcall
        have S1 := Aside0.mk (show impl_degree.most g (i + 1) = impl_degree.most g i by simp only [impl_degree.most]; rw [if_neg (by rw [hg]; decide)])
        clear hg
        go_wp2_with (go_at_call 56; refine hcall.mono ?_; rintro e w2 ⟨rfl, hb2⟩)
        go_roundw
        case rel => exact ⟨i + 1, by omega, by rw [S1.out], by go_num, ⟨below_step HB.out hb2⟩⟩
        case measure => simp [intOf]; omega
    · obtain rfl : i = N := by omega
      go_wp2
      go_ret
      exact ⟨rfl, HB.out⟩

end Go.Proofs.Ytmnjhhlnnbadaaa.P
