-- Out of the translation, by this session's program over the printer's; Lean checks it.
import Derived.Test.YtfpcgcmajdebmaaDoorPx0
import Derived.Test.YtfpcgcmajdebmaaDoorPx5
import Derived.Test.YtfpcgcmajdebmaaDoorPx6
namespace Go.Proofs.YtfpcgcmajdebmaaDoor.P
open Go.RowKit Go.Proofs.YtfpcgcmajdebmaaDoorW.PrintWords Go.Proofs.YtfpcgcmajdebmaaDoorW.PrintLast Go.Proofs.YtfpcgcmajdebmaaDoorW.PrintMore
attribute [local go_sem] max2_int min2_int max_two min_two max_three min_three max_four min_four   -- for this text's walks alone
set_option linter.unusedVariables false
set_option linter.unusedSimpArgs false

/-! ### impl_isSmall: function 9 -/
def impl_isSmall.f (a0_0 : Int) (a0_1 : Int) (a1 : Int) : Option (Bool) := (impl_IsTable.f a0_0 a0_1).bind fun t226 => (if t226 = true then (some (decide (a0_0 ≤ a1))) else (some false))
set_option maxHeartbeats 8000000 in
set_option maxRecDepth 100000 in
theorem impl_isSmall.calls (a0_0 : Int) (a0_1 : Int) (a1 : Int) (r : Bool) (w : World) (h : impl_isSmall.f a0_0 a0_1 a1 = some r) :
    Calls Tryd.prog 9 #[.agg #[.int .i64 a0_0, .int .i64 a0_1], .int .i64 a1] w fun e w' => e = .returned (.bool r) ∧ Below w.heap.size w w' := by
  have hu26 := Tryd.underlying26
  have HB := Aside0.mk (Below.refl w.heap.size w)
  have H : ((impl_IsTable.f a0_0 a0_1).bind fun t226 => (if t226 = true then (some (decide (a0_0 ≤ a1))) else (some false))) = some r := h
  clear h
  replace H := Option.bind_eq_some_iff.mp H
  obtain ⟨t226, A30, H⟩ := H
  replace H : (if t226 = true then (some (decide (a0_0 ≤ a1))) else (some false)) = some r := H
  have A3 := Aside0.mk A30
  clear A30
  by_cases c4 : t226 = true
  · subst c4
    have H1 : (some (decide (a0_0 ≤ a1))) = some r := by rw [if_pos rfl] at H; exact H
    clear H
    have H := H1
    clear H1
    obtain rfl := Option.some.inj H
    go_enter Tryd.func9, Tryd.ntmps9
    go_wp2_with (first | ((with_reducible refine gate_dst (N := 2) rfl ?_); refine box_event ?hg (N := 2) ?hd (cs := #[.int .i64 a0_0, .int .i64 a0_1]) (t := 26) ?hr ?_; (case hd => rfl); (case hg => rfl); (case hr => first | (go_simp; done) | (go_simp; rfl)); intro gb225 hg w5 hbox hb; have n0_ := Aside0.mk (below_step (by repeat (first | (with_reducible first | exact HB.out | apply below_alloc | apply pw_below_drewN | apply below_drew1) | exact HB.out)) hb); have n1_ := Aside0.mk (hbox); have n2_ := Aside0.mk ((by rw [hg]; exact (below_size (by repeat (first | (with_reducible first | exact HB.out | apply below_alloc | apply pw_below_drewN | apply below_drew1) | exact HB.out))) : w.heap.size ≤ gb225)); have n3_ := Aside0.mk ((by rw [hg]; exact (below_size (by repeat (first | (with_reducible first | exact HB.out | apply below_alloc | apply pw_below_drewN | apply below_drew1) | exact HB.out))) : w.heap.size ≤ gb225)); clear HB; have HB := n0_; have BK225 := n1_; have GW225 := n2_; have GE225 := n3_; clear n0_ n1_ n2_ n3_; clear hb hbox hg; have hcz6_0 : w5.cell? ⟨gb225, 0, none⟩ = some (.int .i64 a0_0) := (blk_cell BK225.out 0).trans rfl; have hcz6_1 : w5.cell? ⟨gb225, 1, none⟩ = some (.int .i64 a0_1) := (blk_cell BK225.out 1).trans rfl; have hfz6_0 := blk_frozen BK225.out 0; have hfz6_1 := blk_frozen BK225.out 1) | ((with_reducible refine gate_callee (f := 15) rfl ?_); refine goesL_ (some 6) rfl rfl Tryd.func15 (by kernel_rfl) rfl #[.agg #[.int .i64 a0_0, .int .i64 a0_1]] rfl (by (try simp only [List.map_toArray, List.map_cons, List.map_nil]); first | done | rfl | (simp only [List.length_drop, List.length_take]; rfl)) ?_; (with_reducible refine (impl_IsTable.calls a0_0 a0_1 true _ A3.out).mono ?_); rintro e w7 ⟨rfl, hb⟩; refine ⟨_, rfl, ?_⟩; have n0_ := Aside0.mk (blk_below (g := gb225) (o := .cells #[.int .i64 a0_0, .int .i64 a0_1] 26 (0, 0)) (by (with_reducible repeat (first | refine blk_drewN ?_ _ | refine blk_drew ?_ | refine blk_alloc ?_ _)); exact BK225.out) hb); have n1_ := Aside0.mk (below_step (by repeat (first | (with_reducible first | exact HB.out | apply below_alloc | apply pw_below_drewN | apply below_drew1 | refine below_set ?_ GE225.out) | exact HB.out)) hb); clear BK225; clear HB; have BK225 := n0_; have HB := n1_; clear n0_ n1_; (try clear hb); (try clear hb2); (try clear hk); (try clear hi); have hcz8_0 : w7.cell? ⟨gb225, 0, none⟩ = some (.int .i64 a0_0) := (blk_cell BK225.out 0).trans rfl; have hcz8_1 : w7.cell? ⟨gb225, 1, none⟩ = some (.int .i64 a0_1) := (blk_cell BK225.out 1).trans rfl; have hfz8_0 := blk_frozen BK225.out 0; have hfz8_1 := blk_frozen BK225.out 1))
    go_ret
    exact ⟨by first | rfl | (simp [errW_none, errW_some] <;> rfl) | (simp [*, errW_none, errW_some] <;> rfl), by repeat (first | (with_reducible first | exact HB.out | apply below_alloc | apply pw_below_drewN | apply below_drew1 | refine below_set ?_ GE225.out) | exact HB.out)⟩
  · replace c4 := Bool.eq_false_iff.mpr c4
    subst c4
    have H1 : (some false) = some r := by rw [if_neg (show ¬ (false = true) by decide)] at H; exact H
    clear H
    have H := H1
    clear H1
    obtain rfl := Option.some.inj H
    go_enter Tryd.func9, Tryd.ntmps9
    go_wp2_with (first | ((with_reducible refine gate_dst (N := 2) rfl ?_); refine box_event ?hg (N := 2) ?hd (cs := #[.int .i64 a0_0, .int .i64 a0_1]) (t := 26) ?hr ?_; (case hd => rfl); (case hg => rfl); (case hr => first | (go_simp; done) | (go_simp; rfl)); intro gb225 hg w9 hbox hb; have n0_ := Aside0.mk (below_step (by repeat (first | (with_reducible first | exact HB.out | apply below_alloc | apply pw_below_drewN | apply below_drew1) | exact HB.out)) hb); have n1_ := Aside0.mk (hbox); have n2_ := Aside0.mk ((by rw [hg]; exact (below_size (by repeat (first | (with_reducible first | exact HB.out | apply below_alloc | apply pw_below_drewN | apply below_drew1) | exact HB.out))) : w.heap.size ≤ gb225)); have n3_ := Aside0.mk ((by rw [hg]; exact (below_size (by repeat (first | (with_reducible first | exact HB.out | apply below_alloc | apply pw_below_drewN | apply below_drew1) | exact HB.out))) : w.heap.size ≤ gb225)); clear HB; have HB := n0_; have BK225 := n1_; have GW225 := n2_; have GE225 := n3_; clear n0_ n1_ n2_ n3_; clear hb hbox hg; have hcz10_0 : w9.cell? ⟨gb225, 0, none⟩ = some (.int .i64 a0_0) := (blk_cell BK225.out 0).trans rfl; have hcz10_1 : w9.cell? ⟨gb225, 1, none⟩ = some (.int .i64 a0_1) := (blk_cell BK225.out 1).trans rfl; have hfz10_0 := blk_frozen BK225.out 0; have hfz10_1 := blk_frozen BK225.out 1) | ((with_reducible refine gate_callee (f := 15) rfl ?_); refine goesL_ (some 6) rfl rfl Tryd.func15 (by kernel_rfl) rfl #[.agg #[.int .i64 a0_0, .int .i64 a0_1]] rfl (by (try simp only [List.map_toArray, List.map_cons, List.map_nil]); first | done | rfl | (simp only [List.length_drop, List.length_take]; rfl)) ?_; (with_reducible refine (impl_IsTable.calls a0_0 a0_1 false _ A3.out).mono ?_); rintro e w11 ⟨rfl, hb⟩; refine ⟨_, rfl, ?_⟩; have n0_ := Aside0.mk (blk_below (g := gb225) (o := .cells #[.int .i64 a0_0, .int .i64 a0_1] 26 (0, 0)) (by (with_reducible repeat (first | refine blk_drewN ?_ _ | refine blk_drew ?_ | refine blk_alloc ?_ _)); exact BK225.out) hb); have n1_ := Aside0.mk (below_step (by repeat (first | (with_reducible first | exact HB.out | apply below_alloc | apply pw_below_drewN | apply below_drew1 | refine below_set ?_ GE225.out) | exact HB.out)) hb); clear BK225; clear HB; have BK225 := n0_; have HB := n1_; clear n0_ n1_; (try clear hb); (try clear hb2); (try clear hk); (try clear hi)))
    go_ret
    exact ⟨by first | rfl | (simp [errW_none, errW_some] <;> rfl) | (simp [*, errW_none, errW_some] <;> rfl), by repeat (first | (with_reducible first | exact HB.out | apply below_alloc | apply pw_below_drewN | apply below_drew1 | refine below_set ?_ GE225.out) | exact HB.out)⟩

/-! ### impl_Table_at: function 24 -/
def impl_Table_at.f (a0_0 : Int) (a0_1 : Int) (a1 : Int) : Option (Int) := if 0 ≤ a1 then (some (Go.bits .and .i64 (shr .i64 a0_1 a1) 1)) else (none)
set_option maxHeartbeats 8000000 in
set_option maxRecDepth 100000 in
theorem impl_Table_at.calls (a0_0 : Int) (a0_1 : Int) (a1 : Int) (r : Int) (w : World) (h : impl_Table_at.f a0_0 a0_1 a1 = some r) :
    Calls Tryd.prog 24 #[.agg #[.int .i64 a0_0, .int .i64 a0_1], .int .i64 a1] w fun e w' => e = .returned (.int .i64 r) ∧ Below w.heap.size w w' := by
  have hu26 := Tryd.underlying26
  have HB := Aside0.mk (Below.refl w.heap.size w)
  have H : (if 0 ≤ a1 then (some (Go.bits .and .i64 (shr .i64 a0_1 a1) 1)) else (none)) = some r := h
  clear h
  by_cases c3 : 0 ≤ a1
  · rw [if_pos c3] at H
    have c3b0 := eq_true c3
    have c3b1 : decide (0 ≤ a1) = true := decide_eq_true c3
    clear c3
    obtain ⟨ji4, hji4⟩ : ∃ j_ : Int, (shr .i64 a0_1 a1) = j_ := ⟨_, rfl⟩
    replace H : (some (Go.bits .and .i64 (ji4) 1)) = some r := by first | (rw [hji4] at H; exact H) | (simp only [hji4] at H ⊢; exact H)
    have hji4_ : (a0_1 / 2 ^ min a1.toNat 64) = ji4 := hji4
    have hji4z : a1 ≤ 64 → (a0_1 / 2 ^ a1.toNat) = ji4 := shr_small hji4
    obtain rfl := Option.some.inj H
    go_enter Tryd.func24, Tryd.ntmps24
    go_wp2_with (first | ((with_reducible refine gate_dst (N := 2) rfl ?_); refine box_event ?hg (N := 2) ?hd (cs := #[.int .i64 a0_0, .int .i64 a0_1]) (t := 26) ?hr ?_; (case hd => rfl); (case hg => rfl); (case hr => first | (go_simp; done) | (go_simp; rfl)); intro gb227 hg w5 hbox hb; have n0_ := Aside0.mk (below_step (by repeat (first | (with_reducible first | exact HB.out | apply below_alloc | apply pw_below_drewN | apply below_drew1) | exact HB.out)) hb); have n1_ := Aside0.mk (hbox); have n2_ := Aside0.mk ((by rw [hg]; exact (below_size (by repeat (first | (with_reducible first | exact HB.out | apply below_alloc | apply pw_below_drewN | apply below_drew1) | exact HB.out))) : w.heap.size ≤ gb227)); have n3_ := Aside0.mk ((by rw [hg]; exact (below_size (by repeat (first | (with_reducible first | exact HB.out | apply below_alloc | apply pw_below_drewN | apply below_drew1) | exact HB.out))) : w.heap.size ≤ gb227)); clear HB; have HB := n0_; have BK227 := n1_; have GW227 := n2_; have GE227 := n3_; clear n0_ n1_ n2_ n3_; clear hb hbox hg; have hcz6_0 : w5.cell? ⟨gb227, 0, none⟩ = some (.int .i64 a0_0) := (blk_cell BK227.out 0).trans rfl; have hcz6_1 : w5.cell? ⟨gb227, 1, none⟩ = some (.int .i64 a0_1) := (blk_cell BK227.out 1).trans rfl; have hfz6_0 := blk_frozen BK227.out 0; have hfz6_1 := blk_frozen BK227.out 1))
    go_ret
    exact ⟨by first | rfl | (simp [errW_none, errW_some] <;> rfl) | (simp only [← hji4]; first | rfl | (simp [errW_none, errW_some] <;> rfl)) | (simp [*, errW_none, errW_some] <;> rfl), by repeat (first | (with_reducible first | exact HB.out | apply below_alloc | apply pw_below_drewN | apply below_drew1 | refine below_set ?_ GE227.out) | exact HB.out)⟩
  · rw [if_neg c3] at H
    exact absurd H (by simp)

/-! ### impl_Table_cube: function 18 -/
/-- Does a value occur in a cube among the first inputs? -/
def impl_Table_cube.seen (W mask value b : Int) : Nat → Bool
  | 0 => false
  | x + 1 => impl_Table_cube.seen W mask value b x || ((Go.bits .and .i64 (x : Int) mask == value) && (Go.bits .and .i64 (shr .i64 W (x : Int)) 1 == b))
def impl_Table_cube.f (a0_0 a0_1 a1 a2 : Int) : Option Int :=
  if 0 ≤ a0_0 ∧ a0_0 ≤ 5 then some (if impl_Table_cube.seen a0_1 a1 a2 1 (2 ^ a0_0.toNat) = true then (if impl_Table_cube.seen a0_1 a1 a2 0 (2 ^ a0_0.toNat) = true then 2 else 1) else 0) else none
theorem impl_Table_cube.size {a : Int} (h : 0 ≤ a ∧ a ≤ 5) : ∃ N : Nat, shl .i64 1 a = (N : Int) ∧ 2 ^ a.toNat = N ∧ N ≤ 32 := by
  rcases (by omega : a = 0 ∨ a = 1 ∨ a = 2 ∨ a = 3 ∨ a = 4 ∨ a = 5) with rfl | rfl | rfl | rfl | rfl | rfl
  · exact ⟨1, by simp [shl, IntKind.wrap_i64], rfl, by omega⟩
  · exact ⟨2, by simp [shl, IntKind.wrap_i64, IntKind.bits], rfl, by omega⟩
  · exact ⟨4, by simp [shl, IntKind.wrap_i64, IntKind.bits], rfl, by omega⟩
  · exact ⟨8, by simp [shl, IntKind.wrap_i64, IntKind.bits], rfl, by omega⟩
  · exact ⟨16, by simp [shl, IntKind.wrap_i64, IntKind.bits], rfl, by omega⟩
  · exact ⟨32, by simp [shl, IntKind.wrap_i64, IntKind.bits], rfl, by omega⟩
theorem impl_Table_cube.bit (y : Int) : Go.bits .and .i64 y 1 = 0 ∨ Go.bits .and .i64 y 1 = 1 := by
  have h : ((BitVec.ofInt 64 y) &&& 1#64).toNat = (BitVec.ofInt 64 y).toNat % 2 := by
    rw [BitVec.toNat_and]
    exact Nat.and_one_is_mod _
  have h2 : Go.bits .and .i64 y 1 = IntKind.i64.wrap (((BitVec.ofInt 64 y).toNat % 2 : Nat) : Int) := by
    rw [← h]
    rfl
  rw [h2, IntKind.wrap_i64]
  rcases Nat.mod_two_eq_zero_or_one (BitVec.ofInt 64 y).toNat with e | e <;> rw [e]
  · exact .inl (by omega)
  · exact .inr (by omega)
set_option maxHeartbeats 4000000 in
set_option maxRecDepth 100000 in
theorem impl_Table_cube.calls (a0_0 a0_1 a1 a2 r : Int) (w : World) (h : impl_Table_cube.f a0_0 a0_1 a1 a2 = some r) :
    Calls Tryd.prog 18 #[.agg #[.int .i64 a0_0, .int .i64 a0_1], .int .i64 a1, .int .i64 a2] w fun e w' => e = .returned (.int .i64 r) ∧ Below w.heap.size w w' := by
  unfold impl_Table_cube.f at h
  by_cases hb : 0 ≤ a0_0 ∧ a0_0 ≤ 5
  case neg => rw [if_neg hb] at h; exact absurd h (by simp)
  rw [if_pos hb] at h
  have hr := Aside0.mk (Option.some.inj h)
  clear h
  obtain ⟨N, hN, hN2, hN32⟩ := impl_Table_cube.size hb
  rw [hN2] at hr
  have hu := Tryd.underlying26
  have hua := Tryd.underlying50
  have A2 := Aside0.mk (show impl_Table_size.f a0_0 a0_1 = some (N : Int) by unfold impl_Table_size.f; rw [if_pos hb.1, hN])
  clear hN hN2 hb
  go_enter Tryd.func18, Tryd.ntmps18
  go_wp2_with fail
  (with_reducible refine (impl_Table_size.calls a0_0 a0_1 _ _ A2.out).mono ?_)
  rintro e w1 ⟨rfl, hb1⟩
  have HB := Aside0.mk (((((Below.refl w.heap.size w).alloc (Nat.le_refl _) (Obj.cells #[Value.int IntKind.i64 a0_0, Value.int IntKind.i64 a0_1] 26)).alloc (by simp) (Obj.cells #[Value.bool false, Value.bool false] 50)).trans (hb1.mono (by simp; omega))))
  have BK := Aside0.mk (blk_below (blk_alloc (blk_new w (Obj.cells #[Value.int IntKind.i64 a0_0, Value.int IntKind.i64 a0_1] 26)) (Obj.cells #[Value.bool false, Value.bool false] 50)) hb1)
  have AR := Aside0.mk (blk_below (blk_new (w.alloc (Obj.cells #[Value.int IntKind.i64 a0_0, Value.int IntKind.i64 a0_1] 26)) (Obj.cells #[Value.bool false, Value.bool false] 50)) hb1)
  clear hb1 A2
  rw [show (w.alloc (Obj.cells #[Value.int IntKind.i64 a0_0, Value.int IntKind.i64 a0_1] 26)).heap.size = w.heap.size + 1 by simp] at AR
  go_wp2_with fail
  go_loopw [12] (fun v wr => ∃ i : Nat, i ≤ N ∧ v = .int .i64 (i : Int) ∧ Aside0 (wr.heap[w.heap.size]? = some (.cells #[.int .i64 a0_0, .int .i64 a0_1] 26 (0, 0))) ∧ Aside0 (wr.heap[w.heap.size + 1]? = some (.cells #[.bool (impl_Table_cube.seen a0_1 a1 a2 0 i), .bool (impl_Table_cube.seen a0_1 a1 a2 1 i)] 50 (0, 0))) ∧ Aside0 (Below w.heap.size w wr)) (fun v _ => N - (intOf v).toNat)
  case atStart => exact ⟨0, Nat.zero_le _, rfl, BK, AR, HB⟩
  case round =>
    obtain ⟨i, hi, rfl, BK, AR, HB⟩ := hrel
    by_cases hlt : i < N
    · have hc0 := blk_cell BK.out 0
      have hc1 := blk_cell BK.out 1
      replace hc0 : wr.cell? ⟨w.heap.size, 0, none⟩ = some (.int .i64 a0_0) := hc0
      replace hc1 : wr.cell? ⟨w.heap.size, 1, none⟩ = some (.int .i64 a0_1) := hc1
      by_cases hc : (Go.bits .and .i64 (i : Int) a1 == a2) = true
      · rcases impl_Table_cube.bit (shr .i64 a0_1 (i : Int)) with hat | hat
        · skip
          have A4 := Aside0.mk (show impl_Table_at.f a0_0 a0_1 (i : Int) = some 0 by unfold impl_Table_at.f; rw [if_pos (Int.natCast_nonneg _), hat])
          have S0 := Aside0.mk (show impl_Table_cube.seen a0_1 a1 a2 0 (i + 1) = true by simp only [impl_Table_cube.seen]; rw [hc, hat]; simp)
          have S1 := Aside0.mk (show impl_Table_cube.seen a0_1 a1 a2 1 (i + 1) = impl_Table_cube.seen a0_1 a1 a2 1 i by simp only [impl_Table_cube.seen]; rw [hc, hat]; simp)
          clear hat
          go_wp2_with fail
          (with_reducible refine (impl_Table_at.calls a0_0 a0_1 _ _ _ A4.out).mono ?_)
          rintro e w2 ⟨rfl, hb2⟩
          have HB2 := Aside0.mk (below_step HB.out hb2)
          have BK2 := Aside0.mk (blk_below BK.out hb2)
          have AR2 := Aside0.mk (blk_below AR.out hb2)
          clear hb2 HB BK AR A4
          have k0 := (blk_cell AR2.out 0).trans rfl
          have k1 := (blk_cell AR2.out 1).trans rfl
          have f0 := blk_frozen AR2.out 0
          have f1 := blk_frozen AR2.out 1
          go_wp2
          go_roundw
          case rel => exact ⟨i + 1, by omega, by go_num, ⟨blk_far BK2.out (by simp) _⟩, ⟨by rw [S0.out, S1.out]; exact blk_put AR2.out 0 _ rfl⟩, ⟨below_set HB2.out (by omega)⟩⟩
          case measure => simp [intOf]; omega
        · skip
          have A4 := Aside0.mk (show impl_Table_at.f a0_0 a0_1 (i : Int) = some 1 by unfold impl_Table_at.f; rw [if_pos (Int.natCast_nonneg _), hat])
          have S0 := Aside0.mk (show impl_Table_cube.seen a0_1 a1 a2 0 (i + 1) = impl_Table_cube.seen a0_1 a1 a2 0 i by simp only [impl_Table_cube.seen]; rw [hc, hat]; simp)
          have S1 := Aside0.mk (show impl_Table_cube.seen a0_1 a1 a2 1 (i + 1) = true by simp only [impl_Table_cube.seen]; rw [hc, hat]; simp)
          clear hat
          go_wp2_with fail
          (with_reducible refine (impl_Table_at.calls a0_0 a0_1 _ _ _ A4.out).mono ?_)
          rintro e w2 ⟨rfl, hb2⟩
          have HB2 := Aside0.mk (below_step HB.out hb2)
          have BK2 := Aside0.mk (blk_below BK.out hb2)
          have AR2 := Aside0.mk (blk_below AR.out hb2)
          clear hb2 HB BK AR A4
          have k0 := (blk_cell AR2.out 0).trans rfl
          have k1 := (blk_cell AR2.out 1).trans rfl
          have f0 := blk_frozen AR2.out 0
          have f1 := blk_frozen AR2.out 1
          go_wp2
          go_roundw
          case rel => exact ⟨i + 1, by omega, by go_num, ⟨blk_far BK2.out (by simp) _⟩, ⟨by rw [S0.out, S1.out]; exact blk_put AR2.out 1 _ rfl⟩, ⟨below_set HB2.out (by omega)⟩⟩
          case measure => simp [intOf]; omega
      · have hc2 : (Go.bits .and .i64 (i : Int) a1 == a2) = false := by simpa using hc
        clear hc
        have S0 := Aside0.mk (show impl_Table_cube.seen a0_1 a1 a2 0 (i + 1) = impl_Table_cube.seen a0_1 a1 a2 0 i by simp only [impl_Table_cube.seen]; rw [hc2]; simp)
        have S1 := Aside0.mk (show impl_Table_cube.seen a0_1 a1 a2 1 (i + 1) = impl_Table_cube.seen a0_1 a1 a2 1 i by simp only [impl_Table_cube.seen]; rw [hc2]; simp)
        go_wp2
        go_roundw
        case rel => exact ⟨i + 1, by omega, by go_num, BK, ⟨by rw [S0.out, S1.out]; exact AR.out⟩, HB⟩
        case measure => simp [intOf]; omega
    · obtain rfl : i = N := by omega
      have k0 := (blk_cell AR.out 0).trans rfl
      have k1 := (blk_cell AR.out 1).trans rfl
      replace hr := hr.out
      cases h0 : impl_Table_cube.seen a0_1 a1 a2 0 i <;> cases h1 : impl_Table_cube.seen a0_1 a1 a2 1 i <;> rw [h0] at k0 <;> rw [h1] at k1 <;> simp only [h0, h1, if_true, Bool.false_eq_true, if_false] at hr <;> subst hr
      all_goals
        clear h0 h1
        go_wp2
        go_ret
        exact ⟨rfl, HB.out⟩

end Go.Proofs.YtfpcgcmajdebmaaDoor.P
