-- Out of the translation, by this session's program over the printer's; Lean checks it.
import Derived.Test.YtmnjhhlnnbadaaaPx0
import Derived.Test.YtmnjhhlnnbadaaaPx1
import Derived.Test.YtmnjhhlnnbadaaaPx4
import Derived.Test.YtmnjhhlnnbadaaaPx6
import Derived.Test.YtmnjhhlnnbadaaaPx12
namespace Go.Proofs.Ytmnjhhlnnbadaaa.P
open Go.RowKit Go.Proofs.YtmnjhhlnnbadaaaW.PrintWords Go.Proofs.YtmnjhhlnnbadaaaW.PrintLast Go.Proofs.YtmnjhhlnnbadaaaW.PrintMore
attribute [local go_sem] max2_int min2_int max_two min_two max_three min_three max_four min_four   -- for this text's walks alone
set_option linter.unusedVariables false
set_option linter.unusedSimpArgs false

/-! ### impl_DegreeMod2: function 23 -/
def impl_DegreeMod2.on (n W : Int) (m : Nat) : Bool := (impl_Table_at.f n W (m : Int)).getD 0 == 1
def impl_DegreeMod2.f (a0_0 a0_1 : Int) : Option Int :=
  (impl_IsTable.f a0_0 a0_1).bind fun t => if t = true then ((impl_Table_anf.f a0_0 a0_1).bind fun g => if 0 ≤ a0_0 ∧ a0_0 ≤ 5 then some (impl_degree.most (impl_DegreeMod2.on g.1 g.2) (2 ^ a0_0.toNat)) else none) else some (-2)
set_option maxHeartbeats 4000000 in
set_option maxRecDepth 100000 in
theorem impl_DegreeMod2.in_calls (g0 g1 : Int) (B : Nat) (m : Nat) (W : World) (hB : W.heap[B]? = some (.cells #[.int .i64 g0, .int .i64 g1] 24 (0, 0))) :
    Calls Try.prog 52 #[.int .i64 (m : Int), .pointer (some ⟨B, 0, none⟩)] W fun e w' => e = .returned (.bool (impl_DegreeMod2.on g0 g1 m)) ∧ Below W.heap.size W w' := by
  obtain ⟨t, ht⟩ : ∃ t, impl_Table_at.f g0 g1 (m : Int) = some t := ⟨Go.bits .and .i64 (shr .i64 g1 (m : Int)) 1, by unfold impl_Table_at.f; rw [if_pos (Int.natCast_nonneg _)]⟩
  have A1 := Aside0.mk ht
  have hv := Aside0.mk (show impl_DegreeMod2.on g0 g1 m = (t == 1) by unfold impl_DegreeMod2.on; rw [ht]; rfl)
  clear ht
  rw [hv.out]
  clear hv
  have hu := Try.underlying24
  have hc0 := blk_cell hB 0
  have hc1 := blk_cell hB 1
  replace hc0 : W.cell? ⟨B, 0, none⟩ = some (.int .i64 g0) := hc0
  replace hc1 : W.cell? ⟨B, 1, none⟩ = some (.int .i64 g1) := hc1
  clear hB
  go_enter Try.func52, Try.ntmps52
  go_wp2_with (go_at_call 53; refine (impl_Table_at.calls g0 g1 _ _ _ A1.out).mono ?_; rintro e w1 ⟨rfl, hb1⟩)
  go_ret
  exact ⟨rfl, hb1⟩
set_option maxHeartbeats 4000000 in
set_option maxRecDepth 100000 in
theorem impl_DegreeMod2.calls (a0_0 a0_1 r : Int) (w : World) (h : impl_DegreeMod2.f a0_0 a0_1 = some r) :
    Calls Try.prog 23 #[.agg #[.int .i64 a0_0, .int .i64 a0_1]] w fun e w' => e = .returned (.int .i64 r) ∧ Below w.heap.size w w' := by
  unfold impl_DegreeMod2.f at h
  obtain ⟨t, ht, h⟩ := Option.bind_eq_some_iff.mp h
  have A1 := Aside0.mk ht
  clear ht
  have hu := Try.underlying24
  cases t with
  | false =>
    rw [if_neg (by decide)] at h
    obtain rfl := Option.some.inj h
    go_enter Try.func23, Try.ntmps23
    go_wp2_with (go_at_call 40; refine (impl_IsTable.calls a0_0 a0_1 _ _ A1.out).mono ?_; rintro e w1 ⟨rfl, hb1⟩)
    go_ret
    exact ⟨rfl, (((Below.refl w.heap.size w).alloc (Nat.le_refl _) (Obj.cells #[Value.int IntKind.i64 a0_0, Value.int IntKind.i64 a0_1] 24))).trans (hb1.mono (by simp))⟩
  | true =>
    rw [if_pos rfl] at h
    obtain ⟨⟨g0, g1⟩, hg, h⟩ := Option.bind_eq_some_iff.mp h
    by_cases hb : 0 ≤ a0_0 ∧ a0_0 ≤ 5
    case neg => rw [if_neg hb] at h; exact absurd h (by simp)
    rw [if_pos hb] at h
    have hr := Aside0.mk (Option.some.inj h)
    have A2 := Aside0.mk hg
    clear h hg
    go_enter Try.func23, Try.ntmps23
    go_wp2_with fail
    (with_reducible refine (impl_IsTable.calls a0_0 a0_1 _ _ A1.out).mono ?_)
    rintro e w1 ⟨rfl, hb1⟩
    have BK := Aside0.mk (blk_below (blk_new w (Obj.cells #[Value.int IntKind.i64 a0_0, Value.int IntKind.i64 a0_1] 24)) hb1)
    have HB := Aside0.mk ((((Below.refl w.heap.size w).alloc (Nat.le_refl _) (Obj.cells #[Value.int IntKind.i64 a0_0, Value.int IntKind.i64 a0_1] 24))).trans (hb1.mono (by simp)))
    clear hb1 A1
    have hc0 := (blk_cell BK.out 0).trans rfl
    have hc1 := (blk_cell BK.out 1).trans rfl
    go_wp2_with fail
    (with_reducible refine (impl_Table_anf.calls a0_0 a0_1 _ _ _ A2.out).mono ?_)
    rintro e w2 ⟨rfl, hb2⟩
    have BK2 := Aside0.mk (blk_below BK.out hb2)
    have HB2 := Aside0.mk (below_step HB.out hb2)
    clear hb2 A2 BK HB hc0 hc1
    have hc0 : (w2.alloc (Obj.cells #[Value.int IntKind.i64 g0, Value.int IntKind.i64 g1] 24)).cell? ⟨w.heap.size, 0, none⟩ = some (.int .i64 a0_0) := (blk_cell (blk_alloc BK2.out (Obj.cells #[Value.int IntKind.i64 g0, Value.int IntKind.i64 g1] 24)) 0).trans rfl
    have hcall := impl_degree.calls52 a0_0 hb #[.pointer (some ⟨w2.heap.size, 0, none⟩)] (impl_DegreeMod2.on g0 g1) (w2.alloc (Obj.cells #[Value.int IntKind.i64 g0, Value.int IntKind.i64 g1] 24))
      (fun W x hW _ => impl_DegreeMod2.in_calls g0 g1 w2.heap.size x W (blk_below (blk_new w2 (Obj.cells #[Value.int IntKind.i64 g0, Value.int IntKind.i64 g1] 24)) hW))
    rw [hr.out] at hcall
    clear hr
    go_wp2_with (go_at_call 51; refine hcall.mono ?_; rintro e w3 ⟨rfl, hb3⟩)
    go_ret
    exact ⟨rfl, (HB2.out.alloc (below_size HB2.out) _).trans (hb3.mono (by have := below_size HB2.out; simp; omega))⟩

end Go.Proofs.Ytmnjhhlnnbadaaa.P
