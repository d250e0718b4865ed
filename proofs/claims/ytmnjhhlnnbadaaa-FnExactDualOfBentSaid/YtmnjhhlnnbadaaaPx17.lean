-- Out of the translation, by this session's program over the printer's; Lean checks it.
import Derived.Test.YtmnjhhlnnbadaaaPx0
import Derived.Test.YtmnjhhlnnbadaaaPx4
import Derived.Test.YtmnjhhlnnbadaaaPx6
import Derived.Test.YtmnjhhlnnbadaaaPx12
import Derived.Test.YtmnjhhlnnbadaaaPx16
namespace Go.Proofs.Ytmnjhhlnnbadaaa.P
open Go.RowKit Go.Proofs.YtmnjhhlnnbadaaaW.PrintWords Go.Proofs.YtmnjhhlnnbadaaaW.PrintLast Go.Proofs.YtmnjhhlnnbadaaaW.PrintMore
attribute [local go_sem] max2_int min2_int max_two min_two max_three min_three max_four min_four   -- for this text's walks alone
set_option linter.unusedVariables false
set_option linter.unusedSimpArgs false

/-! ### impl_RealDegree: function 25 -/
def impl_RealDegree.f (k : Nat) (a0_0 a0_1 : Int) : Option Int :=
  (impl_IsTable.f a0_0 a0_1).bind fun t => if t = true then ((impl_Table_coefficients.f k a0_0 a0_1).bind fun c => if (0 ≤ a0_0 ∧ a0_0 ≤ 5) ∧ c.length = 2 ^ a0_0.toNat then some (impl_degree.most (fun m => rd c (m : Int) != 0) (2 ^ a0_0.toNat)) else none) else some (-2)
theorem impl_RealDegree.mono : ∀ a0 a1 k, LeO (impl_RealDegree.f k a0 a1) (impl_RealDegree.f (k + 1) a0 a1) := by
  intro a0 a1 k
  unfold impl_RealDegree.f
  repeat' first
      | (with_reducible exact impl_Table_coefficients.mono _ _ _)
      | (with_reducible exact LeO.refl _)
      | (with_reducible exact LeO.none _)
      | (with_reducible refine LeO.ite ?_ ?_)
      | (with_reducible refine LeO.bind ?_ (fun _ => ?_))
      | exact impl_Table_coefficients.mono _ _ _
      | exact LeO.none _
      | refine LeO.ite ?_ ?_
      | refine LeO.bind ?_ (fun _ => ?_)
set_option maxHeartbeats 4000000 in
set_option maxRecDepth 100000 in
theorem impl_RealDegree.in_calls (c : List Int) (v : Value) (base B : Nat) (ok : Nat → Prop) (m : Nat) (W : World) (hB : W.heap[B]? = some (.cells #[v] 45 (0, 0))) (hR : Kd.R (Kd.int .i64) 3 W base ok v c) (hm : m < c.length) :
    Calls Try.prog 56 #[.int .i64 (m : Int), .pointer (some ⟨B, 0, none⟩)] W fun e w' => e = .returned (.bool (rd c (m : Int) != 0)) ∧ Below W.heap.size W w' := by
  obtain ⟨Ao, co, rfl⟩ := Kd.R_slice hR
  obtain ⟨_, _, hC⟩ := Kd.R_reads' hR
  obtain ⟨ad, rfl, hx⟩ := Kd.at_int hC (m : Int) (Int.natCast_nonneg m) (by omega)
  have hlt : (m : Int) < (c.length : Int) := by omega
  have hc0 := blk_cell hB 0
  replace hc0 : W.cell? ⟨B, 0, none⟩ = some (.slice (some ad) c.length co) := hc0
  rw [Int.toNat_natCast] at hx
  clear hC hR hB
  generalize rd c (m : Int) = z at hx ⊢
  generalize c.length = N at *
  go_enter Try.func56, Try.ntmps56
  go_wp2
  go_ret
  exact ⟨by first | rfl | (simp; done), Below.refl _ _⟩
set_option maxHeartbeats 4000000 in
set_option maxRecDepth 100000 in
theorem impl_RealDegree.calls (k : Nat) (a0_0 a0_1 r : Int) (w : World) (h : impl_RealDegree.f k a0_0 a0_1 = some r) :
    Calls Try.prog 25 #[.agg #[.int .i64 a0_0, .int .i64 a0_1]] w fun e w' => e = .returned (.int .i64 r) ∧ Below w.heap.size w w' := by
  unfold impl_RealDegree.f at h
  obtain ⟨t, ht, h⟩ := Option.bind_eq_some_iff.mp h
  have A1 := Aside0.mk ht
  clear ht
  have hu := Try.underlying24
  cases t with
  | false =>
    rw [if_neg (by decide)] at h
    obtain rfl := Option.some.inj h
    go_enter Try.func25, Try.ntmps25
    go_wp2_with (go_at_call 40; refine (impl_IsTable.calls a0_0 a0_1 _ _ A1.out).mono ?_; rintro e w1 ⟨rfl, hb1⟩)
    go_ret
    exact ⟨rfl, (((Below.refl w.heap.size w).alloc (Nat.le_refl _) (Obj.cells #[Value.int IntKind.i64 a0_0, Value.int IntKind.i64 a0_1] 24))).trans (hb1.mono (by simp))⟩
  | true =>
    rw [if_pos rfl] at h
    obtain ⟨c, hg, h⟩ := Option.bind_eq_some_iff.mp h
    by_cases hb : (0 ≤ a0_0 ∧ a0_0 ≤ 5) ∧ c.length = 2 ^ a0_0.toNat
    case neg => rw [if_neg hb] at h; exact absurd h (by simp)
    rw [if_pos hb] at h
    have hr := Aside0.mk (Option.some.inj h)
    have A2 := Aside0.mk hg
    have hln := Aside0.mk hb.2
    have hb0 := Aside0.mk hb.1
    clear h hg hb
    go_enter Try.func25, Try.ntmps25
    go_wp2_with fail
    (with_reducible refine (impl_IsTable.calls a0_0 a0_1 _ _ A1.out).mono ?_)
    rintro e w1 ⟨rfl, hb1⟩
    have BK := Aside0.mk (blk_below (blk_new w (Obj.cells #[Value.int IntKind.i64 a0_0, Value.int IntKind.i64 a0_1] 24)) hb1)
    have HB := Aside0.mk ((((Below.refl w.heap.size w).alloc (Nat.le_refl _) (Obj.cells #[Value.int IntKind.i64 a0_0, Value.int IntKind.i64 a0_1] 24))).trans (hb1.mono (by simp)))
    clear hb1 A1
    have hc0 := (blk_cell BK.out 0).trans rfl
    have hc1 := (blk_cell BK.out 1).trans rfl
    go_wp2_with fail
    (with_reducible refine (impl_Table_coefficients.calls _ a0_0 a0_1 _ _ A2.out).mono ?_)
    rintro e w2 ⟨v0, rfl, hR0, hb2⟩
    obtain ⟨Ao, co, rfl⟩ := Kd.R_slice hR0
    have BK2 := Aside0.mk (blk_below BK.out hb2)
    have HB2 := Aside0.mk (below_step HB.out hb2)
    have HR := Aside0.mk hR0
    clear hb2 A2 BK HB hc0 hc1 hR0
    have hc0 : (w2.alloc (Obj.cells #[Value.slice Ao c.length co] 45)).cell? ⟨w.heap.size, 0, none⟩ = some (.int .i64 a0_0) := (blk_cell (blk_alloc BK2.out (Obj.cells #[Value.slice Ao c.length co] 45)) 0).trans rfl
    have hcall := impl_degree.calls56 a0_0 hb0.out #[.pointer (some ⟨w2.heap.size, 0, none⟩)] (fun m => rd c (m : Int) != 0) (w2.alloc (Obj.cells #[Value.slice Ao c.length co] 45))
      (fun W x hW hx => impl_RealDegree.in_calls c _ _ w2.heap.size _ x W (blk_below (blk_new w2 (Obj.cells #[Value.slice Ao c.length co] 45)) hW) (Kd.R_below (Kd.R_alloc HR.out _) hW) (by rw [hln.out]; exact hx))
    rw [hr.out] at hcall
    clear hr
    generalize c.length = N at hcall hc0 HR ⊢
    go_wp2_with (go_at_call 51; refine hcall.mono ?_; rintro e w3 ⟨rfl, hb3⟩)
    go_ret
    exact ⟨rfl, (HB2.out.alloc (below_size HB2.out) _).trans (hb3.mono (by have := below_size HB2.out; simp; omega))⟩

/-! ### spec_l12Sign: function 81 -/
def spec_l12Sign.f (k : Nat) (a0 : Int) : Option (Int) := (spec_l2Count.f k a0).bind fun t515 => (if (Int.tmod t515 2) = 1 then (some (-1)) else (some 1))
theorem spec_l12Sign.mono : ∀ a0 k, LeO (spec_l12Sign.f k a0) (spec_l12Sign.f (k + 1) a0) := by
  intro a0 k
  unfold spec_l12Sign.f
  repeat' first
      | (with_reducible exact spec_l2Count.mono _ _)
      | (with_reducible exact LeO.refl _)
      | (with_reducible exact LeO.none _)
      | (with_reducible refine LeO.ite ?_ ?_)
      | (with_reducible refine LeO.bind ?_ (fun _ => ?_))
      | exact spec_l2Count.mono _ _
      | exact LeO.none _
      | refine LeO.ite ?_ ?_
      | refine LeO.bind ?_ (fun _ => ?_)
set_option maxHeartbeats 8000000 in
set_option maxRecDepth 100000 in
theorem spec_l12Sign.calls (k : Nat) (a0 : Int) (r : Int) (w : World) (h : spec_l12Sign.f k a0 = some r) :
    Calls Try.prog 81 #[.int .i64 a0] w fun e w' => e = .returned (.int .i64 r) ∧ Drawn0 w w' := by
  have H : ((spec_l2Count.f k a0).bind fun t515 => (if (Int.tmod t515 2) = 1 then (some (-1)) else (some 1))) = some r := h
  clear h
  replace H := Option.bind_eq_some_iff.mp H
  obtain ⟨t515, A20, H⟩ := H
  replace H : (if (Int.tmod t515 2) = 1 then (some (-1)) else (some 1)) = some r := H
  have A2 := Aside0.mk A20
  clear A20
  by_cases c3 : (Int.tmod t515 2) = 1
  · rw [if_pos c3] at H
    have c3b0 : ((Int.tmod t515 2) == 1) = true := beq_iff_eq.mpr c3
    have c3b1 : ((Int.tmod t515 2) != 1) = false := bne_eq_false_iff_eq.mpr c3
    clear c3
    obtain rfl := Option.some.inj H
    go_enter Try.func81, Try.ntmps81
    go_wp2_with (first | ((with_reducible refine gate_callee (f := 50) rfl ?_); refine goesL_ (some 4) rfl rfl Try.func50 (by kernel_rfl) rfl #[.int .i64 a0] rfl (by (try simp only [List.map_toArray, List.map_cons, List.map_nil]); first | done | rfl | (simp only [List.length_drop, List.length_take]; rfl)) ?_; (with_reducible refine (spec_l2Count.calls k a0 t515 _ A2.out).mono ?_); rintro e w' ⟨rfl, ⟨nd, rfl⟩⟩; refine ⟨_, rfl, ?_⟩))
    go_ret
    exact ⟨by first | rfl | (simp; done) | (simp [*]; done), by repeat (first | exact Drawn0.refl _ | apply Drawn0.step)⟩
  · rw [if_neg c3] at H
    have c3b0 : ((Int.tmod t515 2) == 1) = false := beq_eq_false_iff_ne.mpr c3
    have c3b1 : ((Int.tmod t515 2) != 1) = true := bne_iff_ne.mpr c3
    obtain rfl := Option.some.inj H
    go_enter Try.func81, Try.ntmps81
    go_wp2_with (first | ((with_reducible refine gate_callee (f := 50) rfl ?_); refine goesL_ (some 4) rfl rfl Try.func50 (by kernel_rfl) rfl #[.int .i64 a0] rfl (by (try simp only [List.map_toArray, List.map_cons, List.map_nil]); first | done | rfl | (simp only [List.length_drop, List.length_take]; rfl)) ?_; (with_reducible refine (spec_l2Count.calls k a0 t515 _ A2.out).mono ?_); rintro e w' ⟨rfl, ⟨nd, rfl⟩⟩; refine ⟨_, rfl, ?_⟩))
    go_ret
    exact ⟨by first | rfl | (simp; done) | (simp [*]; done), by repeat (first | exact Drawn0.refl _ | apply Drawn0.step)⟩

end Go.Proofs.Ytmnjhhlnnbadaaa.P
