-- Out of the translation, by this session's program over the printer's; Lean checks it.
import Derived.Test.YtflnlnkbepoimaaSh
import Derived.Test.YtflnlnkbepoimaaQ0
import Derived.Test.YtflnlnkbepoimaaQ2
import Derived.Test.YtflnlnkbepoimaaQ4
import Derived.Test.YtflnlnkbepoimaaQ5
import Derived.Test.YtflnlnkbepoimaaQ7
namespace Go.Proofs.Ytflnlnkbepoimaa.P
open Go.RowKit Go.Proofs.YtflnlnkbepoimaaW.PrintWords Go.Proofs.YtflnlnkbepoimaaW.PrintLast Go.Proofs.YtflnlnkbepoimaaW.PrintMore
attribute [local go_sem] max2_int min2_int max_two min_two max_three min_three max_four min_four
set_option linter.unusedVariables false
set_option linter.unusedSimpArgs false

/-! ### impl_AdversaryAnswer: function 10 -/
def impl_AdversaryAnswer.f (a0_0 a0_1 a1 a2 a3 : Int) : Option Int :=
  (impl_isKnown.f a0_0 a0_1 a1 a2).bind fun b => if b = true then (if a3 < 0 then some (-1) else if a0_0 ≤ a3 then some (-1) else if Go.bits .and .i64 (shr .i64 a1 a3) 1 = 1 then some (-1) else impl_asker_answer.f a0_0 a0_1 a1 a2 a3) else some (-1)
set_option maxHeartbeats 4000000 in
set_option maxRecDepth 100000 in
theorem impl_AdversaryAnswer.calls (a0_0 a0_1 a1 a2 a3 r : Int) (w : World) (h : impl_AdversaryAnswer.f a0_0 a0_1 a1 a2 a3 = some r) :
    Calls Try.prog 10 #[.agg #[.int .i64 a0_0, .int .i64 a0_1], .int .i64 a1, .int .i64 a2, .int .i64 a3] w fun e w' => e = .returned (.int .i64 r) ∧ Below w.heap.size w w' := by
  have hu := Try.underlying25
  have huk := Try.underlying44
  unfold impl_AdversaryAnswer.f at h
  obtain ⟨b, hb, h⟩ := Option.bind_eq_some_iff.mp h
  have AS := Aside0.mk hb
  cases b with
  | false =>
    have hr := Option.some.inj h
    subst hr
    clear h hb
    go_enter Try.func10, Try.ntmps10
    go_wp2_with (first | ((with_reducible refine gate_dst (N := 4) rfl ?_); refine box_event ?hg (N := 4) ?hd (cs := #[.int .i64 a0_0, .int .i64 a0_1]) (t := 25) ?hr ?_; (case hd => rfl); (case hg => rfl); (case hr => first | (go_simp; done) | (go_simp; rfl)); intro gb hg w1 hbox hb; have HB1 := Aside0.mk hb; have RK := Aside0.mk hbox; clear hg hbox hb; have k0 := (blk_cell RK.out 0).trans rfl; have k1 := (blk_cell RK.out 1).trans rfl) | (go_at_call 33; (with_reducible refine (impl_isKnown.calls a0_0 a0_1 a1 a2 _ _ AS.out).mono ?_); rintro e w2 ⟨rfl, hb2⟩; have HB2 := Aside0.mk (below_step HB1.out hb2); have RK2 := Aside0.mk (blk_below RK.out hb2); clear hb2; have k0 := (blk_cell RK2.out 0).trans rfl; have k1 := (blk_cell RK2.out 1).trans rfl))
    go_ret
    exact ⟨rfl, HB2.out⟩
  | true =>
    rw [if_pos rfl] at h
    by_cases h1 : a3 < 0
    · rw [if_pos h1] at h
      have hr := Option.some.inj h
      subst hr
      have h1b : decide (a3 < 0) = true := decide_eq_true h1
      clear h hb h1
      go_enter Try.func10, Try.ntmps10
      go_wp2_with (first | ((with_reducible refine gate_dst (N := 4) rfl ?_); refine box_event ?hg (N := 4) ?hd (cs := #[.int .i64 a0_0, .int .i64 a0_1]) (t := 25) ?hr ?_; (case hd => rfl); (case hg => rfl); (case hr => first | (go_simp; done) | (go_simp; rfl)); intro gb hg w1 hbox hb; have HB1 := Aside0.mk hb; have RK := Aside0.mk hbox; clear hg hbox hb; have k0 := (blk_cell RK.out 0).trans rfl; have k1 := (blk_cell RK.out 1).trans rfl) | (go_at_call 33; (with_reducible refine (impl_isKnown.calls a0_0 a0_1 a1 a2 _ _ AS.out).mono ?_); rintro e w2 ⟨rfl, hb2⟩; have HB2 := Aside0.mk (below_step HB1.out hb2); have RK2 := Aside0.mk (blk_below RK.out hb2); clear hb2; have k0 := (blk_cell RK2.out 0).trans rfl; have k1 := (blk_cell RK2.out 1).trans rfl))
      go_ret
      exact ⟨rfl, HB2.out⟩
    · rw [if_neg h1] at h
      have h1b : decide (a3 < 0) = false := decide_eq_false h1
      by_cases h2 : a0_0 ≤ a3
      · rw [if_pos h2] at h
        have hr := Option.some.inj h
        subst hr
        have h2b : decide (a0_0 ≤ a3) = true := decide_eq_true h2
        clear h hb h1 h2
        go_enter Try.func10, Try.ntmps10
        go_wp2_with (first | ((with_reducible refine gate_dst (N := 4) rfl ?_); refine box_event ?hg (N := 4) ?hd (cs := #[.int .i64 a0_0, .int .i64 a0_1]) (t := 25) ?hr ?_; (case hd => rfl); (case hg => rfl); (case hr => first | (go_simp; done) | (go_simp; rfl)); intro gb hg w1 hbox hb; have HB1 := Aside0.mk hb; have RK := Aside0.mk hbox; clear hg hbox hb; have k0 := (blk_cell RK.out 0).trans rfl; have k1 := (blk_cell RK.out 1).trans rfl) | (go_at_call 33; (with_reducible refine (impl_isKnown.calls a0_0 a0_1 a1 a2 _ _ AS.out).mono ?_); rintro e w2 ⟨rfl, hb2⟩; have HB2 := Aside0.mk (below_step HB1.out hb2); have RK2 := Aside0.mk (blk_below RK.out hb2); clear hb2; have k0 := (blk_cell RK2.out 0).trans rfl; have k1 := (blk_cell RK2.out 1).trans rfl))
        go_ret
        exact ⟨rfl, HB2.out⟩
      · rw [if_neg h2] at h
        have h2b : decide (a0_0 ≤ a3) = false := decide_eq_false h2
        have h3 : 0 ≤ a3 := by omega
        have h3b : decide (0 ≤ a3) = true := decide_eq_true h3
        obtain ⟨s, hs⟩ : ∃ s, shr .i64 a1 a3 = s := ⟨_, rfl⟩
        rw [hs] at h
        have hs_ : a1 / 2 ^ min a3.toNat 64 = s := hs
        have hsz : a3 ≤ 64 → a1 / 2 ^ a3.toNat = s := fun hle => by rw [← hs_, Nat.min_eq_left (by omega)]
        by_cases h4 : Go.bits .and .i64 s 1 = 1
        · rw [if_pos h4] at h
          have hr := Option.some.inj h
          subst hr
          have h4b : (Go.bits .and .i64 s 1 == 1) = true := beq_iff_eq.mpr h4
          clear h hb h1 h2 h4 hs
          go_enter Try.func10, Try.ntmps10
          go_wp2_with (first | ((with_reducible refine gate_dst (N := 4) rfl ?_); refine box_event ?hg (N := 4) ?hd (cs := #[.int .i64 a0_0, .int .i64 a0_1]) (t := 25) ?hr ?_; (case hd => rfl); (case hg => rfl); (case hr => first | (go_simp; done) | (go_simp; rfl)); intro gb hg w1 hbox hb; have HB1 := Aside0.mk hb; have RK := Aside0.mk hbox; clear hg hbox hb; have k0 := (blk_cell RK.out 0).trans rfl; have k1 := (blk_cell RK.out 1).trans rfl) | (go_at_call 33; (with_reducible refine (impl_isKnown.calls a0_0 a0_1 a1 a2 _ _ AS.out).mono ?_); rintro e w2 ⟨rfl, hb2⟩; have HB2 := Aside0.mk (below_step HB1.out hb2); have RK2 := Aside0.mk (blk_below RK.out hb2); clear hb2; have k0 := (blk_cell RK2.out 0).trans rfl; have k1 := (blk_cell RK2.out 1).trans rfl))
          go_ret
          exact ⟨rfl, HB2.out⟩
        · rw [if_neg h4] at h
          have h4b : (Go.bits .and .i64 s 1 == 1) = false := by simpa using h4
          have AF := Aside0.mk h
          clear h hb h1 h2 h4 hs
          go_enter Try.func10, Try.ntmps10
          go_wp2_with (first | ((with_reducible refine gate_dst (N := 4) rfl ?_); refine box_event ?hg (N := 4) ?hd (cs := #[.int .i64 a0_0, .int .i64 a0_1]) (t := 25) ?hr ?_; (case hd => rfl); (case hg => rfl); (case hr => first | (go_simp; done) | (go_simp; rfl)); intro gb hg w1 hbox hb; have HB1 := Aside0.mk hb; have RK := Aside0.mk hbox; clear hg hbox hb; have k0 := (blk_cell RK.out 0).trans rfl; have k1 := (blk_cell RK.out 1).trans rfl) | (go_at_call 33; (with_reducible refine (impl_isKnown.calls a0_0 a0_1 a1 a2 _ _ AS.out).mono ?_); rintro e w2 ⟨rfl, hb2⟩; have HB2 := Aside0.mk (below_step HB1.out hb2); have RK2 := Aside0.mk (blk_below RK.out hb2); clear hb2; have k0 := (blk_cell RK2.out 0).trans rfl; have k1 := (blk_cell RK2.out 1).trans rfl) | (go_at_call 24; (with_reducible refine (impl_Table_asking.calls a0_0 a0_1 (impl_asker_left.R a0_0 a0_1) (fun _ _ _ => True) _).mono ?_); rintro e w3 ⟨g, BD, BS, rfl, hS, hg, hd, hs, hb3⟩; have HS := Aside0.mk hS; have HG := Aside0.mk (And.intro hd hs); have HB3 := Aside0.mk (below_step HB2.out hb3); have HW := Aside0.mk HB2.out.size; clear hS hg hd hs hb3) | (go_at_call 27; (with_reducible refine (impl_asker_answer.calls a0_0 a0_1 _ g BD BS a1 a2 a3 r 0 _ AF.out HS.out (by decide)).mono ?_); rintro e w4 ⟨rfl, hS4, hg4⟩; have G4 := Aside0.mk hg4; clear hS4 hg4))
          go_ret
          exact ⟨rfl, pw_below_grown HB3.out _ HB3.out.size G4.out (by intro k hk; cases hk; exact Nat.le_trans HW.out HG.out.1)⟩


/-! ### impl_ForcedLeft: function 12 -/
def impl_ForcedLeft.f (a0_0 a0_1 a1 a2 : Int) : Option Int := (impl_isKnown.f a0_0 a0_1 a1 a2).bind fun b => if b = true then (if (Lit.int .i64 a1).wf = true ∧ (Lit.int .i64 a2).wf = true then impl_asker_left.f a0_0 a0_1 6 a1 a2 else none) else some (-1)
set_option maxHeartbeats 4000000 in
set_option maxRecDepth 100000 in
theorem impl_ForcedLeft.calls (a0_0 a0_1 a1 a2 r : Int) (w : World) (h : impl_ForcedLeft.f a0_0 a0_1 a1 a2 = some r) :
    Calls Try.prog 12 #[.agg #[.int .i64 a0_0, .int .i64 a0_1], .int .i64 a1, .int .i64 a2] w fun e w' => e = .returned (.int .i64 r) ∧ Below w.heap.size w w' := by
  have hu := Try.underlying25
  have huk := Try.underlying44
  unfold impl_ForcedLeft.f at h
  obtain ⟨b, hb, h⟩ := Option.bind_eq_some_iff.mp h
  have AS := Aside0.mk hb
  cases b with
  | false =>
    have hr := Option.some.inj h
    subst hr
    clear h hb
    go_enter Try.func12, Try.ntmps12
    go_wp2_with (first | ((with_reducible refine gate_dst (N := 3) rfl ?_); refine box_event ?hg (N := 3) ?hd (cs := #[.int .i64 a0_0, .int .i64 a0_1]) (t := 25) ?hr ?_; (case hd => rfl); (case hg => rfl); (case hr => first | (go_simp; done) | (go_simp; rfl)); intro gb hg w1 hbox hb; have HB1 := Aside0.mk hb; have RK := Aside0.mk hbox; clear hg hbox hb; have k0 := (blk_cell RK.out 0).trans rfl; have k1 := (blk_cell RK.out 1).trans rfl) | (go_at_call 33; (with_reducible refine (impl_isKnown.calls a0_0 a0_1 a1 a2 _ _ AS.out).mono ?_); rintro e w2 ⟨rfl, hb2⟩; have HB2 := Aside0.mk (below_step HB1.out hb2); have RK2 := Aside0.mk (blk_below RK.out hb2); clear hb2; have k0 := (blk_cell RK2.out 0).trans rfl; have k1 := (blk_cell RK2.out 1).trans rfl))
    go_ret
    exact ⟨rfl, HB2.out⟩
  | true =>
    rw [if_pos rfl] at h
    by_cases hwf : (Lit.int .i64 a1).wf = true ∧ (Lit.int .i64 a2).wf = true
    case neg => rw [if_neg hwf] at h; exact absurd h (by simp)
    rw [if_pos hwf] at h
    have W1 := Aside0.mk hwf.1
    have W2 := Aside0.mk hwf.2
    clear hwf
    have AF := Aside0.mk h
    have hn := impl_asker_left.range AF.out
    clear h hb
    go_enter Try.func12, Try.ntmps12
    go_wp2_with (first | ((with_reducible refine gate_dst (N := 3) rfl ?_); refine box_event ?hg (N := 3) ?hd (cs := #[.int .i64 a0_0, .int .i64 a0_1]) (t := 25) ?hr ?_; (case hd => rfl); (case hg => rfl); (case hr => first | (go_simp; done) | (go_simp; rfl)); intro gb hg w1 hbox hb; have HB1 := Aside0.mk hb; have RK := Aside0.mk hbox; clear hg hbox hb; have k0 := (blk_cell RK.out 0).trans rfl; have k1 := (blk_cell RK.out 1).trans rfl) | (go_at_call 33; (with_reducible refine (impl_isKnown.calls a0_0 a0_1 a1 a2 _ _ AS.out).mono ?_); rintro e w2 ⟨rfl, hb2⟩; have HB2 := Aside0.mk (below_step HB1.out hb2); have RK2 := Aside0.mk (blk_below RK.out hb2); clear hb2; have k0 := (blk_cell RK2.out 0).trans rfl; have k1 := (blk_cell RK2.out 1).trans rfl) | (go_at_call 24; (with_reducible refine (impl_Table_asking.calls a0_0 a0_1 (impl_asker_left.R a0_0 a0_1) (fun _ _ _ => True) _).mono ?_); rintro e w3 ⟨g, BD, BS, rfl, hS, hg, hd, hs, hb3⟩; have HS := Aside0.mk hS; have HG := Aside0.mk (And.intro hd hs); have HB3 := Aside0.mk (below_step HB2.out hb3); have HW := Aside0.mk HB2.out.size; clear hS hg hd hs hb3) | (go_at_call 31; (with_reducible refine (impl_asker_left.calls a0_0 a0_1 hn _ g BD BS 6 a1 a2 r 0 _ AF.out W1.out W2.out HS.out (by decide)).mono ?_); rintro e w4 ⟨rfl, hS4, hg4⟩; have G4 := Aside0.mk hg4; clear hS4 hg4))
    go_ret
    exact ⟨rfl, pw_below_grown HB3.out _ HB3.out.size G4.out (by intro k hk; cases hk; exact Nat.le_trans HW.out HG.out.1)⟩


/-! ### impl_asker_first: function 36 -/
/-- The first variable from i on by which what is needed gets less, whatever the answer. -/
def impl_asker_first.l (n W m v need : Int) : Nat → Nat → Option Int
  | 0, _ => some (-1)
  | d + 1, i => if 0 < need then (if Go.bits .and .i64 (shr .i64 m (i : Int)) 1 = 0 then (impl_known_with.f m v (i : Int) 0).bind fun k0 => (impl_asker_left.f n W 6 k0.1 k0.2).bind fun x => if x < need then (impl_known_with.f m v (i : Int) 1).bind fun k1 => (impl_asker_left.f n W 6 k1.1 k1.2).bind fun y => if y < need then some (i : Int) else impl_asker_first.l n W m v need d (i + 1) else impl_asker_first.l n W m v need d (i + 1) else impl_asker_first.l n W m v need d (i + 1)) else impl_asker_first.l n W m v need d (i + 1)
def impl_asker_first.f (n W m v : Int) : Option Int := (impl_asker_left.f n W 6 m v).bind fun need => impl_asker_first.l n W m v need n.toNat 0
set_option maxHeartbeats 4000000 in
set_option maxRecDepth 100000 in
theorem impl_asker_first.calls (n W : Int) (RS : Int → Int → Int → Prop) (g BD BS : Nat) (m v r : Int) (k : Nat) (w : World) (h : impl_asker_first.f n W m v = some r) (wm : (Lit.int .i64 m).wf = true) (wv : (Lit.int .i64 v).wf = true)
    (hS : impl_Table_asking.S n W (impl_asker_left.R n W) RS g BD BS k w) (hk : k + 11 * impl_asker_left.cost 6 < 4294967296) :
    Calls Try.prog 36 #[.pointer (some ⟨g, 0, none⟩), .agg #[.int .i64 m, .int .i64 v]] w fun e w' => e = .returned (.int .i64 r) ∧ impl_Table_asking.S n W (impl_asker_left.R n W) RS g BD BS (k + 11 * impl_asker_left.cost 6) w' ∧ w.grownBy w' (some BD) := by
  have hu := Try.underlying44
  have hua := Try.underlying60
  have hut := Try.underlying25
  unfold impl_asker_first.f at h
  obtain ⟨need, hd, h⟩ := Option.bind_eq_some_iff.mp h
  have hn := impl_asker_left.range hd
  have AD := Aside0.mk hd
  have HS := Aside0.mk hS
  have IH := Aside0.mk (fun m v r k w => impl_asker_left.calls n W hn RS g BD BS 6 m v r k w)
  obtain ⟨N, rfl⟩ := Int.eq_ofNat_of_zero_le hn.1
  replace h : impl_asker_first.l N W m v need N 0 = some r := h
  have AF := Aside0.mk h
  generalize impl_asker_left.cost 6 = K at hk IH ⊢
  have HK := Aside0.mk hk
  have HK0 : Aside0 (k + K < 4294967296) := ⟨by omega⟩
  clear h hd hS hk
  go_enter Try.func36, Try.ntmps36
  go_wp2_with (first | ((with_reducible refine gate_dst (N := 3) rfl ?_); refine box_event ?hg (N := 3) ?hd (cs := #[.int .i64 m, .int .i64 v]) (t := 44) ?hr ?_; (case hd => rfl); (case hg => rfl); (case hr => first | (go_simp; done) | (go_simp; rfl)); intro gb hg w1 hbox hb; have S1 := Aside0.mk (HS.out.kept hb); have RK := Aside0.mk hbox; have G1 := Aside0.mk (grown_of_below hb (some BD)); clear hg hbox hb; have k0 := (blk_cell RK.out 0).trans rfl; have k1 := (blk_cell RK.out 1).trans rfl) | (go_at_call 31; (with_reducible refine (IH.out m v need _ _ AD.out wm wv S1.out HK0.out).mono ?_); rintro e w2 ⟨rfl, hs2, hg2⟩; have S2 := Aside0.mk hs2; have R2 := Aside0.mk (blk_grown RK.out hg2 (by have := S1.out.depth.ne RK.out; simp [this])); have G2 := Aside0.mk (G1.out.trans hg2); clear hs2 hg2; have c0 := (blk_cell S2.out.blk 0).trans rfl))
  go_loopw [15] (fun x15 wr => ∃ j : Nat, j ≤ N ∧ x15 = .int .i64 (j : Int) ∧ Aside0 (impl_asker_first.l N W m v need (N - j) j = some r) ∧ Aside0 (impl_Table_asking.S N W (impl_asker_left.R N W) RS g BD BS (k + K + 2 * j * K) wr) ∧ Aside0 (wr.heap[gb]? = some (.cells #[.int .i64 m, .int .i64 v] 44 (0, 0))) ∧ Aside0 (w.grownBy wr (some BD))) (fun x15 _ => N - (intOf x15).toNat)
  case atStart => exact ⟨0, Nat.zero_le _, rfl, AF, ⟨by simpa using S2.out⟩, R2, G2⟩
  case round =>
    obtain ⟨j, hj, rfl, AJ, SJ, RJ, GJ⟩ := hrel
    have k0 := (blk_cell RJ.out 0).trans rfl
    have k1 := (blk_cell RJ.out 1).trans rfl
    clear S2 R2 G2 S1 RK G1 AF AD
    have hne : some gb ≠ some BD := by have := SJ.out.depth.ne RJ.out; simp [this]
    have hcl : k + K + 2 * j * K ≤ k + 11 * K := by
      have : 2 * j * K ≤ 10 * K := Nat.mul_le_mul_right _ (by omega)
      omega
    by_cases hlt : j < N
    · obtain ⟨e, he⟩ : ∃ e, N - j = e + 1 := ⟨N - j - 1, by omega⟩
      have hN : N - (j + 1) = e := by omega
      have HA := AJ.out
      rw [he, impl_asker_first.l] at HA
      have hc2 : k + K + 2 * j * K + K + K = k + K + 2 * (j + 1) * K := by rw [Nat.mul_add, Nat.add_mul]; omega
      have hc3 : k + K + 2 * (j + 1) * K ≤ k + 11 * K := by
        have : 2 * (j + 1) * K ≤ 10 * K := Nat.mul_le_mul_right _ (by omega)
        omega
      have HK1 : Aside0 (k + K + 2 * j * K + K < 4294967296) := ⟨by have := HK.out; omega⟩
      have HK2 : Aside0 (k + K + 2 * j * K + K + K < 4294967296) := ⟨by have := HK.out; omega⟩
      have hsh : shr .i64 m (j : Int) = m / 2 ^ j := by
        unfold shr
        rw [Int.toNat_natCast, Nat.min_eq_left (show j ≤ IntKind.i64.bits by show j ≤ 64; omega)]
      have C2 := Aside0.mk hc2
      have C3 := Aside0.mk hc3
      have M0 : Aside0 (k + K + 2 * j * K ≤ k + K + 2 * (j + 1) * K) := ⟨by omega⟩
      have M1 : Aside0 (k + K + 2 * j * K + K ≤ k + K + 2 * (j + 1) * K) := ⟨by omega⟩
      have M2 : Aside0 (k + K + 2 * j * K + K + K ≤ k + 11 * K) := ⟨by omega⟩
      clear hc2 hc3 hcl he
      by_cases h1 : 0 < need
      · have h1b : decide (0 < need) = true := decide_eq_true h1
        rw [if_pos h1] at HA
        clear h1
        by_cases hq : Go.bits .and .i64 (shr .i64 m (j : Int)) 1 = 0
        · rw [if_pos hq] at HA
          have hqb : (Go.bits .and .i64 (m / 2 ^ j) 1 == 0) = true := by rw [← hsh]; exact beq_iff_eq.mpr hq
          obtain ⟨⟨m0, v0⟩, e0, HA⟩ := Option.bind_eq_some_iff.mp HA
          obtain ⟨x, ex, HA⟩ := Option.bind_eq_some_iff.mp HA
          have A0 := Aside0.mk e0
          have AX : Aside0 (impl_asker_left.f N W 6 m0 v0 = some x) := ⟨ex⟩
          clear e0 ex hq hsh
          by_cases hx : x < need
          · rw [if_pos hx] at HA
            have hxb : decide (x < need) = true := decide_eq_true hx
            obtain ⟨⟨m1, v1⟩, e1, HA⟩ := Option.bind_eq_some_iff.mp HA
            obtain ⟨y, ey, HA⟩ := Option.bind_eq_some_iff.mp HA
            have A1 := Aside0.mk e1
            have AY : Aside0 (impl_asker_left.f N W 6 m1 v1 = some y) := ⟨ey⟩
            clear e1 ey hx
            by_cases hy : y < need
            · rw [if_pos hy] at HA
              have hyb : decide (y < need) = true := decide_eq_true hy
              have hr := Option.some.inj HA
              subst hr
              clear HA hy AJ
              go_wp2_with (first | (go_at_call 26; (with_reducible refine (impl_known_with.calls m v _ 0 _ _ _ A0.out).mono ?_); rintro e wa ⟨rfl, hba⟩; have Sa := Aside0.mk (SJ.out.kept hba); have Ra := Aside0.mk (blk_below RJ.out hba); have Ga := Aside0.mk (GJ.out.trans (grown_of_below hba (some BD))); clear hba; have k0 := (blk_cell Ra.out 0).trans rfl; have k1 := (blk_cell Ra.out 1).trans rfl) | (go_at_call 31; (with_reducible refine (IH.out m0 v0 x _ _ AX.out (impl_asker_left.with_wf A0.out).1 (impl_asker_left.with_wf A0.out).2 Sa.out HK1.out).mono ?_); rintro e wb ⟨rfl, hsb, hgb⟩; have Sb := Aside0.mk hsb; have Rb := Aside0.mk (blk_grown Ra.out hgb hne); have Gb := Aside0.mk (Ga.out.trans hgb); clear hsb hgb; have k0 := (blk_cell Rb.out 0).trans rfl; have k1 := (blk_cell Rb.out 1).trans rfl) | (go_at_call 26; (with_reducible refine (impl_known_with.calls m v _ 1 _ _ _ A1.out).mono ?_); rintro e wc ⟨rfl, hbc⟩; have Sc := Aside0.mk (Sb.out.kept hbc); have Rc := Aside0.mk (blk_below Rb.out hbc); have Gc := Aside0.mk (Gb.out.trans (grown_of_below hbc (some BD))); clear hbc; have k0 := (blk_cell Rc.out 0).trans rfl; have k1 := (blk_cell Rc.out 1).trans rfl) | (go_at_call 31; (with_reducible refine (IH.out m1 v1 y _ _ AY.out (impl_asker_left.with_wf A1.out).1 (impl_asker_left.with_wf A1.out).2 Sc.out HK2.out).mono ?_); rintro e wd ⟨rfl, hsd, hgd⟩; have Sd := Aside0.mk hsd; have Rd := Aside0.mk (blk_grown Rc.out hgd hne); have Gd := Aside0.mk (Gc.out.trans hgd); clear hsd hgd))
              go_ret
              exact ⟨rfl, Sd.out.mono M2.out, Gd.out⟩
            · rw [if_neg hy] at HA
              have hyb : decide (y < need) = false := decide_eq_false hy
              have AN : Aside0 (impl_asker_first.l N W m v need (N - (j + 1)) (j + 1) = some r) := ⟨by rw [hN]; exact HA⟩
              clear HA hy AJ hN
              go_wp2_with (first | (go_at_call 26; (with_reducible refine (impl_known_with.calls m v _ 0 _ _ _ A0.out).mono ?_); rintro e wa ⟨rfl, hba⟩; have Sa := Aside0.mk (SJ.out.kept hba); have Ra := Aside0.mk (blk_below RJ.out hba); have Ga := Aside0.mk (GJ.out.trans (grown_of_below hba (some BD))); clear hba; have k0 := (blk_cell Ra.out 0).trans rfl; have k1 := (blk_cell Ra.out 1).trans rfl) | (go_at_call 31; (with_reducible refine (IH.out m0 v0 x _ _ AX.out (impl_asker_left.with_wf A0.out).1 (impl_asker_left.with_wf A0.out).2 Sa.out HK1.out).mono ?_); rintro e wb ⟨rfl, hsb, hgb⟩; have Sb := Aside0.mk hsb; have Rb := Aside0.mk (blk_grown Ra.out hgb hne); have Gb := Aside0.mk (Ga.out.trans hgb); clear hsb hgb; have k0 := (blk_cell Rb.out 0).trans rfl; have k1 := (blk_cell Rb.out 1).trans rfl) | (go_at_call 26; (with_reducible refine (impl_known_with.calls m v _ 1 _ _ _ A1.out).mono ?_); rintro e wc ⟨rfl, hbc⟩; have Sc := Aside0.mk (Sb.out.kept hbc); have Rc := Aside0.mk (blk_below Rb.out hbc); have Gc := Aside0.mk (Gb.out.trans (grown_of_below hbc (some BD))); clear hbc; have k0 := (blk_cell Rc.out 0).trans rfl; have k1 := (blk_cell Rc.out 1).trans rfl) | (go_at_call 31; (with_reducible refine (IH.out m1 v1 y _ _ AY.out (impl_asker_left.with_wf A1.out).1 (impl_asker_left.with_wf A1.out).2 Sc.out HK2.out).mono ?_); rintro e wd ⟨rfl, hsd, hgd⟩; have Sd := Aside0.mk hsd; have Rd := Aside0.mk (blk_grown Rc.out hgd hne); have Gd := Aside0.mk (Gc.out.trans hgd); clear hsd hgd))
              go_roundw
              case rel => exact ⟨j + 1, by omega, by go_num, AN, ⟨C2.out ▸ Sd.out⟩, Rd, Gd⟩
              case measure => simp [intOf]; omega
          · rw [if_neg hx] at HA
            have hxb : decide (x < need) = false := decide_eq_false hx
            have AN : Aside0 (impl_asker_first.l N W m v need (N - (j + 1)) (j + 1) = some r) := ⟨by rw [hN]; exact HA⟩
            clear HA hx AJ hN
            go_wp2_with (first | (go_at_call 26; (with_reducible refine (impl_known_with.calls m v _ 0 _ _ _ A0.out).mono ?_); rintro e wa ⟨rfl, hba⟩; have Sa := Aside0.mk (SJ.out.kept hba); have Ra := Aside0.mk (blk_below RJ.out hba); have Ga := Aside0.mk (GJ.out.trans (grown_of_below hba (some BD))); clear hba; have k0 := (blk_cell Ra.out 0).trans rfl; have k1 := (blk_cell Ra.out 1).trans rfl) | (go_at_call 31; (with_reducible refine (IH.out m0 v0 x _ _ AX.out (impl_asker_left.with_wf A0.out).1 (impl_asker_left.with_wf A0.out).2 Sa.out HK1.out).mono ?_); rintro e wb ⟨rfl, hsb, hgb⟩; have Sb := Aside0.mk hsb; have Rb := Aside0.mk (blk_grown Ra.out hgb hne); have Gb := Aside0.mk (Ga.out.trans hgb); clear hsb hgb; have k0 := (blk_cell Rb.out 0).trans rfl; have k1 := (blk_cell Rb.out 1).trans rfl))
            go_roundw
            case rel => exact ⟨j + 1, by omega, by go_num, AN, ⟨Sb.out.mono M1.out⟩, Rb, Gb⟩
            case measure => simp [intOf]; omega
        · rw [if_neg hq] at HA
          have hqb : (Go.bits .and .i64 (m / 2 ^ j) 1 == 0) = false := by rw [← hsh]; simpa using hq
          have AN : Aside0 (impl_asker_first.l N W m v need (N - (j + 1)) (j + 1) = some r) := ⟨by rw [hN]; exact HA⟩
          clear HA hq AJ hN hsh
          go_wp2_with fail
          go_roundw
          case rel => exact ⟨j + 1, by omega, by go_num, AN, ⟨SJ.out.mono M0.out⟩, RJ, GJ⟩
          case measure => simp [intOf]; omega
      · have h1b : decide (0 < need) = false := decide_eq_false h1
        rw [if_neg h1] at HA
        have AN : Aside0 (impl_asker_first.l N W m v need (N - (j + 1)) (j + 1) = some r) := ⟨by rw [hN]; exact HA⟩
        clear HA h1 AJ hN hsh
        go_wp2_with fail
        go_roundw
        case rel => exact ⟨j + 1, by omega, by go_num, AN, ⟨SJ.out.mono M0.out⟩, RJ, GJ⟩
        case measure => simp [intOf]; omega
    · obtain rfl : j = N := by omega
      have HA := AJ.out
      rw [Nat.sub_self, impl_asker_first.l] at HA
      have hr := Option.some.inj HA
      subst hr
      have CL := Aside0.mk hcl
      clear HA AJ hcl
      go_wp2_with fail
      go_ret
      exact ⟨rfl, SJ.out.mono CL.out, GJ.out⟩


/-! ### impl_AskedOf: function 13 -/
def impl_AskedOf.f (a0_0 a0_1 a1 a2 : Int) : Option Int := (impl_isKnown.f a0_0 a0_1 a1 a2).bind fun b => if b = true then (if (Lit.int .i64 a1).wf = true ∧ (Lit.int .i64 a2).wf = true then impl_asker_first.f a0_0 a0_1 a1 a2 else none) else some (-1)
set_option maxHeartbeats 4000000 in
set_option maxRecDepth 100000 in
theorem impl_AskedOf.calls (a0_0 a0_1 a1 a2 r : Int) (w : World) (h : impl_AskedOf.f a0_0 a0_1 a1 a2 = some r) :
    Calls Try.prog 13 #[.agg #[.int .i64 a0_0, .int .i64 a0_1], .int .i64 a1, .int .i64 a2] w fun e w' => e = .returned (.int .i64 r) ∧ Below w.heap.size w w' := by
  have hu := Try.underlying25
  have huk := Try.underlying44
  unfold impl_AskedOf.f at h
  obtain ⟨b, hb, h⟩ := Option.bind_eq_some_iff.mp h
  have AS := Aside0.mk hb
  cases b with
  | false =>
    have hr := Option.some.inj h
    subst hr
    clear h hb
    go_enter Try.func13, Try.ntmps13
    go_wp2_with (first | ((with_reducible refine gate_dst (N := 3) rfl ?_); refine box_event ?hg (N := 3) ?hd (cs := #[.int .i64 a0_0, .int .i64 a0_1]) (t := 25) ?hr ?_; (case hd => rfl); (case hg => rfl); (case hr => first | (go_simp; done) | (go_simp; rfl)); intro gb hg w1 hbox hb; have HB1 := Aside0.mk hb; have RK := Aside0.mk hbox; clear hg hbox hb; have k0 := (blk_cell RK.out 0).trans rfl; have k1 := (blk_cell RK.out 1).trans rfl) | (go_at_call 33; (with_reducible refine (impl_isKnown.calls a0_0 a0_1 a1 a2 _ _ AS.out).mono ?_); rintro e w2 ⟨rfl, hb2⟩; have HB2 := Aside0.mk (below_step HB1.out hb2); have RK2 := Aside0.mk (blk_below RK.out hb2); clear hb2; have k0 := (blk_cell RK2.out 0).trans rfl; have k1 := (blk_cell RK2.out 1).trans rfl))
    go_ret
    exact ⟨rfl, HB2.out⟩
  | true =>
    rw [if_pos rfl] at h
    by_cases hwf : (Lit.int .i64 a1).wf = true ∧ (Lit.int .i64 a2).wf = true
    case neg => rw [if_neg hwf] at h; exact absurd h (by simp)
    rw [if_pos hwf] at h
    have W1 := Aside0.mk hwf.1
    have W2 := Aside0.mk hwf.2
    clear hwf
    have AF := Aside0.mk h
    have hn := True.intro
    clear h hb
    go_enter Try.func13, Try.ntmps13
    go_wp2_with (first | ((with_reducible refine gate_dst (N := 3) rfl ?_); refine box_event ?hg (N := 3) ?hd (cs := #[.int .i64 a0_0, .int .i64 a0_1]) (t := 25) ?hr ?_; (case hd => rfl); (case hg => rfl); (case hr => first | (go_simp; done) | (go_simp; rfl)); intro gb hg w1 hbox hb; have HB1 := Aside0.mk hb; have RK := Aside0.mk hbox; clear hg hbox hb; have k0 := (blk_cell RK.out 0).trans rfl; have k1 := (blk_cell RK.out 1).trans rfl) | (go_at_call 33; (with_reducible refine (impl_isKnown.calls a0_0 a0_1 a1 a2 _ _ AS.out).mono ?_); rintro e w2 ⟨rfl, hb2⟩; have HB2 := Aside0.mk (below_step HB1.out hb2); have RK2 := Aside0.mk (blk_below RK.out hb2); clear hb2; have k0 := (blk_cell RK2.out 0).trans rfl; have k1 := (blk_cell RK2.out 1).trans rfl) | (go_at_call 24; (with_reducible refine (impl_Table_asking.calls a0_0 a0_1 (impl_asker_left.R a0_0 a0_1) (fun _ _ _ => True) _).mono ?_); rintro e w3 ⟨g, BD, BS, rfl, hS, hg, hd, hs, hb3⟩; have HS := Aside0.mk hS; have HG := Aside0.mk (And.intro hd hs); have HB3 := Aside0.mk (below_step HB2.out hb3); have HW := Aside0.mk HB2.out.size; clear hS hg hd hs hb3) | (go_at_call 36; (with_reducible refine (impl_asker_first.calls a0_0 a0_1 _ g BD BS a1 a2 r 0 _ AF.out W1.out W2.out HS.out (by decide)).mono ?_); rintro e w4 ⟨rfl, hS4, hg4⟩; have G4 := Aside0.mk hg4; clear hS4 hg4))
    go_ret
    exact ⟨rfl, pw_below_grown HB3.out _ HB3.out.size G4.out (by intro k hk; cases hk; exact Nat.le_trans HW.out HG.out.1)⟩


/-! ### spec_DrawAskedOf: function 14 -/
def spec_DrawAskedOf.f (k : Nat) (l0 : List Int) : Option (Int × Int × Int × Int) := (spec_l8Draw.f k l0).bind fun bt864 => (some (bt864.1, bt864.2.1, bt864.2.2.1, bt864.2.2.2))
theorem spec_DrawAskedOf.mono : ∀ a0 k, LeO (spec_DrawAskedOf.f k a0) (spec_DrawAskedOf.f (k + 1) a0) := by
 intro a0 k
 unfold spec_DrawAskedOf.f
 repeat' first
   | (with_reducible exact spec_l8Draw.mono _ _)
   | (with_reducible exact LeO.refl _)
   | (with_reducible exact LeO.none _)
   | (with_reducible refine LeO.ite ?_ ?_)
   | (with_reducible refine LeO.bind ?_ (fun _ => ?_))
   | exact spec_l8Draw.mono _ _
   | exact LeO.none _
   | refine LeO.ite ?_ ?_
   | refine LeO.bind ?_ (fun _ => ?_)
set_option maxHeartbeats 8000000 in
set_option maxRecDepth 100000 in
theorem spec_DrawAskedOf.calls (k : Nat) (A0 : Option Addr) (c0 : Nat) (l0 : List Int) (r1 : Int) (r2 : Int) (r3 : Int) (r4 : Int) (w : World) (hr0 : Kd.C (Kd.int .u8) w A0 l0.length l0) (hc0 : l0.length ≤ c0) (h : spec_DrawAskedOf.f k l0 = some (r1, r2, r3, r4)) :
  Calls Try.prog 14 #[.slice A0 l0.length c0] w fun e w' => e = .returned (.tuple #[.agg #[.int .i64 r1, .int .i64 r2], .int .i64 r3, .int .i64 r4]) ∧ Below w.heap.size w w' := by
 have hu25 := Try.underlying25
 have HR0 := Aside0.mk hr0
 have HC0 := Aside0.mk hc0
 clear hr0 hc0
 have HB := Aside0.mk (Below.refl w.heap.size w)
 have H : ((spec_l8Draw.f k l0).bind fun bt864 => (some (bt864.1, bt864.2.1, bt864.2.2.1, bt864.2.2.2))) = some (r1, r2, r3, r4) := h
 clear h
 replace H := Option.bind_eq_some_iff.mp H
 obtain ⟨⟨t864, t865, t866, t867⟩, A20, H⟩ := H
 replace H : (some (t864, t865, t866, t867)) = some (r1, r2, r3, r4) := H
 have A2 := Aside0.mk A20
 clear A20
 simp only [Option.some.injEq, Prod.mk.injEq] at H
 obtain ⟨rfl, rfl, rfl, rfl⟩ := H
 go_enter Try.func14, Try.ntmps14
 go_wp2_with (first | ((with_reducible refine gate_dst (N := 2) rfl ?_); refine bx_ 2 #[.int .i64 0, .int .i64 0] 25 ?_; intro gb863 hg w3 hbox hb; have BK863 := Aside0.mk (hbox); have GW863 := gw_ hg (below_size (bv_ HB)); have GE863 := GW863; replace HB := Aside0.mk (below_step (bv_ HB) hb); clear hb hbox hg) | ((with_reducible refine gate_callee (f := 32) rfl ?_); refine gl_ 10 Try.func32 #[.slice A0 l0.length c0] rfl mp_ ?_; (with_reducible refine (spec_l8Draw.calls k _ _ l0 t864 t865 t866 t867 _ ?side1 ?side2 A2.out).mono ?_); (case side1 => exact cv_ (Kd.C_below HR0.out HB.out)); (case side2 => exact HC0.out); rintro e w4 ⟨rfl, hb⟩; refine ⟨_, rfl, ?_⟩; replace BK863 := kb_ BK863 hb; replace HB := Aside0.mk (below_step (bv1_ HB GE863) hb); (try clear hb); (try clear hb2); (try clear hk); (try clear hi)) | ((with_reducible refine gate_dst (N := 5) rfl ?_); refine bx_ 5 #[.int .i64 0, .int .i64 0] 25 ?_; intro gb868 hg w5 hbox hb; have BK868 := Aside0.mk (hbox); have GW868 := gw_ hg (below_size (bv1_ HB GE863)); have GE868 := GW868; replace HB := Aside0.mk (below_step (bv1_ HB GE863) hb); have NB863_868 := nb_ hg (blk_lt (g := gb863) (o := .cells #[.int .i64 0, .int .i64 0] 25 (0, 0)) (kv_ BK863)); have NB868_863 := nc_ hg (blk_lt (g := gb863) (o := .cells #[.int .i64 0, .int .i64 0] 25 (0, 0)) (kv_ BK863)); replace BK863 := kb_ BK863 hb; clear hb hbox hg; have hnb6 := NB868_863.out; have hnc6 := NB863_868.out; obtain ⟨hcz7_0, hcz7_1, hfz7_0, hfz7_1⟩ := c2_ BK868; obtain ⟨hcz8_0, hcz8_1, hfz8_0, hfz8_1⟩ := c2_ BK863))
 refine bodyPost_ret (results_ctt rfl _ _ gb863 25 #[.int .i64 t864, .int .i64 t865] (0, 0) _ rfl (by (with_reducible repeat (first | refine blk_drewN ?_ _ | refine blk_drew ?_ | refine blk_alloc ?_ _)); refine blk_put (cs := #[.int .i64 t864, .int .i64 0]) ?_ 1 _ rfl; (with_reducible repeat (first | refine blk_drewN ?_ _ | refine blk_drew ?_ | refine blk_alloc ?_ _)); refine blk_put (cs := #[.int .i64 0, .int .i64 0]) ?_ 0 _ rfl; (with_reducible repeat (first | refine blk_drewN ?_ _ | refine blk_drew ?_ | refine blk_alloc ?_ _)); refine blk_far ?_ NB863_868.out _; (with_reducible repeat (first | refine blk_drewN ?_ _ | refine blk_drew ?_ | refine blk_alloc ?_ _)); refine blk_far ?_ NB863_868.out _; (with_reducible repeat (first | refine blk_drewN ?_ _ | refine blk_drew ?_ | refine blk_alloc ?_ _)); exact BK863.out) Try.underlying25 rfl (by kernel_rfl)) rfl ?_
 exact ⟨by first | rfl | (simp [errW_none, errW_some] <;> rfl) | (simp [*, errW_none, errW_some] <;> rfl), bv2_ HB GE863 GE868⟩


/-! ### spec_DrawForcedLeft: function 15 -/
def spec_DrawForcedLeft.f (k : Nat) (l0 : List Int) : Option (Int × Int × Int × Int) := (spec_l8Draw.f k l0).bind fun bt870 => (some (bt870.1, bt870.2.1, bt870.2.2.1, bt870.2.2.2))
theorem spec_DrawForcedLeft.mono : ∀ a0 k, LeO (spec_DrawForcedLeft.f k a0) (spec_DrawForcedLeft.f (k + 1) a0) := by
 intro a0 k
 unfold spec_DrawForcedLeft.f
 repeat' first
   | (with_reducible exact spec_l8Draw.mono _ _)
   | (with_reducible exact LeO.refl _)
   | (with_reducible exact LeO.none _)
   | (with_reducible refine LeO.ite ?_ ?_)
   | (with_reducible refine LeO.bind ?_ (fun _ => ?_))
   | exact spec_l8Draw.mono _ _
   | exact LeO.none _
   | refine LeO.ite ?_ ?_
   | refine LeO.bind ?_ (fun _ => ?_)
set_option maxHeartbeats 8000000 in
set_option maxRecDepth 100000 in
theorem spec_DrawForcedLeft.calls (k : Nat) (A0 : Option Addr) (c0 : Nat) (l0 : List Int) (r1 : Int) (r2 : Int) (r3 : Int) (r4 : Int) (w : World) (hr0 : Kd.C (Kd.int .u8) w A0 l0.length l0) (hc0 : l0.length ≤ c0) (h : spec_DrawForcedLeft.f k l0 = some (r1, r2, r3, r4)) :
  Calls Try.prog 15 #[.slice A0 l0.length c0] w fun e w' => e = .returned (.tuple #[.agg #[.int .i64 r1, .int .i64 r2], .int .i64 r3, .int .i64 r4]) ∧ Below w.heap.size w w' := by
 have hu25 := Try.underlying25
 have HR0 := Aside0.mk hr0
 have HC0 := Aside0.mk hc0
 clear hr0 hc0
 have HB := Aside0.mk (Below.refl w.heap.size w)
 have H : ((spec_l8Draw.f k l0).bind fun bt870 => (some (bt870.1, bt870.2.1, bt870.2.2.1, bt870.2.2.2))) = some (r1, r2, r3, r4) := h
 clear h
 replace H := Option.bind_eq_some_iff.mp H
 obtain ⟨⟨t870, t871, t872, t873⟩, A20, H⟩ := H
 replace H : (some (t870, t871, t872, t873)) = some (r1, r2, r3, r4) := H
 have A2 := Aside0.mk A20
 clear A20
 simp only [Option.some.injEq, Prod.mk.injEq] at H
 obtain ⟨rfl, rfl, rfl, rfl⟩ := H
 go_enter Try.func15, Try.ntmps15
 go_wp2_with (first | ((with_reducible refine gate_dst (N := 2) rfl ?_); refine bx_ 2 #[.int .i64 0, .int .i64 0] 25 ?_; intro gb869 hg w3 hbox hb; have BK869 := Aside0.mk (hbox); have GW869 := gw_ hg (below_size (bv_ HB)); have GE869 := GW869; replace HB := Aside0.mk (below_step (bv_ HB) hb); clear hb hbox hg) | ((with_reducible refine gate_callee (f := 32) rfl ?_); refine gl_ 10 Try.func32 #[.slice A0 l0.length c0] rfl mp_ ?_; (with_reducible refine (spec_l8Draw.calls k _ _ l0 t870 t871 t872 t873 _ ?side1 ?side2 A2.out).mono ?_); (case side1 => exact cv_ (Kd.C_below HR0.out HB.out)); (case side2 => exact HC0.out); rintro e w4 ⟨rfl, hb⟩; refine ⟨_, rfl, ?_⟩; replace BK869 := kb_ BK869 hb; replace HB := Aside0.mk (below_step (bv1_ HB GE869) hb); (try clear hb); (try clear hb2); (try clear hk); (try clear hi)) | ((with_reducible refine gate_dst (N := 5) rfl ?_); refine bx_ 5 #[.int .i64 0, .int .i64 0] 25 ?_; intro gb874 hg w5 hbox hb; have BK874 := Aside0.mk (hbox); have GW874 := gw_ hg (below_size (bv1_ HB GE869)); have GE874 := GW874; replace HB := Aside0.mk (below_step (bv1_ HB GE869) hb); have NB869_874 := nb_ hg (blk_lt (g := gb869) (o := .cells #[.int .i64 0, .int .i64 0] 25 (0, 0)) (kv_ BK869)); have NB874_869 := nc_ hg (blk_lt (g := gb869) (o := .cells #[.int .i64 0, .int .i64 0] 25 (0, 0)) (kv_ BK869)); replace BK869 := kb_ BK869 hb; clear hb hbox hg; have hnb6 := NB874_869.out; have hnc6 := NB869_874.out; obtain ⟨hcz7_0, hcz7_1, hfz7_0, hfz7_1⟩ := c2_ BK874; obtain ⟨hcz8_0, hcz8_1, hfz8_0, hfz8_1⟩ := c2_ BK869))
 refine bodyPost_ret (results_ctt rfl _ _ gb869 25 #[.int .i64 t870, .int .i64 t871] (0, 0) _ rfl (by (with_reducible repeat (first | refine blk_drewN ?_ _ | refine blk_drew ?_ | refine blk_alloc ?_ _)); refine blk_put (cs := #[.int .i64 t870, .int .i64 0]) ?_ 1 _ rfl; (with_reducible repeat (first | refine blk_drewN ?_ _ | refine blk_drew ?_ | refine blk_alloc ?_ _)); refine blk_put (cs := #[.int .i64 0, .int .i64 0]) ?_ 0 _ rfl; (with_reducible repeat (first | refine blk_drewN ?_ _ | refine blk_drew ?_ | refine blk_alloc ?_ _)); refine blk_far ?_ NB869_874.out _; (with_reducible repeat (first | refine blk_drewN ?_ _ | refine blk_drew ?_ | refine blk_alloc ?_ _)); refine blk_far ?_ NB869_874.out _; (with_reducible repeat (first | refine blk_drewN ?_ _ | refine blk_drew ?_ | refine blk_alloc ?_ _)); exact BK869.out) Try.underlying25 rfl (by kernel_rfl)) rfl ?_
 exact ⟨by first | rfl | (simp [errW_none, errW_some] <;> rfl) | (simp [*, errW_none, errW_some] <;> rfl), bv2_ HB GE869 GE874⟩


/-! ### spec_DrawIsEvasive: function 16 -/
def spec_DrawIsEvasive.f (k : Nat) (l0 : List Int) : Option (Int × Int) := (spec_l1New.f k l0).bind fun bt876 => ((spec_l2Any.f k bt876.1 bt876.2.1 bt876.2.2).bind fun bt880 => (some (bt880.1, bt880.2.1)))
theorem spec_DrawIsEvasive.mono : ∀ a0 k, LeO (spec_DrawIsEvasive.f k a0) (spec_DrawIsEvasive.f (k + 1) a0) := by
 intro a0 k
 unfold spec_DrawIsEvasive.f
 repeat' first
   | (with_reducible exact spec_l1New.mono _ _)
   | (with_reducible exact spec_l2Any.mono _ _ _ _)
   | (with_reducible exact LeO.refl _)
   | (with_reducible exact LeO.none _)
   | (with_reducible refine LeO.ite ?_ ?_)
   | (with_reducible refine LeO.bind ?_ (fun _ => ?_))
   | exact spec_l1New.mono _ _
   | exact spec_l2Any.mono _ _ _ _
   | exact LeO.none _
   | refine LeO.ite ?_ ?_
   | refine LeO.bind ?_ (fun _ => ?_)
set_option maxHeartbeats 8000000 in
set_option maxRecDepth 100000 in
theorem spec_DrawIsEvasive.calls (k : Nat) (A0 : Option Addr) (c0 : Nat) (l0 : List Int) (r1 : Int) (r2 : Int) (w : World) (hr0 : Kd.C (Kd.int .u8) w A0 l0.length l0) (hc0 : l0.length ≤ c0) (h : spec_DrawIsEvasive.f k l0 = some (r1, r2)) :
  Calls Try.prog 16 #[.slice A0 l0.length c0] w fun e w' => e = .returned (.agg #[.int .i64 r1, .int .i64 r2]) ∧ Below w.heap.size w w' := by
 have hu25 := Try.underlying25
 have HR0 := Aside0.mk hr0
 have HC0 := Aside0.mk hc0
 clear hr0 hc0
 have HB := Aside0.mk (Below.refl w.heap.size w)
 have H : ((spec_l1New.f k l0).bind fun bt876 => ((spec_l2Any.f k bt876.1 bt876.2.1 bt876.2.2).bind fun bt880 => (some (bt880.1, bt880.2.1)))) = some (r1, r2) := h
 clear h
 replace H := Option.bind_eq_some_iff.mp H
 obtain ⟨⟨t876, t877, t878⟩, A20, H⟩ := H
 replace H : ((spec_l2Any.f k t876 t877 t878).bind fun bt880 => (some (bt880.1, bt880.2.1))) = some (r1, r2) := H
 have A2 := Aside0.mk A20
 clear A20
 replace H := Option.bind_eq_some_iff.mp H
 obtain ⟨⟨t880, t881, t882, t883⟩, A30, H⟩ := H
 replace H : (some (t880, t881)) = some (r1, r2) := H
 have A3 := Aside0.mk A30
 clear A30
 simp only [Option.some.injEq, Prod.mk.injEq] at H
 obtain ⟨rfl, rfl⟩ := H
 go_enter Try.func16, Try.ntmps16
 go_wp2_with (first | ((with_reducible refine gate_dst (N := 2) rfl ?_); refine bx_ 2 #[.int .i64 0, .int .i64 0] 25 ?_; intro gb875 hg w4 hbox hb; have BK875 := Aside0.mk (hbox); have GW875 := gw_ hg (below_size (bv_ HB)); have GE875 := GW875; replace HB := Aside0.mk (below_step (bv_ HB) hb); clear hb hbox hg) | ((with_reducible refine gate_callee (f := 38) rfl ?_); refine gl_ 4 Try.func38 #[.slice A0 l0.length c0] rfl mp_ ?_; (with_reducible refine (spec_l1New.calls k _ _ l0 t876 t877 t878 w _ ?side1 ?side2 ?side3 A2.out).mono ?_); (case side1 => repeat (first | (with_reducible first | exact HB.out | apply below_alloc | apply pw_below_drewN | apply below_drew1 | refine below_set ?_ GE875.out) | exact HB.out)); (case side2 => exact HR0.out); (case side3 => exact HC0.out); rintro e w5 ⟨g879, rfl, hi, hb, hb2⟩; refine ⟨_, rfl, ?_⟩; replace HB := Aside0.mk (hb); have HI879 := Aside0.mk (hi); have NB879_875 := Aside0.mk (IsS67.ne_blk hi (blk_below (g := gb875) (o := .cells #[.int .i64 0, .int .i64 0] 25 (0, 0)) (kv_ BK875) hb2) (by decide)); have NB875_879 := Aside0.mk (Ne.symm (IsS67.ne_blk hi (blk_below (g := gb875) (o := .cells #[.int .i64 0, .int .i64 0] 25 (0, 0)) (kv_ BK875) hb2) (by decide))); replace BK875 := kb_ BK875 hb2; (try clear hb); (try clear hb2); (try clear hk); (try clear hi)) | ((with_reducible refine gate_callee (f := 37) rfl ?_); refine gl_ 5 Try.func37 #[.pointer (some ⟨g879, 0, none⟩)] rfl mp_ ?_; (with_reducible refine (spec_l2Any.calls k g879 t876 t877 t878 t880 t881 t882 t883 w _ ?side1 ?side2 A3.out).mono ?_); (case side1 => repeat (first | (with_reducible first | exact HI879.out | apply IsS67.alloc | apply IsS67.drewN | apply IsS67.drew | apply IsS67.set_1 | apply IsS67.set_2 | refine IsS67.far ?_ NB879_875.out _) | exact HI879.out)); (case side2 => repeat (first | (with_reducible first | exact HB.out | apply below_alloc | apply pw_below_drewN | apply below_drew1 | refine below_set ?_ (IsS67.ge HI879.out) | refine below_set ?_ GE875.out) | exact HB.out)); rintro e w6 ⟨rfl, hi, hb, hk⟩; refine ⟨_, rfl, ?_⟩; replace BK875 := Aside0.mk (KeepBut.blk hk (g' := gb875) (o := .cells #[.int .i64 0, .int .i64 0] 25 (0, 0)) (kv_ BK875) NB875_879.out (by simp)); replace HB := Aside0.mk (hb); replace HI879 := Aside0.mk (hi); (try clear hb); (try clear hb2); (try clear hk); (try clear hi); have hnb7 := NB875_879.out; have hnc7 := NB879_875.out; obtain ⟨hcz8_0, hcz8_1, hfz8_0, hfz8_1⟩ := c2_ BK875))
 refine bodyPost_ret (results_cell_row rfl _ _ gb875 25 #[.int .i64 t880, .int .i64 t881] (0, 0) _ rfl (by (with_reducible repeat (first | refine blk_drewN ?_ _ | refine blk_drew ?_ | refine blk_alloc ?_ _)); refine blk_put (cs := #[.int .i64 t880, .int .i64 0]) ?_ 1 _ rfl; (with_reducible repeat (first | refine blk_drewN ?_ _ | refine blk_drew ?_ | refine blk_alloc ?_ _)); refine blk_put (cs := #[.int .i64 0, .int .i64 0]) ?_ 0 _ rfl; (with_reducible repeat (first | refine blk_drewN ?_ _ | refine blk_drew ?_ | refine blk_alloc ?_ _)); exact BK875.out) Try.underlying25 rfl (by kernel_rfl)) rfl ?_
 exact ⟨by first | rfl | (simp [errW_none, errW_some] <;> rfl) | (simp [*, errW_none, errW_some] <;> rfl), by repeat (first | (with_reducible first | exact HB.out | apply below_alloc | apply pw_below_drewN | apply below_drew1 | refine below_set ?_ (IsS67.ge HI879.out) | refine below_set ?_ GE875.out) | exact HB.out)⟩


end Go.Proofs.Ytflnlnkbepoimaa.P
