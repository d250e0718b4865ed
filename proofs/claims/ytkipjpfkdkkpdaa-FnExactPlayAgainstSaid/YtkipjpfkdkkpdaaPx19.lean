-- Out of the translation, by this session's program over the printer's; Lean checks it.
import Derived.Test.YtkipjpfkdkkpdaaPx0
import Derived.Test.YtkipjpfkdkkpdaaPx1
import Derived.Test.YtkipjpfkdkkpdaaPx7
import Derived.Test.YtkipjpfkdkkpdaaPx8
import Derived.Test.YtkipjpfkdkkpdaaPx13
import Derived.Test.YtkipjpfkdkkpdaaPx18
namespace Go.Proofs.Ytkipjpfkdkkpdaa.P
open Go.RowKit Go.Proofs.YtkipjpfkdkkpdaaW.PrintWords Go.Proofs.YtkipjpfkdkkpdaaW.PrintLast Go.Proofs.YtkipjpfkdkkpdaaW.PrintMore
attribute [local go_sem] max2_int min2_int max_two min_two max_three min_three max_four min_four   -- for this text's walks alone
set_option linter.unusedVariables false
set_option linter.unusedSimpArgs false

/-! ### impl_isOrder: function 45 -/
def impl_isOrder.l0 : Nat → List Int → Int → Int → Option (Bool)
  | 0, _, _, _ => none
  | k + 1, x0, x10, x11 => if x11 < x10 then ((slices_Contains_int_int.f k x0 x11).bind fun t651 => (if t651 = true then (impl_isOrder.l0 k x0 x10 (wrap64 (x11 + 1))) else (some false))) else (some true)
def impl_isOrder.f (k : Nat) (l0 : List Int) (a1 : Int) : Option (Bool) := if (l0.length : Int) = a1 then (impl_isOrder.l0 k l0 a1 0) else (some false)
theorem impl_isOrder.mono_l : ∀ k, (∀ y0 y1 y2, LeO (impl_isOrder.l0 k y0 y1 y2) (impl_isOrder.l0 (k + 1) y0 y1 y2))
  | 0 => fun _ _ _ r h => by simp [impl_isOrder.l0] at h
  | k + 1 => by
    have ih0 := impl_isOrder.mono_l k
    · intro y0 y1 y2
      unfold impl_isOrder.l0
      repeat' first
      | (with_reducible exact ih0 _ _ _)
      | (with_reducible exact slices_Contains_int_int.mono _ _ _)
      | (with_reducible exact LeO.refl _)
      | (with_reducible exact LeO.none _)
      | (with_reducible refine LeO.ite ?_ ?_)
      | (with_reducible refine LeO.bind ?_ (fun _ => ?_))
      | exact ih0 _ _ _
      | exact slices_Contains_int_int.mono _ _ _
      | exact LeO.none _
      | refine LeO.ite ?_ ?_
      | refine LeO.bind ?_ (fun _ => ?_)
theorem impl_isOrder.mono : ∀ a0 a1 k, LeO (impl_isOrder.f k a0 a1) (impl_isOrder.f (k + 1) a0 a1) := by
  intro a0 a1 k
  have ih0 := impl_isOrder.mono_l k
  unfold impl_isOrder.f
  repeat' first
      | (with_reducible exact ih0 _ _ _)
      | (with_reducible exact slices_Contains_int_int.mono _ _ _)
      | (with_reducible exact LeO.refl _)
      | (with_reducible exact LeO.none _)
      | (with_reducible refine LeO.ite ?_ ?_)
      | (with_reducible refine LeO.bind ?_ (fun _ => ?_))
      | exact ih0 _ _ _
      | exact slices_Contains_int_int.mono _ _ _
      | exact LeO.none _
      | refine LeO.ite ?_ ?_
      | refine LeO.bind ?_ (fun _ => ?_)
set_option maxHeartbeats 8000000 in
set_option maxRecDepth 100000 in
theorem impl_isOrder.calls (k : Nat) (A0 : Option Addr) (c0 : Nat) (l0 : List Int) (a1 : Int) (r : Bool) (w : World) (hr0 : Kd.C (Kd.int .i64) w A0 l0.length l0) (hc0 : l0.length ≤ c0) (h : impl_isOrder.f k l0 a1 = some r) :
    Calls Try.prog 45 #[.slice A0 l0.length c0, .int .i64 a1] w fun e w' => e = .returned (.bool r) ∧ Drawn0 w w' := by
  have HR0 := Aside0.mk hr0
  have HC0 := Aside0.mk hc0
  clear hr0 hc0
  have H : (if (l0.length : Int) = a1 then (impl_isOrder.l0 k l0 a1 0) else (some false)) = some r := h
  clear h
  by_cases c3 : (l0.length : Int) = a1
  · rw [if_pos c3] at H
    have c3b0 : ((l0.length : Int) == a1) = true := beq_iff_eq.mpr c3
    have c3b1 : ((l0.length : Int) != a1) = false := bne_eq_false_iff_eq.mpr c3
    clear c3
    have H' := Aside0.mk H
    clear H
    go_enter Try.func45, Try.ntmps45
    go_wp2
    go_loopg [11] k (fun kq v11 w' => ∃ (x11_1 : Int), v11 = .int .i64 x11_1 ∧ Aside0 (impl_isOrder.l0 kq l0 a1 x11_1 = some r) ∧ Aside0 (kq ≤ k) ∧ Drawn0 w w')
    case atStart => exact ⟨(0), (by first | rfl | (simp; done) | (simp [*]; done)), H', ⟨Nat.le_refl _⟩, by repeat (first | exact Drawn0.refl _ | apply Drawn0.step)⟩
    case round =>
      clear H'
      try clear p2
      try clear c3
      try clear c3b0
      try clear c3b1
      obtain ⟨x11_1, rfl, HA, HK1, ⟨m1, rfl⟩⟩ := hrel
      cases gk with
      | zero => exact absurd HA.out (by simp [impl_isOrder.l0])
      | succ k1 =>
        have H := HA.out
        clear HA
        simp only [impl_isOrder.l0] at H
        by_cases c4 : x11_1 < a1
        · rw [if_pos c4] at H
          have c4b0 : decide (x11_1 < a1) = true := decide_eq_true c4
          clear c4
          replace H := Option.bind_eq_some_iff.mp H
          obtain ⟨t651, A50, H⟩ := H
          replace H : (if t651 = true then (impl_isOrder.l0 k1 l0 a1 (wrap64 (x11_1 + 1))) else (some false)) = some r := H
          have A5 := Aside0.mk A50
          clear A50
          by_cases c6 : t651 = true
          · subst c6
            have H1 : (impl_isOrder.l0 k1 l0 a1 (wrap64 (x11_1 + 1))) = some r := by rw [if_pos rfl] at H; exact H
            clear H
            have H := H1
            clear H1
            have H' := Aside0.mk H
            clear H
            go_wp2_with (first | ((with_reducible refine gate_callee (f := 56) rfl ?_); refine goesL_ (some 16) rfl rfl Try.func56 (by kernel_rfl) rfl #[.slice A0 l0.length c0, .int .i64 x11_1] rfl (by (try simp only [List.map_toArray, List.map_cons, List.map_nil]); first | done | rfl | (simp only [List.length_drop, List.length_take]; rfl)) ?_; (with_reducible refine (slices_Contains_int_int.calls k1 _ _ l0 x11_1 true _ ?side1 ?side2 A5.out).mono ?_); (case side1 => repeat (first | exact HR0.out | (with_reducible refine Kd.C_alloc ?_ _) | (with_reducible refine Kd.C_drewN ?_ _) | (with_reducible refine Kd.C_drew ?_))); (case side2 => exact HC0.out); rintro e w' ⟨rfl, ⟨nd, rfl⟩⟩; refine ⟨_, rfl, ?_⟩))
            go_roundg k1
            case measure => have := HK1.out; omega
            case rel => exact ⟨(wrap64 (x11_1 + 1)), (by first | rfl | (simp; done) | (simp [*]; done)), H', ⟨by have := HK1.out; omega⟩, by repeat (first | exact Drawn0.refl _ | apply Drawn0.step)⟩
          · replace c6 := Bool.eq_false_iff.mpr c6
            subst c6
            have H1 : (some false) = some r := by rw [if_neg (show ¬ (false = true) by decide)] at H; exact H
            clear H
            have H := H1
            clear H1
            obtain rfl := Option.some.inj H
            go_wp2_with (first | ((with_reducible refine gate_callee (f := 56) rfl ?_); refine goesL_ (some 16) rfl rfl Try.func56 (by kernel_rfl) rfl #[.slice A0 l0.length c0, .int .i64 x11_1] rfl (by (try simp only [List.map_toArray, List.map_cons, List.map_nil]); first | done | rfl | (simp only [List.length_drop, List.length_take]; rfl)) ?_; (with_reducible refine (slices_Contains_int_int.calls k1 _ _ l0 x11_1 false _ ?side1 ?side2 A5.out).mono ?_); (case side1 => repeat (first | exact HR0.out | (with_reducible refine Kd.C_alloc ?_ _) | (with_reducible refine Kd.C_drewN ?_ _) | (with_reducible refine Kd.C_drew ?_))); (case side2 => exact HC0.out); rintro e w' ⟨rfl, ⟨nd, rfl⟩⟩; refine ⟨_, rfl, ?_⟩))
            go_ret
            exact ⟨by first | rfl | (simp; done) | (simp [*]; done), by repeat (first | exact Drawn0.refl _ | apply Drawn0.step)⟩
        · rw [if_neg c4] at H
          have c4b0 : decide (x11_1 < a1) = false := decide_eq_false c4
          clear c4
          obtain rfl := Option.some.inj H
          go_wp2
          go_ret
          exact ⟨by first | rfl | (simp; done) | (simp [*]; done), by repeat (first | exact Drawn0.refl _ | apply Drawn0.step)⟩
  · rw [if_neg c3] at H
    have c3b0 : ((l0.length : Int) == a1) = false := beq_eq_false_iff_ne.mpr c3
    have c3b1 : ((l0.length : Int) != a1) = true := bne_iff_ne.mpr c3
    obtain rfl := Option.some.inj H
    go_enter Try.func45, Try.ntmps45
    go_wp2
    go_ret
    exact ⟨by first | rfl | (simp; done) | (simp [*]; done), by repeat (first | exact Drawn0.refl _ | apply Drawn0.step)⟩

/-! ### impl_PlayAgainst: function 21 -/
/-- The game from a place in the order on: how many answers are given until the value is known. -/
def impl_PlayAgainst.l (n W : Int) : List Int → Nat → Int → Int → Option Int
  | [], j, _, _ => some (j : Int)
  | i :: rest, j, m, v => (impl_Table_cube.f n W m v).bind fun c => if c = 2 then (impl_asker_answer.f n W m v i).bind fun b => (impl_known_with.f m v i b).bind fun k => impl_PlayAgainst.l n W rest (j + 1) k.1 k.2 else some (j : Int)
def impl_PlayAgainst.f (k : Nat) (a0_0 : Int) (a0_1 : Int) (l1 : List Int) : Option (Int) :=
  (impl_isSmall.f a0_0 a0_1 4).bind fun s => if s = true then (impl_isOrder.f k l1 a0_0).bind fun o => if o = true then (if 0 ≤ a0_0 ∧ a0_0 ≤ 5 then impl_PlayAgainst.l a0_0 a0_1 l1 0 0 0 else none) else some (-1) else some (-1)
theorem impl_PlayAgainst.mono : ∀ a0 a1 a2 k, LeO (impl_PlayAgainst.f k a0 a1 a2) (impl_PlayAgainst.f (k + 1) a0 a1 a2) := by
  intro a0 a1 a2 k
  unfold impl_PlayAgainst.f
  refine LeO.bind (LeO.refl _) fun s => LeO.ite ?_ (LeO.refl _)
  exact LeO.bind (impl_isOrder.mono _ _ _) fun o => LeO.refl _
theorem impl_PlayAgainst.len {k : Nat} {l : List Int} {n : Int} (h : impl_isOrder.f k l n = some true) : (l.length : Int) = n := by
  unfold impl_isOrder.f at h
  split at h
  · assumption
  · simp at h
set_option maxHeartbeats 4000000 in
set_option maxRecDepth 100000 in
theorem impl_PlayAgainst.calls (k : Nat) (a0_0 : Int) (a0_1 : Int) (A1 : Option Addr) (c1 : Nat) (l1 : List Int) (r : Int) (w : World) (hr1 : Kd.C (Kd.int .i64) w A1 l1.length l1) (hc1 : l1.length ≤ c1) (h : impl_PlayAgainst.f k a0_0 a0_1 l1 = some r) :
    Calls Try.prog 21 #[.agg #[.int .i64 a0_0, .int .i64 a0_1], .slice A1 l1.length c1] w fun e w' => e = .returned (.int .i64 r) ∧ Below w.heap.size w w' := by
  have hu := Try.underlying25
  have huk := Try.underlying53
  have HR1 := Aside0.mk hr1
  have HC1 := Aside0.mk hc1
  clear hr1 hc1
  unfold impl_PlayAgainst.f at h
  obtain ⟨s, hs, h⟩ := Option.bind_eq_some_iff.mp h
  have AS := Aside0.mk hs
  cases s with
  | false =>
    have hr := Option.some.inj h
    subst hr
    clear h hs
    go_enter Try.func21, Try.ntmps21
    go_wp2_with (first | ((with_reducible refine gate_dst (N := 2) rfl ?_); refine box_event ?hg (N := 2) ?hd (cs := #[.int .i64 a0_0, .int .i64 a0_1]) (t := 25) ?hr ?_; (case hd => rfl); (case hg => rfl); (case hr => first | (go_simp; done) | (go_simp; rfl)); intro gb hg w1 hbox hb; have HB1 := Aside0.mk hb; have RK := Aside0.mk hbox; clear hg hbox hb; have k0 := (blk_cell RK.out 0).trans rfl; have k1 := (blk_cell RK.out 1).trans rfl) | (go_at_call 34; (with_reducible refine (impl_isSmall.calls a0_0 a0_1 4 _ _ AS.out).mono ?_); rintro e w2 ⟨rfl, hb2⟩; have HB2 := Aside0.mk (below_step HB1.out hb2); have RK2 := Aside0.mk (blk_below RK.out hb2); clear hb2; have k0 := (blk_cell RK2.out 0).trans rfl; have k1 := (blk_cell RK2.out 1).trans rfl))
    go_ret
    exact ⟨rfl, HB2.out⟩
  | true =>
    rw [if_pos rfl] at h
    obtain ⟨o, ho, h⟩ := Option.bind_eq_some_iff.mp h
    have AO := Aside0.mk ho
    cases o with
    | false =>
      have hr := Option.some.inj h
      subst hr
      clear h hs ho
      go_enter Try.func21, Try.ntmps21
      go_wp2_with (first | ((with_reducible refine gate_dst (N := 2) rfl ?_); refine box_event ?hg (N := 2) ?hd (cs := #[.int .i64 a0_0, .int .i64 a0_1]) (t := 25) ?hr ?_; (case hd => rfl); (case hg => rfl); (case hr => first | (go_simp; done) | (go_simp; rfl)); intro gb hg w1 hbox hb; have HB1 := Aside0.mk hb; have RK := Aside0.mk hbox; clear hg hbox hb; have k0 := (blk_cell RK.out 0).trans rfl; have k1 := (blk_cell RK.out 1).trans rfl) | (go_at_call 34; (with_reducible refine (impl_isSmall.calls a0_0 a0_1 4 _ _ AS.out).mono ?_); rintro e w2 ⟨rfl, hb2⟩; have HB2 := Aside0.mk (below_step HB1.out hb2); have RK2 := Aside0.mk (blk_below RK.out hb2); clear hb2; have k0 := (blk_cell RK2.out 0).trans rfl; have k1 := (blk_cell RK2.out 1).trans rfl) | (go_at_call 45; (with_reducible refine (impl_isOrder.calls k A1 c1 l1 a0_0 _ _ (Kd.C_below HR1.out HB2.out) HC1.out AO.out).mono ?_); rintro e w3 ⟨rfl, hd3⟩; have hb3 := hd3.below; clear hd3; have HB3 := Aside0.mk (below_step HB2.out hb3); have RK3 := Aside0.mk (blk_below RK2.out hb3); clear hb3; have k0 := (blk_cell RK3.out 0).trans rfl; have k1 := (blk_cell RK3.out 1).trans rfl))
      go_ret
      exact ⟨rfl, HB3.out⟩
    | true =>
      rw [if_pos rfl] at h
      by_cases hn : 0 ≤ a0_0 ∧ a0_0 ≤ 5
      case neg => rw [if_neg hn] at h; exact absurd h (by simp)
      rw [if_pos hn] at h
      have AF := Aside0.mk h
      have hlen := impl_PlayAgainst.len ho
      have HLEN : Aside0 (l1.length ≤ 5) := ⟨by omega⟩
      clear h hs ho hlen
      go_enter Try.func21, Try.ntmps21
      go_wp2_with (first | ((with_reducible refine gate_dst (N := 2) rfl ?_); refine box_event ?hg (N := 2) ?hd (cs := #[.int .i64 a0_0, .int .i64 a0_1]) (t := 25) ?hr ?_; (case hd => rfl); (case hg => rfl); (case hr => first | (go_simp; done) | (go_simp; rfl)); intro gb hg w1 hbox hb; have HB1 := Aside0.mk hb; have RK := Aside0.mk hbox; clear hg hbox hb; have k0 := (blk_cell RK.out 0).trans rfl; have k1 := (blk_cell RK.out 1).trans rfl) | (go_at_call 34; (with_reducible refine (impl_isSmall.calls a0_0 a0_1 4 _ _ AS.out).mono ?_); rintro e w2 ⟨rfl, hb2⟩; have HB2 := Aside0.mk (below_step HB1.out hb2); have RK2 := Aside0.mk (blk_below RK.out hb2); clear hb2; have k0 := (blk_cell RK2.out 0).trans rfl; have k1 := (blk_cell RK2.out 1).trans rfl) | (go_at_call 45; (with_reducible refine (impl_isOrder.calls k A1 c1 l1 a0_0 _ _ (Kd.C_below HR1.out HB2.out) HC1.out AO.out).mono ?_); rintro e w3 ⟨rfl, hd3⟩; have hb3 := hd3.below; clear hd3; have HB3 := Aside0.mk (below_step HB2.out hb3); have RK3 := Aside0.mk (blk_below RK2.out hb3); clear hb3; have k0 := (blk_cell RK3.out 0).trans rfl; have k1 := (blk_cell RK3.out 1).trans rfl) | (go_at_call 37; (with_reducible refine (impl_Table_asking.calls a0_0 a0_1 (impl_asker_left.R a0_0 a0_1) (fun _ _ _ => True) _).mono ?_); rintro e w4 ⟨g, BD, BS, rfl, hS, hg, hd, hs, hb4⟩; have HS := Aside0.mk hS; have HG := Aside0.mk (Nat.le_trans HB3.out.size hd); have HB4 := Aside0.mk (below_step HB3.out hb4); have RK4 := Aside0.mk (blk_below RK3.out hb4); clear hS hg hd hs hb4))
      have S5 := Aside0.mk (HS.out.kept (below_alloc (Below.refl w4.heap.size w4) (Obj.cells #[Value.int IntKind.i64 0, Value.int IntKind.i64 0] 53)))
      have RK5 := Aside0.mk (blk_alloc RK4.out (Obj.cells #[Value.int IntKind.i64 0, Value.int IntKind.i64 0] 53))
      have KK5 := Aside0.mk (blk_new w4 (Obj.cells #[Value.int IntKind.i64 0, Value.int IntKind.i64 0] 53))
      have HB5 := Aside0.mk (below_alloc HB4.out (Obj.cells #[Value.int IntKind.i64 0, Value.int IntKind.i64 0] 53))
      have HGK := Aside0.mk HB4.out.size
      clear HS RK4 HB4 HB3 RK3 HB2 RK2 HB1 RK k0 k1
      generalize w4.alloc (Obj.cells #[Value.int IntKind.i64 0, Value.int IntKind.i64 0] 53) = w5 at S5 RK5 KK5 HB5 ⊢
      generalize w4.heap.size = gk at KK5 HGK ⊢
      have hcost : impl_asker_left.cost 6 = 1111111 := by decide
      have ACC := Aside0.mk (fun m v i r k w => impl_asker_answer.calls a0_0 a0_1 (fun _ _ _ => True) g BD BS m v i r k w)
      rw [hcost] at ACC
      clear hcost
      go_loopw [24] (fun x24 wr => ∃ (j : Nat) (m v : Int), j ≤ l1.length ∧ x24 = .int .i64 (j : Int) ∧ Aside0 (impl_PlayAgainst.l a0_0 a0_1 (l1.drop j) j m v = some r) ∧ Aside0 (impl_Table_asking.S a0_0 a0_1 (impl_asker_left.R a0_0 a0_1) (fun _ _ _ => True) g BD BS (2222222 * j) wr) ∧ Aside0 (wr.heap[gb]? = some (.cells #[.int .i64 a0_0, .int .i64 a0_1] 25 (0, 0))) ∧ Aside0 (wr.heap[gk]? = some (.cells #[.int .i64 m, .int .i64 v] 53 (0, 0))) ∧ Aside0 (Below w.heap.size w wr)) (fun x24 _ => l1.length - (intOf x24).toNat)
      case atStart => exact ⟨0, 0, 0, Nat.zero_le _, rfl, AF, S5, RK5, KK5, HB5⟩
      case round =>
        obtain ⟨j, m, v, hj, rfl, AJ, SJ, RJ, KJ, BJ⟩ := hrel
        clear S5 RK5 KK5 HB5
        have k0 := (blk_cell RJ.out 0).trans rfl
        have k1 := (blk_cell RJ.out 1).trans rfl
        have q0 := (blk_cell KJ.out 0).trans rfl
        have q1 := (blk_cell KJ.out 1).trans rfl
        have hne : some gb ≠ some BD := by have := SJ.out.depth.ne RJ.out; simp [this]
        have hne2 : some gk ≠ some BD := by have := SJ.out.depth.ne KJ.out; simp [this]
        by_cases hlt : j < l1.length
        · obtain ⟨ad, e, hx⟩ := Kd.at_int HR1.out (j : Int) (Int.natCast_nonneg j) (Int.ofNat_lt.mpr hlt)
          cases e
          replace hx := (BJ.out.cell (World.block_lt_of_cell? w _ hx)).trans hx
          rw [Int.toNat_natCast] at hx
          obtain ⟨i, hi⟩ : ∃ i, rd l1 (j : Int) = i := ⟨_, rfl⟩
          rw [hi] at hx
          have hdrop : l1.drop j = i :: l1.drop (j + 1) := by
            rw [List.drop_eq_getElem_cons hlt, ← hi]
            unfold rd
            rw [Int.toNat_natCast, List.getD_eq_getElem?_getD, List.getElem?_eq_getElem hlt]
            rfl
          have HA := AJ.out
          rw [hdrop, impl_PlayAgainst.l] at HA
          obtain ⟨c, hc, HA⟩ := Option.bind_eq_some_iff.mp HA
          have AC := Aside0.mk hc
          have hjl : (j : Int) < (l1.length : Int) := Int.ofNat_lt.mpr hlt
          have hj5 : j < 5 := by have := HLEN.out; omega
          clear hc hdrop hi AJ
          by_cases hc : c = 2
          · subst hc
            rw [if_pos rfl] at HA
            obtain ⟨b, hb, HA⟩ := Option.bind_eq_some_iff.mp HA
            obtain ⟨⟨m2, v2⟩, hk, HA⟩ := Option.bind_eq_some_iff.mp HA
            have AB := Aside0.mk hb
            have AK := Aside0.mk hk
            have AN : Aside0 (impl_PlayAgainst.l a0_0 a0_1 (l1.drop (j + 1)) (j + 1) m2 v2 = some r) := ⟨HA⟩
            have HK6 : Aside0 (2222222 * j + 1111111 + 1111111 < 4294967296) := ⟨by have := HLEN.out; omega⟩
            clear hb hk HA
            go_wp2_with (first | (go_at_call 46; (with_reducible refine (impl_Table_cube.calls a0_0 a0_1 m v _ _ AC.out).mono ?_); rintro e w6 ⟨rfl, hb6⟩; have S6 := Aside0.mk (SJ.out.kept hb6); have R6 := Aside0.mk (blk_below RJ.out hb6); have K6 := Aside0.mk (blk_below KJ.out hb6); have B6 := Aside0.mk (below_step BJ.out hb6); clear hb6))
            have q0 := (blk_cell K6.out 0).trans rfl
            have q1 := (blk_cell K6.out 1).trans rfl
            have f0 := blk_frozen K6.out 0
            have f1 := blk_frozen K6.out 1
            go_region_with
              (first
                | (go_at_call 40; (with_reducible refine (ACC.out m v i b _ _ AB.out (S6.out.kept (below_drew1 (Below.refl w6.heap.size w6))) HK6.out).mono ?_); rintro e w7 ⟨rfl, hs7, hg7⟩; have S7 := Aside0.mk hs7; have R7 := Aside0.mk (blk_grown (blk_drew R6.out) hg7 hne); have K7 := Aside0.mk (blk_grown (blk_drew K6.out) hg7 hne2); have B7 := Aside0.mk (pw_below_grown (below_drew1 B6.out) _ B6.out.size hg7 (by intro k hk; cases hk; exact HG.out)); clear hs7 hg7; have q0 := (blk_cell K7.out 0).trans rfl; have q1 := (blk_cell K7.out 1).trans rfl; have f0 := blk_frozen K7.out 0; have f1 := blk_frozen K7.out 1)
                | (go_at_call 47; (with_reducible refine (impl_known_with.calls m v i b _ _ _ AK.out).mono ?_); rintro e w8 ⟨rfl, hb8⟩; have S8 := Aside0.mk (S7.out.kept hb8); have R8 := Aside0.mk (blk_below R7.out hb8); have K8 := Aside0.mk (blk_below K7.out hb8); have B8 := Aside0.mk (below_step B7.out hb8); clear hb8; have q0 := (blk_cell K8.out 0).trans rfl; have q1 := (blk_cell K8.out 1).trans rfl; have f0 := blk_frozen K8.out 0; have f1 := blk_frozen K8.out 1))
            all_goals go_wp2_with fail
            all_goals go_roundw
            all_goals first
              | (case rel => exact ⟨j + 1, m2, v2, by omega, by go_num, AN, ⟨by
                  have n1 : gk ≠ g := blk_ne K8.out S8.out.blk (by decide)
                  have n2 := S8.out.depth.ne K8.out
                  have n3 := S8.out.sum.ne K8.out
                  have h := (S8.out.far (p := ⟨gk, 0, none⟩) (Ne.symm n1) (Ne.symm n2) (Ne.symm n3) (.int .i64 m2)).far (p := ⟨gk, 1, none⟩) (Ne.symm n1) (Ne.symm n2) (Ne.symm n3) (.int .i64 v2)
                  exact (show 2222222 * j + 1111111 + 1111111 = 2222222 * (j + 1) by omega) ▸ h⟩, ⟨blk_far (blk_far R8.out (blk_ne R8.out K8.out (by decide)) _) (blk_ne R8.out K8.out (by decide)) _⟩, ⟨blk_put (cs := #[.int .i64 m2, .int .i64 v]) (blk_put (cs := #[.int .i64 m, .int .i64 v]) K8.out 0 _ rfl) 1 _ rfl⟩, ⟨below_set (below_set B8.out HGK.out) HGK.out⟩⟩)
              | (case measure => simp [intOf]; omega)
          · rw [if_neg hc] at HA
            have hr := Option.some.inj HA
            subst hr
            have hcb : (c != 2) = true := by simpa using hc
            clear HA hc
            go_wp2_with (first | (go_at_call 46; (with_reducible refine (impl_Table_cube.calls a0_0 a0_1 m v _ _ AC.out).mono ?_); rintro e w6 ⟨rfl, hb6⟩; have B6 := Aside0.mk (below_step BJ.out hb6); clear hb6))
            go_ret
            exact ⟨rfl, B6.out⟩
        · obtain rfl : j = l1.length := by omega
          have HA := AJ.out
          rw [List.drop_length, impl_PlayAgainst.l] at HA
          have hr := Option.some.inj HA
          subst hr
          clear HA AJ
          go_wp2_with fail
          go_ret
          exact ⟨rfl, BJ.out⟩

end Go.Proofs.Ytkipjpfkdkkpdaa.P
