-- Out of the translation, by this session's program over the printer's; Lean checks it.
import Derived.Test.YtflnlnkbepoimaaSh
import Derived.Test.YtflnlnkbepoimaaQ0
import Derived.Test.YtflnlnkbepoimaaQ4
namespace Go.Proofs.Ytflnlnkbepoimaa.P
open Go.RowKit Go.Proofs.YtflnlnkbepoimaaW.PrintWords Go.Proofs.YtflnlnkbepoimaaW.PrintLast Go.Proofs.YtflnlnkbepoimaaW.PrintMore
attribute [local go_sem] max2_int min2_int max_two min_two max_three min_three max_four min_four
set_option linter.unusedVariables false
set_option linter.unusedSimpArgs false

/-! ### impl_asker_answer: function 27 -/
def impl_asker_answer.f (n W m v i : Int) : Option Int :=
  (impl_known_with.f m v i 1).bind fun k1 => (impl_asker_left.f n W 6 k1.1 k1.2).bind fun y => (impl_known_with.f m v i 0).bind fun k0 => (impl_asker_left.f n W 6 k0.1 k0.2).bind fun x => some (if x < y then 1 else 0)
set_option maxHeartbeats 4000000 in
set_option maxRecDepth 100000 in
theorem impl_asker_answer.calls (n W : Int) (RS : Int → Int → Int → Prop) (g BD BS : Nat) (m v i r : Int) (k : Nat) (w : World) (h : impl_asker_answer.f n W m v i = some r)
    (hS : impl_Table_asking.S n W (impl_asker_left.R n W) RS g BD BS k w) (hk : k + impl_asker_left.cost 6 + impl_asker_left.cost 6 < 4294967296) :
    Calls Try.prog 27 #[.pointer (some ⟨g, 0, none⟩), .agg #[.int .i64 m, .int .i64 v], .int .i64 i] w fun e w' => e = .returned (.int .i64 r) ∧ impl_Table_asking.S n W (impl_asker_left.R n W) RS g BD BS (k + impl_asker_left.cost 6 + impl_asker_left.cost 6) w' ∧ w.grownBy w' (some BD) := by
  have hu := Try.underlying44
  unfold impl_asker_answer.f at h
  obtain ⟨⟨m1, v1⟩, e1, h⟩ := Option.bind_eq_some_iff.mp h
  obtain ⟨y, ey, h⟩ := Option.bind_eq_some_iff.mp h
  obtain ⟨⟨m0, v0⟩, e0, h⟩ := Option.bind_eq_some_iff.mp h
  obtain ⟨x, ex, h⟩ := Option.bind_eq_some_iff.mp h
  have A0 := Aside0.mk e0
  have A1 := Aside0.mk e1
  have hn := impl_asker_left.range ey
  have AX : Aside0 (impl_asker_left.f n W 6 m0 v0 = some x) := ⟨ex⟩
  have AY : Aside0 (impl_asker_left.f n W 6 m1 v1 = some y) := ⟨ey⟩
  have AR := Aside0.mk (Option.some.inj h)
  have HS := Aside0.mk hS
  have hkk : k + impl_asker_left.cost 6 < 4294967296 := by omega
  have IH := Aside0.mk (fun m v r k w => impl_asker_left.calls n W hn RS g BD BS 6 m v r k w)
  generalize impl_asker_left.cost 6 = K at hk hkk IH ⊢
  clear h e0 e1 ex ey hS
  have HK := Aside0.mk hk
  clear hk
  by_cases hxy : x < y
  · have hr := AR.out
    rw [if_pos hxy] at hr
    subst hr
    have hd : decide (x < y) = true := decide_eq_true hxy
    clear AR hxy
    go_enter Try.func27, Try.ntmps27
    go_wp2_with ((with_reducible refine gate_dst (N := 4) rfl ?_); refine box_event ?hg (N := 4) ?hd (cs := #[.int .i64 m, .int .i64 v]) (t := 44) ?hr ?_; (case hd => rfl); (case hg => rfl); (case hr => first | (go_simp; done) | (go_simp; rfl)); intro gb hg w1 hbox hb; have S1 := Aside0.mk (HS.out.kept hb); have RK := Aside0.mk hbox; have G1 := Aside0.mk (grown_of_below hb (some BD)); clear hg hbox hb; have k0 := (blk_cell RK.out 0).trans rfl; have k1 := (blk_cell RK.out 1).trans rfl)
    have hne : some gb ≠ some BD := by have := S1.out.depth.ne RK.out; simp [this]
    go_region_held3 (fun w' => w'.cell? ⟨gb, 0, none⟩ = some (.int .i64 m) ∧ w'.cell? ⟨gb, 1, none⟩ = some (.int .i64 v))
      (first | go_keep | exact ⟨(blk_cell Rd.out 0).trans rfl, (blk_cell Rd.out 1).trans rfl⟩ | exact ⟨(blk_cell Rc.out 0).trans rfl, (blk_cell Rc.out 1).trans rfl⟩ | exact ⟨(blk_cell Rb.out 0).trans rfl, (blk_cell Rb.out 1).trans rfl⟩ | exact ⟨(blk_cell Ra.out 0).trans rfl, (blk_cell Ra.out 1).trans rfl⟩)
      (first
        | (go_at_call 26; (with_reducible refine (impl_known_with.calls m v _ 1 _ _ _ A1.out).mono ?_); rintro e wa ⟨rfl, hba⟩; have Sa := Aside0.mk (S1.out.kept (below_step (below_drew1 (Below.refl w1.heap.size w1)) hba)); have Ra := Aside0.mk (blk_below (blk_drew RK.out) hba); have Ga := Aside0.mk (G1.out.trans (grown_of_below (below_step (below_drew1 (Below.refl w1.heap.size w1)) hba) (some BD))))
        | (go_at_call 31; (with_reducible refine (IH.out m1 v1 y _ _ AY.out (impl_asker_left.with_wf A1.out).1 (impl_asker_left.with_wf A1.out).2 Sa.out hkk).mono ?_); rintro e wb ⟨rfl, hsb, hgb⟩; have Sb := Aside0.mk hsb; have Rb := Aside0.mk (blk_grown Ra.out hgb hne); have Gb := Aside0.mk (Ga.out.trans hgb); clear hsb hgb)
        | (go_at_call 26; (with_reducible refine (impl_known_with.calls m v _ 0 _ _ _ A0.out).mono ?_); rintro e wc ⟨rfl, hbc⟩; have Sc := Aside0.mk (Sb.out.kept hbc); have Rc := Aside0.mk (blk_below Rb.out hbc); have Gc := Aside0.mk (Gb.out.trans (grown_of_below hbc (some BD))))
        | (go_at_call 31; (with_reducible refine (IH.out m0 v0 x _ _ AX.out (impl_asker_left.with_wf A0.out).1 (impl_asker_left.with_wf A0.out).2 Sc.out HK.out).mono ?_); rintro e wd ⟨rfl, hsd, hgd⟩; have Sd := Aside0.mk hsd; have Rd := Aside0.mk (blk_grown Rc.out hgd hne); have Gd := Aside0.mk (Gc.out.trans hgd); clear hsd hgd))
    go_wp2_with fail
    go_ret
    exact ⟨rfl, Sd.out, Gd.out⟩
  · have hr := AR.out
    rw [if_neg hxy] at hr
    subst hr
    have hd : decide (x < y) = false := decide_eq_false hxy
    clear AR hxy
    go_enter Try.func27, Try.ntmps27
    go_wp2_with ((with_reducible refine gate_dst (N := 4) rfl ?_); refine box_event ?hg (N := 4) ?hd (cs := #[.int .i64 m, .int .i64 v]) (t := 44) ?hr ?_; (case hd => rfl); (case hg => rfl); (case hr => first | (go_simp; done) | (go_simp; rfl)); intro gb hg w1 hbox hb; have S1 := Aside0.mk (HS.out.kept hb); have RK := Aside0.mk hbox; have G1 := Aside0.mk (grown_of_below hb (some BD)); clear hg hbox hb; have k0 := (blk_cell RK.out 0).trans rfl; have k1 := (blk_cell RK.out 1).trans rfl)
    have hne : some gb ≠ some BD := by have := S1.out.depth.ne RK.out; simp [this]
    go_region_held3 (fun w' => w'.cell? ⟨gb, 0, none⟩ = some (.int .i64 m) ∧ w'.cell? ⟨gb, 1, none⟩ = some (.int .i64 v))
      (first | go_keep | exact ⟨(blk_cell Rd.out 0).trans rfl, (blk_cell Rd.out 1).trans rfl⟩ | exact ⟨(blk_cell Rc.out 0).trans rfl, (blk_cell Rc.out 1).trans rfl⟩ | exact ⟨(blk_cell Rb.out 0).trans rfl, (blk_cell Rb.out 1).trans rfl⟩ | exact ⟨(blk_cell Ra.out 0).trans rfl, (blk_cell Ra.out 1).trans rfl⟩)
      (first
        | (go_at_call 26; (with_reducible refine (impl_known_with.calls m v _ 1 _ _ _ A1.out).mono ?_); rintro e wa ⟨rfl, hba⟩; have Sa := Aside0.mk (S1.out.kept (below_step (below_drew1 (Below.refl w1.heap.size w1)) hba)); have Ra := Aside0.mk (blk_below (blk_drew RK.out) hba); have Ga := Aside0.mk (G1.out.trans (grown_of_below (below_step (below_drew1 (Below.refl w1.heap.size w1)) hba) (some BD))))
        | (go_at_call 31; (with_reducible refine (IH.out m1 v1 y _ _ AY.out (impl_asker_left.with_wf A1.out).1 (impl_asker_left.with_wf A1.out).2 Sa.out hkk).mono ?_); rintro e wb ⟨rfl, hsb, hgb⟩; have Sb := Aside0.mk hsb; have Rb := Aside0.mk (blk_grown Ra.out hgb hne); have Gb := Aside0.mk (Ga.out.trans hgb); clear hsb hgb)
        | (go_at_call 26; (with_reducible refine (impl_known_with.calls m v _ 0 _ _ _ A0.out).mono ?_); rintro e wc ⟨rfl, hbc⟩; have Sc := Aside0.mk (Sb.out.kept hbc); have Rc := Aside0.mk (blk_below Rb.out hbc); have Gc := Aside0.mk (Gb.out.trans (grown_of_below hbc (some BD))))
        | (go_at_call 31; (with_reducible refine (IH.out m0 v0 x _ _ AX.out (impl_asker_left.with_wf A0.out).1 (impl_asker_left.with_wf A0.out).2 Sc.out HK.out).mono ?_); rintro e wd ⟨rfl, hsd, hgd⟩; have Sd := Aside0.mk hsd; have Rd := Aside0.mk (blk_grown Rc.out hgd hne); have Gd := Aside0.mk (Gc.out.trans hgd); clear hsd hgd))
    go_wp2_with fail
    go_ret
    exact ⟨rfl, Sd.out, Gd.out⟩


/-! ### impl_PlayAgainst: function 6 -/
/-- The game from a place in the order on: how many answers are given until the value is known. -/
def impl_PlayAgainst.l (n W : Int) : List Int → Nat → Int → Int → Option Int
  | [], j, _, _ => some (j : Int)
  | i :: rest, j, m, v => (impl_Table_cube.f n W m v).bind fun c => if c = 2 then (impl_asker_answer.f n W m v i).bind fun b => (impl_known_with.f m v i b).bind fun k => impl_PlayAgainst.l n W rest (j + 1) k.1 k.2 else some (j : Int)
def impl_PlayAgainst.f (k : Nat) (a0_0 : Int) (a0_1 : Int) (l1 : List Int) : Option (Int) :=
  (impl_isSmall.f a0_0 a0_1 4).bind fun s => if s = true then (impl_isOrder.f k l1 a0_0).bind fun o => if o = true then (if 0 ≤ a0_0 ∧ a0_0 ≤ 5 then impl_PlayAgainst.l a0_0 a0_1 l1 0 0 0 else none) else some (-1) else some (-1)
theorem impl_PlayAgainst.mono : ∀ a0 a1 a2 k, LeO (impl_PlayAgainst.f k a0 a1 a2) (impl_PlayAgainst.f (k + 1) a0 a1 a2) := by
  intro a0 a1 a2 k
  unfold impl_PlayAgainst.f
  refine LeO.bind (LeO.refl _) fun s => LeO.ite ?_ (LeO.refl _)
  exact LeO.bind (impl_isOrder.mono _ _ _) fun o => LeO.refl _
theorem impl_PlayAgainst.len {k : Nat} {l : List Int} {n : Int} (h : impl_isOrder.f k l n = some true) : (l.length : Int) = n := by
  unfold impl_isOrder.f at h
  split at h
  · assumption
  · simp at h
set_option maxHeartbeats 4000000 in
set_option maxRecDepth 100000 in
theorem impl_PlayAgainst.calls (k : Nat) (a0_0 : Int) (a0_1 : Int) (A1 : Option Addr) (c1 : Nat) (l1 : List Int) (r : Int) (w : World) (hr1 : Kd.C (Kd.int .i64) w A1 l1.length l1) (hc1 : l1.length ≤ c1) (h : impl_PlayAgainst.f k a0_0 a0_1 l1 = some r) :
    Calls Try.prog 6 #[.agg #[.int .i64 a0_0, .int .i64 a0_1], .slice A1 l1.length c1] w fun e w' => e = .returned (.int .i64 r) ∧ Below w.heap.size w w' := by
  have hu := Try.underlying25
  have huk := Try.underlying44
  have HR1 := Aside0.mk hr1
  have HC1 := Aside0.mk hc1
  clear hr1 hc1
  unfold impl_PlayAgainst.f at h
  obtain ⟨s, hs, h⟩ := Option.bind_eq_some_iff.mp h
  have AS := Aside0.mk hs
  cases s with
  | false =>
    have hr := Option.some.inj h
    subst hr
    clear h hs
    go_enter Try.func6, Try.ntmps6
    go_wp2_with (first | ((with_reducible refine gate_dst (N := 2) rfl ?_); refine box_event ?hg (N := 2) ?hd (cs := #[.int .i64 a0_0, .int .i64 a0_1]) (t := 25) ?hr ?_; (case hd => rfl); (case hg => rfl); (case hr => first | (go_simp; done) | (go_simp; rfl)); intro gb hg w1 hbox hb; have HB1 := Aside0.mk hb; have RK := Aside0.mk hbox; clear hg hbox hb; have k0 := (blk_cell RK.out 0).trans rfl; have k1 := (blk_cell RK.out 1).trans rfl) | (go_at_call 22; (with_reducible refine (impl_isSmall.calls a0_0 a0_1 4 _ _ AS.out).mono ?_); rintro e w2 ⟨rfl, hb2⟩; have HB2 := Aside0.mk (below_step HB1.out hb2); have RK2 := Aside0.mk (blk_below RK.out hb2); clear hb2; have k0 := (blk_cell RK2.out 0).trans rfl; have k1 := (blk_cell RK2.out 1).trans rfl))
    go_ret
    exact ⟨rfl, HB2.out⟩
  | true =>
    rw [if_pos rfl] at h
    obtain ⟨o, ho, h⟩ := Option.bind_eq_some_iff.mp h
    have AO := Aside0.mk ho
    cases o with
    | false =>
      have hr := Option.some.inj h
      subst hr
      clear h hs ho
      go_enter Try.func6, Try.ntmps6
      go_wp2_with (first | ((with_reducible refine gate_dst (N := 2) rfl ?_); refine box_event ?hg (N := 2) ?hd (cs := #[.int .i64 a0_0, .int .i64 a0_1]) (t := 25) ?hr ?_; (case hd => rfl); (case hg => rfl); (case hr => first | (go_simp; done) | (go_simp; rfl)); intro gb hg w1 hbox hb; have HB1 := Aside0.mk hb; have RK := Aside0.mk hbox; clear hg hbox hb; have k0 := (blk_cell RK.out 0).trans rfl; have k1 := (blk_cell RK.out 1).trans rfl) | (go_at_call 22; (with_reducible refine (impl_isSmall.calls a0_0 a0_1 4 _ _ AS.out).mono ?_); rintro e w2 ⟨rfl, hb2⟩; have HB2 := Aside0.mk (below_step HB1.out hb2); have RK2 := Aside0.mk (blk_below RK.out hb2); clear hb2; have k0 := (blk_cell RK2.out 0).trans rfl; have k1 := (blk_cell RK2.out 1).trans rfl) | (go_at_call 23; (with_reducible refine (impl_isOrder.calls k A1 c1 l1 a0_0 _ _ (Kd.C_below HR1.out HB2.out) HC1.out AO.out).mono ?_); rintro e w3 ⟨rfl, hd3⟩; have hb3 := hd3.below; clear hd3; have HB3 := Aside0.mk (below_step HB2.out hb3); have RK3 := Aside0.mk (blk_below RK2.out hb3); clear hb3; have k0 := (blk_cell RK3.out 0).trans rfl; have k1 := (blk_cell RK3.out 1).trans rfl))
      go_ret
      exact ⟨rfl, HB3.out⟩
    | true =>
      rw [if_pos rfl] at h
      by_cases hn : 0 ≤ a0_0 ∧ a0_0 ≤ 5
      case neg => rw [if_neg hn] at h; exact absurd h (by simp)
      rw [if_pos hn] at h
      have AF := Aside0.mk h
      have hlen := impl_PlayAgainst.len ho
      have HLEN : Aside0 (l1.length ≤ 5) := ⟨by omega⟩
      clear h hs ho hlen
      go_enter Try.func6, Try.ntmps6
      go_wp2_with (first | ((with_reducible refine gate_dst (N := 2) rfl ?_); refine box_event ?hg (N := 2) ?hd (cs := #[.int .i64 a0_0, .int .i64 a0_1]) (t := 25) ?hr ?_; (case hd => rfl); (case hg => rfl); (case hr => first | (go_simp; done) | (go_simp; rfl)); intro gb hg w1 hbox hb; have HB1 := Aside0.mk hb; have RK := Aside0.mk hbox; clear hg hbox hb; have k0 := (blk_cell RK.out 0).trans rfl; have k1 := (blk_cell RK.out 1).trans rfl) | (go_at_call 22; (with_reducible refine (impl_isSmall.calls a0_0 a0_1 4 _ _ AS.out).mono ?_); rintro e w2 ⟨rfl, hb2⟩; have HB2 := Aside0.mk (below_step HB1.out hb2); have RK2 := Aside0.mk (blk_below RK.out hb2); clear hb2; have k0 := (blk_cell RK2.out 0).trans rfl; have k1 := (blk_cell RK2.out 1).trans rfl) | (go_at_call 23; (with_reducible refine (impl_isOrder.calls k A1 c1 l1 a0_0 _ _ (Kd.C_below HR1.out HB2.out) HC1.out AO.out).mono ?_); rintro e w3 ⟨rfl, hd3⟩; have hb3 := hd3.below; clear hd3; have HB3 := Aside0.mk (below_step HB2.out hb3); have RK3 := Aside0.mk (blk_below RK2.out hb3); clear hb3; have k0 := (blk_cell RK3.out 0).trans rfl; have k1 := (blk_cell RK3.out 1).trans rfl) | (go_at_call 24; (with_reducible refine (impl_Table_asking.calls a0_0 a0_1 (impl_asker_left.R a0_0 a0_1) (fun _ _ _ => True) _).mono ?_); rintro e w4 ⟨g, BD, BS, rfl, hS, hg, hd, hs, hb4⟩; have HS := Aside0.mk hS; have HG := Aside0.mk (Nat.le_trans HB3.out.size hd); have HB4 := Aside0.mk (below_step HB3.out hb4); have RK4 := Aside0.mk (blk_below RK3.out hb4); clear hS hg hd hs hb4))
      have S5 := Aside0.mk (HS.out.kept (below_alloc (Below.refl w4.heap.size w4) (Obj.cells #[Value.int IntKind.i64 0, Value.int IntKind.i64 0] 44)))
      have RK5 := Aside0.mk (blk_alloc RK4.out (Obj.cells #[Value.int IntKind.i64 0, Value.int IntKind.i64 0] 44))
      have KK5 := Aside0.mk (blk_new w4 (Obj.cells #[Value.int IntKind.i64 0, Value.int IntKind.i64 0] 44))
      have HB5 := Aside0.mk (below_alloc HB4.out (Obj.cells #[Value.int IntKind.i64 0, Value.int IntKind.i64 0] 44))
      have HGK := Aside0.mk HB4.out.size
      clear HS RK4 HB4 HB3 RK3 HB2 RK2 HB1 RK k0 k1
      generalize w4.alloc (Obj.cells #[Value.int IntKind.i64 0, Value.int IntKind.i64 0] 44) = w5 at S5 RK5 KK5 HB5 ⊢
      generalize w4.heap.size = gk at KK5 HGK ⊢
      have hcost : impl_asker_left.cost 6 = 1111111 := by decide
      have ACC := Aside0.mk (fun m v i r k w => impl_asker_answer.calls a0_0 a0_1 (fun _ _ _ => True) g BD BS m v i r k w)
      rw [hcost] at ACC
      clear hcost
      go_loopw [24] (fun x24 wr => ∃ (j : Nat) (m v : Int), j ≤ l1.length ∧ x24 = .int .i64 (j : Int) ∧ Aside0 (impl_PlayAgainst.l a0_0 a0_1 (l1.drop j) j m v = some r) ∧ Aside0 (impl_Table_asking.S a0_0 a0_1 (impl_asker_left.R a0_0 a0_1) (fun _ _ _ => True) g BD BS (2222222 * j) wr) ∧ Aside0 (wr.heap[gb]? = some (.cells #[.int .i64 a0_0, .int .i64 a0_1] 25 (0, 0))) ∧ Aside0 (wr.heap[gk]? = some (.cells #[.int .i64 m, .int .i64 v] 44 (0, 0))) ∧ Aside0 (Below w.heap.size w wr)) (fun x24 _ => l1.length - (intOf x24).toNat)
      case atStart => exact ⟨0, 0, 0, Nat.zero_le _, rfl, AF, S5, RK5, KK5, HB5⟩
      case round =>
        obtain ⟨j, m, v, hj, rfl, AJ, SJ, RJ, KJ, BJ⟩ := hrel
        clear S5 RK5 KK5 HB5
        have k0 := (blk_cell RJ.out 0).trans rfl
        have k1 := (blk_cell RJ.out 1).trans rfl
        have q0 := (blk_cell KJ.out 0).trans rfl
        have q1 := (blk_cell KJ.out 1).trans rfl
        have hne : some gb ≠ some BD := by have := SJ.out.depth.ne RJ.out; simp [this]
        have hne2 : some gk ≠ some BD := by have := SJ.out.depth.ne KJ.out; simp [this]
        by_cases hlt : j < l1.length
        · obtain ⟨ad, e, hx⟩ := Kd.at_int HR1.out (j : Int) (Int.natCast_nonneg j) (Int.ofNat_lt.mpr hlt)
          cases e
          replace hx := (BJ.out.cell (World.block_lt_of_cell? w _ hx)).trans hx
          rw [Int.toNat_natCast] at hx
          obtain ⟨i, hi⟩ : ∃ i, rd l1 (j : Int) = i := ⟨_, rfl⟩
          rw [hi] at hx
          have hdrop : l1.drop j = i :: l1.drop (j + 1) := by
            rw [List.drop_eq_getElem_cons hlt, ← hi]
            unfold rd
            rw [Int.toNat_natCast, List.getD_eq_getElem?_getD, List.getElem?_eq_getElem hlt]
            rfl
          have HA := AJ.out
          rw [hdrop, impl_PlayAgainst.l] at HA
          obtain ⟨c, hc, HA⟩ := Option.bind_eq_some_iff.mp HA
          have AC := Aside0.mk hc
          have hjl : (j : Int) < (l1.length : Int) := Int.ofNat_lt.mpr hlt
          have hj5 : j < 5 := by have := HLEN.out; omega
          clear hc hdrop hi AJ
          by_cases hc : c = 2
          · subst hc
            rw [if_pos rfl] at HA
            obtain ⟨b, hb, HA⟩ := Option.bind_eq_some_iff.mp HA
            obtain ⟨⟨m2, v2⟩, hk, HA⟩ := Option.bind_eq_some_iff.mp HA
            have AB := Aside0.mk hb
            have AK := Aside0.mk hk
            have AN : Aside0 (impl_PlayAgainst.l a0_0 a0_1 (l1.drop (j + 1)) (j + 1) m2 v2 = some r) := ⟨HA⟩
            have HK6 : Aside0 (2222222 * j + 1111111 + 1111111 < 4294967296) := ⟨by have := HLEN.out; omega⟩
            clear hb hk HA
            go_wp2_with (first | (go_at_call 25; (with_reducible refine (impl_Table_cube.calls a0_0 a0_1 m v _ _ AC.out).mono ?_); rintro e w6 ⟨rfl, hb6⟩; have S6 := Aside0.mk (SJ.out.kept hb6); have R6 := Aside0.mk (blk_below RJ.out hb6); have K6 := Aside0.mk (blk_below KJ.out hb6); have B6 := Aside0.mk (below_step BJ.out hb6); clear hb6))
            have q0 := (blk_cell K6.out 0).trans rfl
            have q1 := (blk_cell K6.out 1).trans rfl
            have f0 := blk_frozen K6.out 0
            have f1 := blk_frozen K6.out 1
            go_region_with
              (first
                | (go_at_call 27; (with_reducible refine (ACC.out m v i b _ _ AB.out (S6.out.kept (below_drew1 (Below.refl w6.heap.size w6))) HK6.out).mono ?_); rintro e w7 ⟨rfl, hs7, hg7⟩; have S7 := Aside0.mk hs7; have R7 := Aside0.mk (blk_grown (blk_drew R6.out) hg7 hne); have K7 := Aside0.mk (blk_grown (blk_drew K6.out) hg7 hne2); have B7 := Aside0.mk (pw_below_grown (below_drew1 B6.out) _ B6.out.size hg7 (by intro k hk; cases hk; exact HG.out)); clear hs7 hg7; have q0 := (blk_cell K7.out 0).trans rfl; have q1 := (blk_cell K7.out 1).trans rfl; have f0 := blk_frozen K7.out 0; have f1 := blk_frozen K7.out 1)
                | (go_at_call 26; (with_reducible refine (impl_known_with.calls m v i b _ _ _ AK.out).mono ?_); rintro e w8 ⟨rfl, hb8⟩; have S8 := Aside0.mk (S7.out.kept hb8); have R8 := Aside0.mk (blk_below R7.out hb8); have K8 := Aside0.mk (blk_below K7.out hb8); have B8 := Aside0.mk (below_step B7.out hb8); clear hb8; have q0 := (blk_cell K8.out 0).trans rfl; have q1 := (blk_cell K8.out 1).trans rfl; have f0 := blk_frozen K8.out 0; have f1 := blk_frozen K8.out 1))
            all_goals go_wp2_with fail
            all_goals go_roundw
            all_goals first
              | (case rel => exact ⟨j + 1, m2, v2, by omega, by go_num, AN, ⟨by
                  have n1 : gk ≠ g := blk_ne K8.out S8.out.blk (by decide)
                  have n2 := S8.out.depth.ne K8.out
                  have n3 := S8.out.sum.ne K8.out
                  have h := (S8.out.far (p := ⟨gk, 0, none⟩) (Ne.symm n1) (Ne.symm n2) (Ne.symm n3) (.int .i64 m2)).far (p := ⟨gk, 1, none⟩) (Ne.symm n1) (Ne.symm n2) (Ne.symm n3) (.int .i64 v2)
                  exact (show 2222222 * j + 1111111 + 1111111 = 2222222 * (j + 1) by omega) ▸ h⟩, ⟨blk_far (blk_far R8.out (blk_ne R8.out K8.out (by decide)) _) (blk_ne R8.out K8.out (by decide)) _⟩, ⟨blk_put (cs := #[.int .i64 m2, .int .i64 v]) (blk_put (cs := #[.int .i64 m, .int .i64 v]) K8.out 0 _ rfl) 1 _ rfl⟩, ⟨below_set (below_set B8.out HGK.out) HGK.out⟩⟩)
              | (case measure => simp [intOf]; omega)
          · rw [if_neg hc] at HA
            have hr := Option.some.inj HA
            subst hr
            have hcb : (c != 2) = true := by simpa using hc
            clear HA hc
            go_wp2_with (first | (go_at_call 25; (with_reducible refine (impl_Table_cube.calls a0_0 a0_1 m v _ _ AC.out).mono ?_); rintro e w6 ⟨rfl, hb6⟩; have B6 := Aside0.mk (below_step BJ.out hb6); clear hb6))
            go_ret
            exact ⟨rfl, B6.out⟩
        · obtain rfl : j = l1.length := by omega
          have HA := AJ.out
          rw [List.drop_length, impl_PlayAgainst.l] at HA
          have hr := Option.some.inj HA
          subst hr
          clear HA AJ
          go_wp2_with fail
          go_ret
          exact ⟨rfl, BJ.out⟩


/-! ### spec_l1In: function 34 -/
def spec_l1In.f (a0 : Int) (a1 : Int) (a2 : Int) : Option (Bool) := if a0 ≥ a1 then (some (decide (a0 ≤ a2))) else (some false)
set_option maxHeartbeats 8000000 in
set_option maxRecDepth 100000 in
theorem spec_l1In.calls (a0 : Int) (a1 : Int) (a2 : Int) (r : Bool) (w : World) (h : spec_l1In.f a0 a1 a2 = some r) :
  Calls Try.prog 34 #[.int .i64 a0, .int .i64 a1, .int .i64 a2] w fun e w' => e = .returned (.bool r) ∧ Drawn0 w w' := by
 have H : (if a0 ≥ a1 then (some (decide (a0 ≤ a2))) else (some false)) = some r := h
 clear h
 by_cases c4 : a0 ≥ a1
 ·rw [if_pos c4] at H
  have c4b0 : decide (a1 ≤ a0) = true := decide_eq_true c4
  clear c4
  obtain rfl := Option.some.inj H
  go_enter Try.func34, Try.ntmps34
  go_wp2
  go_ret
  exact ⟨by first | rfl | (simp; done) | (simp [*]; done), by repeat (first | exact Drawn0.refl _ | apply Drawn0.step)⟩
 ·rw [if_neg c4] at H
  have c4b0 : decide (a1 ≤ a0) = false := decide_eq_false c4
  clear c4
  obtain rfl := Option.some.inj H
  go_enter Try.func34, Try.ntmps34
  go_wp2
  go_ret
  exact ⟨by first | rfl | (simp; done) | (simp [*]; done), by repeat (first | exact Drawn0.refl _ | apply Drawn0.step)⟩


/-! ### spec_IsTable: function 40 -/
def spec_IsTable.f (a0_0 : Int) (a0_1 : Int) : Option (Bool) := some (decide (0 ≤ a0_0 ∧ a0_0 ≤ 5 ∧ 0 ≤ a0_1 ∧ a0_1 < 2 ^ 2 ^ a0_0.toNat))
theorem spec_IsTable.l1 (x c : Int) (b : Bool) (h : b = decide (0 ≤ x ∧ x ≤ c)) : spec_l1In.f x 0 c = some b := by
  subst h
  unfold spec_l1In.f
  split
  · rename_i h
    simp [show 0 ≤ x from h]
  · rename_i h
    have : ¬ (0 ≤ x) := h
    simp [this]
set_option maxHeartbeats 8000000 in
set_option maxRecDepth 100000 in
theorem spec_IsTable.calls (a0_0 : Int) (a0_1 : Int) (r : Bool) (w : World) (h : spec_IsTable.f a0_0 a0_1 = some r) :
    Calls Try.prog 40 #[.agg #[.int .i64 a0_0, .int .i64 a0_1]] w fun e w' => e = .returned (.bool r) ∧ Below w.heap.size w w' := by
  have hu := Try.underlying25
  have HB := Aside0.mk (Below.refl w.heap.size w)
  unfold spec_IsTable.f at h
  obtain rfl := Option.some.inj h
  clear h
  by_cases hb : 0 ≤ a0_0 ∧ a0_0 ≤ 5
  · rcases (by omega : a0_0 = 0 ∨ a0_0 = 1 ∨ a0_0 = 2 ∨ a0_0 = 3 ∨ a0_0 = 4 ∨ a0_0 = 5) with rfl | rfl | rfl | rfl | rfl | rfl
    · have A2 := Aside0.mk (spec_IsTable.l1 0 5 true (by decide))
      have A7 := Aside0.mk (spec_IsTable.l1 a0_1 1 (decide ((0 : Int) ≤ 0 ∧ (0 : Int) ≤ 5 ∧ 0 ≤ a0_1 ∧ a0_1 < 2 ^ 2 ^ (0 : Int).toNat)) (decide_eq_decide.mpr ⟨fun h => ⟨h.2.2.1, by have := h.2.2.2; simp at this; omega⟩, fun h => ⟨by omega, by omega, h.1, by have := h.2; simp; omega⟩⟩))
      clear hb
      generalize (decide ((0 : Int) ≤ 0 ∧ (0 : Int) ≤ 5 ∧ 0 ≤ a0_1 ∧ a0_1 < 2 ^ 2 ^ (0 : Int).toNat)) = r at *
      go_enter Try.func40, Try.ntmps40
      go_wp2_with fail
      go_quiet (first | (go_at_call 34; (with_reducible refine (spec_l1In.calls 0 0 5 true _ A2.out).mono ?_); rintro e w' ⟨rfl, ⟨nd, rfl⟩⟩; (try first | exact ⟨rfl, _, World.drewN_drewN _ _ _⟩ | exact ⟨rfl, _, Eq.trans (World.drewN_drewN _ _ _) (congrArg (World.drewN _) (Nat.add_assoc _ _ _))⟩)) | (go_at_call 34; (with_reducible refine (spec_l1In.calls a0_1 0 1 r _ A7.out).mono ?_); rintro e w' ⟨rfl, ⟨nd, rfl⟩⟩; (try first | exact ⟨rfl, _, World.drewN_drewN _ _ _⟩ | exact ⟨rfl, _, Eq.trans (World.drewN_drewN _ _ _) (congrArg (World.drewN _) (Nat.add_assoc _ _ _))⟩)))
      go_wp2
      go_ret
      exact ⟨rfl, by repeat (first | (with_reducible first | exact HB.out | apply below_alloc | apply pw_below_drewN | apply below_drew1) | exact HB.out)⟩
    · have A2 := Aside0.mk (spec_IsTable.l1 1 5 true (by decide))
      have A7 := Aside0.mk (spec_IsTable.l1 a0_1 3 (decide ((0 : Int) ≤ 1 ∧ (1 : Int) ≤ 5 ∧ 0 ≤ a0_1 ∧ a0_1 < 2 ^ 2 ^ (1 : Int).toNat)) (decide_eq_decide.mpr ⟨fun h => ⟨h.2.2.1, by have := h.2.2.2; simp at this; omega⟩, fun h => ⟨by omega, by omega, h.1, by have := h.2; simp; omega⟩⟩))
      clear hb
      generalize (decide ((0 : Int) ≤ 1 ∧ (1 : Int) ≤ 5 ∧ 0 ≤ a0_1 ∧ a0_1 < 2 ^ 2 ^ (1 : Int).toNat)) = r at *
      go_enter Try.func40, Try.ntmps40
      go_wp2_with fail
      go_quiet (first | (go_at_call 34; (with_reducible refine (spec_l1In.calls 1 0 5 true _ A2.out).mono ?_); rintro e w' ⟨rfl, ⟨nd, rfl⟩⟩; (try first | exact ⟨rfl, _, World.drewN_drewN _ _ _⟩ | exact ⟨rfl, _, Eq.trans (World.drewN_drewN _ _ _) (congrArg (World.drewN _) (Nat.add_assoc _ _ _))⟩)) | (go_at_call 34; (with_reducible refine (spec_l1In.calls a0_1 0 3 r _ A7.out).mono ?_); rintro e w' ⟨rfl, ⟨nd, rfl⟩⟩; (try first | exact ⟨rfl, _, World.drewN_drewN _ _ _⟩ | exact ⟨rfl, _, Eq.trans (World.drewN_drewN _ _ _) (congrArg (World.drewN _) (Nat.add_assoc _ _ _))⟩)))
      go_wp2
      go_ret
      exact ⟨rfl, by repeat (first | (with_reducible first | exact HB.out | apply below_alloc | apply pw_below_drewN | apply below_drew1) | exact HB.out)⟩
    · have A2 := Aside0.mk (spec_IsTable.l1 2 5 true (by decide))
      have A7 := Aside0.mk (spec_IsTable.l1 a0_1 15 (decide ((0 : Int) ≤ 2 ∧ (2 : Int) ≤ 5 ∧ 0 ≤ a0_1 ∧ a0_1 < 2 ^ 2 ^ (2 : Int).toNat)) (decide_eq_decide.mpr ⟨fun h => ⟨h.2.2.1, by have := h.2.2.2; simp at this; omega⟩, fun h => ⟨by omega, by omega, h.1, by have := h.2; simp; omega⟩⟩))
      clear hb
      generalize (decide ((0 : Int) ≤ 2 ∧ (2 : Int) ≤ 5 ∧ 0 ≤ a0_1 ∧ a0_1 < 2 ^ 2 ^ (2 : Int).toNat)) = r at *
      go_enter Try.func40, Try.ntmps40
      go_wp2_with fail
      go_quiet (first | (go_at_call 34; (with_reducible refine (spec_l1In.calls 2 0 5 true _ A2.out).mono ?_); rintro e w' ⟨rfl, ⟨nd, rfl⟩⟩; (try first | exact ⟨rfl, _, World.drewN_drewN _ _ _⟩ | exact ⟨rfl, _, Eq.trans (World.drewN_drewN _ _ _) (congrArg (World.drewN _) (Nat.add_assoc _ _ _))⟩)) | (go_at_call 34; (with_reducible refine (spec_l1In.calls a0_1 0 15 r _ A7.out).mono ?_); rintro e w' ⟨rfl, ⟨nd, rfl⟩⟩; (try first | exact ⟨rfl, _, World.drewN_drewN _ _ _⟩ | exact ⟨rfl, _, Eq.trans (World.drewN_drewN _ _ _) (congrArg (World.drewN _) (Nat.add_assoc _ _ _))⟩)))
      go_wp2
      go_ret
      exact ⟨rfl, by repeat (first | (with_reducible first | exact HB.out | apply below_alloc | apply pw_below_drewN | apply below_drew1) | exact HB.out)⟩
    · have A2 := Aside0.mk (spec_IsTable.l1 3 5 true (by decide))
      have A7 := Aside0.mk (spec_IsTable.l1 a0_1 255 (decide ((0 : Int) ≤ 3 ∧ (3 : Int) ≤ 5 ∧ 0 ≤ a0_1 ∧ a0_1 < 2 ^ 2 ^ (3 : Int).toNat)) (decide_eq_decide.mpr ⟨fun h => ⟨h.2.2.1, by have := h.2.2.2; simp at this; omega⟩, fun h => ⟨by omega, by omega, h.1, by have := h.2; simp; omega⟩⟩))
      clear hb
      generalize (decide ((0 : Int) ≤ 3 ∧ (3 : Int) ≤ 5 ∧ 0 ≤ a0_1 ∧ a0_1 < 2 ^ 2 ^ (3 : Int).toNat)) = r at *
      go_enter Try.func40, Try.ntmps40
      go_wp2_with fail
      go_quiet (first | (go_at_call 34; (with_reducible refine (spec_l1In.calls 3 0 5 true _ A2.out).mono ?_); rintro e w' ⟨rfl, ⟨nd, rfl⟩⟩; (try first | exact ⟨rfl, _, World.drewN_drewN _ _ _⟩ | exact ⟨rfl, _, Eq.trans (World.drewN_drewN _ _ _) (congrArg (World.drewN _) (Nat.add_assoc _ _ _))⟩)) | (go_at_call 34; (with_reducible refine (spec_l1In.calls a0_1 0 255 r _ A7.out).mono ?_); rintro e w' ⟨rfl, ⟨nd, rfl⟩⟩; (try first | exact ⟨rfl, _, World.drewN_drewN _ _ _⟩ | exact ⟨rfl, _, Eq.trans (World.drewN_drewN _ _ _) (congrArg (World.drewN _) (Nat.add_assoc _ _ _))⟩)))
      go_wp2
      go_ret
      exact ⟨rfl, by repeat (first | (with_reducible first | exact HB.out | apply below_alloc | apply pw_below_drewN | apply below_drew1) | exact HB.out)⟩
    · have A2 := Aside0.mk (spec_IsTable.l1 4 5 true (by decide))
      have A7 := Aside0.mk (spec_IsTable.l1 a0_1 65535 (decide ((0 : Int) ≤ 4 ∧ (4 : Int) ≤ 5 ∧ 0 ≤ a0_1 ∧ a0_1 < 2 ^ 2 ^ (4 : Int).toNat)) (decide_eq_decide.mpr ⟨fun h => ⟨h.2.2.1, by have := h.2.2.2; simp at this; omega⟩, fun h => ⟨by omega, by omega, h.1, by have := h.2; simp; omega⟩⟩))
      clear hb
      generalize (decide ((0 : Int) ≤ 4 ∧ (4 : Int) ≤ 5 ∧ 0 ≤ a0_1 ∧ a0_1 < 2 ^ 2 ^ (4 : Int).toNat)) = r at *
      go_enter Try.func40, Try.ntmps40
      go_wp2_with fail
      go_quiet (first | (go_at_call 34; (with_reducible refine (spec_l1In.calls 4 0 5 true _ A2.out).mono ?_); rintro e w' ⟨rfl, ⟨nd, rfl⟩⟩; (try first | exact ⟨rfl, _, World.drewN_drewN _ _ _⟩ | exact ⟨rfl, _, Eq.trans (World.drewN_drewN _ _ _) (congrArg (World.drewN _) (Nat.add_assoc _ _ _))⟩)) | (go_at_call 34; (with_reducible refine (spec_l1In.calls a0_1 0 65535 r _ A7.out).mono ?_); rintro e w' ⟨rfl, ⟨nd, rfl⟩⟩; (try first | exact ⟨rfl, _, World.drewN_drewN _ _ _⟩ | exact ⟨rfl, _, Eq.trans (World.drewN_drewN _ _ _) (congrArg (World.drewN _) (Nat.add_assoc _ _ _))⟩)))
      go_wp2
      go_ret
      exact ⟨rfl, by repeat (first | (with_reducible first | exact HB.out | apply below_alloc | apply pw_below_drewN | apply below_drew1) | exact HB.out)⟩
    · have A2 := Aside0.mk (spec_IsTable.l1 5 5 true (by decide))
      have A7 := Aside0.mk (spec_IsTable.l1 a0_1 4294967295 (decide ((0 : Int) ≤ 5 ∧ (5 : Int) ≤ 5 ∧ 0 ≤ a0_1 ∧ a0_1 < 2 ^ 2 ^ (5 : Int).toNat)) (decide_eq_decide.mpr ⟨fun h => ⟨h.2.2.1, by have := h.2.2.2; simp at this; omega⟩, fun h => ⟨by omega, by omega, h.1, by have := h.2; simp; omega⟩⟩))
      clear hb
      generalize (decide ((0 : Int) ≤ 5 ∧ (5 : Int) ≤ 5 ∧ 0 ≤ a0_1 ∧ a0_1 < 2 ^ 2 ^ (5 : Int).toNat)) = r at *
      go_enter Try.func40, Try.ntmps40
      go_wp2_with fail
      go_quiet (first | (go_at_call 34; (with_reducible refine (spec_l1In.calls 5 0 5 true _ A2.out).mono ?_); rintro e w' ⟨rfl, ⟨nd, rfl⟩⟩; (try first | exact ⟨rfl, _, World.drewN_drewN _ _ _⟩ | exact ⟨rfl, _, Eq.trans (World.drewN_drewN _ _ _) (congrArg (World.drewN _) (Nat.add_assoc _ _ _))⟩)) | (go_at_call 34; (with_reducible refine (spec_l1In.calls a0_1 0 4294967295 r _ A7.out).mono ?_); rintro e w' ⟨rfl, ⟨nd, rfl⟩⟩; (try first | exact ⟨rfl, _, World.drewN_drewN _ _ _⟩ | exact ⟨rfl, _, Eq.trans (World.drewN_drewN _ _ _) (congrArg (World.drewN _) (Nat.add_assoc _ _ _))⟩)))
      go_wp2
      go_ret
      exact ⟨rfl, by repeat (first | (with_reducible first | exact HB.out | apply below_alloc | apply pw_below_drewN | apply below_drew1) | exact HB.out)⟩
  · have A2 := Aside0.mk (spec_IsTable.l1 a0_0 5 false (by rw [decide_eq_false hb]))
    have e : (decide (0 ≤ a0_0 ∧ a0_0 ≤ 5 ∧ 0 ≤ a0_1 ∧ a0_1 < 2 ^ 2 ^ a0_0.toNat)) = false := decide_eq_false fun h => hb ⟨h.1, h.2.1⟩
    rw [e]
    clear hb e
    go_enter Try.func40, Try.ntmps40
    go_wp2_with fail
    go_quiet (first | (go_at_call 34; (with_reducible refine (spec_l1In.calls a0_0 0 5 false _ A2.out).mono ?_); rintro e w' ⟨rfl, ⟨nd, rfl⟩⟩; (try first | exact ⟨rfl, _, World.drewN_drewN _ _ _⟩ | exact ⟨rfl, _, Eq.trans (World.drewN_drewN _ _ _) (congrArg (World.drewN _) (Nat.add_assoc _ _ _))⟩)))
    go_wp2
    go_ret
    exact ⟨rfl, by repeat (first | (with_reducible first | exact HB.out | apply below_alloc | apply pw_below_drewN | apply below_drew1) | exact HB.out)⟩


/-! ### spec_l8Fine: function 28 -/
def spec_l8Fine.f (a0_0 : Int) (a0_1 : Int) (a1 : Int) (a2 : Int) : Option (Bool) := (spec_IsTable.f a0_0 a0_1).bind fun t577 => (if t577 = true then (if a0_0 ≤ 4 then (if 0 ≤ a0_0 then ((spec_l1In.f a1 0 (wrap64 ((shl .i64 1 a0_0) - 1))).bind fun t578 => (if t578 = true then ((spec_l1In.f a2 0 a1).bind fun t579 => (if t579 = true then (some ((Go.bits .and .i64 a2 a1) == a2)) else (some false))) else (some false))) else (none)) else (some false)) else (some false))
set_option maxHeartbeats 8000000 in
set_option maxRecDepth 100000 in
theorem spec_l8Fine.calls (a0_0 : Int) (a0_1 : Int) (a1 : Int) (a2 : Int) (r : Bool) (w : World) (h : spec_l8Fine.f a0_0 a0_1 a1 a2 = some r) :
  Calls Try.prog 28 #[.agg #[.int .i64 a0_0, .int .i64 a0_1], .int .i64 a1, .int .i64 a2] w fun e w' => e = .returned (.bool r) ∧ Below w.heap.size w w' := by
 have hu25 := Try.underlying25
 have HB := Aside0.mk (Below.refl w.heap.size w)
 have H : ((spec_IsTable.f a0_0 a0_1).bind fun t577 => (if t577 = true then (if a0_0 ≤ 4 then (if 0 ≤ a0_0 then ((spec_l1In.f a1 0 (wrap64 ((shl .i64 1 a0_0) - 1))).bind fun t578 => (if t578 = true then ((spec_l1In.f a2 0 a1).bind fun t579 => (if t579 = true then (some ((Go.bits .and .i64 a2 a1) == a2)) else (some false))) else (some false))) else (none)) else (some false)) else (some false))) = some r := h
 clear h
 replace H := Option.bind_eq_some_iff.mp H
 obtain ⟨t577, A40, H⟩ := H
 have A4 := Aside0.mk A40
 clear A40
 by_cases c5 : t577 = true
 ·subst c5
  rw [if_pos rfl] at H
  by_cases c6 : a0_0 ≤ 4
  ·rw [if_pos c6] at H
   have c6b0 : decide (a0_0 ≤ 4) = true := decide_eq_true c6
   clear c6
   by_cases c7 : 0 ≤ a0_0
   ·rw [if_pos c7] at H
    have c7b0 := eq_true c7
    have c7b1 : decide (0 ≤ a0_0) = true := decide_eq_true c7
    clear c7
    obtain ⟨ji8, hji8⟩ : ∃ j_ : Int, (shl .i64 1 a0_0) = j_ := ⟨_, rfl⟩
    replace H : ((spec_l1In.f a1 0 (wrap64 ((ji8) - 1))).bind fun t578 => (if t578 = true then ((spec_l1In.f a2 0 a1).bind fun t579 => (if t579 = true then (some ((Go.bits .and .i64 a2 a1) == a2)) else (some false))) else (some false))) = some r := by first | (rw [hji8] at H; exact H) | (simp only [hji8] at H ⊢; exact H)
    (try rw [hji8] at A4)
    have hji8_ : (IntKind.i64.wrap (1 * 2 ^ min a0_0.toNat 64)) = ji8 := hji8
    have hji8z : a0_0 ≤ 64 → (IntKind.i64.wrap (1 * 2 ^ a0_0.toNat)) = ji8 := shl_small hji8
    have hji8u : (IntKind.i64.wrap (2 ^ min a0_0.toNat 64)) = ji8 := by have h_ := hji8_; rw [Int.one_mul] at h_; exact h_
    have hji8v : a0_0 ≤ 64 → (IntKind.i64.wrap (2 ^ a0_0.toNat)) = ji8 := fun hle_ => by have h_ := hji8z hle_; rw [Int.one_mul] at h_; exact h_
    have hji8y : (wrap64 (1 * 2 ^ min a0_0.toNat 64)) = ji8 := (i64_w _).symm.trans hji8_
    have hji8x : a0_0 ≤ 64 → (wrap64 (1 * 2 ^ a0_0.toNat)) = ji8 := fun h_ => (i64_w _).symm.trans (hji8z h_)
    replace H := Option.bind_eq_some_iff.mp H
    obtain ⟨t578, A90, H⟩ := H
    have A9 := Aside0.mk A90
    clear A90
    by_cases c10 : t578 = true
    ·subst c10
     rw [if_pos rfl] at H
     replace H := Option.bind_eq_some_iff.mp H
     obtain ⟨t579, A110, H⟩ := H
     have A11 := Aside0.mk A110
     clear A110
     by_cases c12 : t579 = true
     ·subst c12
      rw [if_pos rfl] at H
      obtain rfl := Option.some.inj H
      go_enter Try.func28, Try.ntmps28
      go_wp2_with (first | ((with_reducible refine gate_dst (N := 3) rfl ?_); refine bx_ 3 #[.int .i64 a0_0, .int .i64 a0_1] 25 ?_; intro gb576 hg w13 hbox hb; have BK576 := Aside0.mk (hbox); have GW576 := gw_ hg (below_size (bv_ HB)); have GE576 := GW576; replace HB := Aside0.mk (below_step (bv_ HB) hb); clear hb hbox hg; obtain ⟨hcz14_0, hcz14_1, hfz14_0, hfz14_1⟩ := c2_ BK576) | ((with_reducible refine gate_callee (f := 40) rfl ?_); refine gl_ 8 Try.func40 #[.agg #[.int .i64 a0_0, .int .i64 a0_1]] rfl mp_ ?_; (with_reducible refine (spec_IsTable.calls a0_0 a0_1 true _ A4.out).mono ?_); rintro e w15 ⟨rfl, hb⟩; refine ⟨_, rfl, ?_⟩; replace BK576 := kb_ BK576 hb; replace HB := Aside0.mk (below_step (bv1_ HB GE576) hb); (try clear hb); (try clear hb2); (try clear hk); (try clear hi); obtain ⟨hcz16_0, hcz16_1, hfz16_0, hfz16_1⟩ := c2_ BK576) | (go_at_call 34; (with_reducible refine (spec_l1In.calls a1 0 (wrap64 ((ji8) - 1)) true _ A9.out).mono ?_); rintro e w' ⟨rfl, ⟨nd, rfl⟩⟩) | (go_at_call 34; (with_reducible refine (spec_l1In.calls a2 0 a1 true _ A11.out).mono ?_); rintro e w' ⟨rfl, ⟨nd, rfl⟩⟩))
      go_ret
      exact ⟨by first | rfl | (simp [errW_none, errW_some] <;> rfl) | (simp only [← hji8]; first | rfl | (simp [errW_none, errW_some] <;> rfl)) | (simp [*, errW_none, errW_some] <;> rfl), bv1_ HB GE576⟩
     ·replace c12 := Bool.eq_false_iff.mpr c12
      subst c12
      rw [if_neg (show ¬ (false = true) by decide)] at H
      obtain rfl := Option.some.inj H
      go_enter Try.func28, Try.ntmps28
      go_wp2_with (first | ((with_reducible refine gate_dst (N := 3) rfl ?_); refine bx_ 3 #[.int .i64 a0_0, .int .i64 a0_1] 25 ?_; intro gb576 hg w17 hbox hb; have BK576 := Aside0.mk (hbox); have GW576 := gw_ hg (below_size (bv_ HB)); have GE576 := GW576; replace HB := Aside0.mk (below_step (bv_ HB) hb); clear hb hbox hg; obtain ⟨hcz18_0, hcz18_1, hfz18_0, hfz18_1⟩ := c2_ BK576) | ((with_reducible refine gate_callee (f := 40) rfl ?_); refine gl_ 8 Try.func40 #[.agg #[.int .i64 a0_0, .int .i64 a0_1]] rfl mp_ ?_; (with_reducible refine (spec_IsTable.calls a0_0 a0_1 true _ A4.out).mono ?_); rintro e w19 ⟨rfl, hb⟩; refine ⟨_, rfl, ?_⟩; replace BK576 := kb_ BK576 hb; replace HB := Aside0.mk (below_step (bv1_ HB GE576) hb); (try clear hb); (try clear hb2); (try clear hk); (try clear hi); obtain ⟨hcz20_0, hcz20_1, hfz20_0, hfz20_1⟩ := c2_ BK576) | (go_at_call 34; (with_reducible refine (spec_l1In.calls a1 0 (wrap64 ((ji8) - 1)) true _ A9.out).mono ?_); rintro e w' ⟨rfl, ⟨nd, rfl⟩⟩) | (go_at_call 34; (with_reducible refine (spec_l1In.calls a2 0 a1 false _ A11.out).mono ?_); rintro e w' ⟨rfl, ⟨nd, rfl⟩⟩))
      go_ret
      exact ⟨by first | rfl | (simp [errW_none, errW_some] <;> rfl) | (simp only [← hji8]; first | rfl | (simp [errW_none, errW_some] <;> rfl)) | (simp [*, errW_none, errW_some] <;> rfl), bv1_ HB GE576⟩
    ·replace c10 := Bool.eq_false_iff.mpr c10
     subst c10
     rw [if_neg (show ¬ (false = true) by decide)] at H
     obtain rfl := Option.some.inj H
     go_enter Try.func28, Try.ntmps28
     go_wp2_with (first | ((with_reducible refine gate_dst (N := 3) rfl ?_); refine bx_ 3 #[.int .i64 a0_0, .int .i64 a0_1] 25 ?_; intro gb576 hg w21 hbox hb; have BK576 := Aside0.mk (hbox); have GW576 := gw_ hg (below_size (bv_ HB)); have GE576 := GW576; replace HB := Aside0.mk (below_step (bv_ HB) hb); clear hb hbox hg; obtain ⟨hcz22_0, hcz22_1, hfz22_0, hfz22_1⟩ := c2_ BK576) | ((with_reducible refine gate_callee (f := 40) rfl ?_); refine gl_ 8 Try.func40 #[.agg #[.int .i64 a0_0, .int .i64 a0_1]] rfl mp_ ?_; (with_reducible refine (spec_IsTable.calls a0_0 a0_1 true _ A4.out).mono ?_); rintro e w23 ⟨rfl, hb⟩; refine ⟨_, rfl, ?_⟩; replace BK576 := kb_ BK576 hb; replace HB := Aside0.mk (below_step (bv1_ HB GE576) hb); (try clear hb); (try clear hb2); (try clear hk); (try clear hi); obtain ⟨hcz24_0, hcz24_1, hfz24_0, hfz24_1⟩ := c2_ BK576) | (go_at_call 34; (with_reducible refine (spec_l1In.calls a1 0 (wrap64 ((ji8) - 1)) false _ A9.out).mono ?_); rintro e w' ⟨rfl, ⟨nd, rfl⟩⟩))
     go_ret
     exact ⟨by first | rfl | (simp [errW_none, errW_some] <;> rfl) | (simp only [← hji8]; first | rfl | (simp [errW_none, errW_some] <;> rfl)) | (simp [*, errW_none, errW_some] <;> rfl), bv1_ HB GE576⟩
   ·rw [if_neg c7] at H
    exact absurd H (by simp)
  ·rw [if_neg c6] at H
   have c6b0 : decide (a0_0 ≤ 4) = false := decide_eq_false c6
   clear c6
   obtain rfl := Option.some.inj H
   go_enter Try.func28, Try.ntmps28
   go_wp2_with (first | ((with_reducible refine gate_dst (N := 3) rfl ?_); refine bx_ 3 #[.int .i64 a0_0, .int .i64 a0_1] 25 ?_; intro gb576 hg w25 hbox hb; have BK576 := Aside0.mk (hbox); have GW576 := gw_ hg (below_size (bv_ HB)); have GE576 := GW576; replace HB := Aside0.mk (below_step (bv_ HB) hb); clear hb hbox hg; obtain ⟨hcz26_0, hcz26_1, hfz26_0, hfz26_1⟩ := c2_ BK576) | ((with_reducible refine gate_callee (f := 40) rfl ?_); refine gl_ 8 Try.func40 #[.agg #[.int .i64 a0_0, .int .i64 a0_1]] rfl mp_ ?_; (with_reducible refine (spec_IsTable.calls a0_0 a0_1 true _ A4.out).mono ?_); rintro e w27 ⟨rfl, hb⟩; refine ⟨_, rfl, ?_⟩; replace BK576 := kb_ BK576 hb; replace HB := Aside0.mk (below_step (bv1_ HB GE576) hb); (try clear hb); (try clear hb2); (try clear hk); (try clear hi); obtain ⟨hcz28_0, hcz28_1, hfz28_0, hfz28_1⟩ := c2_ BK576))
   go_ret
   exact ⟨by first | rfl | (simp [errW_none, errW_some] <;> rfl) | (simp [*, errW_none, errW_some] <;> rfl), bv1_ HB GE576⟩
 ·replace c5 := Bool.eq_false_iff.mpr c5
  subst c5
  rw [if_neg (show ¬ (false = true) by decide)] at H
  obtain rfl := Option.some.inj H
  go_enter Try.func28, Try.ntmps28
  go_wp2_with (first | ((with_reducible refine gate_dst (N := 3) rfl ?_); refine bx_ 3 #[.int .i64 a0_0, .int .i64 a0_1] 25 ?_; intro gb576 hg w29 hbox hb; have BK576 := Aside0.mk (hbox); have GW576 := gw_ hg (below_size (bv_ HB)); have GE576 := GW576; replace HB := Aside0.mk (below_step (bv_ HB) hb); clear hb hbox hg; obtain ⟨hcz30_0, hcz30_1, hfz30_0, hfz30_1⟩ := c2_ BK576) | ((with_reducible refine gate_callee (f := 40) rfl ?_); refine gl_ 8 Try.func40 #[.agg #[.int .i64 a0_0, .int .i64 a0_1]] rfl mp_ ?_; (with_reducible refine (spec_IsTable.calls a0_0 a0_1 false _ A4.out).mono ?_); rintro e w31 ⟨rfl, hb⟩; refine ⟨_, rfl, ?_⟩; replace BK576 := kb_ BK576 hb; replace HB := Aside0.mk (below_step (bv1_ HB GE576) hb); (try clear hb); (try clear hb2); (try clear hk); (try clear hi)))
  go_ret
  exact ⟨by first | rfl | (simp [errW_none, errW_some] <;> rfl) | (simp [*, errW_none, errW_some] <;> rfl), bv1_ HB GE576⟩


/-! ### spec_l3Cube: function 30 -/
def spec_l3Cube.l0 : Nat → Int → Int → Int → Int → Int → Int → Option (Int)
 | 0, _, _, _, _, _, _ => none
 | k + 1, x1, x2, x7, x8, x581000, x581001 => if 0 ≤ x581000 then (if x8 < (shl .i64 1 x581000) then (if (Go.bits .and .i64 x8 x1) = x2 then (if 0 ≤ x8 then (if x7 ≥ 0 then (if x7 = (Go.bits .and .i64 (shr .i64 x581001 x8) 1) then (spec_l3Cube.l0 k x1 x2 (Go.bits .and .i64 (shr .i64 x581001 x8) 1) (wrap64 (x8 + 1)) x581000 x581001) else (some 2)) else (spec_l3Cube.l0 k x1 x2 (Go.bits .and .i64 (shr .i64 x581001 x8) 1) (wrap64 (x8 + 1)) x581000 x581001)) else (none)) else (spec_l3Cube.l0 k x1 x2 x7 (wrap64 (x8 + 1)) x581000 x581001)) else (some x7)) else (none)
def spec_l3Cube.f (k : Nat) (a0_0 : Int) (a0_1 : Int) (a1 : Int) (a2 : Int) : Option (Int) := spec_l3Cube.l0 k a1 a2 (-1) 0 a0_0 a0_1
theorem spec_l3Cube.mono_l : ∀ k, (∀ y0 y1 y2 y3 y4 y5, LeO (spec_l3Cube.l0 k y0 y1 y2 y3 y4 y5) (spec_l3Cube.l0 (k + 1) y0 y1 y2 y3 y4 y5))
 | 0 => fun _ _ _ _ _ _ r h => by simp [spec_l3Cube.l0] at h
 | k + 1 => by
  have ih0 := spec_l3Cube.mono_l k
  ·intro y0 y1 y2 y3 y4 y5
   unfold spec_l3Cube.l0
   repeat' first
   | (with_reducible exact ih0 _ _ _ _ _ _)
   | (with_reducible exact LeO.refl _)
   | (with_reducible exact LeO.none _)
   | (with_reducible refine LeO.ite ?_ ?_)
   | (with_reducible refine LeO.bind ?_ (fun _ => ?_))
   | exact ih0 _ _ _ _ _ _
   | exact LeO.none _
   | refine LeO.ite ?_ ?_
   | refine LeO.bind ?_ (fun _ => ?_)
theorem spec_l3Cube.mono : ∀ a0 a1 a2 a3 k, LeO (spec_l3Cube.f k a0 a1 a2 a3) (spec_l3Cube.f (k + 1) a0 a1 a2 a3) := by
 intro a0 a1 a2 a3 k
 have ih0 := spec_l3Cube.mono_l k
 unfold spec_l3Cube.f
 repeat' first
   | (with_reducible exact ih0 _ _ _ _ _ _)
   | (with_reducible exact LeO.refl _)
   | (with_reducible exact LeO.none _)
   | (with_reducible refine LeO.ite ?_ ?_)
   | (with_reducible refine LeO.bind ?_ (fun _ => ?_))
   | exact ih0 _ _ _ _ _ _
   | exact LeO.none _
   | refine LeO.ite ?_ ?_
   | refine LeO.bind ?_ (fun _ => ?_)
set_option maxHeartbeats 8000000 in
set_option maxRecDepth 100000 in
theorem spec_l3Cube.calls (k : Nat) (a0_0 : Int) (a0_1 : Int) (a1 : Int) (a2 : Int) (r : Int) (w : World) (h : spec_l3Cube.f k a0_0 a0_1 a1 a2 = some r) :
  Calls Try.prog 30 #[.agg #[.int .i64 a0_0, .int .i64 a0_1], .int .i64 a1, .int .i64 a2] w fun e w' => e = .returned (.int .i64 r) ∧ Below w.heap.size w w' := by
 have hu25 := Try.underlying25
 have HB := Aside0.mk (Below.refl w.heap.size w)
 have H : (spec_l3Cube.l0 k a1 a2 (-1) 0 a0_0 a0_1) = some r := h
 clear h
 have H' := Aside0.mk H
 clear H
 go_enter Try.func30, Try.ntmps30
 go_wp2_with (first | ((with_reducible refine gate_dst (N := 3) rfl ?_); refine bx_ 3 #[.int .i64 a0_0, .int .i64 a0_1] 25 ?_; intro gb580 hg w4 hbox hb; have BK580 := Aside0.mk (hbox); have GW580 := gw_ hg (below_size (bv_ HB)); have GE580 := GW580; replace HB := Aside0.mk (below_step (bv_ HB) hb); clear hb hbox hg))
 go_loopg [7, 8] k (fun kq v7 v8 w' => ∃ (x7_1 : Int) (x8_1 : Int), v7 = .int .i64 x7_1 ∧ v8 = .int .i64 x8_1 ∧ Aside0 (spec_l3Cube.l0 kq a1 a2 x7_1 x8_1 a0_0 a0_1 = some r) ∧ Aside0 (kq ≤ k) ∧ Aside0 (w'.heap[gb580]? = some (.cells #[.int .i64 a0_0, .int .i64 a0_1] 25 (0, 0))) ∧ Aside0 (Below w.heap.size w w'))
 case atStart => exact ⟨((-1)), (0), (by first | rfl | (simp; done) | (simp [*]; done)), (by first | rfl | (simp; done) | (simp [*]; done)), H', ⟨Nat.le_refl _⟩, ⟨by (with_reducible repeat (first | refine blk_drewN ?_ _ | refine blk_drew ?_ | refine blk_alloc ?_ _)); exact BK580.out⟩, ⟨bv1_ HB GE580⟩⟩
 case round =>
  clear H'
  try clear p2
  try clear c3
  obtain ⟨x7_1, x8_1, rfl, rfl, HA, HK1, BK580, HB⟩ := hrel
  cases gk with
  | zero => exact absurd HA.out (by simp [spec_l3Cube.l0])
  | succ k1 =>
   have H := HA.out
   clear HA
   simp only [spec_l3Cube.l0] at H
   by_cases c5 : 0 ≤ a0_0
   ·rw [if_pos c5] at H
    have c5b0 := eq_true c5
    have c5b1 : decide (0 ≤ a0_0) = true := decide_eq_true c5
    clear c5
    obtain ⟨ji6, hji6⟩ : ∃ j_ : Int, (shl .i64 1 a0_0) = j_ := ⟨_, rfl⟩
    replace H : (if x8_1 < (ji6) then (if (Go.bits .and .i64 x8_1 a1) = a2 then (if 0 ≤ x8_1 then (if x7_1 ≥ 0 then (if x7_1 = (Go.bits .and .i64 (shr .i64 a0_1 x8_1) 1) then (spec_l3Cube.l0 k1 a1 a2 (Go.bits .and .i64 (shr .i64 a0_1 x8_1) 1) (wrap64 (x8_1 + 1)) a0_0 a0_1) else (some 2)) else (spec_l3Cube.l0 k1 a1 a2 (Go.bits .and .i64 (shr .i64 a0_1 x8_1) 1) (wrap64 (x8_1 + 1)) a0_0 a0_1)) else (none)) else (spec_l3Cube.l0 k1 a1 a2 x7_1 (wrap64 (x8_1 + 1)) a0_0 a0_1)) else (some x7_1)) = some r := by first | (rw [hji6] at H; exact H) | (simp only [hji6] at H ⊢; exact H)
    have hji6_ : (IntKind.i64.wrap (1 * 2 ^ min a0_0.toNat 64)) = ji6 := hji6
    have hji6z : a0_0 ≤ 64 → (IntKind.i64.wrap (1 * 2 ^ a0_0.toNat)) = ji6 := shl_small hji6
    have hji6u : (IntKind.i64.wrap (2 ^ min a0_0.toNat 64)) = ji6 := by have h_ := hji6_; rw [Int.one_mul] at h_; exact h_
    have hji6v : a0_0 ≤ 64 → (IntKind.i64.wrap (2 ^ a0_0.toNat)) = ji6 := fun hle_ => by have h_ := hji6z hle_; rw [Int.one_mul] at h_; exact h_
    have hji6y : (wrap64 (1 * 2 ^ min a0_0.toNat 64)) = ji6 := (i64_w _).symm.trans hji6_
    have hji6x : a0_0 ≤ 64 → (wrap64 (1 * 2 ^ a0_0.toNat)) = ji6 := fun h_ => (i64_w _).symm.trans (hji6z h_)
    by_cases c7 : x8_1 < (ji6)
    ·rw [if_pos c7] at H
     have c7b0 : decide (x8_1 < (ji6)) = true := decide_eq_true c7
     clear c7
     by_cases c8 : (Go.bits .and .i64 x8_1 a1) = a2
     ·rw [if_pos c8] at H
      have c8b0 : ((Go.bits .and .i64 x8_1 a1) == a2) = true := beq_iff_eq.mpr c8
      have c8b1 : ((Go.bits .and .i64 x8_1 a1) != a2) = false := bne_eq_false_iff_eq.mpr c8
      clear c8
      by_cases c9 : 0 ≤ x8_1
      ·rw [if_pos c9] at H
       have c9b0 := eq_true c9
       have c9b1 : decide (0 ≤ x8_1) = true := decide_eq_true c9
       clear c9
       obtain ⟨ji10, hji10⟩ : ∃ j_ : Int, (shr .i64 a0_1 x8_1) = j_ := ⟨_, rfl⟩
       replace H : (if x7_1 ≥ 0 then (if x7_1 = (Go.bits .and .i64 (ji10) 1) then (spec_l3Cube.l0 k1 a1 a2 (Go.bits .and .i64 (ji10) 1) (wrap64 (x8_1 + 1)) a0_0 a0_1) else (some 2)) else (spec_l3Cube.l0 k1 a1 a2 (Go.bits .and .i64 (ji10) 1) (wrap64 (x8_1 + 1)) a0_0 a0_1)) = some r := by first | (rw [hji10] at H; exact H) | (simp only [hji10] at H ⊢; exact H)
       have hji10_ : (a0_1 / 2 ^ min x8_1.toNat 64) = ji10 := hji10
       have hji10z : x8_1 ≤ 64 → (a0_1 / 2 ^ x8_1.toNat) = ji10 := shr_small hji10
       by_cases c11 : x7_1 ≥ 0
       ·rw [if_pos c11] at H
        have c11b0 : decide (0 ≤ x7_1) = true := decide_eq_true c11
        clear c11
        by_cases c12 : x7_1 = (Go.bits .and .i64 (ji10) 1)
        ·rw [if_pos c12] at H
         have c12b0 : (x7_1 == (Go.bits .and .i64 (ji10) 1)) = true := beq_iff_eq.mpr c12
         have c12b1 : (x7_1 != (Go.bits .and .i64 (ji10) 1)) = false := bne_eq_false_iff_eq.mpr c12
         clear c12
         have H' := Aside0.mk H
         clear H
         obtain ⟨hcz13_0, hcz13_1, hfz13_0, hfz13_1⟩ := c2_ BK580
         go_wp2
         go_roundg k1
         case measure => have := HK1.out; omega
         case rel => exact ⟨(Go.bits .and .i64 (ji10) 1), (wrap64 (x8_1 + 1)), (by first | rfl | (simp; done) | (simp only [← hji10] <;> (first | rfl | simp)) | (simp [*]; done)), (by first | rfl | (simp; done) | (simp [*]; done)), H', ⟨by have := HK1.out; omega⟩, ⟨by (with_reducible repeat (first | refine blk_drewN ?_ _ | refine blk_drew ?_ | refine blk_alloc ?_ _)); exact BK580.out⟩, ⟨bv1_ HB GE580⟩⟩
        ·rw [if_neg c12] at H
         have c12b0 : (x7_1 == (Go.bits .and .i64 (ji10) 1)) = false := beq_eq_false_iff_ne.mpr c12
         have c12b1 : (x7_1 != (Go.bits .and .i64 (ji10) 1)) = true := bne_iff_ne.mpr c12
         obtain rfl := Option.some.inj H
         obtain ⟨hcz14_0, hcz14_1, hfz14_0, hfz14_1⟩ := c2_ BK580
         go_wp2
         go_ret
         exact ⟨by first | rfl | (simp [errW_none, errW_some] <;> rfl) | (simp only [← hji6, ← hji10]; first | rfl | (simp [errW_none, errW_some] <;> rfl)) | (simp [*, errW_none, errW_some] <;> rfl), bv1_ HB GE580⟩
       ·rw [if_neg c11] at H
        have c11b0 : decide (0 ≤ x7_1) = false := decide_eq_false c11
        clear c11
        have H' := Aside0.mk H
        clear H
        obtain ⟨hcz15_0, hcz15_1, hfz15_0, hfz15_1⟩ := c2_ BK580
        go_wp2
        go_roundg k1
        case measure => have := HK1.out; omega
        case rel => exact ⟨(Go.bits .and .i64 (ji10) 1), (wrap64 (x8_1 + 1)), (by first | rfl | (simp; done) | (simp only [← hji10] <;> (first | rfl | simp)) | (simp [*]; done)), (by first | rfl | (simp; done) | (simp [*]; done)), H', ⟨by have := HK1.out; omega⟩, ⟨by (with_reducible repeat (first | refine blk_drewN ?_ _ | refine blk_drew ?_ | refine blk_alloc ?_ _)); exact BK580.out⟩, ⟨bv1_ HB GE580⟩⟩
      ·rw [if_neg c9] at H
       exact absurd H (by simp)
     ·rw [if_neg c8] at H
      have c8b0 : ((Go.bits .and .i64 x8_1 a1) == a2) = false := beq_eq_false_iff_ne.mpr c8
      have c8b1 : ((Go.bits .and .i64 x8_1 a1) != a2) = true := bne_iff_ne.mpr c8
      have H' := Aside0.mk H
      clear H
      obtain ⟨hcz16_0, hcz16_1, hfz16_0, hfz16_1⟩ := c2_ BK580
      go_wp2
      go_roundg k1
      case measure => have := HK1.out; omega
      case rel => exact ⟨(x7_1), (wrap64 (x8_1 + 1)), (by first | rfl | (simp; done) | (simp [*]; done)), (by first | rfl | (simp; done) | (simp [*]; done)), H', ⟨by have := HK1.out; omega⟩, ⟨by (with_reducible repeat (first | refine blk_drewN ?_ _ | refine blk_drew ?_ | refine blk_alloc ?_ _)); exact BK580.out⟩, ⟨bv1_ HB GE580⟩⟩
    ·rw [if_neg c7] at H
     have c7b0 : decide (x8_1 < (ji6)) = false := decide_eq_false c7
     clear c7
     obtain rfl := Option.some.inj H
     obtain ⟨hcz17_0, hcz17_1, hfz17_0, hfz17_1⟩ := c2_ BK580
     go_wp2
     go_ret
     exact ⟨by first | rfl | (simp [errW_none, errW_some] <;> rfl) | (simp only [← hji6]; first | rfl | (simp [errW_none, errW_some] <;> rfl)) | (simp [*, errW_none, errW_some] <;> rfl), bv1_ HB GE580⟩
   ·rw [if_neg c5] at H
    exact absurd H (by simp)


/-! ### spec_l7Least: function 35 -/
mutual
def spec_l7Least.l0 : Nat → Int → Int → Int → Int → Int → Int → Option (Int)
 | 0, _, _, _, _, _, _ => none
 | k + 1, x1, x2, x7, x8, x582000, x582001 => if x8 < x582000 then (if 0 ≤ x8 then (if (Go.bits .and .i64 x1 (shl .i64 1 x8)) = 0 then ((spec_l7Least.f k x582000 x582001 (Go.bits .or .i64 x1 (shl .i64 1 x8)) x2).bind fun t583 => ((spec_l7Least.f k x582000 x582001 (Go.bits .or .i64 x1 (shl .i64 1 x8)) (Go.bits .or .i64 x2 (shl .i64 1 x8))).bind fun t584 => (spec_l7Least.l0 k x1 x2 (mn x7 (wrap64 (1 + (mx t583 t584)))) (wrap64 (x8 + 1)) x582000 x582001))) else (spec_l7Least.l0 k x1 x2 x7 (wrap64 (x8 + 1)) x582000 x582001)) else (none)) else (some x7)
def spec_l7Least.f : Nat → Int → Int → Int → Int → Option (Int)
 | 0, _, _, _, _ => none
 | k + 1, a0_0, a0_1, a1, a2 => (spec_l3Cube.f k a0_0 a0_1 a1 a2).bind fun t582 => (if t582 < 2 then (some 0) else (spec_l7Least.l0 k a1 a2 10 0 a0_0 a0_1))
end
theorem spec_l7Least.mono_l : ∀ k, (∀ y0 y1 y2 y3, LeO (spec_l7Least.f k y0 y1 y2 y3) (spec_l7Least.f (k + 1) y0 y1 y2 y3)) ∧ (∀ y0 y1 y2 y3 y4 y5, LeO (spec_l7Least.l0 k y0 y1 y2 y3 y4 y5) (spec_l7Least.l0 (k + 1) y0 y1 y2 y3 y4 y5))
 | 0 => ⟨fun _ _ _ _ r h => by simp [spec_l7Least.f] at h, fun _ _ _ _ _ _ r h => by simp [spec_l7Least.l0] at h⟩
 | k + 1 => by
  obtain ⟨ih0, ih1⟩ := spec_l7Least.mono_l k
  refine ⟨?_, ?_⟩
  ·intro y0 y1 y2 y3
   unfold spec_l7Least.f
   repeat' first
   | (with_reducible exact ih0 _ _ _ _)
   | (with_reducible exact ih1 _ _ _ _ _ _)
   | (with_reducible exact spec_l3Cube.mono _ _ _ _ _)
   | (with_reducible exact LeO.refl _)
   | (with_reducible exact LeO.none _)
   | (with_reducible refine LeO.ite ?_ ?_)
   | (with_reducible refine LeO.bind ?_ (fun _ => ?_))
   | exact ih0 _ _ _ _
   | exact ih1 _ _ _ _ _ _
   | exact spec_l3Cube.mono _ _ _ _ _
   | exact LeO.none _
   | refine LeO.ite ?_ ?_
   | refine LeO.bind ?_ (fun _ => ?_)
  ·intro y0 y1 y2 y3 y4 y5
   unfold spec_l7Least.l0
   repeat' first
   | (with_reducible exact ih0 _ _ _ _)
   | (with_reducible exact ih1 _ _ _ _ _ _)
   | (with_reducible exact spec_l3Cube.mono _ _ _ _ _)
   | (with_reducible exact LeO.refl _)
   | (with_reducible exact LeO.none _)
   | (with_reducible refine LeO.ite ?_ ?_)
   | (with_reducible refine LeO.bind ?_ (fun _ => ?_))
   | exact ih0 _ _ _ _
   | exact ih1 _ _ _ _ _ _
   | exact spec_l3Cube.mono _ _ _ _ _
   | exact LeO.none _
   | refine LeO.ite ?_ ?_
   | refine LeO.bind ?_ (fun _ => ?_)
theorem spec_l7Least.mono : ∀ a0 a1 a2 a3 k, LeO (spec_l7Least.f k a0 a1 a2 a3) (spec_l7Least.f (k + 1) a0 a1 a2 a3) := by
 intro a0 a1 a2 a3 k
 obtain ⟨ih0, ih1⟩ := spec_l7Least.mono_l k
 exact ih0 a0 a1 a2 a3
def spec_l7Least.T9 : Bool × List (List Nat × List Nat) := (true, [([], []), ([], []), ([], []), ([], []), ([2, 3], [2, 3]), ([], []), ([1, 4, 5], [1, 4, 5]), ([], []), ([], []), ([], []), ([8, 9], [8, 9]), ([], []), ([], []), ([11, 12], [11, 12]), ([7, 10, 13, 6], [7, 10, 13]), ([6, 14], [6, 14]), ([15], [15]), ([0, 16], [0, 16]), ([17, 14, 0, 1, 2, 3, 4, 5, 6, 7, 8, 9, 10, 11, 12, 13, 14, 15, 16, 17], [0, 17])])
def spec_l7Least.B9 : List Nat := [0, 0, 0, 0, 12, 0, 62, 0, 0, 0, 768, 0, 0, 6144, 16382, 32766, 65534, 131071, 262143]
theorem spec_l7Least.tab9 : rtab .any (opsOf Try.f35 9) = spec_l7Least.T9 := by kernel_rfl
theorem spec_l7Least.bits9 : waitsOk spec_l7Least.T9.2 spec_l7Least.B9 = true := by kernel_rfl
set_option maxHeartbeats 8000000 in
set_option maxRecDepth 100000 in
theorem spec_l7Least.calls (k : Nat) : ∀ (a0_0 : Int) (a0_1 : Int) (a1 : Int) (a2 : Int) (r : Int) (w : World) (h : spec_l7Least.f k a0_0 a0_1 a1 a2 = some r),
  Calls Try.prog 35 #[.agg #[.int .i64 a0_0, .int .i64 a0_1], .int .i64 a1, .int .i64 a2] w fun e w' => e = .returned (.int .i64 r) ∧ Below w.heap.size w w' := by
 induction k using Nat.strongRecOn with
 | _ k ih =>
 intro a0_0 a0_1 a1 a2 r w h
 cases k with
 | zero => exact absurd h (by simp [spec_l7Least.f])
 | succ k =>
 simp only [spec_l7Least.f] at h
 have hu25 := Try.underlying25
 have HB := Aside0.mk (Below.refl w.heap.size w)
 have H : ((spec_l3Cube.f k a0_0 a0_1 a1 a2).bind fun t582 => (if t582 < 2 then (some 0) else (spec_l7Least.l0 k a1 a2 10 0 a0_0 a0_1))) = some r := h
 clear h
 replace H := Option.bind_eq_some_iff.mp H
 obtain ⟨t582, A40, H⟩ := H
 have A4 := Aside0.mk A40
 clear A40
 by_cases c5 : t582 < 2
 ·rw [if_pos c5] at H
  have c5b0 : decide (t582 < 2) = true := decide_eq_true c5
  clear c5
  obtain rfl := Option.some.inj H
  go_enter Try.func35, Try.ntmps35
  go_wp2_with (first | ((with_reducible refine gate_dst (N := 3) rfl ?_); refine bx_ 3 #[.int .i64 a0_0, .int .i64 a0_1] 25 ?_; intro gb581 hg w6 hbox hb; have BK581 := Aside0.mk (hbox); have GW581 := gw_ hg (below_size (bv_ HB)); have GE581 := GW581; replace HB := Aside0.mk (below_step (bv_ HB) hb); clear hb hbox hg; obtain ⟨hcz7_0, hcz7_1, hfz7_0, hfz7_1⟩ := c2_ BK581) | ((with_reducible refine gate_callee (f := 30) rfl ?_); refine gl_ 13 Try.func30 #[.agg #[.int .i64 a0_0, .int .i64 a0_1], .int .i64 a1, .int .i64 a2] rfl mp_ ?_; (with_reducible refine (spec_l3Cube.calls k a0_0 a0_1 a1 a2 t582 _ A4.out).mono ?_); rintro e w8 ⟨rfl, hb⟩; refine ⟨_, rfl, ?_⟩; replace BK581 := kb_ BK581 hb; replace HB := Aside0.mk (below_step (bv1_ HB GE581) hb); (try clear hb); (try clear hb2); (try clear hk); (try clear hi)))
  go_ret
  exact ⟨by first | rfl | (simp [errW_none, errW_some] <;> rfl) | (simp [*, errW_none, errW_some] <;> rfl), bv1_ HB GE581⟩
 ·rw [if_neg c5] at H
  have c5b0 : decide (t582 < 2) = false := decide_eq_false c5
  clear c5
  have H' := Aside0.mk H
  clear H
  go_enter Try.func35, Try.ntmps35
  go_wp2_with (first | ((with_reducible refine gate_dst (N := 3) rfl ?_); refine bx_ 3 #[.int .i64 a0_0, .int .i64 a0_1] 25 ?_; intro gb581 hg w9 hbox hb; have BK581 := Aside0.mk (hbox); have GW581 := gw_ hg (below_size (bv_ HB)); have GE581 := GW581; replace HB := Aside0.mk (below_step (bv_ HB) hb); clear hb hbox hg; obtain ⟨hcz10_0, hcz10_1, hfz10_0, hfz10_1⟩ := c2_ BK581) | ((with_reducible refine gate_callee (f := 30) rfl ?_); refine gl_ 13 Try.func30 #[.agg #[.int .i64 a0_0, .int .i64 a0_1], .int .i64 a1, .int .i64 a2] rfl mp_ ?_; (with_reducible refine (spec_l3Cube.calls k a0_0 a0_1 a1 a2 t582 _ A4.out).mono ?_); rintro e w11 ⟨rfl, hb⟩; refine ⟨_, rfl, ?_⟩; replace BK581 := kb_ BK581 hb; replace HB := Aside0.mk (below_step (bv1_ HB GE581) hb); (try clear hb); (try clear hb2); (try clear hk); (try clear hi)))
  go_loopg [7, 8] k (fun kq v7 v8 w' => ∃ (x7_1 : Int) (x8_1 : Int), v7 = .int .i64 x7_1 ∧ v8 = .int .i64 x8_1 ∧ Aside0 (spec_l7Least.l0 kq a1 a2 x7_1 x8_1 a0_0 a0_1 = some r) ∧ Aside0 (kq ≤ k) ∧ Aside0 (w'.heap[gb581]? = some (.cells #[.int .i64 a0_0, .int .i64 a0_1] 25 (0, 0))) ∧ Aside0 (Below w.heap.size w w'))
  case atStart => exact ⟨(10), (0), (by first | rfl | (simp; done) | (simp [*]; done)), (by first | rfl | (simp; done) | (simp [*]; done)), H', ⟨Nat.le_refl _⟩, ⟨by (with_reducible repeat (first | refine blk_drewN ?_ _ | refine blk_drew ?_ | refine blk_alloc ?_ _)); exact BK581.out⟩, ⟨bv1_ HB GE581⟩⟩
  case round =>
   clear H'
   try clear p2
   try clear c3
   try clear c5
   try clear c5b0
   try clear hcz10_0
   try clear hcz10_1
   try clear hcz7_0
   try clear hcz7_1
   try clear hfz10_0
   try clear hfz10_1
   try clear hfz7_0
   try clear hfz7_1
   obtain ⟨x7_1, x8_1, rfl, rfl, HA, HK1, BK581, HB⟩ := hrel
   cases gk with
   | zero => exact absurd HA.out (by simp [spec_l7Least.l0])
   | succ k1 =>
    have H := HA.out
    clear HA
    simp only [spec_l7Least.l0] at H
    by_cases c12 : x8_1 < a0_0
    ·rw [if_pos c12] at H
     have c12b0 : decide (x8_1 < a0_0) = true := decide_eq_true c12
     clear c12
     by_cases c13 : 0 ≤ x8_1
     ·rw [if_pos c13] at H
      have c13b0 := eq_true c13
      have c13b1 : decide (0 ≤ x8_1) = true := decide_eq_true c13
      clear c13
      obtain ⟨ji14, hji14⟩ : ∃ j_ : Int, (shl .i64 1 x8_1) = j_ := ⟨_, rfl⟩
      replace H : (if (Go.bits .and .i64 a1 (ji14)) = 0 then ((spec_l7Least.f k1 a0_0 a0_1 (Go.bits .or .i64 a1 (ji14)) a2).bind fun t583 => ((spec_l7Least.f k1 a0_0 a0_1 (Go.bits .or .i64 a1 (ji14)) (Go.bits .or .i64 a2 (ji14))).bind fun t584 => (spec_l7Least.l0 k1 a1 a2 (mn x7_1 (wrap64 (1 + (mx t583 t584)))) (wrap64 (x8_1 + 1)) a0_0 a0_1))) else (spec_l7Least.l0 k1 a1 a2 x7_1 (wrap64 (x8_1 + 1)) a0_0 a0_1)) = some r := by first | (rw [hji14] at H; exact H) | (simp only [hji14] at H ⊢; exact H)
      have hji14_ : (IntKind.i64.wrap (1 * 2 ^ min x8_1.toNat 64)) = ji14 := hji14
      have hji14z : x8_1 ≤ 64 → (IntKind.i64.wrap (1 * 2 ^ x8_1.toNat)) = ji14 := shl_small hji14
      have hji14u : (IntKind.i64.wrap (2 ^ min x8_1.toNat 64)) = ji14 := by have h_ := hji14_; rw [Int.one_mul] at h_; exact h_
      have hji14v : x8_1 ≤ 64 → (IntKind.i64.wrap (2 ^ x8_1.toNat)) = ji14 := fun hle_ => by have h_ := hji14z hle_; rw [Int.one_mul] at h_; exact h_
      have hji14y : (wrap64 (1 * 2 ^ min x8_1.toNat 64)) = ji14 := (i64_w _).symm.trans hji14_
      have hji14x : x8_1 ≤ 64 → (wrap64 (1 * 2 ^ x8_1.toNat)) = ji14 := fun h_ => (i64_w _).symm.trans (hji14z h_)
      by_cases c15 : (Go.bits .and .i64 a1 (ji14)) = 0
      ·rw [if_pos c15] at H
       have c15b0 : ((Go.bits .and .i64 a1 (ji14)) == 0) = true := beq_iff_eq.mpr c15
       have c15b1 : ((Go.bits .and .i64 a1 (ji14)) != 0) = false := bne_eq_false_iff_eq.mpr c15
       clear c15
       replace H := Option.bind_eq_some_iff.mp H
       obtain ⟨t583, A160, H⟩ := H
       have A16 := Aside0.mk A160
       clear A160
       replace H := Option.bind_eq_some_iff.mp H
       obtain ⟨t584, A170, H⟩ := H
       have A17 := Aside0.mk A170
       clear A170
       obtain ⟨ji18, hji18⟩ : ∃ j_ : Int, (mx t583 t584) = j_ := ⟨_, rfl⟩
       replace H : (spec_l7Least.l0 k1 a1 a2 (mn x7_1 (wrap64 (1 + (ji18)))) (wrap64 (x8_1 + 1)) a0_0 a0_1) = some r := by first | (rw [hji18] at H; exact H) | (simp only [hji18] at H ⊢; exact H)
       (try rw [hji18] at A16)
       (try rw [hji18] at A17)
       have hji18_ : (if t583 < t584 then t584 else t583) = ji18 := hji18
       obtain ⟨ji19, hji19⟩ : ∃ j_ : Int, (mn x7_1 (wrap64 (1 + (ji18)))) = j_ := ⟨_, rfl⟩
       replace H : (spec_l7Least.l0 k1 a1 a2 ji19 (wrap64 (x8_1 + 1)) a0_0 a0_1) = some r := by first | (rw [hji19] at H; exact H) | (simp only [hji19] at H ⊢; exact H)
       (try rw [hji19] at A16)
       (try rw [hji19] at A17)
       have hji19_ : (if (wrap64 (1 + (ji18))) < x7_1 then (wrap64 (1 + (ji18))) else x7_1) = ji19 := hji19
       have H' := Aside0.mk H
       clear H
       obtain ⟨hcz20_0, hcz20_1, hfz20_0, hfz20_1⟩ := c2_ BK581
       try go_wp2
       replace BK581 := Aside0.mk (blk_drew BK581.out)
       replace HB := Aside0.mk (below_drew1 HB.out)
       refine start_ (n := 19) (S := fun w' => w'.cell? ⟨gb581, 0, none⟩ = some (.int .i64 a0_0) ∧ w'.cell? ⟨gb581, 1, none⟩ = some (.int .i64 a0_1)) (ds := []) (bs 19 0) (by kernel_rfl) rfl (by kernel_rfl) ⟨(blk_cell BK581.out 0).trans rfl, (blk_cell BK581.out 1).trans rfl⟩ (fun hHeld => ?_); refine with_tabW spec_l7Least.tab9 spec_l7Least.bits9 (fun HT_ HW_ => ?_)
       generalize wr.drew = w21 at BK581 HB hHeld ⊢
       refine pu_ HT_ 0 27 (bs 19 1) ?_
       refine pu_ HT_ 2 29 (bs 19 5) ?_
       refine pu_ HT_ 3 30 (bs 19 13) ?_
       refine pu_ HT_ 4 31 (bs 19 29) ?_
       refine pu_ HT_ 5 32 (bs 19 61) ?_
       refine pu_ HT_ 8 35 (bs 19 317) ?_
       refine pu_ HT_ 9 36 (bs 19 829) ?_
       refine pu_ HT_ 10 37 (bs 19 1853) ?_
       refine pu_ HT_ 11 38 (bs 19 3901) ?_
       refine pu_ HT_ 12 39 (bs 19 7997) ?_
       refine pu_ HT_ 13 40 (bs 19 16189) ?_
       refine ta2_ HT_ HW_ 1 28 (bs 19 16191) hHeld ?_
       refine ta2_ HT_ HW_ 7 34 (bs 19 16319) hHeld ?_
       refine on_ HT_ 6 33 (bs 19 16383) (fun K hK => ?_)
       refine goes_ Try.func35 (by kernel_rfl) rfl #[.agg #[.int .i64 a0_0, .int .i64 a0_1], .int .i64 (Go.bits .or .i64 a1 (ji14)), .int .i64 a2] (by rfl) rfl rfl (by (try simp only [List.map_toArray, List.map_cons, List.map_nil]); first | done | (simp only [hji14]; rfl) | rfl | (simp only [List.length_drop, List.length_take]; rfl)) ?_
       with_reducible refine (ih k1 (by have := HK1.out; omega) a0_0 a0_1 (Go.bits .or .i64 a1 (ji14)) a2 t583 _ A16.out).mono ?_
       rintro e w22 ⟨rfl, hb⟩
       refine ⟨_, rfl, ?_⟩
       replace BK581 := kb_ BK581 hb
       replace HB := Aside0.mk (below_step (bv1_ HB GE581) hb)
       (try clear hb)
       (try clear hb2)
       (try clear hk)
       (try clear hi)
       refine hK.out _ _ ⟨(blk_cell BK581.out 0).trans rfl, (blk_cell BK581.out 1).trans rfl⟩ (fun hHeld => ?_)
       clear hK K
       refine no_ 33 ?_
       refine on_ HT_ 14 41 (bs 19 32767) (fun K hK => ?_)
       refine goes_ Try.func35 (by kernel_rfl) rfl #[.agg #[.int .i64 a0_0, .int .i64 a0_1], .int .i64 (Go.bits .or .i64 a1 (ji14)), .int .i64 (Go.bits .or .i64 a2 (ji14))] (by rfl) rfl rfl (by (try simp only [List.map_toArray, List.map_cons, List.map_nil]); first | done | (simp only [hji14]; rfl) | rfl | (simp only [List.length_drop, List.length_take]; rfl)) ?_
       with_reducible refine (ih k1 (by have := HK1.out; omega) a0_0 a0_1 (Go.bits .or .i64 a1 (ji14)) (Go.bits .or .i64 a2 (ji14)) t584 _ A17.out).mono ?_
       rintro e w23 ⟨rfl, hb⟩
       refine ⟨_, rfl, ?_⟩
       replace BK581 := kb_ BK581 hb
       replace HB := Aside0.mk (below_step (bv1_ HB GE581) hb)
       (try clear hb)
       (try clear hb2)
       (try clear hk)
       (try clear hi)
       refine hK.out _ _ ⟨(blk_cell BK581.out 0).trans rfl, (blk_cell BK581.out 1).trans rfl⟩ (fun hHeld => ?_)
       clear hK K
       refine no_ 41 ?_
       refine pu_ HT_ 15 42 (bs 19 65535) ?_
       refine pu_ HT_ 16 43 (bs 19 131071) ?_
       refine pu_ HT_ 17 44 (bs 19 262143) ?_
       refine pu_ HT_ 18 7 (bs 19 524287) ?_
       refine done_ (done_of HT_.out (by kernel_rfl)) ?_
       try go_wp2
       go_roundg k1
       case measure => have := HK1.out; omega
       case rel => exact ⟨(ji19), (wrap64 (x8_1 + 1)), (by first | rfl | (simp; done) | (simp only [← hji19] <;> (first | rfl | simp)) | (simp [*]; done)), (by first | rfl | (simp; done) | (simp [*]; done)), H', ⟨by have := HK1.out; omega⟩, ⟨by (with_reducible repeat (first | refine blk_drewN ?_ _ | refine blk_drew ?_ | refine blk_alloc ?_ _)); exact BK581.out⟩, ⟨bv1_ HB GE581⟩⟩
      ·rw [if_neg c15] at H
       have c15b0 : ((Go.bits .and .i64 a1 (ji14)) == 0) = false := beq_eq_false_iff_ne.mpr c15
       have c15b1 : ((Go.bits .and .i64 a1 (ji14)) != 0) = true := bne_iff_ne.mpr c15
       have H' := Aside0.mk H
       clear H
       obtain ⟨hcz24_0, hcz24_1, hfz24_0, hfz24_1⟩ := c2_ BK581
       go_wp2
       go_roundg k1
       case measure => have := HK1.out; omega
       case rel => exact ⟨(x7_1), (wrap64 (x8_1 + 1)), (by first | rfl | (simp; done) | (simp [*]; done)), (by first | rfl | (simp; done) | (simp [*]; done)), H', ⟨by have := HK1.out; omega⟩, ⟨by (with_reducible repeat (first | refine blk_drewN ?_ _ | refine blk_drew ?_ | refine blk_alloc ?_ _)); exact BK581.out⟩, ⟨bv1_ HB GE581⟩⟩
     ·rw [if_neg c13] at H
      exact absurd H (by simp)
    ·rw [if_neg c12] at H
     have c12b0 : decide (x8_1 < a0_0) = false := decide_eq_false c12
     clear c12
     obtain rfl := Option.some.inj H
     obtain ⟨hcz25_0, hcz25_1, hfz25_0, hfz25_1⟩ := c2_ BK581
     go_wp2
     go_ret
     exact ⟨by first | rfl | (simp [errW_none, errW_some] <;> rfl) | (simp [*, errW_none, errW_some] <;> rfl), bv1_ HB GE581⟩


end Go.Proofs.Ytflnlnkbepoimaa.P
