-- Out of the translation, by this session's program over the printer's; Lean checks it.
import Derived.Test.YtkipjpfkdkkpdaaPx0
import Derived.Test.YtkipjpfkdkkpdaaPx1
import Derived.Test.YtkipjpfkdkkpdaaPx8
import Derived.Test.YtkipjpfkdkkpdaaPx11
namespace Go.Proofs.Ytkipjpfkdkkpdaa.P
open Go.RowKit Go.Proofs.YtkipjpfkdkkpdaaW.PrintWords Go.Proofs.YtkipjpfkdkkpdaaW.PrintLast Go.Proofs.YtkipjpfkdkkpdaaW.PrintMore
attribute [local go_sem] max2_int min2_int max_two min_two max_three min_three max_four min_four   -- for this text's walks alone
set_option linter.unusedVariables false
set_option linter.unusedSimpArgs false

/-! ### impl_asker_answer: function 40 -/
def impl_asker_answer.f (n W m v i : Int) : Option Int :=
  (impl_known_with.f m v i 1).bind fun k1 => (impl_asker_left.f n W 6 k1.1 k1.2).bind fun y => (impl_known_with.f m v i 0).bind fun k0 => (impl_asker_left.f n W 6 k0.1 k0.2).bind fun x => some (if x < y then 1 else 0)
set_option maxHeartbeats 4000000 in
set_option maxRecDepth 100000 in
theorem impl_asker_answer.calls (n W : Int) (RS : Int → Int → Int → Prop) (g BD BS : Nat) (m v i r : Int) (k : Nat) (w : World) (h : impl_asker_answer.f n W m v i = some r)
    (hS : impl_Table_asking.S n W (impl_asker_left.R n W) RS g BD BS k w) (hk : k + impl_asker_left.cost 6 + impl_asker_left.cost 6 < 4294967296) :
    Calls Try.prog 40 #[.pointer (some ⟨g, 0, none⟩), .agg #[.int .i64 m, .int .i64 v], .int .i64 i] w fun e w' => e = .returned (.int .i64 r) ∧ impl_Table_asking.S n W (impl_asker_left.R n W) RS g BD BS (k + impl_asker_left.cost 6 + impl_asker_left.cost 6) w' ∧ w.grownBy w' (some BD) := by
  have hu := Try.underlying53
  unfold impl_asker_answer.f at h
  obtain ⟨⟨m1, v1⟩, e1, h⟩ := Option.bind_eq_some_iff.mp h
  obtain ⟨y, ey, h⟩ := Option.bind_eq_some_iff.mp h
  obtain ⟨⟨m0, v0⟩, e0, h⟩ := Option.bind_eq_some_iff.mp h
  obtain ⟨x, ex, h⟩ := Option.bind_eq_some_iff.mp h
  have A0 := Aside0.mk e0
  have A1 := Aside0.mk e1
  have hn := impl_asker_left.range ey
  have AX : Aside0 (impl_asker_left.f n W 6 m0 v0 = some x) := ⟨ex⟩
  have AY : Aside0 (impl_asker_left.f n W 6 m1 v1 = some y) := ⟨ey⟩
  have AR := Aside0.mk (Option.some.inj h)
  have HS := Aside0.mk hS
  have hkk : k + impl_asker_left.cost 6 < 4294967296 := by omega
  have IH := Aside0.mk (fun m v r k w => impl_asker_left.calls n W hn RS g BD BS 6 m v r k w)
  generalize impl_asker_left.cost 6 = K at hk hkk IH ⊢
  clear h e0 e1 ex ey hS
  have HK := Aside0.mk hk
  clear hk
  by_cases hxy : x < y
  · have hr := AR.out
    rw [if_pos hxy] at hr
    subst hr
    have hd : decide (x < y) = true := decide_eq_true hxy
    clear AR hxy
    go_enter Try.func40, Try.ntmps40
    go_wp2_with ((with_reducible refine gate_dst (N := 4) rfl ?_); refine box_event ?hg (N := 4) ?hd (cs := #[.int .i64 m, .int .i64 v]) (t := 53) ?hr ?_; (case hd => rfl); (case hg => rfl); (case hr => first | (go_simp; done) | (go_simp; rfl)); intro gb hg w1 hbox hb; have S1 := Aside0.mk (HS.out.kept hb); have RK := Aside0.mk hbox; have G1 := Aside0.mk (grown_of_below hb (some BD)); clear hg hbox hb; have k0 := (blk_cell RK.out 0).trans rfl; have k1 := (blk_cell RK.out 1).trans rfl)
    have hne : some gb ≠ some BD := by have := S1.out.depth.ne RK.out; simp [this]
    go_region_held3 (fun w' => w'.cell? ⟨gb, 0, none⟩ = some (.int .i64 m) ∧ w'.cell? ⟨gb, 1, none⟩ = some (.int .i64 v))
      (first | go_keep | exact ⟨(blk_cell Rd.out 0).trans rfl, (blk_cell Rd.out 1).trans rfl⟩ | exact ⟨(blk_cell Rc.out 0).trans rfl, (blk_cell Rc.out 1).trans rfl⟩ | exact ⟨(blk_cell Rb.out 0).trans rfl, (blk_cell Rb.out 1).trans rfl⟩ | exact ⟨(blk_cell Ra.out 0).trans rfl, (blk_cell Ra.out 1).trans rfl⟩)
      (first
        | (go_at_call 47; (with_reducible refine (impl_known_with.calls m v _ 1 _ _ _ A1.out).mono ?_); rintro e wa ⟨rfl, hba⟩; have Sa := Aside0.mk (S1.out.kept (below_step (below_drew1 (Below.refl w1.heap.size w1)) hba)); have Ra := Aside0.mk (blk_below (blk_drew RK.out) hba); have Ga := Aside0.mk (G1.out.trans (grown_of_below (below_step (below_drew1 (Below.refl w1.heap.size w1)) hba) (some BD))))
        | (go_at_call 38; (with_reducible refine (IH.out m1 v1 y _ _ AY.out (impl_asker_left.with_wf A1.out).1 (impl_asker_left.with_wf A1.out).2 Sa.out hkk).mono ?_); rintro e wb ⟨rfl, hsb, hgb⟩; have Sb := Aside0.mk hsb; have Rb := Aside0.mk (blk_grown Ra.out hgb hne); have Gb := Aside0.mk (Ga.out.trans hgb); clear hsb hgb)
        | (go_at_call 47; (with_reducible refine (impl_known_with.calls m v _ 0 _ _ _ A0.out).mono ?_); rintro e wc ⟨rfl, hbc⟩; have Sc := Aside0.mk (Sb.out.kept hbc); have Rc := Aside0.mk (blk_below Rb.out hbc); have Gc := Aside0.mk (Gb.out.trans (grown_of_below hbc (some BD))))
        | (go_at_call 38; (with_reducible refine (IH.out m0 v0 x _ _ AX.out (impl_asker_left.with_wf A0.out).1 (impl_asker_left.with_wf A0.out).2 Sc.out HK.out).mono ?_); rintro e wd ⟨rfl, hsd, hgd⟩; have Sd := Aside0.mk hsd; have Rd := Aside0.mk (blk_grown Rc.out hgd hne); have Gd := Aside0.mk (Gc.out.trans hgd); clear hsd hgd))
    go_wp2_with fail
    go_ret
    exact ⟨rfl, Sd.out, Gd.out⟩
  · have hr := AR.out
    rw [if_neg hxy] at hr
    subst hr
    have hd : decide (x < y) = false := decide_eq_false hxy
    clear AR hxy
    go_enter Try.func40, Try.ntmps40
    go_wp2_with ((with_reducible refine gate_dst (N := 4) rfl ?_); refine box_event ?hg (N := 4) ?hd (cs := #[.int .i64 m, .int .i64 v]) (t := 53) ?hr ?_; (case hd => rfl); (case hg => rfl); (case hr => first | (go_simp; done) | (go_simp; rfl)); intro gb hg w1 hbox hb; have S1 := Aside0.mk (HS.out.kept hb); have RK := Aside0.mk hbox; have G1 := Aside0.mk (grown_of_below hb (some BD)); clear hg hbox hb; have k0 := (blk_cell RK.out 0).trans rfl; have k1 := (blk_cell RK.out 1).trans rfl)
    have hne : some gb ≠ some BD := by have := S1.out.depth.ne RK.out; simp [this]
    go_region_held3 (fun w' => w'.cell? ⟨gb, 0, none⟩ = some (.int .i64 m) ∧ w'.cell? ⟨gb, 1, none⟩ = some (.int .i64 v))
      (first | go_keep | exact ⟨(blk_cell Rd.out 0).trans rfl, (blk_cell Rd.out 1).trans rfl⟩ | exact ⟨(blk_cell Rc.out 0).trans rfl, (blk_cell Rc.out 1).trans rfl⟩ | exact ⟨(blk_cell Rb.out 0).trans rfl, (blk_cell Rb.out 1).trans rfl⟩ | exact ⟨(blk_cell Ra.out 0).trans rfl, (blk_cell Ra.out 1).trans rfl⟩)
      (first
        | (go_at_call 47; (with_reducible refine (impl_known_with.calls m v _ 1 _ _ _ A1.out).mono ?_); rintro e wa ⟨rfl, hba⟩; have Sa := Aside0.mk (S1.out.kept (below_step (below_drew1 (Below.refl w1.heap.size w1)) hba)); have Ra := Aside0.mk (blk_below (blk_drew RK.out) hba); have Ga := Aside0.mk (G1.out.trans (grown_of_below (below_step (below_drew1 (Below.refl w1.heap.size w1)) hba) (some BD))))
        | (go_at_call 38; (with_reducible refine (IH.out m1 v1 y _ _ AY.out (impl_asker_left.with_wf A1.out).1 (impl_asker_left.with_wf A1.out).2 Sa.out hkk).mono ?_); rintro e wb ⟨rfl, hsb, hgb⟩; have Sb := Aside0.mk hsb; have Rb := Aside0.mk (blk_grown Ra.out hgb hne); have Gb := Aside0.mk (Ga.out.trans hgb); clear hsb hgb)
        | (go_at_call 47; (with_reducible refine (impl_known_with.calls m v _ 0 _ _ _ A0.out).mono ?_); rintro e wc ⟨rfl, hbc⟩; have Sc := Aside0.mk (Sb.out.kept hbc); have Rc := Aside0.mk (blk_below Rb.out hbc); have Gc := Aside0.mk (Gb.out.trans (grown_of_below hbc (some BD))))
        | (go_at_call 38; (with_reducible refine (IH.out m0 v0 x _ _ AX.out (impl_asker_left.with_wf A0.out).1 (impl_asker_left.with_wf A0.out).2 Sc.out HK.out).mono ?_); rintro e wd ⟨rfl, hsd, hgd⟩; have Sd := Aside0.mk hsd; have Rd := Aside0.mk (blk_grown Rc.out hgd hne); have Gd := Aside0.mk (Gc.out.trans hgd); clear hsd hgd))
    go_wp2_with fail
    go_ret
    exact ⟨rfl, Sd.out, Gd.out⟩

/-! ### impl_AdversaryAnswer: function 16 -/
def impl_AdversaryAnswer.f (a0_0 a0_1 a1 a2 a3 : Int) : Option Int :=
  (impl_isKnown.f a0_0 a0_1 a1 a2).bind fun b => if b = true then (if a3 < 0 then some (-1) else if a0_0 ≤ a3 then some (-1) else if Go.bits .and .i64 (shr .i64 a1 a3) 1 = 1 then some (-1) else impl_asker_answer.f a0_0 a0_1 a1 a2 a3) else some (-1)
set_option maxHeartbeats 4000000 in
set_option maxRecDepth 100000 in
theorem impl_AdversaryAnswer.calls (a0_0 a0_1 a1 a2 a3 r : Int) (w : World) (h : impl_AdversaryAnswer.f a0_0 a0_1 a1 a2 a3 = some r) :
    Calls Try.prog 16 #[.agg #[.int .i64 a0_0, .int .i64 a0_1], .int .i64 a1, .int .i64 a2, .int .i64 a3] w fun e w' => e = .returned (.int .i64 r) ∧ Below w.heap.size w w' := by
  have hu := Try.underlying25
  have huk := Try.underlying53
  unfold impl_AdversaryAnswer.f at h
  obtain ⟨b, hb, h⟩ := Option.bind_eq_some_iff.mp h
  have AS := Aside0.mk hb
  cases b with
  | false =>
    have hr := Option.some.inj h
    subst hr
    clear h hb
    go_enter Try.func16, Try.ntmps16
    go_wp2_with (first | ((with_reducible refine gate_dst (N := 4) rfl ?_); refine box_event ?hg (N := 4) ?hd (cs := #[.int .i64 a0_0, .int .i64 a0_1]) (t := 25) ?hr ?_; (case hd => rfl); (case hg => rfl); (case hr => first | (go_simp; done) | (go_simp; rfl)); intro gb hg w1 hbox hb; have HB1 := Aside0.mk hb; have RK := Aside0.mk hbox; clear hg hbox hb; have k0 := (blk_cell RK.out 0).trans rfl; have k1 := (blk_cell RK.out 1).trans rfl) | (go_at_call 36; (with_reducible refine (impl_isKnown.calls a0_0 a0_1 a1 a2 _ _ AS.out).mono ?_); rintro e w2 ⟨rfl, hb2⟩; have HB2 := Aside0.mk (below_step HB1.out hb2); have RK2 := Aside0.mk (blk_below RK.out hb2); clear hb2; have k0 := (blk_cell RK2.out 0).trans rfl; have k1 := (blk_cell RK2.out 1).trans rfl))
    go_ret
    exact ⟨rfl, HB2.out⟩
  | true =>
    rw [if_pos rfl] at h
    by_cases h1 : a3 < 0
    · rw [if_pos h1] at h
      have hr := Option.some.inj h
      subst hr
      have h1b : decide (a3 < 0) = true := decide_eq_true h1
      clear h hb h1
      go_enter Try.func16, Try.ntmps16
      go_wp2_with (first | ((with_reducible refine gate_dst (N := 4) rfl ?_); refine box_event ?hg (N := 4) ?hd (cs := #[.int .i64 a0_0, .int .i64 a0_1]) (t := 25) ?hr ?_; (case hd => rfl); (case hg => rfl); (case hr => first | (go_simp; done) | (go_simp; rfl)); intro gb hg w1 hbox hb; have HB1 := Aside0.mk hb; have RK := Aside0.mk hbox; clear hg hbox hb; have k0 := (blk_cell RK.out 0).trans rfl; have k1 := (blk_cell RK.out 1).trans rfl) | (go_at_call 36; (with_reducible refine (impl_isKnown.calls a0_0 a0_1 a1 a2 _ _ AS.out).mono ?_); rintro e w2 ⟨rfl, hb2⟩; have HB2 := Aside0.mk (below_step HB1.out hb2); have RK2 := Aside0.mk (blk_below RK.out hb2); clear hb2; have k0 := (blk_cell RK2.out 0).trans rfl; have k1 := (blk_cell RK2.out 1).trans rfl))
      go_ret
      exact ⟨rfl, HB2.out⟩
    · rw [if_neg h1] at h
      have h1b : decide (a3 < 0) = false := decide_eq_false h1
      by_cases h2 : a0_0 ≤ a3
      · rw [if_pos h2] at h
        have hr := Option.some.inj h
        subst hr
        have h2b : decide (a0_0 ≤ a3) = true := decide_eq_true h2
        clear h hb h1 h2
        go_enter Try.func16, Try.ntmps16
        go_wp2_with (first | ((with_reducible refine gate_dst (N := 4) rfl ?_); refine box_event ?hg (N := 4) ?hd (cs := #[.int .i64 a0_0, .int .i64 a0_1]) (t := 25) ?hr ?_; (case hd => rfl); (case hg => rfl); (case hr => first | (go_simp; done) | (go_simp; rfl)); intro gb hg w1 hbox hb; have HB1 := Aside0.mk hb; have RK := Aside0.mk hbox; clear hg hbox hb; have k0 := (blk_cell RK.out 0).trans rfl; have k1 := (blk_cell RK.out 1).trans rfl) | (go_at_call 36; (with_reducible refine (impl_isKnown.calls a0_0 a0_1 a1 a2 _ _ AS.out).mono ?_); rintro e w2 ⟨rfl, hb2⟩; have HB2 := Aside0.mk (below_step HB1.out hb2); have RK2 := Aside0.mk (blk_below RK.out hb2); clear hb2; have k0 := (blk_cell RK2.out 0).trans rfl; have k1 := (blk_cell RK2.out 1).trans rfl))
        go_ret
        exact ⟨rfl, HB2.out⟩
      · rw [if_neg h2] at h
        have h2b : decide (a0_0 ≤ a3) = false := decide_eq_false h2
        have h3 : 0 ≤ a3 := by omega
        have h3b : decide (0 ≤ a3) = true := decide_eq_true h3
        obtain ⟨s, hs⟩ : ∃ s, shr .i64 a1 a3 = s := ⟨_, rfl⟩
        rw [hs] at h
        have hs_ : a1 / 2 ^ min a3.toNat 64 = s := hs
        have hsz : a3 ≤ 64 → a1 / 2 ^ a3.toNat = s := fun hle => by rw [← hs_, Nat.min_eq_left (by omega)]
        by_cases h4 : Go.bits .and .i64 s 1 = 1
        · rw [if_pos h4] at h
          have hr := Option.some.inj h
          subst hr
          have h4b : (Go.bits .and .i64 s 1 == 1) = true := beq_iff_eq.mpr h4
          clear h hb h1 h2 h4 hs
          go_enter Try.func16, Try.ntmps16
          go_wp2_with (first | ((with_reducible refine gate_dst (N := 4) rfl ?_); refine box_event ?hg (N := 4) ?hd (cs := #[.int .i64 a0_0, .int .i64 a0_1]) (t := 25) ?hr ?_; (case hd => rfl); (case hg => rfl); (case hr => first | (go_simp; done) | (go_simp; rfl)); intro gb hg w1 hbox hb; have HB1 := Aside0.mk hb; have RK := Aside0.mk hbox; clear hg hbox hb; have k0 := (blk_cell RK.out 0).trans rfl; have k1 := (blk_cell RK.out 1).trans rfl) | (go_at_call 36; (with_reducible refine (impl_isKnown.calls a0_0 a0_1 a1 a2 _ _ AS.out).mono ?_); rintro e w2 ⟨rfl, hb2⟩; have HB2 := Aside0.mk (below_step HB1.out hb2); have RK2 := Aside0.mk (blk_below RK.out hb2); clear hb2; have k0 := (blk_cell RK2.out 0).trans rfl; have k1 := (blk_cell RK2.out 1).trans rfl))
          go_ret
          exact ⟨rfl, HB2.out⟩
        · rw [if_neg h4] at h
          have h4b : (Go.bits .and .i64 s 1 == 1) = false := by simpa using h4
          have AF := Aside0.mk h
          clear h hb h1 h2 h4 hs
          go_enter Try.func16, Try.ntmps16
          go_wp2_with (first | ((with_reducible refine gate_dst (N := 4) rfl ?_); refine box_event ?hg (N := 4) ?hd (cs := #[.int .i64 a0_0, .int .i64 a0_1]) (t := 25) ?hr ?_; (case hd => rfl); (case hg => rfl); (case hr => first | (go_simp; done) | (go_simp; rfl)); intro gb hg w1 hbox hb; have HB1 := Aside0.mk hb; have RK := Aside0.mk hbox; clear hg hbox hb; have k0 := (blk_cell RK.out 0).trans rfl; have k1 := (blk_cell RK.out 1).trans rfl) | (go_at_call 36; (with_reducible refine (impl_isKnown.calls a0_0 a0_1 a1 a2 _ _ AS.out).mono ?_); rintro e w2 ⟨rfl, hb2⟩; have HB2 := Aside0.mk (below_step HB1.out hb2); have RK2 := Aside0.mk (blk_below RK.out hb2); clear hb2; have k0 := (blk_cell RK2.out 0).trans rfl; have k1 := (blk_cell RK2.out 1).trans rfl) | (go_at_call 37; (with_reducible refine (impl_Table_asking.calls a0_0 a0_1 (impl_asker_left.R a0_0 a0_1) (fun _ _ _ => True) _).mono ?_); rintro e w3 ⟨g, BD, BS, rfl, hS, hg, hd, hs, hb3⟩; have HS := Aside0.mk hS; have HG := Aside0.mk (And.intro hd hs); have HB3 := Aside0.mk (below_step HB2.out hb3); have HW := Aside0.mk HB2.out.size; clear hS hg hd hs hb3) | (go_at_call 40; (with_reducible refine (impl_asker_answer.calls a0_0 a0_1 _ g BD BS a1 a2 a3 r 0 _ AF.out HS.out (by decide)).mono ?_); rintro e w4 ⟨rfl, hS4, hg4⟩; have G4 := Aside0.mk hg4; clear hS4 hg4))
          go_ret
          exact ⟨rfl, pw_below_grown HB3.out _ HB3.out.size G4.out (by intro k hk; cases hk; exact Nat.le_trans HW.out HG.out.1)⟩

end Go.Proofs.Ytkipjpfkdkkpdaa.P
