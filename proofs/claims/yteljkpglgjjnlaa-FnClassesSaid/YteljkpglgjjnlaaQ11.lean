-- Out of the translation, by this session's program over the printer's; Lean checks it.
import Derived.Test.YteljkpglgjjnlaaSh
import Derived.Test.YteljkpglgjjnlaaQ0
import Derived.Test.YteljkpglgjjnlaaQ4
import Derived.Test.YteljkpglgjjnlaaQ10
namespace Go.Proofs.Yteljkpglgjjnlaa.P
open Go.RowKit Go.Proofs.YteljkpglgjjnlaaW.PrintWords Go.Proofs.YteljkpglgjjnlaaW.PrintLast Go.Proofs.YteljkpglgjjnlaaW.PrintMore
attribute [local go_sem] max2_int min2_int max_two min_two max_three min_three max_four min_four
set_option linter.unusedVariables false
set_option linter.unusedSimpArgs false

/-! ### impl_asker_all: function 54 -/
/-- The least of the numbers that the first variables give. -/
def impl_asker_all.fold (g : Int → Int → Option Int) (m v inp best : Int) : Nat → Option Int
  | 0 => some best
  | i + 1 => (impl_asker_all.fold g m v inp best i).bind fun b =>
      if Go.bits .and .i64 (shr .i64 m (i : Int)) 1 = 0 then
        (impl_known_with.f m v (i : Int) 0).bind fun k0 => (g k0.1 k0.2).bind fun x => (impl_known_with.f m v (i : Int) 1).bind fun k1 => (g k1.1 k1.2).bind fun y => some (mn b (wrap64 (wrap64 (inp + x) + y)))
      else some b
def impl_asker_all.f (n W : Int) : Nat → Int → Int → Option Int
  | 0, _, _ => none
  | d + 1, m, v => (impl_Table_cube.f n W m v).bind fun c => if c = 2 then (impl_ones.f m).bind fun o => if 0 ≤ wrap64 (n - o) then impl_asker_all.fold (impl_asker_all.f n W d) m v (shl .i64 1 (wrap64 (n - o))) (wrap64 (shl .i64 1 (wrap64 (n - o)) * n)) n.toNat else none else some 0
theorem impl_asker_all.fold_mono {g g' : Int → Int → Option Int} (hg : ∀ m v, LeO (g m v) (g' m v)) (m v inp best : Int) : ∀ i, LeO (impl_asker_all.fold g m v inp best i) (impl_asker_all.fold g' m v inp best i)
  | 0 => LeO.refl _
  | i + 1 => by
    unfold impl_asker_all.fold
    refine LeO.bind (impl_asker_all.fold_mono hg m v inp best i) fun b => ?_
    split
    · exact LeO.bind (LeO.refl _) fun k0 => LeO.bind (hg _ _) fun x => LeO.bind (LeO.refl _) fun k1 => LeO.bind (hg _ _) fun y => LeO.refl _
    · exact LeO.refl _
theorem impl_asker_all.mono (n W : Int) : ∀ d m v, LeO (impl_asker_all.f n W d m v) (impl_asker_all.f n W (d + 1) m v)
  | 0, m, v => fun r h => by simp [impl_asker_all.f] at h
  | d + 1, m, v => by
    rw [impl_asker_all.f, impl_asker_all.f]
    refine LeO.bind (LeO.refl _) fun c => ?_
    split
    · refine LeO.bind (LeO.refl _) fun o => ?_
      split
      · exact impl_asker_all.fold_mono (impl_asker_all.mono n W d) m v _ _ _
      · exact LeO.refl _
    · exact LeO.refl _
theorem impl_asker_all.mono_add (n W m v : Int) (d : Nat) : ∀ e, LeO (impl_asker_all.f n W d m v) (impl_asker_all.f n W (d + e) m v)
  | 0 => LeO.refl _
  | e + 1 => fun r h => impl_asker_all.mono n W (d + e) m v r (impl_asker_all.mono_add n W m v d e r h)
theorem impl_asker_all.uniq {n W m v r r' : Int} {d d' : Nat} (h : impl_asker_all.f n W d m v = some r) (h' : impl_asker_all.f n W d' m v = some r') : r = r' := by
  have h1 := impl_asker_all.mono_add n W m v d d' r h
  have h2 := impl_asker_all.mono_add n W m v d' d r' h'
  rw [Nat.add_comm] at h2
  exact Option.some.inj (h1.symm.trans h2)
theorem impl_asker_all.fold_prefix {g : Int → Int → Option Int} {m v inp best r : Int} {N : Nat} (h : impl_asker_all.fold g m v inp best N = some r) : ∀ j, j ≤ N → ∃ b, impl_asker_all.fold g m v inp best j = some b := by
  induction N generalizing r with
  | zero => intro j hj; obtain rfl : j = 0 := by omega
            exact ⟨_, h⟩
  | succ N ih =>
    intro j hj
    by_cases e : j = N + 1
    · subst e; exact ⟨_, h⟩
    · obtain ⟨b, hb, _⟩ := Option.bind_eq_some_iff.mp h
      exact ih hb j (by omega)
/-- What the memo of depths holds. -/
def impl_asker_all.R (n W m v c : Int) : Prop := ∃ d, impl_asker_all.f n W d m v = some c
/-- So many entries come at most. -/
def impl_asker_all.cost : Nat → Nat
  | 0 => 1
  | d + 1 => 10 * impl_asker_all.cost d + 1
theorem impl_asker_all.wrap_wf (x : Int) : (Lit.int .i64 (IntKind.i64.wrap x)).wf = true := by rw [IntKind.wrap_i64]; exact WalkArith.wf_i64 (by omega)
theorem impl_asker_all.with_wf {m v i b r1 r2 : Int} (h : impl_known_with.f m v i b = some (r1, r2)) : (Lit.int .i64 r1).wf = true ∧ (Lit.int .i64 r2).wf = true := by
  unfold impl_known_with.f at h
  split at h
  · cases h
    exact ⟨impl_asker_all.wrap_wf _, impl_asker_all.wrap_wf _⟩
  · cases h
theorem impl_asker_all.fold_wf {g : Int → Int → Option Int} {m v inp best r : Int} (hb : (Lit.int .i64 best).wf = true) : ∀ {j : Nat}, impl_asker_all.fold g m v inp best j = some r → (Lit.int .i64 r).wf = true := by
  intro j
  induction j generalizing r with
  | zero => intro h; cases h; exact hb
  | succ j ih =>
    intro h
    rw [impl_asker_all.fold] at h
    obtain ⟨b, h1, h⟩ := Option.bind_eq_some_iff.mp h
    have hb1 := ih h1
    split at h
    · obtain ⟨_, _, h⟩ := Option.bind_eq_some_iff.mp h
      obtain ⟨_, _, h⟩ := Option.bind_eq_some_iff.mp h
      obtain ⟨_, _, h⟩ := Option.bind_eq_some_iff.mp h
      obtain ⟨_, _, h⟩ := Option.bind_eq_some_iff.mp h
      cases h
      unfold mn
      split
      · exact wrap64_wf _
      · exact hb1
    · cases h; exact hb1
theorem impl_asker_all.wf {n W m v r : Int} {d : Nat} (h : impl_asker_all.f n W d m v = some r) : (Lit.int .i64 r).wf = true := by
  cases d with
  | zero => simp [impl_asker_all.f] at h
  | succ d =>
    rw [impl_asker_all.f] at h
    obtain ⟨c, hc, h⟩ := Option.bind_eq_some_iff.mp h
    have hn : 0 ≤ n ∧ n ≤ 5 := by
      unfold impl_Table_cube.f at hc
      split at hc
      · assumption
      · cases hc
    split at h
    · obtain ⟨_, _, h⟩ := Option.bind_eq_some_iff.mp h
      split at h
      · exact impl_asker_all.fold_wf (wrap64_wf _) h
      · cases h
    · cases h; decide
theorem impl_asker_all.range {n W m v r : Int} {d : Nat} (h : impl_asker_all.f n W d m v = some r) : 0 ≤ n ∧ n ≤ 5 := by
  cases d with
  | zero => simp [impl_asker_all.f] at h
  | succ d =>
    rw [impl_asker_all.f] at h
    obtain ⟨c, hc, h⟩ := Option.bind_eq_some_iff.mp h
    unfold impl_Table_cube.f at hc
    split at hc
    · assumption
    · cases hc
set_option maxHeartbeats 4000000 in
set_option maxRecDepth 100000 in
theorem impl_asker_all.calls (n W : Int) (hn : 0 ≤ n ∧ n ≤ 5) (RD : Int → Int → Int → Prop) (g BD BS : Nat) : ∀ (d : Nat) (m v r : Int) (k : Nat) (w : World), impl_asker_all.f n W d m v = some r → (Lit.int .i64 m).wf = true → (Lit.int .i64 v).wf = true →
    impl_Table_asking.S n W RD (impl_asker_all.R n W) g BD BS k w → k + impl_asker_all.cost d < 4294967296 →
    Calls Try.prog 54 #[.pointer (some ⟨g, 0, none⟩), .agg #[.int .i64 m, .int .i64 v]] w fun e w' => e = .returned (.int .i64 r) ∧ impl_Table_asking.S n W RD (impl_asker_all.R n W) g BD BS (k + impl_asker_all.cost d) w' ∧ w.grownBy w' (some BS) := by
  intro d
  induction d with
  | zero => intro m v r k w h; simp [impl_asker_all.f] at h
  | succ d ih =>
    intro m v r k w h wm wv hS hk
    have IH := Aside0.mk ih
    have A := Aside0.mk h
    have HS := Aside0.mk hS
    have hu := Try.underlying73
    have hua := Try.underlying93
    have hut := Try.underlying25
    clear ih h hS
    go_enter Try.func54, Try.ntmps54
    go_wp2_with ((with_reducible refine gate_dst (N := 3) rfl ?_); refine box_event ?hg (N := 3) ?hd (cs := #[.int .i64 m, .int .i64 v]) (t := 73) ?hr ?_; (case hd => rfl); (case hg => rfl); (case hr => first | (go_simp; done) | (go_simp; rfl)); intro gb hg w1 hbox hb; have S1 := Aside0.mk (HS.out.kept hb); have RK := Aside0.mk hbox; have GE := Aside0.mk (Nat.le_of_eq hg.symm); have G1 := Aside0.mk (grown_of_below hb (some BS)); clear hg hbox hb; obtain ⟨c, b, hrun, hR⟩ := (S1.out.kept (below_drew1 (Below.refl w1.heap.size w1))).sum.look wm wv; have HR := Aside0.mk hR; clear hR; have c0 := (blk_cell S1.out.blk 0).trans rfl; have c1 := (blk_cell S1.out.blk 1).trans rfl; have c2 := (blk_cell S1.out.blk 2).trans rfl; have c3 := (blk_cell S1.out.blk 3).trans rfl; have k0 := (blk_cell RK.out 0).trans rfl; have k1 := (blk_cell RK.out 1).trans rfl)
    go_region
    have S2 := Aside0.mk (S1.out.kept (below_drew1 (Below.refl w1.heap.size w1)))
    have RK2 := Aside0.mk (blk_drew RK.out)
    have G2 := Aside0.mk (show w.grownBy w1.drew (some BS) from ⟨G1.out.os, G1.out.tape, G1.out.output, G1.out.size, G1.out.block⟩)
    clear S1 RK G1 hrun c0 c1 c2 c3 k0 k1
    generalize w1.drew = w2 at S2 RK2 G2 ⊢
    have c0 := (blk_cell S2.out.blk 0).trans rfl
    have c1 := (blk_cell S2.out.blk 1).trans rfl
    have c2 := (blk_cell S2.out.blk 2).trans rfl
    have c3 := (blk_cell S2.out.blk 3).trans rfl
    have k0 := (blk_cell RK2.out 0).trans rfl
    have k1 := (blk_cell RK2.out 1).trans rfl
    cases b with
    | true =>
      have hcr : c = r := by
        obtain ⟨d', h'⟩ := HR.out rfl
        exact impl_asker_all.uniq h' A.out
      subst hcr
      go_wp2_with fail
      go_ret
      exact ⟨rfl, S2.out.mono (by omega), G2.out⟩
    | false =>
      obtain ⟨t, ht, h2⟩ := Option.bind_eq_some_iff.mp A.out
      have AT := Aside0.mk ht
      have A2 := Aside0.mk h2
      clear ht h2 HR
      by_cases h2 : t = 2
      · subst h2
        have h2 := A2.out
        rw [if_pos rfl] at h2
        obtain ⟨o, ho, h2⟩ := Option.bind_eq_some_iff.mp h2
        have AO := Aside0.mk ho
        by_cases h0 : 0 ≤ wrap64 (n - o)
        case neg => rw [if_neg h0] at h2; exact absurd h2 (by simp)
        rw [if_pos h0] at h2
        obtain ⟨s, hs⟩ : ∃ s, wrap64 (n - o) = s := ⟨_, rfl⟩
        rw [hs] at h0 h2
        have hs2 : IntKind.i64.wrap (n - o) = s := by rw [i64_w]; exact hs
        have hs0 : decide (0 ≤ s) = true := decide_eq_true h0
        obtain ⟨inp, hi⟩ : ∃ i, shl .i64 1 s = i := ⟨_, rfl⟩
        rw [hi] at h2
        have hji_ : (IntKind.i64.wrap (1 * 2 ^ min s.toNat 64)) = inp := hi
        have hjiz : s ≤ 64 → (IntKind.i64.wrap (1 * 2 ^ s.toNat)) = inp := shl_small hi
        have hjiu : (IntKind.i64.wrap (2 ^ min s.toNat 64)) = inp := by have h_ := hji_; rw [Int.one_mul] at h_; exact h_
        have hjiv : s ≤ 64 → (IntKind.i64.wrap (2 ^ s.toNat)) = inp := fun hle_ => by have h_ := hjiz hle_; rw [Int.one_mul] at h_; exact h_
        have hjiy : (wrap64 (1 * 2 ^ min s.toNat 64)) = inp := (i64_w _).symm.trans hji_
        have hjix : s ≤ 64 → (wrap64 (1 * 2 ^ s.toNat)) = inp := fun h_ => (i64_w _).symm.trans (hjiz h_)
        have AF := Aside0.mk h2
        clear h2 A2 ho hi
        go_wp2_with fail
        go_region_held3 (fun w' => w'.cell? ⟨g, 0, none⟩ = some (.int .i64 n) ∧ w'.cell? ⟨g, 1, none⟩ = some (.int .i64 W) ∧ w'.cell? ⟨gb, 0, none⟩ = some (.int .i64 m) ∧ w'.cell? ⟨gb, 1, none⟩ = some (.int .i64 v)) (first | go_keep | exact ⟨pw_cell_below hb3 c0, pw_cell_below hb3 c1, pw_cell_below hb3 k0, pw_cell_below hb3 k1⟩) (first | (go_at_call 74; (with_reducible refine (impl_Table_cube.calls n W _ _ _ _ AT.out).mono ?_); rintro e w3 ⟨rfl, hb3⟩))
        have S3 := Aside0.mk (S2.out.kept (below_step (below_drew1 (Below.refl w2.heap.size w2)) hb3))
        have RK3 := Aside0.mk (blk_below (blk_drew RK2.out) hb3)
        have G3 := Aside0.mk (G2.out.trans (grown_of_below (below_step (below_drew1 (Below.refl w2.heap.size w2)) hb3) (some BS)))
        clear S2 RK2 G2 c0 c1 c2 c3 k0 k1 hb3
        have c0 := (blk_cell S3.out.blk 0).trans rfl
        have k0 := (blk_cell RK3.out 0).trans rfl
        go_wp2_with fail
        go_region_held3 (fun w' => w'.cell? ⟨g, 0, none⟩ = some (.int .i64 n) ∧ w'.cell? ⟨gb, 0, none⟩ = some (.int .i64 m)) (first | go_keep | exact ⟨pw_cell_below hb4 c0, pw_cell_below hb4 k0⟩) (first | (go_at_call 75; (with_reducible refine (impl_ones.calls m _ _ AO.out).mono ?_); rintro e w4 ⟨rfl, hd4⟩; have hb4 := hd4.below; clear hd4))
        have S4 := Aside0.mk (S3.out.kept (below_step (below_drew1 (Below.refl w3.heap.size w3)) hb4))
        have RK4 := Aside0.mk (blk_below (blk_drew RK3.out) hb4)
        have G4 := Aside0.mk (G3.out.trans (grown_of_below (below_step (below_drew1 (Below.refl w3.heap.size w3)) hb4) (some BS)))
        clear S3 RK3 G3 c0 k0 hb4
        have c0 := (blk_cell S4.out.blk 0).trans rfl
        go_wp2_with fail
        obtain ⟨N, rfl⟩ := Int.eq_ofNat_of_zero_le hn.1
        clear hs hs2 hs0 hji_ hjiz hjiu hjiv hjiy hjix h0
        replace AF : Aside0 (impl_asker_all.fold (impl_asker_all.f N W d) m v inp (wrap64 (inp * N)) N = some r) := AF
        go_loopw [7, 53] (fun x7 x40 wr => ∃ (j : Nat) (b : Int), j ≤ N ∧ x7 = .int .i64 b ∧ x40 = .int .i64 (j : Int) ∧ Aside0 (impl_asker_all.fold (impl_asker_all.f N W d) m v inp (wrap64 (inp * N)) j = some b) ∧ Aside0 (impl_Table_asking.S N W RD (impl_asker_all.R N W) g BD BS (k + 2 * j * impl_asker_all.cost d) wr) ∧ Aside0 (wr.heap[gb]? = some (.cells #[.int .i64 m, .int .i64 v] 73 (0, 0))) ∧ Aside0 (w.grownBy wr (some BS))) (fun _ x40 _ => N - (intOf x40).toNat)
        case atStart => exact ⟨0, _, Nat.zero_le _, rfl, rfl, ⟨rfl⟩, ⟨by simpa using S4.out⟩, RK4, G4⟩
        case round =>
          obtain ⟨j, b, hj, rfl, rfl, AJ, SJ, RJ, GJ⟩ := hrel
          have k0 := (blk_cell RJ.out 0).trans rfl
          have k1 := (blk_cell RJ.out 1).trans rfl
          by_cases hlt : j < N
          · obtain ⟨b2, hb2⟩ := impl_asker_all.fold_prefix AF.out (j + 1) hlt
            have hb3 := hb2
            rw [impl_asker_all.fold, AJ.out, Option.bind_some] at hb3
            have AN := Aside0.mk hb2
            have hsh : shr .i64 m (j : Int) = m / 2 ^ j := by
              unfold shr
              rw [Int.toNat_natCast, Nat.min_eq_left (show j ≤ IntKind.i64.bits by show j ≤ 64; omega)]
            by_cases hq : Go.bits .and .i64 (shr .i64 m (j : Int)) 1 = 0
            · rw [if_pos hq] at hb3
              obtain ⟨⟨m0, v0⟩, e0, hb3⟩ := Option.bind_eq_some_iff.mp hb3
              obtain ⟨x, ex, hb3⟩ := Option.bind_eq_some_iff.mp hb3
              obtain ⟨⟨m1, v1⟩, e1, hb3⟩ := Option.bind_eq_some_iff.mp hb3
              obtain ⟨y, ey, hb3⟩ := Option.bind_eq_some_iff.mp hb3
              have A0 := Aside0.mk e0
              have A1 := Aside0.mk e1
              have AX : Aside0 (impl_asker_all.f N W d m0 v0 = some x) := ⟨ex⟩
              have AY : Aside0 (impl_asker_all.f N W d m1 v1 = some y) := ⟨ey⟩
              have hb4 := Option.some.inj hb3
              have AB := Aside0.mk hb4
              have hne : some gb ≠ some BS := by have := SJ.out.sum.ne RJ.out; simp [this]
              have hqb : (Go.bits .and .i64 (m / 2 ^ j) 1 == 0) = true := by rw [← hsh]; exact beq_iff_eq.mpr hq
              have hc2 : k + 2 * j * impl_asker_all.cost d + impl_asker_all.cost d + impl_asker_all.cost d = k + 2 * (j + 1) * impl_asker_all.cost d := by
                rw [Nat.mul_add, Nat.add_mul]; omega
              have hcj : k + 2 * j * impl_asker_all.cost d + impl_asker_all.cost d + impl_asker_all.cost d < 4294967296 := by
                have h1 : 2 * (j + 1) * impl_asker_all.cost d ≤ 10 * impl_asker_all.cost d := Nat.mul_le_mul_right _ (by omega)
                have h2 : k + (10 * impl_asker_all.cost d + 1) < 4294967296 := hk
                omega
              have HC2 := Aside0.mk hc2
              clear hc2
              clear e0 e1 ex ey hb2 hb3 hb4 hq hsh
              go_wp2_with fail
              go_region_held3 (fun w' => w'.cell? ⟨gb, 0, none⟩ = some (.int .i64 m) ∧ w'.cell? ⟨gb, 1, none⟩ = some (.int .i64 v))
                (first | go_keep | exact ⟨(blk_cell Rd.out 0).trans rfl, (blk_cell Rd.out 1).trans rfl⟩ | exact ⟨(blk_cell Rc.out 0).trans rfl, (blk_cell Rc.out 1).trans rfl⟩ | exact ⟨(blk_cell Rb.out 0).trans rfl, (blk_cell Rb.out 1).trans rfl⟩ | exact ⟨(blk_cell Ra.out 0).trans rfl, (blk_cell Ra.out 1).trans rfl⟩)
                (first
                  | (go_at_call 76; (with_reducible refine (impl_known_with.calls m v _ 0 _ _ _ A0.out).mono ?_); rintro e wa ⟨rfl, hba⟩; have Sa := Aside0.mk (SJ.out.kept (below_step (below_drew1 (Below.refl wr.heap.size wr)) hba)); have Ra := Aside0.mk (blk_below (blk_drew RJ.out) hba); have Ga := Aside0.mk (GJ.out.trans (grown_of_below (below_step (below_drew1 (Below.refl wr.heap.size wr)) hba) (some BS))))
                  | (go_at_call 54; (with_reducible refine (IH.out m0 v0 x _ _ AX.out (impl_asker_all.with_wf A0.out).1 (impl_asker_all.with_wf A0.out).2 Sa.out (by omega)).mono ?_); rintro e wb ⟨rfl, hsb, hgb⟩; have Sb := Aside0.mk hsb; have Rb := Aside0.mk (blk_grown Ra.out hgb hne); have Gb := Aside0.mk (Ga.out.trans hgb); clear hsb hgb)
                  | (go_at_call 76; (with_reducible refine (impl_known_with.calls m v _ 1 _ _ _ A1.out).mono ?_); rintro e wc ⟨rfl, hbc⟩; have Sc := Aside0.mk (Sb.out.kept hbc); have Rc := Aside0.mk (blk_below Rb.out hbc); have Gc := Aside0.mk (Gb.out.trans (grown_of_below hbc (some BS))))
                  | (go_at_call 54; (with_reducible refine (IH.out m1 v1 y _ _ AY.out (impl_asker_all.with_wf A1.out).1 (impl_asker_all.with_wf A1.out).2 Sc.out (by omega)).mono ?_); rintro e wd ⟨rfl, hsd, hgd⟩; have Sd := Aside0.mk hsd; have Rd := Aside0.mk (blk_grown Rc.out hgd hne); have Gd := Aside0.mk (Gc.out.trans hgd); clear hsd hgd))
              go_wp2_with fail
              go_roundw
              case rel => exact ⟨j + 1, b2, by omega, by rw [← AB.out]; simp only [i64_w]; rfl, by go_num, AN, ⟨HC2.out ▸ Sd.out⟩, Rd, Gd⟩
              case measure => simp [intOf]; omega
            · rw [if_neg hq] at hb3
              have hqb : (Go.bits .and .i64 (m / 2 ^ j) 1 == 0) = false := by rw [← hsh]; simpa using hq
              obtain rfl := Option.some.inj hb3
              clear hb2 hb3 hq hsh
              have SJ2 : Aside0 (impl_Table_asking.S N W RD (impl_asker_all.R N W) g BD BS (k + 2 * (j + 1) * impl_asker_all.cost d) wr) := ⟨SJ.out.mono (Nat.add_le_add_left (Nat.mul_le_mul_right _ (by omega)) _)⟩
              go_wp2_with fail
              go_roundw
              case rel => exact ⟨j + 1, b, by omega, rfl, by go_num, AN, SJ2, RJ, GJ⟩
              case measure => simp [intOf]; omega
          · obtain rfl : j = N := by omega
            have hbr : b = r := Option.some.inj (AJ.out.symm.trans AF.out)
            subst hbr
            have hk2 : k + 2 * j * impl_asker_all.cost d + 1 ≤ k + impl_asker_all.cost (d + 1) := by
              have h1 : 2 * j * impl_asker_all.cost d ≤ 10 * impl_asker_all.cost d := Nat.mul_le_mul_right _ (by omega)
              show _ ≤ k + (10 * impl_asker_all.cost d + 1)
              omega
            have HK2 := Aside0.mk hk2
            have c3 := (blk_cell SJ.out.blk 3).trans rfl
            have S4 := Aside0.mk (SJ.out.kept (below_drew1 (Below.refl wr.heap.size wr)))
            obtain ⟨w5, hrun, hm5, ht5⟩ := S4.out.sum.store (by unfold maxLen; omega) wm wv (c := b) (impl_asker_all.wf A.out) ⟨_, A.out⟩
            have M5 := Aside0.mk hm5
            have T5 := Aside0.mk ht5
            clear hm5 ht5 hk2
            go_wp2_with fail
            go_region
            go_wp2_with fail
            go_ret
            exact ⟨rfl, (S4.out.stored2 M5.out T5.out).mono HK2.out, GJ.out.trans (World.grownBy.trans (grown_of_below (below_drew1 (Below.refl wr.heap.size wr)) (some BS)) T5.out.grown)⟩
      · have hr : r = 0 := by
          have := A2.out
          rw [if_neg h2] at this
          exact (Option.some.inj this).symm
        subst hr
        have hb2 : (t == 2) = false := by simpa using h2
        go_wp2_with fail
        go_region_held3 (fun w' => w'.cell? ⟨g, 0, none⟩ = some (.int .i64 n) ∧ w'.cell? ⟨g, 1, none⟩ = some (.int .i64 W) ∧ w'.cell? ⟨gb, 0, none⟩ = some (.int .i64 m) ∧ w'.cell? ⟨gb, 1, none⟩ = some (.int .i64 v)) (first | go_keep | exact ⟨pw_cell_below hb3 c0, pw_cell_below hb3 c1, pw_cell_below hb3 k0, pw_cell_below hb3 k1⟩) (first | (go_at_call 74; (with_reducible refine (impl_Table_cube.calls n W _ _ _ _ AT.out).mono ?_); rintro e w3 ⟨rfl, hb3⟩))
        go_wp2_with fail
        have S3 := Aside0.mk (S2.out.kept (below_step (below_drew1 (Below.refl w2.heap.size w2)) hb3))
        have RK3 := Aside0.mk (blk_below (blk_drew RK2.out) hb3)
        have G3 := Aside0.mk (G2.out.trans (grown_of_below (below_step (below_drew1 (Below.refl w2.heap.size w2)) hb3) (some BS)))
        clear S2 RK2 G2 c0 c1 c2 c3 k0 k1 hb3
        have c3 := (blk_cell S3.out.blk 3).trans rfl
        have k0 := (blk_cell RK3.out 0).trans rfl
        have k1 := (blk_cell RK3.out 1).trans rfl
        have S4 := Aside0.mk (S3.out.kept (below_drew1 (Below.refl w3.heap.size w3)))
        obtain ⟨w5, hrun, hm5, ht5⟩ := S4.out.sum.store (by unfold maxLen; omega) wm wv (c := 0) (by decide) ⟨_, A.out⟩
        have M5 := Aside0.mk hm5
        have T5 := Aside0.mk ht5
        clear hm5 ht5
        go_region
        go_wp2_with fail
        go_ret
        exact ⟨rfl, (S4.out.stored2 M5.out T5.out).mono (by show k + 1 ≤ k + (10 * impl_asker_all.cost d + 1); omega), G3.out.trans (World.grownBy.trans (grown_of_below (below_drew1 (Below.refl w3.heap.size w3)) (some BS)) T5.out.grown)⟩


/-! ### impl_LeastAverage: function 22 -/
def impl_LeastAverage.f (a0_0 a0_1 : Int) : Option Int := (impl_isSmall.f a0_0 a0_1 4).bind fun b => if b = true then impl_asker_all.f a0_0 a0_1 6 0 0 else some (-1)
set_option maxHeartbeats 4000000 in
set_option maxRecDepth 100000 in
theorem impl_LeastAverage.calls (a0_0 a0_1 r : Int) (w : World) (h : impl_LeastAverage.f a0_0 a0_1 = some r) :
    Calls Try.prog 22 #[.agg #[.int .i64 a0_0, .int .i64 a0_1]] w fun e w' => e = .returned (.int .i64 r) ∧ Below w.heap.size w w' := by
  have hu := Try.underlying25
  have huk := Try.underlying73
  unfold impl_LeastAverage.f at h
  obtain ⟨b, hb, h⟩ := Option.bind_eq_some_iff.mp h
  have AS := Aside0.mk hb
  cases b with
  | false =>
    have hr := Option.some.inj h
    subst hr
    clear h hb
    go_enter Try.func22, Try.ntmps22
    go_wp2_with (first | ((with_reducible refine gate_dst (N := 1) rfl ?_); refine box_event ?hg (N := 1) ?hd (cs := #[.int .i64 a0_0, .int .i64 a0_1]) (t := 25) ?hr ?_; (case hd => rfl); (case hg => rfl); (case hr => first | (go_simp; done) | (go_simp; rfl)); intro gb hg w1 hbox hb; have HB1 := Aside0.mk hb; have RK := Aside0.mk hbox; clear hg hbox hb; have k0 := (blk_cell RK.out 0).trans rfl; have k1 := (blk_cell RK.out 1).trans rfl) | (go_at_call 41; (with_reducible refine (impl_isSmall.calls a0_0 a0_1 4 _ _ AS.out).mono ?_); rintro e w2 ⟨rfl, hb2⟩; have HB2 := Aside0.mk (below_step HB1.out hb2); have RK2 := Aside0.mk (blk_below RK.out hb2); clear hb2; have k0 := (blk_cell RK2.out 0).trans rfl; have k1 := (blk_cell RK2.out 1).trans rfl))
    go_ret
    exact ⟨rfl, HB2.out⟩
  | true =>
    rw [if_pos rfl] at h
    have AF := Aside0.mk h
    have hn := impl_asker_all.range AF.out
    clear h hb
    go_enter Try.func22, Try.ntmps22
    go_wp2_with (first | ((with_reducible refine gate_dst (N := 1) rfl ?_); refine box_event ?hg (N := 1) ?hd (cs := #[.int .i64 a0_0, .int .i64 a0_1]) (t := 25) ?hr ?_; (case hd => rfl); (case hg => rfl); (case hr => first | (go_simp; done) | (go_simp; rfl)); intro gb hg w1 hbox hb; have HB1 := Aside0.mk hb; have RK := Aside0.mk hbox; clear hg hbox hb; have k0 := (blk_cell RK.out 0).trans rfl; have k1 := (blk_cell RK.out 1).trans rfl) | (go_at_call 41; (with_reducible refine (impl_isSmall.calls a0_0 a0_1 4 _ _ AS.out).mono ?_); rintro e w2 ⟨rfl, hb2⟩; have HB2 := Aside0.mk (below_step HB1.out hb2); have RK2 := Aside0.mk (blk_below RK.out hb2); clear hb2; have k0 := (blk_cell RK2.out 0).trans rfl; have k1 := (blk_cell RK2.out 1).trans rfl) | (go_at_call 53; (with_reducible refine (impl_Table_asking.calls a0_0 a0_1 (fun _ _ _ => True) (impl_asker_all.R a0_0 a0_1) _).mono ?_); rintro e w3 ⟨g, BD, BS, rfl, hS, hg, hd, hs, hb3⟩; have HS := Aside0.mk hS; have HG := Aside0.mk (And.intro hd hs); have HB3 := Aside0.mk (below_step HB2.out hb3); have HW := Aside0.mk HB2.out.size; clear hS hg hd hs hb3) | (go_at_call 54; (with_reducible refine (impl_asker_all.calls a0_0 a0_1 hn _ g BD BS 6 0 0 r 0 _ AF.out (by decide) (by decide) HS.out (by decide)).mono ?_); rintro e w4 ⟨rfl, hS4, hg4⟩; have G4 := Aside0.mk hg4; clear hS4 hg4))
    go_ret
    exact ⟨rfl, pw_below_grown HB3.out _ HB3.out.size G4.out (by intro k hk; cases hk; exact Nat.le_trans HW.out HG.out.2)⟩


/-! ### spec_l1Once: function 77 -/
def spec_l1Once.f (s0_0 : List Int) (s0_1 : Int) (s0_2 : Int) (a1 : Int) : Option (Bool × Int × Int) := (spec_l1Below.f s0_0 s0_1 s0_2 a1).bind fun bt895 => (some ((bt895.1 == 0), bt895.2.1, bt895.2.2))
set_option maxHeartbeats 8000000 in
set_option maxRecDepth 100000 in
theorem spec_l1Once.calls (g : Nat) (s0_0 : List Int) (s0_1 : Int) (s0_2 : Int) (a1 : Int) (r1 : Bool) (r2 : Int) (r3 : Int) (w0 w : World) (hI : IsS87 w0 w g s0_0 s0_1 s0_2) (hB : Below w0.heap.size w0 w) (h : spec_l1Once.f s0_0 s0_1 s0_2 a1 = some (r1, r2, r3)) :
  Calls Try.prog 77 #[.pointer (some ⟨g, 0, none⟩), .int .i64 a1] w fun e w' => e = .returned (.bool r1) ∧ IsS87 w0 w' g s0_0 r2 r3 ∧ Below w0.heap.size w0 w' ∧ KeepBut w w' g none := by
 have HI0 := Aside0.mk hI
 have HK := Aside0.mk (KeepBut.refl w g none)
 have HL := Aside0.mk hB.size
 clear hI
 have HW0 := Aside0.mk hB.size
 have HB := Aside0.mk hB
 clear hB
 have H : ((spec_l1Below.f s0_0 s0_1 s0_2 a1).bind fun bt895 => (some ((bt895.1 == 0), bt895.2.1, bt895.2.2))) = some (r1, r2, r3) := h
 clear h
 replace H := Option.bind_eq_some_iff.mp H
 obtain ⟨⟨t895, t896, t897⟩, A30, H⟩ := H
 replace H : (some ((t895 == 0), t896, t897)) = some (r1, r2, r3) := H
 have A3 := Aside0.mk A30
 clear A30
 simp only [Option.some.injEq, Prod.mk.injEq] at H
 obtain ⟨rfl, rfl, rfl⟩ := H
 go_enter Try.func77, Try.ntmps77
 go_wp2_with (first | ((with_reducible refine gate_callee (f := 56) rfl ?_); refine gl_ 7 Try.func56 #[.pointer (some ⟨g, 0, none⟩), .int .i64 a1] rfl mp_ ?_; (with_reducible refine (spec_l1Below.calls g s0_0 s0_1 s0_2 a1 t895 t896 t897 w0 _ ?side1 ?side2 A3.out).mono ?_); (case side1 => exact ia_ HI0); (case side2 => exact bi_ HB HI0); rintro e w4 ⟨rfl, hi, hb, hk⟩; refine ⟨_, rfl, ?_⟩; replace HK := Aside0.mk (KeepBut.trans (ka_ HK) hk (.inl rfl)); replace HB := Aside0.mk (hb); replace HI0 := Aside0.mk (hi); (try clear hb); (try clear hb2); (try clear hk); (try clear hi)))
 go_ret
 exact ⟨er_, ia_ HI0, bi_ HB HI0, ka_ HK⟩


end Go.Proofs.Yteljkpglgjjnlaa.P
