-- Out of the translation, by this session's program over the printer's; Lean checks it.
import Derived.Test.YteljkpglgjjnlaaSh
import Derived.Test.YteljkpglgjjnlaaQ0
import Derived.Test.YteljkpglgjjnlaaQ4
import Derived.Test.YteljkpglgjjnlaaQ5
namespace Go.Proofs.Yteljkpglgjjnlaa.P
open Go.RowKit Go.Proofs.YteljkpglgjjnlaaW.PrintWords Go.Proofs.YteljkpglgjjnlaaW.PrintLast Go.Proofs.YteljkpglgjjnlaaW.PrintMore
attribute [local go_sem] max2_int min2_int max_two min_two max_three min_three max_four min_four
set_option linter.unusedVariables false
set_option linter.unusedSimpArgs false

/-! ### impl_Table_images: function 44 -/
/-- All blocks but one stand, and nothing was read or written outside. -/
def KeepO (W w' : World) (B : Nat) : Prop := KeepBut W w' B none ∧ w'.os = W.os ∧ w'.tape = W.tape ∧ w'.output = W.output
theorem KeepO.of_below {W w' : World} (h : Below W.heap.size W w') (B : Nat) : KeepO W w' B := ⟨KeepBut.of_below h B none, h.os, h.tape, h.output⟩
theorem KeepO.trans {a b c : World} {B : Nat} (h : KeepO a b B) (k : KeepO b c B) : KeepO a c B := ⟨KeepBut.trans h.1 k.1 (.inl rfl), k.2.1.trans h.2.1, k.2.2.1.trans h.2.2.1, k.2.2.2.trans h.2.2.2⟩
theorem KeepO.set_ {w w1 : World} {g : Nat} (h : KeepO w w1 g) (j : Nat) (u : Value) : KeepO w (w1.setCell ⟨g, j, none⟩ u) g := ⟨KeepBut.set_ h.1 j u, by simpa [World.setCell] using h.2.1, by simpa [World.setCell] using h.2.2.1, by simpa [World.setCell] using h.2.2.2⟩
theorem KeepO.below {w w1 : World} {g : Nat} (h : KeepO w w1 g) {B : Nat} (hg : B ≤ g) (hB : B ≤ w.heap.size) : Below B w w1 := ⟨h.2.1, h.2.2.1, h.2.2.2, h.1.1, fun k hk => h.1.2 k (by omega) (by omega) (by simp)⟩
def impl_Table_images.el (xs : List (List Int)) (i : Int) : List Int := xs.getD i.toNat []
theorem impl_Table_images.el_at {w : World} {A : Option Addr} {n : Nat} {xs : List (List Int)} (h : Kd.C (Kd.slice 3 (Kd.int .i64)) w A n xs) (i : Int) (h0 : 0 ≤ i) (h1 : i < n) : ∃ ad A0 c0, A = some ad ∧ w.cell? (ad.add i.toNat) = some (.slice A0 (impl_Table_images.el xs i).length c0) ∧ (impl_Table_images.el xs i).length ≤ c0 ∧ (Kd.int .i64).C w A0 (impl_Table_images.el xs i).length (impl_Table_images.el xs i) := by
 obtain ⟨ad, c, e, _, hK, hc0⟩ := Kd.C_get h ([] : List Int) i h0 h1
 have hc : ∀ j u, c[j]? = some u → w.cell? (ad.add (i.toNat * 1 + j)) = some u := hc0
 obtain ⟨A0, c0, rfl, l0, g0⟩ := hK
 exact ⟨ad, A0, c0, e, by have hq := hc 0 _ rfl; rwa [Nat.mul_one, Nat.add_zero] at hq, l0, g0⟩
def impl_Table_images.row (H NH : Nat → Int) : Nat → List Int
  | 0 => []
  | x + 1 => impl_Table_images.row H NH x ++ [H x, NH x]
/-- The words of all images, way by way. -/
def impl_Table_images.all (N : Nat) (H NH : Nat → Nat → Int) : Nat → List Int
  | 0 => []
  | j + 1 => impl_Table_images.all N H NH j ++ impl_Table_images.row (H j) (NH j) N
theorem impl_Table_images.mem_row (H NH : Nat → Int) : ∀ N x, x < N → H x ∈ impl_Table_images.row H NH N ∧ NH x ∈ impl_Table_images.row H NH N
  | 0, x, h => absurd h (by omega)
  | N + 1, x, h => by
    simp only [impl_Table_images.row]
    by_cases e : x = N
    · subst e; simp
    · have := impl_Table_images.mem_row H NH N x (by omega)
      exact ⟨List.mem_append_left _ this.1, List.mem_append_left _ this.2⟩
theorem impl_Table_images.mem_all (N : Nat) (H NH : Nat → Nat → Int) : ∀ M j, j < M → ∀ b, b ∈ impl_Table_images.row (H j) (NH j) N → b ∈ impl_Table_images.all N H NH M
  | 0, j, h => absurd h (by omega)
  | M + 1, j, h => fun b hb => by
    simp only [impl_Table_images.all]
    by_cases e : j = M
    · subst e; exact List.mem_append_right _ hb
    · exact List.mem_append_left _ (impl_Table_images.mem_all N H NH M j (by omega) b hb)
/-- The images of a table are these words. -/
def impl_Table_images.Is (n0 W0 : Int) (ws : List Int) : Prop := ∃ (ps : List (List Int)) (N : Nat) (G : Nat → Int) (H NH : Nat → Nat → Int),
  impl_permutations.f n0 = some ps ∧ N ≤ 32 ∧ ps.length ≤ 100 ∧ impl_Table_size.f n0 W0 = some (N : Int) ∧
    (∀ j, j < ps.length → ∃ kq, impl_Table_permute.f kq n0 W0 (impl_Table_images.el ps (j : Int)) = some (n0, G j)) ∧
    (∀ j x, j < ps.length → x < N → impl_Table_shift.f n0 (G j) (x : Int) = some (n0, H j x)) ∧
    (∀ j x, j < ps.length → x < N → impl_Table_not.f n0 (H j x) = some (n0, NH j x)) ∧
    ws = impl_Table_images.all N H NH ps.length ∧ ws.length ≤ 6400 ∧ ∀ b ∈ ws, (Lit.int .i64 b).wf = true
/-! Told by what the callees tell, with more rounds than four variables ask. -/
def impl_Table_images.G (n0 W0 : Int) (ps : List (List Int)) (j : Nat) : Int := ((impl_Table_permute.f 100 n0 W0 (impl_Table_images.el ps (j : Int))).getD (0, 0)).2
def impl_Table_images.H (n0 W0 : Int) (ps : List (List Int)) (j x : Nat) : Int := ((impl_Table_shift.f n0 (impl_Table_images.G n0 W0 ps j) (x : Int)).getD (0, 0)).2
def impl_Table_images.NH (n0 W0 : Int) (ps : List (List Int)) (j x : Nat) : Int := ((impl_Table_not.f n0 (impl_Table_images.H n0 W0 ps j x)).getD (0, 0)).2
def impl_Table_images.ws (n0 W0 : Int) (ps : List (List Int)) (N : Nat) : List Int := impl_Table_images.all N (impl_Table_images.H n0 W0 ps) (impl_Table_images.NH n0 W0 ps) ps.length
def impl_Table_images.good (n0 W0 : Int) (ps : List (List Int)) (N : Nat) : Bool := decide (N ≤ 32 ∧ ps.length ≤ 100 ∧ (∀ j, j < ps.length → impl_Table_permute.f 100 n0 W0 (impl_Table_images.el ps (j : Int)) = some (n0, impl_Table_images.G n0 W0 ps j)) ∧
  (∀ j, j < ps.length → ∀ x, x < N → impl_Table_shift.f n0 (impl_Table_images.G n0 W0 ps j) (x : Int) = some (n0, impl_Table_images.H n0 W0 ps j x)) ∧ (∀ j, j < ps.length → ∀ x, x < N → impl_Table_not.f n0 (impl_Table_images.H n0 W0 ps j x) = some (n0, impl_Table_images.NH n0 W0 ps j x)) ∧
  (impl_Table_images.ws n0 W0 ps N).length ≤ 6400 ∧ ∀ b ∈ impl_Table_images.ws n0 W0 ps N, (Lit.int .i64 b).wf = true)
def impl_Table_images.f (n0 W0 : Int) : Option (List Int) := (impl_permutations.f n0).bind fun ps => (impl_Table_size.f n0 W0).bind fun N => if 0 ≤ N ∧ impl_Table_images.good n0 W0 ps N.toNat = true then some (impl_Table_images.ws n0 W0 ps N.toNat) else none
theorem impl_Table_images.f_is {n0 W0 : Int} {ws : List Int} (h : impl_Table_images.f n0 W0 = some ws) : impl_Table_images.Is n0 W0 ws := by
  unfold impl_Table_images.f at h
  obtain ⟨ps, hp, h⟩ := Option.bind_eq_some_iff.mp h
  obtain ⟨N, hN, h⟩ := Option.bind_eq_some_iff.mp h
  by_cases hg : 0 ≤ N ∧ impl_Table_images.good n0 W0 ps N.toNat = true
  · rw [if_pos hg] at h
    obtain rfl := Option.some.inj h
    obtain ⟨h0, hg⟩ := hg
    obtain ⟨g1, g2, g3, g4, g5, g6, g7⟩ := of_decide_eq_true hg
    exact ⟨ps, N.toNat, _, _, _, hp, g1, g2, by rw [hN, Int.toNat_of_nonneg h0], fun j hj => ⟨100, g3 j hj⟩, fun j x hj hx => g4 j hj x hx, fun j x hj hx => g5 j hj x hx, rfl, g6, g7⟩
  · rw [if_neg hg] at h
    exact absurd h (by simp)
-- EACH closure's number
set_option maxHeartbeats 4000000 in
set_option maxRecDepth 100000 in
theorem impl_Table_images.calls45 {σ : Type} (n0 W0 : Int) (caps : Array Value) (Inv : World → σ → Prop) (B : Nat) (step : σ → Int → σ) (ws : List Int) (s0 : σ) (w : World)
    (hB : B < w.heap.size) (h0 : Inv w s0)
    (hst : ∀ (W W' : World) s, Inv W s → W.heap.size ≤ W'.heap.size → (∀ i, i < w.heap.size → W'.heap[i]? = W.heap[i]?) → Inv W' s)
    (hp : ∀ (W : World) (s : σ) (b : Int), b ∈ ws → Inv W s → Calls Try.prog 45 (#[.agg #[.int .i64 n0, .int .i64 b]] ++ caps) W fun e w' => e = .returned (.tuple #[]) ∧ Inv w' (step s b) ∧ KeepO W w' B)
    (hws : impl_Table_images.f n0 W0 = some ws) :
    Calls Try.prog 44 #[.agg #[.int .i64 n0, .int .i64 W0], .func (.func 45) #[] caps] w fun e w' => e = .returned (.tuple #[]) ∧ Inv w' (ws.foldl step s0) ∧ KeepO w w' B := by
  have hu := Try.underlying25
  obtain ⟨ps, N, G, H, NH, hperm, hN32, hps, hS, hG, hH, hNH, rfl, -, -⟩ := impl_Table_images.f_is hws
  clear hws
  have HP := Aside0.mk hp
  have HPM := Aside0.mk (fun W : World => impl_permutations.callsR n0 ps W hperm)
  have HG := Aside0.mk hG
  have HS := Aside0.mk hS
  have HH := Aside0.mk hH
  have HNH := Aside0.mk hNH
  have HST := Aside0.mk hst
  have H0 := Aside0.mk h0
  clear hp hperm hG hS hH hNH hst h0
  go_enter Try.func44, Try.ntmps44
  go_wp2_with (first | ((with_reducible refine gate_dst (N := 2) rfl ?_); refine box_event ?hg (N := 2) ?hd (cs := #[.int .i64 n0, .int .i64 W0]) (t := 25) ?hr ?_; (case hd => rfl); (case hg => rfl); (case hr => first | (go_simp; done) | (go_simp; rfl)); intro gb hg w1 hbox hb; have HB1 := Aside0.mk hb; have RK := Aside0.mk hbox; have hgb := (show w.heap.size ≤ gb by omega); have hgbB : gb ≠ B := (by omega); clear hg hbox hb; have k0 := (blk_cell RK.out 0).trans rfl; have k1 := (blk_cell RK.out 1).trans rfl) | (go_at_call 47; refine (HPM.out _).mono ?_; rintro e w2 ⟨v11, rfl, hr2, hb2⟩; have HR2 := Aside0.mk hr2; have HB2 := Aside0.mk hb2; obtain ⟨A11, c11, rfl⟩ := Kd.R_slice hr2; clear hr2 hb2))
  have hz1 : w.heap.size ≤ w1.heap.size := HB1.out.size
  have hz2 : w1.heap.size ≤ w2.heap.size := HB2.out.size
  have hRe := Kd.R_mono (Kd.R_bound HR2.out) (ok' := fun k => k ≠ B) (fun k hk => by have := hk.2.1; omega)
  have HRe := Aside0.mk hRe
  have RK2 := Aside0.mk (blk_below RK.out HB2.out)
  have HI2 := Aside0.mk (HST.out w w2 s0 H0.out (by omega) (fun i hi => (HB2.out.block i (by omega)).trans (HB1.out.block i hi)))
  have HK2 := Aside0.mk (KeepO.trans (KeepO.of_below HB1.out B) (KeepO.of_below HB2.out B))
  clear hRe HR2 RK k0 k1 H0 HB1 HB2
  go_loopw [13] (fun v wr => ∃ j : Nat, j ≤ ps.length ∧ v = .int .i64 (j : Int) ∧ Aside0 ((Kd.slice 3 (Kd.int .i64)).R 38 wr w1.heap.size (fun k => k ≠ B) (.slice A11 ps.length c11) ps) ∧ Aside0 (wr.heap[gb]? = some (.cells #[.int .i64 n0, .int .i64 W0] 25 (0, 0))) ∧ Aside0 (Inv wr ((impl_Table_images.all N H NH j).foldl step s0)) ∧ Aside0 (KeepO w wr B) ∧ w2.heap.size ≤ wr.heap.size) (fun v _ => ps.length - (intOf v).toNat)
  case atStart => exact ⟨0, Nat.zero_le _, rfl, HRe, RK2, HI2, HK2, Nat.le_refl _⟩
  case round =>
    clear HRe RK2 HI2 HK2
    obtain ⟨j, hj, rfl, HR, RK, HI, HK, hz⟩ := hrel
    by_cases hlt : j < ps.length
    · obtain ⟨ad, A0, c0, eA, hx, hl, hC⟩ := impl_Table_images.el_at (Kd.R_reads' HR.out).2.2 (j : Int) (Int.natCast_nonneg _) (by omega)
      subst eA
      have HC := Aside0.mk hC
      obtain ⟨kq, hkq⟩ := HG.out j hlt
      have HKQ := Aside0.mk hkq
      clear hkq
      have HL := Aside0.mk hl
      clear hC hl
      rw [Int.toNat_natCast] at hx
      have k0 := (blk_cell RK.out 0).trans rfl
      have k1 := (blk_cell RK.out 1).trans rfl
      have hjd : decide ((j : Int) < (ps.length : Int)) = true := decide_eq_true (by omega)
      go_wp2_with (first | (go_at_call 70; (with_reducible refine (impl_Table_permute.calls kq n0 W0 A0 c0 (impl_Table_images.el ps (j : Int)) n0 (G j) _ ?s1 ?s2 HKQ.out).mono ?_); (case s1 => exact HC.out); (case s2 => exact HL.out); rintro e w3 ⟨rfl, hb3⟩; have HB3 := Aside0.mk hb3; have RK3 := Aside0.mk (blk_below RK.out hb3); clear hb3) | ((with_reducible refine gate_dst (N := 6) rfl ?_); refine box_event ?hg (N := 6) ?hd (cs := #[.int .i64 0, .int .i64 0]) (t := 25) ?hr ?_; (case hd => rfl); (case hg => rfl); (case hr => first | (go_simp; done) | (go_simp; rfl)); intro g6 hg w4 hbox hb; have HB4 := Aside0.mk hb; have R6 := Aside0.mk hbox; have RK4 := Aside0.mk (blk_below RK3.out hb); have h6z : w3.heap.size ≤ g6 := (by omega); have h63 := HB3.out.size; have h6a : g6 ≠ gb := (by have := blk_lt RK3.out; omega); have h6b : gb ≠ g6 := (fun e => h6a e.symm); clear hg hbox hb; have m0 := (blk_cell R6.out 0).trans rfl; have m1 := (blk_cell R6.out 1).trans rfl; have mf0 := blk_frozen R6.out 0; have mf1 := blk_frozen R6.out 1; have q0 := (blk_cell RK4.out 0).trans rfl; have q1 := (blk_cell RK4.out 1).trans rfl) | (go_at_call 36; (with_reducible refine (impl_Table_size.calls n0 W0 _ _ HS.out).mono ?_); rintro e w5 ⟨rfl, hb5⟩; have HB5 := Aside0.mk hb5; clear hb5))
      have hg6 : g6 ≠ B := by omega
      have BS := Aside0.mk (below_set (j := 1) (v := .int .i64 (G j)) (below_set (j := 0) (v := .int .i64 n0) (below_step HB3.out HB4.out) (show wr.heap.size ≤ g6 by omega)) (show wr.heap.size ≤ g6 by omega))
      have B5 := Aside0.mk (below_step BS.out HB5.out)
      have HR5 := Aside0.mk (Kd.R_below HR.out B5.out)
      have RK5 := Aside0.mk (blk_below RK.out B5.out)
      have R65 := Aside0.mk (blk_below (blk_put (cs := #[.int .i64 n0, .int .i64 0]) (blk_put (cs := #[.int .i64 0, .int .i64 0]) R6.out 0 (.int .i64 n0) rfl) 1 (.int .i64 (G j)) rfl) HB5.out)
      have HI5 := Aside0.mk (HST.out wr w5 _ HI.out B5.out.size (fun i hi => B5.out.block i (by omega)))
      have HK5 := Aside0.mk (KeepO.trans HK.out (KeepO.of_below B5.out B))
      have hz5 : w2.heap.size ≤ w5.heap.size := Nat.le_trans hz B5.out.size
      clear k0 k1 m0 m1 mf0 mf1 q0 q1 HR RK HI HK HC HL hx HB3 HB4 HB5 RK3 RK4 R6 BS B5 hjd
      go_loopw [22] (fun v wi => ∃ x : Nat, x ≤ N ∧ v = .int .i64 (x : Int) ∧ Aside0 ((Kd.slice 3 (Kd.int .i64)).R 38 wi w1.heap.size (fun k => k ≠ B) (.slice (some ad) ps.length c11) ps) ∧ Aside0 (wi.heap[gb]? = some (.cells #[.int .i64 n0, .int .i64 W0] 25 (0, 0))) ∧ Aside0 (wi.heap[g6]? = some (.cells #[.int .i64 n0, .int .i64 (G j)] 25 (0, 0))) ∧ Aside0 (Inv wi ((impl_Table_images.row (H j) (NH j) x).foldl step ((impl_Table_images.all N H NH j).foldl step s0))) ∧ Aside0 (KeepO w wi B) ∧ w2.heap.size ≤ wi.heap.size) (fun v _ => N - (intOf v).toNat)
      case atStart => exact ⟨0, Nat.zero_le _, rfl, HR5, RK5, R65, HI5, HK5, hz5⟩
      case round =>
        clear HR5 RK5 R65 HI5 HK5 hz5
        obtain ⟨x, hx, rfl, HR, RK, R6, HI, HK, hzi⟩ := hrel
        by_cases hxl : x < N
        · have A7 := Aside0.mk (HH.out j x hlt hxl)
          have A8 := Aside0.mk (HNH.out j x hlt hxl)
          have m0 := (blk_cell R6.out 0).trans rfl
          have m1 := (blk_cell R6.out 1).trans rfl
          have hxd : decide ((x : Int) < (N : Int)) = true := decide_eq_true (by omega)
          have tk1 : Aside0 True := ⟨True.intro⟩
          have hzw : w.heap.size ≤ wr.heap.size := by omega
          go_wp2_with (first | (go_at_call 71; (with_reducible refine (impl_Table_shift.calls n0 (G j) (x : Int) n0 (H j x) _ A7.out).mono ?_); rintro e w6 ⟨rfl, hb6⟩; have HB6 := Aside0.mk hb6; have hs6 := hb6.size; clear hb6) | (go_at_call 45; have tk_ := tk1; refine (HP.out _ _ (H j x) (impl_Table_images.mem_all N H NH _ j hlt _ (impl_Table_images.mem_row (H j) (NH j) N x hxl).1) (HST.out wr _ _ HI.out (below_alloc HB6.out _).size (fun i hi => (below_alloc HB6.out _).block i (by omega)))).mono ?_; rintro e w9 ⟨rfl, hi9, hk9⟩; have HI9 := Aside0.mk hi9; have HK9 := Aside0.mk (KeepO.trans (KeepO.of_below (below_alloc HB6.out _) B) hk9); have R9 := Aside0.mk (KeepBut.blk hk9.1 (blk_new w6 _) (by omega) (by simp)); have n0_ := (blk_cell R9.out 0).trans rfl; have n1_ := (blk_cell R9.out 1).trans rfl; clear hi9 hk9 tk_ tk1) | (go_at_call 72; (with_reducible refine (impl_Table_not.calls n0 (H j x) n0 (NH j x) _ A8.out).mono ?_); rintro e w10 ⟨rfl, hb10⟩; have HB10 := Aside0.mk hb10; clear hb10) | (go_at_call 45; refine (HP.out _ _ (NH j x) (impl_Table_images.mem_all N H NH _ j hlt _ (impl_Table_images.mem_row (H j) (NH j) N x hxl).2) (HST.out w9 _ _ HI9.out HB10.out.size (fun i hi => HB10.out.block i (by have := HK9.out.1.1; omega)))).mono ?_; rintro e w11 ⟨rfl, hi11, hk11⟩; have HI11 := Aside0.mk hi11; have HKt := Aside0.mk (KeepO.trans (KeepO.trans HK9.out (KeepO.of_below HB10.out B)) hk11); clear hi11 hk11))
          go_roundw
          case rel => exact ⟨x + 1, by omega, by go_num, ⟨Kd.R_keep HR.out HKt.out.1 (fun k hk => hk)⟩, ⟨KeepBut.blk HKt.out.1 RK.out hgbB (by simp)⟩, ⟨KeepBut.blk HKt.out.1 R6.out hg6 (by simp)⟩, ⟨by simp only [impl_Table_images.row, List.foldl_append, List.foldl_cons, List.foldl_nil]; exact HI11.out⟩, ⟨KeepO.trans HK.out HKt.out⟩, Nat.le_trans hzi HKt.out.1.1⟩
          case measure => simp [intOf]; omega
        · obtain rfl : x = N := by omega
          have hxd : decide ((x : Int) < (x : Int)) = false := decide_eq_false (by omega)
          go_wp2
          go_roundw
          case rel => exact ⟨j + 1, by omega, by go_num, HR, RK, ⟨by simp only [impl_Table_images.all, List.foldl_append]; exact HI.out⟩, HK, hzi⟩
          case measure => simp [intOf]; omega
    · obtain rfl : j = ps.length := by omega
      have hjd : decide ((ps.length : Int) < (ps.length : Int)) = false := decide_eq_false (by omega)
      go_wp2
      exact Go.Great.bodyPost_end0 (by kernel_rfl) rfl ⟨rfl, HI.out, HK.out⟩
-- EACH closure's number
set_option maxHeartbeats 4000000 in
set_option maxRecDepth 100000 in
theorem impl_Table_images.calls46 {σ : Type} (n0 W0 : Int) (caps : Array Value) (Inv : World → σ → Prop) (B : Nat) (step : σ → Int → σ) (ws : List Int) (s0 : σ) (w : World)
    (hB : B < w.heap.size) (h0 : Inv w s0)
    (hst : ∀ (W W' : World) s, Inv W s → W.heap.size ≤ W'.heap.size → (∀ i, i < w.heap.size → W'.heap[i]? = W.heap[i]?) → Inv W' s)
    (hp : ∀ (W : World) (s : σ) (b : Int), b ∈ ws → Inv W s → Calls Try.prog 46 (#[.agg #[.int .i64 n0, .int .i64 b]] ++ caps) W fun e w' => e = .returned (.tuple #[]) ∧ Inv w' (step s b) ∧ KeepO W w' B)
    (hws : impl_Table_images.f n0 W0 = some ws) :
    Calls Try.prog 44 #[.agg #[.int .i64 n0, .int .i64 W0], .func (.func 46) #[] caps] w fun e w' => e = .returned (.tuple #[]) ∧ Inv w' (ws.foldl step s0) ∧ KeepO w w' B := by
  have hu := Try.underlying25
  obtain ⟨ps, N, G, H, NH, hperm, hN32, hps, hS, hG, hH, hNH, rfl, -, -⟩ := impl_Table_images.f_is hws
  clear hws
  have HP := Aside0.mk hp
  have HPM := Aside0.mk (fun W : World => impl_permutations.callsR n0 ps W hperm)
  have HG := Aside0.mk hG
  have HS := Aside0.mk hS
  have HH := Aside0.mk hH
  have HNH := Aside0.mk hNH
  have HST := Aside0.mk hst
  have H0 := Aside0.mk h0
  clear hp hperm hG hS hH hNH hst h0
  go_enter Try.func44, Try.ntmps44
  go_wp2_with (first | ((with_reducible refine gate_dst (N := 2) rfl ?_); refine box_event ?hg (N := 2) ?hd (cs := #[.int .i64 n0, .int .i64 W0]) (t := 25) ?hr ?_; (case hd => rfl); (case hg => rfl); (case hr => first | (go_simp; done) | (go_simp; rfl)); intro gb hg w1 hbox hb; have HB1 := Aside0.mk hb; have RK := Aside0.mk hbox; have hgb := (show w.heap.size ≤ gb by omega); have hgbB : gb ≠ B := (by omega); clear hg hbox hb; have k0 := (blk_cell RK.out 0).trans rfl; have k1 := (blk_cell RK.out 1).trans rfl) | (go_at_call 47; refine (HPM.out _).mono ?_; rintro e w2 ⟨v11, rfl, hr2, hb2⟩; have HR2 := Aside0.mk hr2; have HB2 := Aside0.mk hb2; obtain ⟨A11, c11, rfl⟩ := Kd.R_slice hr2; clear hr2 hb2))
  have hz1 : w.heap.size ≤ w1.heap.size := HB1.out.size
  have hz2 : w1.heap.size ≤ w2.heap.size := HB2.out.size
  have hRe := Kd.R_mono (Kd.R_bound HR2.out) (ok' := fun k => k ≠ B) (fun k hk => by have := hk.2.1; omega)
  have HRe := Aside0.mk hRe
  have RK2 := Aside0.mk (blk_below RK.out HB2.out)
  have HI2 := Aside0.mk (HST.out w w2 s0 H0.out (by omega) (fun i hi => (HB2.out.block i (by omega)).trans (HB1.out.block i hi)))
  have HK2 := Aside0.mk (KeepO.trans (KeepO.of_below HB1.out B) (KeepO.of_below HB2.out B))
  clear hRe HR2 RK k0 k1 H0 HB1 HB2
  go_loopw [13] (fun v wr => ∃ j : Nat, j ≤ ps.length ∧ v = .int .i64 (j : Int) ∧ Aside0 ((Kd.slice 3 (Kd.int .i64)).R 38 wr w1.heap.size (fun k => k ≠ B) (.slice A11 ps.length c11) ps) ∧ Aside0 (wr.heap[gb]? = some (.cells #[.int .i64 n0, .int .i64 W0] 25 (0, 0))) ∧ Aside0 (Inv wr ((impl_Table_images.all N H NH j).foldl step s0)) ∧ Aside0 (KeepO w wr B) ∧ w2.heap.size ≤ wr.heap.size) (fun v _ => ps.length - (intOf v).toNat)
  case atStart => exact ⟨0, Nat.zero_le _, rfl, HRe, RK2, HI2, HK2, Nat.le_refl _⟩
  case round =>
    clear HRe RK2 HI2 HK2
    obtain ⟨j, hj, rfl, HR, RK, HI, HK, hz⟩ := hrel
    by_cases hlt : j < ps.length
    · obtain ⟨ad, A0, c0, eA, hx, hl, hC⟩ := impl_Table_images.el_at (Kd.R_reads' HR.out).2.2 (j : Int) (Int.natCast_nonneg _) (by omega)
      subst eA
      have HC := Aside0.mk hC
      obtain ⟨kq, hkq⟩ := HG.out j hlt
      have HKQ := Aside0.mk hkq
      clear hkq
      have HL := Aside0.mk hl
      clear hC hl
      rw [Int.toNat_natCast] at hx
      have k0 := (blk_cell RK.out 0).trans rfl
      have k1 := (blk_cell RK.out 1).trans rfl
      have hjd : decide ((j : Int) < (ps.length : Int)) = true := decide_eq_true (by omega)
      go_wp2_with (first | (go_at_call 70; (with_reducible refine (impl_Table_permute.calls kq n0 W0 A0 c0 (impl_Table_images.el ps (j : Int)) n0 (G j) _ ?s1 ?s2 HKQ.out).mono ?_); (case s1 => exact HC.out); (case s2 => exact HL.out); rintro e w3 ⟨rfl, hb3⟩; have HB3 := Aside0.mk hb3; have RK3 := Aside0.mk (blk_below RK.out hb3); clear hb3) | ((with_reducible refine gate_dst (N := 6) rfl ?_); refine box_event ?hg (N := 6) ?hd (cs := #[.int .i64 0, .int .i64 0]) (t := 25) ?hr ?_; (case hd => rfl); (case hg => rfl); (case hr => first | (go_simp; done) | (go_simp; rfl)); intro g6 hg w4 hbox hb; have HB4 := Aside0.mk hb; have R6 := Aside0.mk hbox; have RK4 := Aside0.mk (blk_below RK3.out hb); have h6z : w3.heap.size ≤ g6 := (by omega); have h63 := HB3.out.size; have h6a : g6 ≠ gb := (by have := blk_lt RK3.out; omega); have h6b : gb ≠ g6 := (fun e => h6a e.symm); clear hg hbox hb; have m0 := (blk_cell R6.out 0).trans rfl; have m1 := (blk_cell R6.out 1).trans rfl; have mf0 := blk_frozen R6.out 0; have mf1 := blk_frozen R6.out 1; have q0 := (blk_cell RK4.out 0).trans rfl; have q1 := (blk_cell RK4.out 1).trans rfl) | (go_at_call 36; (with_reducible refine (impl_Table_size.calls n0 W0 _ _ HS.out).mono ?_); rintro e w5 ⟨rfl, hb5⟩; have HB5 := Aside0.mk hb5; clear hb5))
      have hg6 : g6 ≠ B := by omega
      have BS := Aside0.mk (below_set (j := 1) (v := .int .i64 (G j)) (below_set (j := 0) (v := .int .i64 n0) (below_step HB3.out HB4.out) (show wr.heap.size ≤ g6 by omega)) (show wr.heap.size ≤ g6 by omega))
      have B5 := Aside0.mk (below_step BS.out HB5.out)
      have HR5 := Aside0.mk (Kd.R_below HR.out B5.out)
      have RK5 := Aside0.mk (blk_below RK.out B5.out)
      have R65 := Aside0.mk (blk_below (blk_put (cs := #[.int .i64 n0, .int .i64 0]) (blk_put (cs := #[.int .i64 0, .int .i64 0]) R6.out 0 (.int .i64 n0) rfl) 1 (.int .i64 (G j)) rfl) HB5.out)
      have HI5 := Aside0.mk (HST.out wr w5 _ HI.out B5.out.size (fun i hi => B5.out.block i (by omega)))
      have HK5 := Aside0.mk (KeepO.trans HK.out (KeepO.of_below B5.out B))
      have hz5 : w2.heap.size ≤ w5.heap.size := Nat.le_trans hz B5.out.size
      clear k0 k1 m0 m1 mf0 mf1 q0 q1 HR RK HI HK HC HL hx HB3 HB4 HB5 RK3 RK4 R6 BS B5 hjd
      go_loopw [22] (fun v wi => ∃ x : Nat, x ≤ N ∧ v = .int .i64 (x : Int) ∧ Aside0 ((Kd.slice 3 (Kd.int .i64)).R 38 wi w1.heap.size (fun k => k ≠ B) (.slice (some ad) ps.length c11) ps) ∧ Aside0 (wi.heap[gb]? = some (.cells #[.int .i64 n0, .int .i64 W0] 25 (0, 0))) ∧ Aside0 (wi.heap[g6]? = some (.cells #[.int .i64 n0, .int .i64 (G j)] 25 (0, 0))) ∧ Aside0 (Inv wi ((impl_Table_images.row (H j) (NH j) x).foldl step ((impl_Table_images.all N H NH j).foldl step s0))) ∧ Aside0 (KeepO w wi B) ∧ w2.heap.size ≤ wi.heap.size) (fun v _ => N - (intOf v).toNat)
      case atStart => exact ⟨0, Nat.zero_le _, rfl, HR5, RK5, R65, HI5, HK5, hz5⟩
      case round =>
        clear HR5 RK5 R65 HI5 HK5 hz5
        obtain ⟨x, hx, rfl, HR, RK, R6, HI, HK, hzi⟩ := hrel
        by_cases hxl : x < N
        · have A7 := Aside0.mk (HH.out j x hlt hxl)
          have A8 := Aside0.mk (HNH.out j x hlt hxl)
          have m0 := (blk_cell R6.out 0).trans rfl
          have m1 := (blk_cell R6.out 1).trans rfl
          have hxd : decide ((x : Int) < (N : Int)) = true := decide_eq_true (by omega)
          have tk1 : Aside0 True := ⟨True.intro⟩
          have hzw : w.heap.size ≤ wr.heap.size := by omega
          go_wp2_with (first | (go_at_call 71; (with_reducible refine (impl_Table_shift.calls n0 (G j) (x : Int) n0 (H j x) _ A7.out).mono ?_); rintro e w6 ⟨rfl, hb6⟩; have HB6 := Aside0.mk hb6; have hs6 := hb6.size; clear hb6) | (go_at_call 46; have tk_ := tk1; refine (HP.out _ _ (H j x) (impl_Table_images.mem_all N H NH _ j hlt _ (impl_Table_images.mem_row (H j) (NH j) N x hxl).1) (HST.out wr _ _ HI.out (below_alloc HB6.out _).size (fun i hi => (below_alloc HB6.out _).block i (by omega)))).mono ?_; rintro e w9 ⟨rfl, hi9, hk9⟩; have HI9 := Aside0.mk hi9; have HK9 := Aside0.mk (KeepO.trans (KeepO.of_below (below_alloc HB6.out _) B) hk9); have R9 := Aside0.mk (KeepBut.blk hk9.1 (blk_new w6 _) (by omega) (by simp)); have n0_ := (blk_cell R9.out 0).trans rfl; have n1_ := (blk_cell R9.out 1).trans rfl; clear hi9 hk9 tk_ tk1) | (go_at_call 72; (with_reducible refine (impl_Table_not.calls n0 (H j x) n0 (NH j x) _ A8.out).mono ?_); rintro e w10 ⟨rfl, hb10⟩; have HB10 := Aside0.mk hb10; clear hb10) | (go_at_call 46; refine (HP.out _ _ (NH j x) (impl_Table_images.mem_all N H NH _ j hlt _ (impl_Table_images.mem_row (H j) (NH j) N x hxl).2) (HST.out w9 _ _ HI9.out HB10.out.size (fun i hi => HB10.out.block i (by have := HK9.out.1.1; omega)))).mono ?_; rintro e w11 ⟨rfl, hi11, hk11⟩; have HI11 := Aside0.mk hi11; have HKt := Aside0.mk (KeepO.trans (KeepO.trans HK9.out (KeepO.of_below HB10.out B)) hk11); clear hi11 hk11))
          go_roundw
          case rel => exact ⟨x + 1, by omega, by go_num, ⟨Kd.R_keep HR.out HKt.out.1 (fun k hk => hk)⟩, ⟨KeepBut.blk HKt.out.1 RK.out hgbB (by simp)⟩, ⟨KeepBut.blk HKt.out.1 R6.out hg6 (by simp)⟩, ⟨by simp only [impl_Table_images.row, List.foldl_append, List.foldl_cons, List.foldl_nil]; exact HI11.out⟩, ⟨KeepO.trans HK.out HKt.out⟩, Nat.le_trans hzi HKt.out.1.1⟩
          case measure => simp [intOf]; omega
        · obtain rfl : x = N := by omega
          have hxd : decide ((x : Int) < (x : Int)) = false := decide_eq_false (by omega)
          go_wp2
          go_roundw
          case rel => exact ⟨j + 1, by omega, by go_num, HR, RK, ⟨by simp only [impl_Table_images.all, List.foldl_append]; exact HI.out⟩, HK, hzi⟩
          case measure => simp [intOf]; omega
    · obtain rfl : j = ps.length := by omega
      have hjd : decide ((ps.length : Int) < (ps.length : Int)) = false := decide_eq_false (by omega)
      go_wp2
      exact Go.Great.bodyPost_end0 (by kernel_rfl) rfl ⟨rfl, HI.out, HK.out⟩
-- EACH closure's number
set_option maxHeartbeats 4000000 in
set_option maxRecDepth 100000 in
theorem impl_Table_images.calls69 {σ : Type} (n0 W0 : Int) (caps : Array Value) (Inv : World → σ → Prop) (B : Nat) (step : σ → Int → σ) (ws : List Int) (s0 : σ) (w : World)
    (hB : B < w.heap.size) (h0 : Inv w s0)
    (hst : ∀ (W W' : World) s, Inv W s → W.heap.size ≤ W'.heap.size → (∀ i, i < w.heap.size → W'.heap[i]? = W.heap[i]?) → Inv W' s)
    (hp : ∀ (W : World) (s : σ) (b : Int), b ∈ ws → Inv W s → Calls Try.prog 69 (#[.agg #[.int .i64 n0, .int .i64 b]] ++ caps) W fun e w' => e = .returned (.tuple #[]) ∧ Inv w' (step s b) ∧ KeepO W w' B)
    (hws : impl_Table_images.f n0 W0 = some ws) :
    Calls Try.prog 44 #[.agg #[.int .i64 n0, .int .i64 W0], .func (.func 69) #[] caps] w fun e w' => e = .returned (.tuple #[]) ∧ Inv w' (ws.foldl step s0) ∧ KeepO w w' B := by
  have hu := Try.underlying25
  obtain ⟨ps, N, G, H, NH, hperm, hN32, hps, hS, hG, hH, hNH, rfl, -, -⟩ := impl_Table_images.f_is hws
  clear hws
  have HP := Aside0.mk hp
  have HPM := Aside0.mk (fun W : World => impl_permutations.callsR n0 ps W hperm)
  have HG := Aside0.mk hG
  have HS := Aside0.mk hS
  have HH := Aside0.mk hH
  have HNH := Aside0.mk hNH
  have HST := Aside0.mk hst
  have H0 := Aside0.mk h0
  clear hp hperm hG hS hH hNH hst h0
  go_enter Try.func44, Try.ntmps44
  go_wp2_with (first | ((with_reducible refine gate_dst (N := 2) rfl ?_); refine box_event ?hg (N := 2) ?hd (cs := #[.int .i64 n0, .int .i64 W0]) (t := 25) ?hr ?_; (case hd => rfl); (case hg => rfl); (case hr => first | (go_simp; done) | (go_simp; rfl)); intro gb hg w1 hbox hb; have HB1 := Aside0.mk hb; have RK := Aside0.mk hbox; have hgb := (show w.heap.size ≤ gb by omega); have hgbB : gb ≠ B := (by omega); clear hg hbox hb; have k0 := (blk_cell RK.out 0).trans rfl; have k1 := (blk_cell RK.out 1).trans rfl) | (go_at_call 47; refine (HPM.out _).mono ?_; rintro e w2 ⟨v11, rfl, hr2, hb2⟩; have HR2 := Aside0.mk hr2; have HB2 := Aside0.mk hb2; obtain ⟨A11, c11, rfl⟩ := Kd.R_slice hr2; clear hr2 hb2))
  have hz1 : w.heap.size ≤ w1.heap.size := HB1.out.size
  have hz2 : w1.heap.size ≤ w2.heap.size := HB2.out.size
  have hRe := Kd.R_mono (Kd.R_bound HR2.out) (ok' := fun k => k ≠ B) (fun k hk => by have := hk.2.1; omega)
  have HRe := Aside0.mk hRe
  have RK2 := Aside0.mk (blk_below RK.out HB2.out)
  have HI2 := Aside0.mk (HST.out w w2 s0 H0.out (by omega) (fun i hi => (HB2.out.block i (by omega)).trans (HB1.out.block i hi)))
  have HK2 := Aside0.mk (KeepO.trans (KeepO.of_below HB1.out B) (KeepO.of_below HB2.out B))
  clear hRe HR2 RK k0 k1 H0 HB1 HB2
  go_loopw [13] (fun v wr => ∃ j : Nat, j ≤ ps.length ∧ v = .int .i64 (j : Int) ∧ Aside0 ((Kd.slice 3 (Kd.int .i64)).R 38 wr w1.heap.size (fun k => k ≠ B) (.slice A11 ps.length c11) ps) ∧ Aside0 (wr.heap[gb]? = some (.cells #[.int .i64 n0, .int .i64 W0] 25 (0, 0))) ∧ Aside0 (Inv wr ((impl_Table_images.all N H NH j).foldl step s0)) ∧ Aside0 (KeepO w wr B) ∧ w2.heap.size ≤ wr.heap.size) (fun v _ => ps.length - (intOf v).toNat)
  case atStart => exact ⟨0, Nat.zero_le _, rfl, HRe, RK2, HI2, HK2, Nat.le_refl _⟩
  case round =>
    clear HRe RK2 HI2 HK2
    obtain ⟨j, hj, rfl, HR, RK, HI, HK, hz⟩ := hrel
    by_cases hlt : j < ps.length
    · obtain ⟨ad, A0, c0, eA, hx, hl, hC⟩ := impl_Table_images.el_at (Kd.R_reads' HR.out).2.2 (j : Int) (Int.natCast_nonneg _) (by omega)
      subst eA
      have HC := Aside0.mk hC
      obtain ⟨kq, hkq⟩ := HG.out j hlt
      have HKQ := Aside0.mk hkq
      clear hkq
      have HL := Aside0.mk hl
      clear hC hl
      rw [Int.toNat_natCast] at hx
      have k0 := (blk_cell RK.out 0).trans rfl
      have k1 := (blk_cell RK.out 1).trans rfl
      have hjd : decide ((j : Int) < (ps.length : Int)) = true := decide_eq_true (by omega)
      go_wp2_with (first | (go_at_call 70; (with_reducible refine (impl_Table_permute.calls kq n0 W0 A0 c0 (impl_Table_images.el ps (j : Int)) n0 (G j) _ ?s1 ?s2 HKQ.out).mono ?_); (case s1 => exact HC.out); (case s2 => exact HL.out); rintro e w3 ⟨rfl, hb3⟩; have HB3 := Aside0.mk hb3; have RK3 := Aside0.mk (blk_below RK.out hb3); clear hb3) | ((with_reducible refine gate_dst (N := 6) rfl ?_); refine box_event ?hg (N := 6) ?hd (cs := #[.int .i64 0, .int .i64 0]) (t := 25) ?hr ?_; (case hd => rfl); (case hg => rfl); (case hr => first | (go_simp; done) | (go_simp; rfl)); intro g6 hg w4 hbox hb; have HB4 := Aside0.mk hb; have R6 := Aside0.mk hbox; have RK4 := Aside0.mk (blk_below RK3.out hb); have h6z : w3.heap.size ≤ g6 := (by omega); have h63 := HB3.out.size; have h6a : g6 ≠ gb := (by have := blk_lt RK3.out; omega); have h6b : gb ≠ g6 := (fun e => h6a e.symm); clear hg hbox hb; have m0 := (blk_cell R6.out 0).trans rfl; have m1 := (blk_cell R6.out 1).trans rfl; have mf0 := blk_frozen R6.out 0; have mf1 := blk_frozen R6.out 1; have q0 := (blk_cell RK4.out 0).trans rfl; have q1 := (blk_cell RK4.out 1).trans rfl) | (go_at_call 36; (with_reducible refine (impl_Table_size.calls n0 W0 _ _ HS.out).mono ?_); rintro e w5 ⟨rfl, hb5⟩; have HB5 := Aside0.mk hb5; clear hb5))
      have hg6 : g6 ≠ B := by omega
      have BS := Aside0.mk (below_set (j := 1) (v := .int .i64 (G j)) (below_set (j := 0) (v := .int .i64 n0) (below_step HB3.out HB4.out) (show wr.heap.size ≤ g6 by omega)) (show wr.heap.size ≤ g6 by omega))
      have B5 := Aside0.mk (below_step BS.out HB5.out)
      have HR5 := Aside0.mk (Kd.R_below HR.out B5.out)
      have RK5 := Aside0.mk (blk_below RK.out B5.out)
      have R65 := Aside0.mk (blk_below (blk_put (cs := #[.int .i64 n0, .int .i64 0]) (blk_put (cs := #[.int .i64 0, .int .i64 0]) R6.out 0 (.int .i64 n0) rfl) 1 (.int .i64 (G j)) rfl) HB5.out)
      have HI5 := Aside0.mk (HST.out wr w5 _ HI.out B5.out.size (fun i hi => B5.out.block i (by omega)))
      have HK5 := Aside0.mk (KeepO.trans HK.out (KeepO.of_below B5.out B))
      have hz5 : w2.heap.size ≤ w5.heap.size := Nat.le_trans hz B5.out.size
      clear k0 k1 m0 m1 mf0 mf1 q0 q1 HR RK HI HK HC HL hx HB3 HB4 HB5 RK3 RK4 R6 BS B5 hjd
      go_loopw [22] (fun v wi => ∃ x : Nat, x ≤ N ∧ v = .int .i64 (x : Int) ∧ Aside0 ((Kd.slice 3 (Kd.int .i64)).R 38 wi w1.heap.size (fun k => k ≠ B) (.slice (some ad) ps.length c11) ps) ∧ Aside0 (wi.heap[gb]? = some (.cells #[.int .i64 n0, .int .i64 W0] 25 (0, 0))) ∧ Aside0 (wi.heap[g6]? = some (.cells #[.int .i64 n0, .int .i64 (G j)] 25 (0, 0))) ∧ Aside0 (Inv wi ((impl_Table_images.row (H j) (NH j) x).foldl step ((impl_Table_images.all N H NH j).foldl step s0))) ∧ Aside0 (KeepO w wi B) ∧ w2.heap.size ≤ wi.heap.size) (fun v _ => N - (intOf v).toNat)
      case atStart => exact ⟨0, Nat.zero_le _, rfl, HR5, RK5, R65, HI5, HK5, hz5⟩
      case round =>
        clear HR5 RK5 R65 HI5 HK5 hz5
        obtain ⟨x, hx, rfl, HR, RK, R6, HI, HK, hzi⟩ := hrel
        by_cases hxl : x < N
        · have A7 := Aside0.mk (HH.out j x hlt hxl)
          have A8 := Aside0.mk (HNH.out j x hlt hxl)
          have m0 := (blk_cell R6.out 0).trans rfl
          have m1 := (blk_cell R6.out 1).trans rfl
          have hxd : decide ((x : Int) < (N : Int)) = true := decide_eq_true (by omega)
          have tk1 : Aside0 True := ⟨True.intro⟩
          have hzw : w.heap.size ≤ wr.heap.size := by omega
          go_wp2_with (first | (go_at_call 71; (with_reducible refine (impl_Table_shift.calls n0 (G j) (x : Int) n0 (H j x) _ A7.out).mono ?_); rintro e w6 ⟨rfl, hb6⟩; have HB6 := Aside0.mk hb6; have hs6 := hb6.size; clear hb6) | (go_at_call 69; have tk_ := tk1; refine (HP.out _ _ (H j x) (impl_Table_images.mem_all N H NH _ j hlt _ (impl_Table_images.mem_row (H j) (NH j) N x hxl).1) (HST.out wr _ _ HI.out (below_alloc HB6.out _).size (fun i hi => (below_alloc HB6.out _).block i (by omega)))).mono ?_; rintro e w9 ⟨rfl, hi9, hk9⟩; have HI9 := Aside0.mk hi9; have HK9 := Aside0.mk (KeepO.trans (KeepO.of_below (below_alloc HB6.out _) B) hk9); have R9 := Aside0.mk (KeepBut.blk hk9.1 (blk_new w6 _) (by omega) (by simp)); have n0_ := (blk_cell R9.out 0).trans rfl; have n1_ := (blk_cell R9.out 1).trans rfl; clear hi9 hk9 tk_ tk1) | (go_at_call 72; (with_reducible refine (impl_Table_not.calls n0 (H j x) n0 (NH j x) _ A8.out).mono ?_); rintro e w10 ⟨rfl, hb10⟩; have HB10 := Aside0.mk hb10; clear hb10) | (go_at_call 69; refine (HP.out _ _ (NH j x) (impl_Table_images.mem_all N H NH _ j hlt _ (impl_Table_images.mem_row (H j) (NH j) N x hxl).2) (HST.out w9 _ _ HI9.out HB10.out.size (fun i hi => HB10.out.block i (by have := HK9.out.1.1; omega)))).mono ?_; rintro e w11 ⟨rfl, hi11, hk11⟩; have HI11 := Aside0.mk hi11; have HKt := Aside0.mk (KeepO.trans (KeepO.trans HK9.out (KeepO.of_below HB10.out B)) hk11); clear hi11 hk11))
          go_roundw
          case rel => exact ⟨x + 1, by omega, by go_num, ⟨Kd.R_keep HR.out HKt.out.1 (fun k hk => hk)⟩, ⟨KeepBut.blk HKt.out.1 RK.out hgbB (by simp)⟩, ⟨KeepBut.blk HKt.out.1 R6.out hg6 (by simp)⟩, ⟨by simp only [impl_Table_images.row, List.foldl_append, List.foldl_cons, List.foldl_nil]; exact HI11.out⟩, ⟨KeepO.trans HK.out HKt.out⟩, Nat.le_trans hzi HKt.out.1.1⟩
          case measure => simp [intOf]; omega
        · obtain rfl : x = N := by omega
          have hxd : decide ((x : Int) < (x : Int)) = false := decide_eq_false (by omega)
          go_wp2
          go_roundw
          case rel => exact ⟨j + 1, by omega, by go_num, HR, RK, ⟨by simp only [impl_Table_images.all, List.foldl_append]; exact HI.out⟩, HK, hzi⟩
          case measure => simp [intOf]; omega
    · obtain rfl : j = ps.length := by omega
      have hjd : decide ((ps.length : Int) < (ps.length : Int)) = false := decide_eq_false (by omega)
      go_wp2
      exact Go.Great.bodyPost_end0 (by kernel_rfl) rfl ⟨rfl, HI.out, HK.out⟩


/-! ### impl_Table_canonical: function 42 -/
set_option maxHeartbeats 4000000 in
set_option maxRecDepth 100000 in
theorem impl_Table_canonical.in_calls (b0 b1 g0 g1 : Int) (B : Nat) (W : World) (h1 : W.heap[B]? = some (.cells #[.int .i64 b0, .int .i64 b1] 25 (0, 0))) :
    Calls Try.prog 69 #[.agg #[.int .i64 g0, .int .i64 g1], .pointer (some ⟨B, 0, none⟩)] W fun e w' => e = .returned (.tuple #[]) ∧ w'.heap[B]? = some (.cells #[.int .i64 b0, .int .i64 (mn b1 g1)] 25 (0, 0)) ∧ KeepO W w' B := by
  have hu := Try.underlying25
  have HB := Aside0.mk (Below.refl W.heap.size W)
  have BK := Aside0.mk h1
  have hlt := blk_lt h1
  clear h1
  go_enter Try.func69, Try.ntmps69
  go_wp2_with (first | ((with_reducible refine gate_dst (N := 2) rfl ?_); refine box_event ?hg (N := 2) ?hd (cs := #[.int .i64 g0, .int .i64 g1]) (t := 25) ?hr ?_; (case hd => rfl); (case hg => rfl); (case hr => first | (go_simp; done) | (go_simp; rfl)); intro gb hg w1 hbox hb; have HB1 := Aside0.mk hb; have RK := Aside0.mk hbox; have BK1 := Aside0.mk (blk_below BK.out hb); have ne1 : gb ≠ B := (by omega); have ne2 : B ≠ gb := (by omega); clear hg hbox hb; have k0 := (blk_cell RK.out 0).trans rfl; have k1 := (blk_cell RK.out 1).trans rfl; have b_0 := (blk_cell BK1.out 0).trans rfl; have b_1 := (blk_cell BK1.out 1).trans rfl; have f_1 := blk_frozen BK1.out 1))
  all_goals (try go_wp2)
  all_goals refine Go.Great.bodyPost_end0 (by kernel_rfl) rfl ⟨rfl, ?_, KeepO.set_ (KeepO.of_below HB1.out B) _ _⟩
  all_goals (have hm_ := h; refine (blk_put (cs := #[.int .i64 b0, .int .i64 b1]) BK1.out 1 _ rfl).trans ?_; unfold mn; first | (rw [if_pos hm_]; rfl) | (rw [if_neg hm_]; rfl) | (rw [if_neg (by omega)]; rfl) | (rw [if_pos (by omega)]; rfl) | (split <;> (first | rfl | (congr 3; omega))))
/-- The least word of all images. -/
def impl_Table_canonical.f (n0 W0 : Int) : Option (Int × Int) := (impl_Table_images.f n0 W0).bind fun ws => some (n0, ws.foldl mn W0)
set_option maxHeartbeats 4000000 in
set_option maxRecDepth 100000 in
theorem impl_Table_canonical.calls (n0 W0 r1 r2 : Int) (w : World) (h : impl_Table_canonical.f n0 W0 = some (r1, r2)) :
    Calls Try.prog 42 #[.agg #[.int .i64 n0, .int .i64 W0]] w fun e w' => e = .returned (.agg #[.int .i64 r1, .int .i64 r2]) ∧ Below w.heap.size w w' := by
  have hu := Try.underlying25
  unfold impl_Table_canonical.f at h
  obtain ⟨ws, hws, h⟩ := Option.bind_eq_some_iff.mp h
  simp only [Option.some.injEq, Prod.mk.injEq] at h
  obtain ⟨rfl, rfl⟩ := h
  have hcall := fun (B : Nat) (W : World) (hB : B < W.heap.size) (h0 : W.heap[B]? = some (.cells #[.int .i64 n0, .int .i64 W0] 25 (0, 0))) =>
    impl_Table_images.calls69 n0 W0 #[.pointer (some ⟨B, 0, none⟩)] (fun W' s => W'.heap[B]? = some (.cells #[.int .i64 n0, .int .i64 s] 25 (0, 0))) B mn ws W0 W hB h0 (fun W1 W2 s h1 _ h2 => (h2 B hB).trans h1) (fun W1 s b _ h1 => impl_Table_canonical.in_calls n0 s n0 b B W1 h1) hws
  generalize ws.foldl mn W0 = r at hcall ⊢
  clear hws
  have HC := Aside0.mk hcall
  clear hcall
  go_enter Try.func42, Try.ntmps42
  go_wp2_with (first | ((with_reducible refine gate_dst (N := 1) rfl ?_); refine box_event ?hg (N := 1) ?hd (cs := #[.int .i64 n0, .int .i64 W0]) (t := 25) ?hr ?_; (case hd => rfl); (case hg => rfl); (case hr => first | (go_simp; done) | (go_simp; rfl)); intro g1 hg w1 hbox hb; have HB1 := Aside0.mk hb; have R1 := Aside0.mk hbox; have h1z : w.heap.size ≤ g1 := (by omega); have hs1 := hb.size; clear hg hbox hb) | ((with_reducible refine gate_dst (N := 2) rfl ?_); refine box_event ?hg (N := 2) ?hd (cs := #[.int .i64 0, .int .i64 0]) (t := 25) ?hr ?_; (case hd => rfl); (case hg => rfl); (case hr => first | (go_simp; done) | (go_simp; rfl)); intro g2 hg w2 hbox hb; have HB2 := Aside0.mk hb; have R2 := Aside0.mk hbox; have R12 := Aside0.mk (blk_below R1.out hb); have h2z : w.heap.size ≤ g2 := (by omega); have h21 : g2 ≠ g1 := (by have := blk_lt R1.out; omega); have hs2 := hb.size; clear hg hbox hb; have k0 := (blk_cell R12.out 0).trans rfl; have k1 := (blk_cell R12.out 1).trans rfl) | ((with_reducible refine gate_dst (N := 3) rfl ?_); refine box_event ?hg (N := 3) ?hd (cs := #[.int .i64 0, .int .i64 0]) (t := 25) ?hr ?_; (case hd => rfl); (case hg => rfl); (case hr => first | (go_simp; done) | (go_simp; rfl)); intro g3 hg w3 hbox hb; have HB3 := Aside0.mk hb; have R3 := Aside0.mk hbox; have R13 := Aside0.mk (blk_below R12.out hb); have R23 := Aside0.mk (blk_below R2.out hb); have h3z : w.heap.size ≤ g3 := (by omega); have h32 : g3 ≠ g2 := (by have := blk_lt R2.out; omega); have h31 : g3 ≠ g1 := (by have := blk_lt R12.out; omega); have h23 : g2 ≠ g3 := (fun e => h32 e.symm); have h13 : g1 ≠ g3 := (fun e => h31 e.symm); have hs3 := hb.size; clear hg hbox hb; have q0 := (blk_cell R13.out 0).trans rfl; have q1 := (blk_cell R13.out 1).trans rfl; have nf0 := blk_frozen R3.out 0; have nf1 := blk_frozen R3.out 1; have m0 := (blk_cell R3.out 0).trans rfl; have m1 := (blk_cell R3.out 1).trans rfl) | (go_at_call 44; have S3 := Aside0.mk (blk_put (cs := #[.int .i64 n0, .int .i64 0]) (blk_put (cs := #[.int .i64 0, .int .i64 0]) R3.out 0 (.int .i64 n0) rfl) 1 (.int .i64 W0) rfl); refine (HC.out g3 _ (blk_lt S3.out) S3.out).mono ?_; rintro e w5 ⟨rfl, hr5, hk5⟩; have R35 := Aside0.mk hr5; have R25 := Aside0.mk (KeepBut.blk hk5.1 (blk_far (blk_far R23.out (by first | exact h23 | exact h32) _) (by first | exact h23 | exact h32) _) h23 (by simp)); have HK5 := Aside0.mk hk5; have z0 := (blk_cell R35.out 0).trans rfl; have z1 := (blk_cell R35.out 1).trans rfl; have y0 := (blk_cell R25.out 0).trans rfl; have y1 := (blk_cell R25.out 1).trans rfl; have yf0 := blk_frozen R25.out 0; have yf1 := blk_frozen R25.out 1; clear hr5 hk5))
  refine bodyPost_ret (results_cell_row rfl _ _ g2 25 #[.int .i64 n0, .int .i64 r] (0, 0) _ rfl (blk_put (cs := #[.int .i64 n0, .int .i64 0]) (blk_put (cs := #[.int .i64 0, .int .i64 0]) R25.out 0 _ rfl) 1 _ rfl) hu rfl (by kernel_rfl)) rfl ?_
  have B3 := below_set (j := 1) (v := .int .i64 W0) (below_set (j := 0) (v := .int .i64 n0) (below_step (below_step HB1.out HB2.out) HB3.out) h3z) h3z
  have K5 := KeepO.below HK5.out (B := w.heap.size) h3z B3.size
  exact ⟨rfl, below_set (below_set (B3.trans K5) h2z) h2z⟩


/-! ### impl_CanonicalTable: function 10 -/
def impl_CanonicalTable.f (a0_0 : Int) (a0_1 : Int) : Option (Int × Int × Bool) := (impl_isSmall.f a0_0 a0_1 4).bind fun t545 => (if t545 = true then ((impl_Table_canonical.f a0_0 a0_1).bind fun bt546 => (some (bt546.1, bt546.2, true))) else (some (0, 0, false)))
set_option maxHeartbeats 8000000 in
set_option maxRecDepth 100000 in
theorem impl_CanonicalTable.calls (a0_0 : Int) (a0_1 : Int) (r1 : Int) (r2 : Int) (r3 : Bool) (w : World) (h : impl_CanonicalTable.f a0_0 a0_1 = some (r1, r2, r3)) :
  Calls Try.prog 10 #[.agg #[.int .i64 a0_0, .int .i64 a0_1]] w fun e w' => e = .returned (.tuple #[.agg #[.int .i64 r1, .int .i64 r2], .bool r3]) ∧ Below w.heap.size w w' := by
 have hu25 := Try.underlying25
 have HB := Aside0.mk (Below.refl w.heap.size w)
 have H : ((impl_isSmall.f a0_0 a0_1 4).bind fun t545 => (if t545 = true then ((impl_Table_canonical.f a0_0 a0_1).bind fun bt546 => (some (bt546.1, bt546.2, true))) else (some (0, 0, false)))) = some (r1, r2, r3) := h
 clear h
 replace H := Option.bind_eq_some_iff.mp H
 obtain ⟨t545, A20, H⟩ := H
 have A2 := Aside0.mk A20
 clear A20
 by_cases c3 : t545 = true
 ·subst c3
  rw [if_pos rfl] at H
  replace H := Option.bind_eq_some_iff.mp H
  obtain ⟨⟨t546, t547⟩, A40, H⟩ := H
  replace H : (some (t546, t547, true)) = some (r1, r2, r3) := H
  have A4 := Aside0.mk A40
  clear A40
  simp only [Option.some.injEq, Prod.mk.injEq] at H
  obtain ⟨rfl, rfl, rfl⟩ := H
  go_enter Try.func10, Try.ntmps10
  go_wp2_with (first | ((with_reducible refine gate_dst (N := 1) rfl ?_); refine bx_ 1 #[.int .i64 a0_0, .int .i64 a0_1] 25 ?_; intro gb543 hg w5 hbox hb; have BK543 := Aside0.mk (hbox); have GW543 := gw_ hg (below_size (bv_ HB)); have GE543 := GW543; replace HB := Aside0.mk (below_step (bv_ HB) hb); clear hb hbox hg) | ((with_reducible refine gate_dst (N := 2) rfl ?_); refine bx_ 2 #[.int .i64 0, .int .i64 0] 25 ?_; intro gb544 hg w6 hbox hb; have BK544 := Aside0.mk (hbox); have GW544 := gw_ hg (below_size (bv1_ HB GE543)); have GE544 := GW544; replace HB := Aside0.mk (below_step (bv1_ HB GE543) hb); have NB543_544 := nb_ hg (blk_lt (g := gb543) (o := .cells #[.int .i64 a0_0, .int .i64 a0_1] 25 (0, 0)) (kv_ BK543)); have NB544_543 := nc_ hg (blk_lt (g := gb543) (o := .cells #[.int .i64 a0_0, .int .i64 a0_1] 25 (0, 0)) (kv_ BK543)); replace BK543 := kb_ BK543 hb; clear hb hbox hg; have hnb7 := NB543_544.out; have hnc7 := NB544_543.out; obtain ⟨hcz8_0, hcz8_1, hfz8_0, hfz8_1⟩ := c2_ BK543) | ((with_reducible refine gate_callee (f := 41) rfl ?_); refine gl_ 5 Try.func41 #[.agg #[.int .i64 a0_0, .int .i64 a0_1], .int .i64 4] rfl mp_ ?_; (with_reducible refine (impl_isSmall.calls a0_0 a0_1 4 true _ A2.out).mono ?_); rintro e w9 ⟨rfl, hb⟩; refine ⟨_, rfl, ?_⟩; replace BK543 := kb_ BK543 hb; replace BK544 := kb_ BK544 hb; replace HB := Aside0.mk (below_step (bv2_ HB GE543 GE544) hb); (try clear hb); (try clear hb2); (try clear hk); (try clear hi); obtain ⟨hcz10_0, hcz10_1, hfz10_0, hfz10_1⟩ := c2_ BK543) | ((with_reducible refine gate_callee (f := 42) rfl ?_); refine gl_ 9 Try.func42 #[.agg #[.int .i64 a0_0, .int .i64 a0_1]] rfl mp_ ?_; (with_reducible refine (impl_Table_canonical.calls a0_0 a0_1 t546 t547 _ A4.out).mono ?_); rintro e w11 ⟨rfl, hb⟩; refine ⟨_, rfl, ?_⟩; replace BK543 := kb_ BK543 hb; replace BK544 := kb_ BK544 hb; replace HB := Aside0.mk (below_step (bv2_ HB GE543 GE544) hb); (try clear hb); (try clear hb2); (try clear hk); (try clear hi); obtain ⟨hcz12_0, hcz12_1, hfz12_0, hfz12_1⟩ := c2_ BK544))
  refine bodyPost_ret (results_ct rfl _ _ gb544 25 #[.int .i64 t546, .int .i64 t547] (0, 0) _ rfl (by (with_reducible repeat (first | refine blk_drewN ?_ _ | refine blk_drew ?_ | refine blk_alloc ?_ _)); refine blk_put (cs := #[.int .i64 t546, .int .i64 0]) ?_ 1 _ rfl; (with_reducible repeat (first | refine blk_drewN ?_ _ | refine blk_drew ?_ | refine blk_alloc ?_ _)); refine blk_put (cs := #[.int .i64 0, .int .i64 0]) ?_ 0 _ rfl; (with_reducible repeat (first | refine blk_drewN ?_ _ | refine blk_drew ?_ | refine blk_alloc ?_ _)); exact BK544.out) Try.underlying25 rfl (by kernel_rfl)) rfl ?_
  exact ⟨er_, bv2_ HB GE543 GE544⟩
 ·replace c3 := Bool.eq_false_iff.mpr c3
  subst c3
  rw [if_neg (show ¬ (false = true) by decide)] at H
  simp only [Option.some.injEq, Prod.mk.injEq] at H
  obtain ⟨rfl, rfl, rfl⟩ := H
  go_enter Try.func10, Try.ntmps10
  go_wp2_with (first | ((with_reducible refine gate_dst (N := 1) rfl ?_); refine bx_ 1 #[.int .i64 a0_0, .int .i64 a0_1] 25 ?_; intro gb543 hg w13 hbox hb; have BK543 := Aside0.mk (hbox); have GW543 := gw_ hg (below_size (bv_ HB)); have GE543 := GW543; replace HB := Aside0.mk (below_step (bv_ HB) hb); clear hb hbox hg) | ((with_reducible refine gate_dst (N := 2) rfl ?_); refine bx_ 2 #[.int .i64 0, .int .i64 0] 25 ?_; intro gb544 hg w14 hbox hb; have BK544 := Aside0.mk (hbox); have GW544 := gw_ hg (below_size (bv1_ HB GE543)); have GE544 := GW544; replace HB := Aside0.mk (below_step (bv1_ HB GE543) hb); have NB543_544 := nb_ hg (blk_lt (g := gb543) (o := .cells #[.int .i64 a0_0, .int .i64 a0_1] 25 (0, 0)) (kv_ BK543)); have NB544_543 := nc_ hg (blk_lt (g := gb543) (o := .cells #[.int .i64 a0_0, .int .i64 a0_1] 25 (0, 0)) (kv_ BK543)); replace BK543 := kb_ BK543 hb; clear hb hbox hg; have hnb15 := NB543_544.out; have hnc15 := NB544_543.out; obtain ⟨hcz16_0, hcz16_1, hfz16_0, hfz16_1⟩ := c2_ BK543) | ((with_reducible refine gate_callee (f := 41) rfl ?_); refine gl_ 5 Try.func41 #[.agg #[.int .i64 a0_0, .int .i64 a0_1], .int .i64 4] rfl mp_ ?_; (with_reducible refine (impl_isSmall.calls a0_0 a0_1 4 false _ A2.out).mono ?_); rintro e w17 ⟨rfl, hb⟩; refine ⟨_, rfl, ?_⟩; replace BK543 := kb_ BK543 hb; replace BK544 := kb_ BK544 hb; replace HB := Aside0.mk (below_step (bv2_ HB GE543 GE544) hb); (try clear hb); (try clear hb2); (try clear hk); (try clear hi); obtain ⟨hcz18_0, hcz18_1, hfz18_0, hfz18_1⟩ := c2_ BK544))
  refine bodyPost_ret (results_ct rfl _ _ gb544 25 #[.int .i64 0, .int .i64 0] (0, 0) _ rfl (by (with_reducible repeat (first | refine blk_drewN ?_ _ | refine blk_drew ?_ | refine blk_alloc ?_ _)); refine blk_put (cs := #[.int .i64 0, .int .i64 0]) ?_ 1 _ rfl; (with_reducible repeat (first | refine blk_drewN ?_ _ | refine blk_drew ?_ | refine blk_alloc ?_ _)); refine blk_put (cs := #[.int .i64 0, .int .i64 0]) ?_ 0 _ rfl; (with_reducible repeat (first | refine blk_drewN ?_ _ | refine blk_drew ?_ | refine blk_alloc ?_ _)); exact BK544.out) Try.underlying25 rfl (by kernel_rfl)) rfl ?_
  exact ⟨er_, bv2_ HB GE543 GE544⟩


/-! ### spec_l1In: function 50 -/
def spec_l1In.f (a0 : Int) (a1 : Int) (a2 : Int) : Option (Bool) := if a0 ≥ a1 then (some (decide (a0 ≤ a2))) else (some false)
set_option maxHeartbeats 8000000 in
set_option maxRecDepth 100000 in
theorem spec_l1In.calls (a0 : Int) (a1 : Int) (a2 : Int) (r : Bool) (w : World) (h : spec_l1In.f a0 a1 a2 = some r) :
  Calls Try.prog 50 #[.int .i64 a0, .int .i64 a1, .int .i64 a2] w fun e w' => e = .returned (.bool r) ∧ Drawn0 w w' := by
 have H : (if a0 ≥ a1 then (some (decide (a0 ≤ a2))) else (some false)) = some r := h
 clear h
 by_cases c4 : a0 ≥ a1
 ·rw [if_pos c4] at H
  have c4b0 : decide (a1 ≤ a0) = true := decide_eq_true c4
  clear c4
  obtain rfl := Option.some.inj H
  go_enter Try.func50, Try.ntmps50
  go_wp2
  go_ret
  exact ⟨by first | rfl | (simp; done) | (simp [*]; done), by repeat (first | exact Drawn0.refl _ | apply Drawn0.step)⟩
 ·rw [if_neg c4] at H
  have c4b0 : decide (a1 ≤ a0) = false := decide_eq_false c4
  clear c4
  obtain rfl := Option.some.inj H
  go_enter Try.func50, Try.ntmps50
  go_wp2
  go_ret
  exact ⟨by first | rfl | (simp; done) | (simp [*]; done), by repeat (first | exact Drawn0.refl _ | apply Drawn0.step)⟩


/-! ### spec_IsTable: function 31 -/
def spec_IsTable.f (a0_0 : Int) (a0_1 : Int) : Option (Bool) := some (decide (0 ≤ a0_0 ∧ a0_0 ≤ 5 ∧ 0 ≤ a0_1 ∧ a0_1 < 2 ^ 2 ^ a0_0.toNat))
theorem spec_IsTable.l1 (x c : Int) (b : Bool) (h : b = decide (0 ≤ x ∧ x ≤ c)) : spec_l1In.f x 0 c = some b := by
  subst h
  unfold spec_l1In.f
  split
  · rename_i h
    simp [show 0 ≤ x from h]
  · rename_i h
    have : ¬ (0 ≤ x) := h
    simp [this]
set_option maxHeartbeats 8000000 in
set_option maxRecDepth 100000 in
theorem spec_IsTable.calls (a0_0 : Int) (a0_1 : Int) (r : Bool) (w : World) (h : spec_IsTable.f a0_0 a0_1 = some r) :
    Calls Try.prog 31 #[.agg #[.int .i64 a0_0, .int .i64 a0_1]] w fun e w' => e = .returned (.bool r) ∧ Below w.heap.size w w' := by
  have hu := Try.underlying25
  have HB := Aside0.mk (Below.refl w.heap.size w)
  unfold spec_IsTable.f at h
  obtain rfl := Option.some.inj h
  clear h
  by_cases hb : 0 ≤ a0_0 ∧ a0_0 ≤ 5
  · rcases (by omega : a0_0 = 0 ∨ a0_0 = 1 ∨ a0_0 = 2 ∨ a0_0 = 3 ∨ a0_0 = 4 ∨ a0_0 = 5) with rfl | rfl | rfl | rfl | rfl | rfl
    · have A2 := Aside0.mk (spec_IsTable.l1 0 5 true (by decide))
      have A7 := Aside0.mk (spec_IsTable.l1 a0_1 1 (decide ((0 : Int) ≤ 0 ∧ (0 : Int) ≤ 5 ∧ 0 ≤ a0_1 ∧ a0_1 < 2 ^ 2 ^ (0 : Int).toNat)) (decide_eq_decide.mpr ⟨fun h => ⟨h.2.2.1, by have := h.2.2.2; simp at this; omega⟩, fun h => ⟨by omega, by omega, h.1, by have := h.2; simp; omega⟩⟩))
      clear hb
      generalize (decide ((0 : Int) ≤ 0 ∧ (0 : Int) ≤ 5 ∧ 0 ≤ a0_1 ∧ a0_1 < 2 ^ 2 ^ (0 : Int).toNat)) = r at *
      go_enter Try.func31, Try.ntmps31
      go_wp2_with fail
      go_quiet (first | (go_at_call 50; (with_reducible refine (spec_l1In.calls 0 0 5 true _ A2.out).mono ?_); rintro e w' ⟨rfl, ⟨nd, rfl⟩⟩; (try first | exact ⟨rfl, _, World.drewN_drewN _ _ _⟩ | exact ⟨rfl, _, Eq.trans (World.drewN_drewN _ _ _) (congrArg (World.drewN _) (Nat.add_assoc _ _ _))⟩)) | (go_at_call 50; (with_reducible refine (spec_l1In.calls a0_1 0 1 r _ A7.out).mono ?_); rintro e w' ⟨rfl, ⟨nd, rfl⟩⟩; (try first | exact ⟨rfl, _, World.drewN_drewN _ _ _⟩ | exact ⟨rfl, _, Eq.trans (World.drewN_drewN _ _ _) (congrArg (World.drewN _) (Nat.add_assoc _ _ _))⟩)))
      go_wp2
      go_ret
      exact ⟨rfl, by repeat (first | (with_reducible first | exact HB.out | apply below_alloc | apply pw_below_drewN | apply below_drew1) | exact HB.out)⟩
    · have A2 := Aside0.mk (spec_IsTable.l1 1 5 true (by decide))
      have A7 := Aside0.mk (spec_IsTable.l1 a0_1 3 (decide ((0 : Int) ≤ 1 ∧ (1 : Int) ≤ 5 ∧ 0 ≤ a0_1 ∧ a0_1 < 2 ^ 2 ^ (1 : Int).toNat)) (decide_eq_decide.mpr ⟨fun h => ⟨h.2.2.1, by have := h.2.2.2; simp at this; omega⟩, fun h => ⟨by omega, by omega, h.1, by have := h.2; simp; omega⟩⟩))
      clear hb
      generalize (decide ((0 : Int) ≤ 1 ∧ (1 : Int) ≤ 5 ∧ 0 ≤ a0_1 ∧ a0_1 < 2 ^ 2 ^ (1 : Int).toNat)) = r at *
      go_enter Try.func31, Try.ntmps31
      go_wp2_with fail
      go_quiet (first | (go_at_call 50; (with_reducible refine (spec_l1In.calls 1 0 5 true _ A2.out).mono ?_); rintro e w' ⟨rfl, ⟨nd, rfl⟩⟩; (try first | exact ⟨rfl, _, World.drewN_drewN _ _ _⟩ | exact ⟨rfl, _, Eq.trans (World.drewN_drewN _ _ _) (congrArg (World.drewN _) (Nat.add_assoc _ _ _))⟩)) | (go_at_call 50; (with_reducible refine (spec_l1In.calls a0_1 0 3 r _ A7.out).mono ?_); rintro e w' ⟨rfl, ⟨nd, rfl⟩⟩; (try first | exact ⟨rfl, _, World.drewN_drewN _ _ _⟩ | exact ⟨rfl, _, Eq.trans (World.drewN_drewN _ _ _) (congrArg (World.drewN _) (Nat.add_assoc _ _ _))⟩)))
      go_wp2
      go_ret
      exact ⟨rfl, by repeat (first | (with_reducible first | exact HB.out | apply below_alloc | apply pw_below_drewN | apply below_drew1) | exact HB.out)⟩
    · have A2 := Aside0.mk (spec_IsTable.l1 2 5 true (by decide))
      have A7 := Aside0.mk (spec_IsTable.l1 a0_1 15 (decide ((0 : Int) ≤ 2 ∧ (2 : Int) ≤ 5 ∧ 0 ≤ a0_1 ∧ a0_1 < 2 ^ 2 ^ (2 : Int).toNat)) (decide_eq_decide.mpr ⟨fun h => ⟨h.2.2.1, by have := h.2.2.2; simp at this; omega⟩, fun h => ⟨by omega, by omega, h.1, by have := h.2; simp; omega⟩⟩))
      clear hb
      generalize (decide ((0 : Int) ≤ 2 ∧ (2 : Int) ≤ 5 ∧ 0 ≤ a0_1 ∧ a0_1 < 2 ^ 2 ^ (2 : Int).toNat)) = r at *
      go_enter Try.func31, Try.ntmps31
      go_wp2_with fail
      go_quiet (first | (go_at_call 50; (with_reducible refine (spec_l1In.calls 2 0 5 true _ A2.out).mono ?_); rintro e w' ⟨rfl, ⟨nd, rfl⟩⟩; (try first | exact ⟨rfl, _, World.drewN_drewN _ _ _⟩ | exact ⟨rfl, _, Eq.trans (World.drewN_drewN _ _ _) (congrArg (World.drewN _) (Nat.add_assoc _ _ _))⟩)) | (go_at_call 50; (with_reducible refine (spec_l1In.calls a0_1 0 15 r _ A7.out).mono ?_); rintro e w' ⟨rfl, ⟨nd, rfl⟩⟩; (try first | exact ⟨rfl, _, World.drewN_drewN _ _ _⟩ | exact ⟨rfl, _, Eq.trans (World.drewN_drewN _ _ _) (congrArg (World.drewN _) (Nat.add_assoc _ _ _))⟩)))
      go_wp2
      go_ret
      exact ⟨rfl, by repeat (first | (with_reducible first | exact HB.out | apply below_alloc | apply pw_below_drewN | apply below_drew1) | exact HB.out)⟩
    · have A2 := Aside0.mk (spec_IsTable.l1 3 5 true (by decide))
      have A7 := Aside0.mk (spec_IsTable.l1 a0_1 255 (decide ((0 : Int) ≤ 3 ∧ (3 : Int) ≤ 5 ∧ 0 ≤ a0_1 ∧ a0_1 < 2 ^ 2 ^ (3 : Int).toNat)) (decide_eq_decide.mpr ⟨fun h => ⟨h.2.2.1, by have := h.2.2.2; simp at this; omega⟩, fun h => ⟨by omega, by omega, h.1, by have := h.2; simp; omega⟩⟩))
      clear hb
      generalize (decide ((0 : Int) ≤ 3 ∧ (3 : Int) ≤ 5 ∧ 0 ≤ a0_1 ∧ a0_1 < 2 ^ 2 ^ (3 : Int).toNat)) = r at *
      go_enter Try.func31, Try.ntmps31
      go_wp2_with fail
      go_quiet (first | (go_at_call 50; (with_reducible refine (spec_l1In.calls 3 0 5 true _ A2.out).mono ?_); rintro e w' ⟨rfl, ⟨nd, rfl⟩⟩; (try first | exact ⟨rfl, _, World.drewN_drewN _ _ _⟩ | exact ⟨rfl, _, Eq.trans (World.drewN_drewN _ _ _) (congrArg (World.drewN _) (Nat.add_assoc _ _ _))⟩)) | (go_at_call 50; (with_reducible refine (spec_l1In.calls a0_1 0 255 r _ A7.out).mono ?_); rintro e w' ⟨rfl, ⟨nd, rfl⟩⟩; (try first | exact ⟨rfl, _, World.drewN_drewN _ _ _⟩ | exact ⟨rfl, _, Eq.trans (World.drewN_drewN _ _ _) (congrArg (World.drewN _) (Nat.add_assoc _ _ _))⟩)))
      go_wp2
      go_ret
      exact ⟨rfl, by repeat (first | (with_reducible first | exact HB.out | apply below_alloc | apply pw_below_drewN | apply below_drew1) | exact HB.out)⟩
    · have A2 := Aside0.mk (spec_IsTable.l1 4 5 true (by decide))
      have A7 := Aside0.mk (spec_IsTable.l1 a0_1 65535 (decide ((0 : Int) ≤ 4 ∧ (4 : Int) ≤ 5 ∧ 0 ≤ a0_1 ∧ a0_1 < 2 ^ 2 ^ (4 : Int).toNat)) (decide_eq_decide.mpr ⟨fun h => ⟨h.2.2.1, by have := h.2.2.2; simp at this; omega⟩, fun h => ⟨by omega, by omega, h.1, by have := h.2; simp; omega⟩⟩))
      clear hb
      generalize (decide ((0 : Int) ≤ 4 ∧ (4 : Int) ≤ 5 ∧ 0 ≤ a0_1 ∧ a0_1 < 2 ^ 2 ^ (4 : Int).toNat)) = r at *
      go_enter Try.func31, Try.ntmps31
      go_wp2_with fail
      go_quiet (first | (go_at_call 50; (with_reducible refine (spec_l1In.calls 4 0 5 true _ A2.out).mono ?_); rintro e w' ⟨rfl, ⟨nd, rfl⟩⟩; (try first | exact ⟨rfl, _, World.drewN_drewN _ _ _⟩ | exact ⟨rfl, _, Eq.trans (World.drewN_drewN _ _ _) (congrArg (World.drewN _) (Nat.add_assoc _ _ _))⟩)) | (go_at_call 50; (with_reducible refine (spec_l1In.calls a0_1 0 65535 r _ A7.out).mono ?_); rintro e w' ⟨rfl, ⟨nd, rfl⟩⟩; (try first | exact ⟨rfl, _, World.drewN_drewN _ _ _⟩ | exact ⟨rfl, _, Eq.trans (World.drewN_drewN _ _ _) (congrArg (World.drewN _) (Nat.add_assoc _ _ _))⟩)))
      go_wp2
      go_ret
      exact ⟨rfl, by repeat (first | (with_reducible first | exact HB.out | apply below_alloc | apply pw_below_drewN | apply below_drew1) | exact HB.out)⟩
    · have A2 := Aside0.mk (spec_IsTable.l1 5 5 true (by decide))
      have A7 := Aside0.mk (spec_IsTable.l1 a0_1 4294967295 (decide ((0 : Int) ≤ 5 ∧ (5 : Int) ≤ 5 ∧ 0 ≤ a0_1 ∧ a0_1 < 2 ^ 2 ^ (5 : Int).toNat)) (decide_eq_decide.mpr ⟨fun h => ⟨h.2.2.1, by have := h.2.2.2; simp at this; omega⟩, fun h => ⟨by omega, by omega, h.1, by have := h.2; simp; omega⟩⟩))
      clear hb
      generalize (decide ((0 : Int) ≤ 5 ∧ (5 : Int) ≤ 5 ∧ 0 ≤ a0_1 ∧ a0_1 < 2 ^ 2 ^ (5 : Int).toNat)) = r at *
      go_enter Try.func31, Try.ntmps31
      go_wp2_with fail
      go_quiet (first | (go_at_call 50; (with_reducible refine (spec_l1In.calls 5 0 5 true _ A2.out).mono ?_); rintro e w' ⟨rfl, ⟨nd, rfl⟩⟩; (try first | exact ⟨rfl, _, World.drewN_drewN _ _ _⟩ | exact ⟨rfl, _, Eq.trans (World.drewN_drewN _ _ _) (congrArg (World.drewN _) (Nat.add_assoc _ _ _))⟩)) | (go_at_call 50; (with_reducible refine (spec_l1In.calls a0_1 0 4294967295 r _ A7.out).mono ?_); rintro e w' ⟨rfl, ⟨nd, rfl⟩⟩; (try first | exact ⟨rfl, _, World.drewN_drewN _ _ _⟩ | exact ⟨rfl, _, Eq.trans (World.drewN_drewN _ _ _) (congrArg (World.drewN _) (Nat.add_assoc _ _ _))⟩)))
      go_wp2
      go_ret
      exact ⟨rfl, by repeat (first | (with_reducible first | exact HB.out | apply below_alloc | apply pw_below_drewN | apply below_drew1) | exact HB.out)⟩
  · have A2 := Aside0.mk (spec_IsTable.l1 a0_0 5 false (by rw [decide_eq_false hb]))
    have e : (decide (0 ≤ a0_0 ∧ a0_0 ≤ 5 ∧ 0 ≤ a0_1 ∧ a0_1 < 2 ^ 2 ^ a0_0.toNat)) = false := decide_eq_false fun h => hb ⟨h.1, h.2.1⟩
    rw [e]
    clear hb e
    go_enter Try.func31, Try.ntmps31
    go_wp2_with fail
    go_quiet (first | (go_at_call 50; (with_reducible refine (spec_l1In.calls a0_0 0 5 false _ A2.out).mono ?_); rintro e w' ⟨rfl, ⟨nd, rfl⟩⟩; (try first | exact ⟨rfl, _, World.drewN_drewN _ _ _⟩ | exact ⟨rfl, _, Eq.trans (World.drewN_drewN _ _ _) (congrArg (World.drewN _) (Nat.add_assoc _ _ _))⟩)))
    go_wp2
    go_ret
    exact ⟨rfl, by repeat (first | (with_reducible first | exact HB.out | apply below_alloc | apply pw_below_drewN | apply below_drew1) | exact HB.out)⟩


end Go.Proofs.Yteljkpglgjjnlaa.P
