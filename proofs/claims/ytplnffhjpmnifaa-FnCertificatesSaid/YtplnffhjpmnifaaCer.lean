/- Certificates, sensitive blocks and packings: how they bound each other. Conditions: at most five variables. -/
import Derived.Test.YtplnffhjpmnifaaInf
import Derived.Test.YtplnffhjpmnifaaCub
import Derived.Test.YtplnffhjpmnifaaBlk
namespace Go.Proofs.YtplnffhjpmnifaaMath
open Go.RowKit Go.Proofs.YtplnffhjpmnifaaW.PrintWords Go.Proofs.YtplnffhjpmnifaaW.PrintLast Go.Proofs.YtplnffhjpmnifaaW.PrintMore
set_option linter.unusedVariables false
set_option linter.unusedSimpArgs false

theorem seenB_ex {w m v N : Nat} {b : Bool} : seenB w m v b N = true ↔ ∃ x, x < N ∧ x &&& m = v ∧ w.testBit x = b := by
  induction N with
  | zero => simp [seenB]
  | succ N ih =>
    simp only [seenB]
    rw [Bool.or_eq_true, ih, Bool.and_eq_true, beq_iff_eq, beq_iff_eq]
    constructor
    · rintro (⟨x, h1, h2, h3⟩ | ⟨h2, h3⟩)
      · exact ⟨x, by omega, h2, h3⟩
      · exact ⟨N, by omega, h2, h3⟩
    · rintro ⟨x, h1, h2, h3⟩
      by_cases e : x = N
      · subst e; exact .inr ⟨h2, h3⟩
      · exact .inl ⟨x, by omega, h2, h3⟩
theorem certOk_iff {n w m x : Nat} (hx : x < 2 ^ n) : certOk n w m x = true ↔ ∀ y, y < 2 ^ n → y &&& m = x &&& m → w.testBit y = w.testBit x := by
  unfold certOk cubeV
  rw [decide_eq_true_iff]
  constructor
  · intro h y hy e
    have h1 := seenB_at (w := w) (m := m) (v := x &&& m) hx rfl
    have h2 := seenB_at (w := w) (m := m) (v := x &&& m) hy e
    cases a : w.testBit y <;> cases b : w.testBit x <;> rw [a] at h2 <;> rw [b] at h1 <;> first | rfl | (rw [h1, h2, if_pos rfl, if_pos rfl] at h; exact absurd h (by decide))
  · intro h
    by_cases h1 : seenB w m (x &&& m) true (2 ^ n) = true
    · rw [if_pos h1]
      by_cases h2 : seenB w m (x &&& m) false (2 ^ n) = true
      · obtain ⟨y, hy, e, a⟩ := seenB_ex.1 h1
        obtain ⟨z, hz, e', b⟩ := seenB_ex.1 h2
        have := (h y hy e).trans (h z hz e').symm
        rw [a, b] at this
        exact absurd this (by decide)
      · rw [if_neg h2]
        decide
    · rw [if_neg h1]
      decide
theorem certOk_full {n w x : Nat} (hx : x < 2 ^ n) : certOk n w (2 ^ n - 1) x = true := by
  rw [certOk_iff hx]
  intro y hy e
  rw [Nat.and_two_pow_sub_one_eq_mod, Nat.and_two_pow_sub_one_eq_mod, Nat.mod_eq_of_lt hy, Nat.mod_eq_of_lt hx] at e
  rw [e]
theorem certB_ok {n w x : Nat} (hx : x < 2 ^ n) (m : Nat) : certOk n w (certB n w x m) x = true := by
  induction m with
  | zero => exact certOk_full hx
  | succ m ih =>
    simp only [certB]
    split
    · split
      · assumption
      · exact ih
    · exact ih
theorem cert_ok {n w x : Nat} (hx : x < 2 ^ n) : certOk n w (cert n w x) x = true := certB_ok hx _
/-- A sensitive block meets each certificate. -/
theorem block_meets {n w x b : Nat} (hx : x < 2 ^ n) (hb : b < 2 ^ n) (h : chg w x b = true) : b &&& cert n w x ≠ 0 := by
  intro e
  have := (certOk_iff hx).1 (cert_ok (w := w) hx) (x ^^^ b) (Nat.xor_lt_two_pow hx hb) (by rw [Nat.and_xor_distrib_right, e, Nat.xor_zero])
  unfold chg at h
  rw [this, bne_self_eq_false] at h
  exact absurd h (by decide)
theorem blk_chg {w x N b : Nat} (h : b ∈ blk w x N) : b < N ∧ chg w x b = true := by
  obtain ⟨h1, h2⟩ := blk_mem.1 h
  unfold isMin at h2
  rw [Bool.and_eq_true] at h2
  exact ⟨h1, h2.1⟩
theorem isMin_pow {w x j : Nat} (h : chg w x (2 ^ j) = true) : isMin w x (2 ^ j) = true := by
  unfold isMin
  rw [h, Bool.true_and, List.all_eq_true]
  intro q hq
  rw [List.mem_range] at hq
  unfold partOf
  have : ¬ (q ≠ 0 ∧ q &&& 2 ^ j = q) := by
    rintro ⟨h0, h1⟩
    cases hb : q.testBit j
    · rw [and_pow0 hb] at h1
      exact h0 h1.symm
    · rw [and_pow hb] at h1
      omega
  by_cases h0 : q = 0
  · simp [h0]
  · have h1 : ¬ q &&& 2 ^ j = q := fun h1 => this ⟨h0, h1⟩
    simp [h1]
/-- The variables that matter at an input are blocks without common variables. -/
theorem sens_le_pack {n w x : Nat} : sens n w x ≤ ((pack (blk w x (2 ^ n)) 0 : Nat) : Int) := by
  have key : ∀ j, j ≤ n → ∀ u, (∀ i, i < j → u.testBit i = false) → sumI j (fun i => b2i (chg w x (2 ^ i))) ≤ ((pack (blk w x (2 ^ n)) u : Nat) : Int) := by
    intro j
    induction j with
    | zero => intro _ u _; simp only [sumI]; omega
    | succ j ih =>
      intro hj u hu
      simp only [sumI]
      cases hc : chg w x (2 ^ j)
      · have := ih (by omega) u fun i hi => hu i (by omega)
        simp only [b2i, Bool.false_eq_true, if_false]
        simp only [b2i] at this
        omega
      · have hm : 2 ^ j ∈ blk w x (2 ^ n) := blk_mem.2 ⟨Nat.pow_lt_pow_right (by omega) (by omega), isMin_pow hc⟩
        have hd : 2 ^ j &&& u = 0 := by rw [Nat.and_comm]; exact and_pow0 (hu j (by omega))
        have h1 := pack_one (by have := Nat.two_pow_pos j; omega) _ u hm hd
        have h2 := ih (by omega) (u ||| 2 ^ j) fun i hi => by
          rw [Nat.testBit_or, hu i (by omega), Nat.testBit_two_pow]
          simp
          omega
        rw [show b2i true = 1 from rfl]
        omega
  exact key n (Nat.le_refl _) 0 fun i _ => Nat.zero_testBit i
/-- Blocks without common variables that all meet a set are at most as many as its variables. -/
theorem pack_le_pc {n K : Nat} (hn : n ≤ 32) (hK : K < 2 ^ n) {l : List Nat} (hl : ∀ b ∈ l, b < 2 ^ n ∧ b &&& K ≠ 0) (u : Nat) : ((pack l u : Nat) : Int) ≤ sumI n fun i => b2i (K.testBit i && !u.testBit i) := by
  induction l generalizing u with
  | nil =>
    have := sumI_bound (n := n) (f := fun i => b2i (K.testBit i && !u.testBit i)) (a := 0) (b := 1) fun i _ => b2i_range _
    simp only [pack]
    omega
  | cons b l ih =>
    have h1 := ih (fun c hc => hl c (by simp [hc])) u
    simp only [pack]
    by_cases hb : b &&& u = 0
    · rw [if_pos hb]
      have h2 := ih (fun c hc => hl c (by simp [hc])) (u ||| b)
      obtain ⟨hbn, hbK⟩ := hl b (by simp)
      obtain ⟨i, hi⟩ := Nat.exists_testBit_of_ne_zero hbK
      rw [Nat.testBit_and, Bool.and_eq_true] at hi
      have hin : i < n := by
        apply Nat.lt_of_not_le
        intro hle
        have := Nat.testBit_lt_two_pow (Nat.lt_of_lt_of_le hbn (Nat.pow_le_pow_right (by omega) hle))
        rw [this] at hi
        exact absurd hi.1 (by decide)
      have hui : u.testBit i = false := by
        have : (b &&& u).testBit i = false := by rw [hb, Nat.zero_testBit]
        rw [Nat.testBit_and, hi.1, Bool.true_and] at this
        exact this
      have h3 := sumI_le (n := n) (f := fun j => b2i (K.testBit j && !(u ||| b).testBit j) + if j = i then 1 else 0) (g := fun j => b2i (K.testBit j && !u.testBit j)) fun j _ => by
        by_cases e : j = i
        · subst e
          simp only [if_pos, Nat.testBit_or, hi.1, hi.2, hui]
          decide
        · rw [if_neg e, Nat.testBit_or]
          cases K.testBit j <;> cases u.testBit j <;> cases b.testBit j <;> decide
      rw [sumI_add_f, sumI_one hin] at h3
      omega
    · rw [if_neg hb]
      exact h1
theorem pack_le_cert {n w x : Nat} (hn : n ≤ 32) (hx : x < 2 ^ n) : pack (blk w x (2 ^ n)) 0 ≤ pc (cert n w x) := by
  have h := pack_le_pc hn (cert_lt n w x) (l := blk w x (2 ^ n)) (fun b hb => ⟨(blk_chg hb).1, block_meets hx (blk_chg hb).1 (blk_chg hb).2⟩) 0
  rw [sumI_congr (g := fun i => b2i ((cert n w x).testBit i)) fun i _ => by rw [Nat.zero_testBit, Bool.not_false, Bool.and_true], ← pc_sum hn (cert_lt n w x)] at h
  omega
theorem certM_ge (n w : Nat) : ∀ N x, x < N → ((pc (cert n w x) : Nat) : Int) ≤ certM n w (b2i (w.testBit x)) N := by
  intro N
  induction N with
  | zero => intro x hx; omega
  | succ N ih =>
    intro x hx
    simp only [certM]
    by_cases e : x = N
    · subst e
      rw [if_pos rfl]
      simp only [mx]
      split <;> omega
    · have := ih x (by omega)
      split
      · simp only [mx]
        split <;> omega
      · exact this
/-- Certificates of inputs with unlike values meet where the inputs differ. -/
theorem meets_all {n w x y : Nat} (hx : x < 2 ^ n) (hy : y < 2 ^ n) : meets n w x y = true := by
  unfold meets
  by_cases h : w.testBit x = w.testBit y
  · rw [h, beq_self_eq_true, Bool.true_or]
  · rw [Bool.or_eq_true]
    refine .inr ?_
    rw [bne_iff_ne]
    intro e
    have hbit : ∀ i, (cert n w x).testBit i = true → (cert n w y).testBit i = true → x.testBit i = y.testBit i := by
      intro i h1 h2
      have : (cert n w x &&& cert n w y &&& (x ^^^ y)).testBit i = false := by rw [e, Nat.zero_testBit]
      rw [Nat.testBit_and, Nat.testBit_and, Nat.testBit_xor, h1, h2] at this
      cases a : x.testBit i <;> cases b : y.testBit i <;> rw [a, b] at this <;> first | rfl | exact absurd this (by decide)
    have hz : (x &&& cert n w x ||| y &&& cert n w y) < 2 ^ n := Nat.or_lt_two_pow (Nat.and_lt_two_pow _ (cert_lt n w x)) (Nat.and_lt_two_pow _ (cert_lt n w y))
    have h1 := (certOk_iff hx).1 (cert_ok (w := w) hx) _ hz (by
      apply Nat.eq_of_testBit_eq
      intro i
      have := hbit i
      simp only [Nat.testBit_and, Nat.testBit_or]
      cases a : (cert n w x).testBit i <;> cases b : (cert n w y).testBit i <;> cases c : x.testBit i <;> cases d : y.testBit i <;> rw [a, b, c, d] at this <;> first | rfl | exact absurd (this rfl rfl) (by decide))
    have h2 := (certOk_iff hy).1 (cert_ok (w := w) hy) _ hz (by
      apply Nat.eq_of_testBit_eq
      intro i
      have := hbit i
      simp only [Nat.testBit_and, Nat.testBit_or]
      cases a : (cert n w x).testBit i <;> cases b : (cert n w y).testBit i <;> cases c : x.testBit i <;> cases d : y.testBit i <;> rw [a, b, c, d] at this <;> first | rfl | exact absurd (this rfl rfl) (by decide))
    exact h (h1.symm.trans h2)
theorem meetH_true (n w : Nat) : meetH n w (2 ^ n) = true := by
  unfold meetH meetAll
  rw [List.all_eq_true]
  intro x hx
  rw [List.all_eq_true]
  intro y hy
  rw [List.mem_range] at hx hy
  exact meets_all hx (by omega)
end Go.Proofs.YtplnffhjpmnifaaMath
