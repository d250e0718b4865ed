/- Minimal blocks and packings of blocks. Conditions: numbers below 32. -/
import Derived.Test.YtplnffhjpmnifaaPop
namespace Go.Proofs.YtplnffhjpmnifaaMath
open Go.RowKit Go.Proofs.YtplnffhjpmnifaaW.PrintWords Go.Proofs.YtplnffhjpmnifaaW.PrintLast Go.Proofs.YtplnffhjpmnifaaW.PrintMore
set_option linter.unusedVariables false
set_option linter.unusedSimpArgs false

/-! ### Minimal blocks -/
/-- Does a part of a block change the value? -/
def partOf (w x b q : Nat) : Bool := q != 0 && (q &&& b == q) && chg w x q
def isMin (w x b : Nat) : Bool := chg w x b && (List.range b).all fun q => !partOf w x b q
def blk (w x b : Nat) : List Nat := (List.range b).filter (isMin w x)
def ints (l : List Nat) : List Int := l.map fun (a : Nat) => (a : Int)
theorem chg_zero (w x : Nat) : chg w x 0 = false := by unfold chg; rw [Nat.xor_zero]; cases w.testBit x <;> rfl
theorem isMin_pos {w x b : Nat} (h : isMin w x b = true) : b ≠ 0 := by
  rintro rfl
  unfold isMin at h
  rw [chg_zero] at h
  exact absurd h (by simp)
theorem blk_succ (w x b : Nat) : blk w x (b + 1) = blk w x b ++ if isMin w x b = true then [b] else [] := by
  unfold blk
  rw [List.range_succ, List.filter_append]
  congr 1
  by_cases h : isMin w x b = true
  · simp [h]
  · simp [h]
theorem blk_len (w x b : Nat) : (blk w x b).length ≤ b := by
  unfold blk
  have := List.length_filter_le (isMin w x) (List.range b)
  rw [List.length_range] at this
  exact this
theorem blk_mem {w x N b : Nat} : b ∈ blk w x N ↔ b < N ∧ isMin w x b = true := by
  unfold blk
  rw [List.mem_filter, List.mem_range]
theorem ints_len (l : List Nat) : (ints l).length = l.length := by simp [ints]
theorem ints_append (l : List Nat) (b : Nat) : ints (l ++ [b]) = ints l ++ [(b : Int)] := by simp [ints]
theorem ints_rd {l : List Nat} {i : Nat} (h : i < l.length) : rd (ints l) (i : Int) = ((l[i] : Nat) : Int) := by
  rw [rd_nat]
  simp [ints, List.getD_eq_getElem?_getD, h]
/-- The greatest part of a set below another part. -/
theorem next_part0 : ∀ b, b < 32 → ∀ p, p < 32 → ∀ q, q < 32 → (p &&& b = p ∧ 0 < p ∧ q &&& b = q ∧ q < p) → q ≤ (p - 1) &&& b := by decide +kernel
theorem next_part (b : Nat) (hb : b < 32) (p : Nat) (hp : p < 32) (h1 : p &&& b = p) (h2 : 0 < p) (q : Nat) (hq : q < 32) (h3 : q &&& b = q) (h4 : q < p) : q ≤ (p - 1) &&& b := next_part0 b hb p hp q hq ⟨h1, h2, h3, h4⟩
theorem part_closed (b p : Nat) : ((p - 1) &&& b) &&& b = (p - 1) &&& b := by rw [Nat.and_assoc, Nat.and_self]
/-- Below every block that changes the value lies a minimal one. -/
theorem min_below (w x b : Nat) : ∀ m q, q ≤ m → partOf w x b q = true → ∃ o, o ≤ q ∧ isMin w x o = true ∧ partOf w x b o = true := by
  intro m
  induction m with
  | zero =>
    intro q hq h
    obtain rfl : q = 0 := by omega
    simp [partOf] at h
  | succ m ih =>
    intro q hq h
    by_cases hm : isMin w x q = true
    · exact ⟨q, Nat.le_refl _, hm, h⟩
    · have hq2 : q ≠ 0 ∧ q &&& b = q ∧ chg w x q = true := by simpa [partOf, and_assoc] using h
      obtain ⟨h1, h2, h3⟩ := hq2
      have : ∃ r, r < q ∧ partOf w x q r = true := by
        unfold isMin at hm
        rw [h3, Bool.true_and] at hm
        simpa using hm
      obtain ⟨r, hr, hp⟩ := this
      have hr2 : r ≠ 0 ∧ r &&& q = r ∧ chg w x r = true := by simpa [partOf, and_assoc] using hp
      have hrb : r &&& b = r := by
        rw [← hr2.2.1, Nat.and_assoc, h2]
      have hp2 : partOf w x b r = true := by simp [partOf, hr2.1, hrb, hr2.2.2]
      obtain ⟨o, ho, hmo, hpo⟩ := ih r (by omega) hp2
      exact ⟨o, by omega, hmo, hpo⟩
/-- A block is minimal if it changes the value and no minimal one before it is a part of it. -/
theorem isMin_iff {w x b : Nat} (hc : chg w x b = true) : isMin w x b = (blk w x b).all fun o => o &&& b != o := by
  rw [Bool.eq_iff_iff]
  constructor
  · intro h
    rw [List.all_eq_true]
    intro o ho
    obtain ⟨h1, h2⟩ := blk_mem.1 ho
    rw [bne_iff_ne]
    intro e
    unfold isMin at h
    rw [hc, Bool.true_and, List.all_eq_true] at h
    have := h o (List.mem_range.2 h1)
    have hco : chg w x o = true := by unfold isMin at h2; rw [Bool.and_eq_true] at h2; exact h2.1
    have h0 := isMin_pos h2
    simp [partOf, e, hco, h0] at this
  · intro h
    rw [List.all_eq_true] at h
    unfold isMin
    rw [hc, Bool.true_and, List.all_eq_true]
    intro q hq
    rw [List.mem_range] at hq
    by_cases hp : partOf w x b q = true
    · exfalso
      obtain ⟨o, ho, hmo, hpo⟩ := min_below w x b q q (Nat.le_refl _) hp
      have := h o (blk_mem.2 ⟨by omega, hmo⟩)
      have hpo2 : o ≠ 0 ∧ o &&& b = o ∧ chg w x o = true := by simpa [partOf, and_assoc] using hpo
      rw [hpo2.2.1] at this
      simp at this
    · simpa using hp
/-- What is left of a minimality test from a part down. -/
def downOk (w x b p : Nat) : Bool := (List.range (p + 1)).all fun q => !partOf w x b q
theorem downOk_zero (w x b : Nat) : downOk w x b 0 = true := by unfold downOk; simp [partOf]
theorem downOk_step {w x b p : Nat} (hb : b < 32) (hp : p &&& b = p) (h0 : 0 < p) (hpb : p < 32) : downOk w x b p = (!chg w x p && downOk w x b ((p - 1) &&& b)) := by
  unfold downOk
  rw [Bool.eq_iff_iff, Bool.and_eq_true, List.all_eq_true, List.all_eq_true]
  constructor
  · intro h
    refine ⟨?_, fun q hq => h q ?_⟩
    · have := h p (List.mem_range.2 (by omega))
      simpa [partOf, hp, show p ≠ 0 by omega] using this
    · rw [List.mem_range] at hq ⊢
      have : (p - 1) &&& b ≤ p - 1 := Nat.and_le_left
      omega
  · rintro ⟨h1, h2⟩ q hq
    rw [List.mem_range] at hq
    by_cases e : q = p
    · subst e
      simp at h1
      simp [partOf, h1]
    · by_cases hqb : q &&& b = q
      · exact h2 q (List.mem_range.2 (by have := next_part b hb p hpb hp h0 q (by omega) hqb (by omega); omega))
      · simp [partOf, hqb]
theorem isMin_down {w x b : Nat} (hb : b < 32) (h0 : 0 < b) : isMin w x b = (chg w x b && downOk w x b ((b - 1) &&& b)) := by
  unfold isMin downOk
  congr 1
  rw [Bool.eq_iff_iff, List.all_eq_true, List.all_eq_true]
  constructor
  · intro h q hq
    rw [List.mem_range] at hq
    refine h q (List.mem_range.2 ?_)
    have : (b - 1) &&& b ≤ b - 1 := Nat.and_le_left
    omega
  · intro h q hq
    rw [List.mem_range] at hq
    by_cases hqb : q &&& b = q
    · exact h q (List.mem_range.2 (by have := next_part b hb b hb (Nat.and_self b) h0 q (by omega) hqb hq; omega))
    · simp [partOf, hqb]
/-! ### Blocks without common variables -/
/-- The greatest number of blocks of a list that have no variable in common with each other and with a set. -/
def pack : List Nat → Nat → Nat
  | [], _ => 0
  | b :: l, u => if b &&& u = 0 then max (pack l u) (1 + pack l (u ||| b)) else pack l u
theorem or_disj {a u b : Nat} : a &&& (u ||| b) = 0 ↔ a &&& u = 0 ∧ a &&& b = 0 := by rw [Nat.and_or_distrib_left, Nat.or_eq_zero_iff]
theorem pack_len (l : List Nat) : ∀ u, pack l u ≤ l.length := by
  induction l with
  | nil => intro u; exact Nat.le_refl _
  | cons b l ih =>
    intro u
    have h1 := ih u
    have h2 := ih (u ||| b)
    simp only [pack, List.length_cons]
    split <;> omega
/-- A block that fits makes a packing greater by one. -/
theorem pack_one {b : Nat} (h0 : b ≠ 0) : ∀ (l : List Nat) (u : Nat), b ∈ l → b &&& u = 0 → 1 + pack l (u ||| b) ≤ pack l u := by
  intro l
  induction l with
  | nil => intro u h; exact absurd h (by simp)
  | cons c l ih =>
    intro u hb hu
    by_cases e : b = c
    · subst e
      have h1 : pack (b :: l) (u ||| b) = pack l (u ||| b) := by
        simp only [pack]
        rw [if_neg]
        intro h
        have := (or_disj.1 h).2
        rw [Nat.and_self] at this
        exact h0 this
      rw [h1]
      simp only [pack]
      rw [if_pos hu]
      omega
    · have hbl : b ∈ l := by
        rcases List.mem_cons.1 hb with h | h
        · exact absurd h e
        · exact h
      have h1 := ih u hbl hu
      simp only [pack]
      by_cases hc : c &&& (u ||| b) = 0
      · obtain ⟨hc1, hc2⟩ := or_disj.1 hc
        rw [if_pos hc, if_pos hc1]
        have h2 := ih (u ||| c) hbl (or_disj.2 ⟨hu, by rw [Nat.and_comm]; exact hc2⟩)
        rw [Nat.or_assoc, Nat.or_comm c b, ← Nat.or_assoc] at h2
        omega
      · rw [if_neg hc]
        split <;> omega
theorem pack_suffix (pre l : List Nat) (u : Nat) : pack l u ≤ pack (pre ++ l) u := by
  induction pre with
  | nil => exact Nat.le_refl _
  | cons b pre ih =>
    rw [List.cons_append]
    simp only [pack]
    split <;> omega
theorem pack_le_of {l : List Nat} {u M : Nat} (hM : ∀ b ∈ l, b &&& u = 0 → 1 + pack l (u ||| b) ≤ M) : pack l u ≤ M := by
  have : ∀ (l' pre : List Nat), l = pre ++ l' → pack l' u ≤ M := by
    intro l'
    induction l' with
    | nil => intro _ _; exact Nat.zero_le _
    | cons b l' ih =>
      intro pre h
      have h1 := ih (pre ++ [b]) (by rw [h, List.append_assoc]; rfl)
      simp only [pack]
      by_cases hb : b &&& u = 0
      · rw [if_pos hb]
        have h2 := hM b (by rw [h]; simp) hb
        have h3 := pack_suffix (pre ++ [b]) l' (u ||| b)
        rw [List.append_assoc, List.singleton_append, ← h] at h3
        omega
      · rw [if_neg hb]
        exact h1
  exact this l [] rfl
/-- A step of the search for the greatest packing, a block at a time. -/
def stepB (l : List Nat) (u m b : Nat) : Nat := if b &&& u = 0 then max m (1 + pack l (u ||| b)) else m
def foldB (l : List Nat) (u : Nat) (bs : List Nat) : Nat := bs.foldl (stepB l u) 0
theorem stepB_ge (l : List Nat) (u m b : Nat) : m ≤ stepB l u m b := by unfold stepB; split <;> omega
theorem foldl_ge (l : List Nat) (u : Nat) : ∀ (bs : List Nat) (m : Nat), m ≤ bs.foldl (stepB l u) m := by
  intro bs
  induction bs with
  | nil => intro m; exact Nat.le_refl _
  | cons b bs ih => intro m; exact Nat.le_trans (stepB_ge l u m b) (ih _)
theorem foldl_mem (l : List Nat) (u : Nat) : ∀ (bs : List Nat) (m b : Nat), b ∈ bs → b &&& u = 0 → 1 + pack l (u ||| b) ≤ bs.foldl (stepB l u) m := by
  intro bs
  induction bs with
  | nil => intro m b h; exact absurd h (by simp)
  | cons c bs ih =>
    intro m b hb hu
    rcases List.mem_cons.1 hb with rfl | h
    · refine Nat.le_trans ?_ (foldl_ge l u bs _)
      unfold stepB
      rw [if_pos hu]
      omega
    · exact ih _ b h hu
theorem foldl_upper (l : List Nat) (u M : Nat) (hM : ∀ b ∈ l, b &&& u = 0 → 1 + pack l (u ||| b) ≤ M) : ∀ (bs : List Nat) (m : Nat), (∀ b ∈ bs, b ∈ l) → m ≤ M → bs.foldl (stepB l u) m ≤ M := by
  intro bs
  induction bs with
  | nil => intro m _ h; exact h
  | cons b bs ih =>
    intro m hs h
    refine ih _ (fun c hc => hs c (by simp [hc])) ?_
    unfold stepB
    split
    · rename_i hb
      have := hM b (hs b (by simp)) hb
      omega
    · exact h
theorem foldB_eq {l : List Nat} (hl : ∀ b ∈ l, b ≠ 0) (u : Nat) : foldB l u l = pack l u := by
  apply Nat.le_antisymm
  · exact foldl_upper l u _ (fun b hb hu => pack_one (hl b hb) l u hb hu) l 0 (fun _ h => h) (Nat.zero_le _)
  · exact pack_le_of fun b hb hu => foldl_mem l u l 0 b hb hu
/-- What is left of a set without a block. -/
def minus (s b : Nat) : Nat := s ^^^ (s &&& b)
def factB (n s b : Nat) : Bool := (decide (b &&& (2 ^ n - 1 - s) = 0) == decide (minus b s = 0)) && (!decide (minus b s = 0) || (decide ((2 ^ n - 1 - s) ||| b = 2 ^ n - 1 - minus s b) && (decide (b = 0) || decide (minus s b < s))))
def factsB : Bool := (List.range 6).all fun n => (List.range (2 ^ n)).all fun s => (List.range (2 ^ n)).all fun b => factB n s b
theorem factsB_true : factsB = true := by decide +kernel
theorem full_facts0 (n : Nat) (hn : n < 6) (s : Nat) (hs : s < 2 ^ n) (b : Nat) (hb : b < 2 ^ n) : (decide (b &&& (2 ^ n - 1 - s) = 0) = decide (minus b s = 0)) ∧ (¬ minus b s = 0 ∨ ((2 ^ n - 1 - s) ||| b = 2 ^ n - 1 - minus s b ∧ (b = 0 ∨ minus s b < s))) := by
  have h := factsB_true
  unfold factsB at h
  rw [List.all_eq_true] at h
  have h := h n (List.mem_range.2 hn)
  rw [List.all_eq_true] at h
  have h := h s (List.mem_range.2 hs)
  rw [List.all_eq_true] at h
  have h := h b (List.mem_range.2 hb)
  unfold factB at h
  simp only [Bool.and_eq_true, Bool.or_eq_true, beq_iff_eq, Bool.not_eq_true', decide_eq_true_eq, decide_eq_false_iff_not] at h
  exact h
theorem full_facts (n : Nat) (hn : n < 6) (s : Nat) (hs : s < 2 ^ n) (b : Nat) (hb : b < 2 ^ n) : (b &&& (2 ^ n - 1 - s) = 0 ↔ minus b s = 0) ∧ (minus b s = 0 → (2 ^ n - 1 - s) ||| b = 2 ^ n - 1 - minus s b ∧ (b ≠ 0 → minus s b < s)) := by
  obtain ⟨h1, h2⟩ := full_facts0 n hn s hs b hb
  refine ⟨decide_eq_decide.mp h1, fun h => ?_⟩
  rcases h2 with h2 | ⟨h2, h3⟩
  · exact absurd h h2
  · refine ⟨h2, fun h0 => ?_⟩
    rcases h3 with h3 | h3
    · exact absurd h3 h0
    · exact h3
/-- The greatest number of blocks inside a set, as a whole number. -/
def inset (n : Nat) (l : List Nat) (s : Nat) : Int := ((pack l (2 ^ n - 1 - s) : Nat) : Int)
theorem rwAt_rd_lt {N u j : Nat} (F : Nat → Int) (v : Int) (h : j < u) : rd (rwAt N u F v) (j : Int) = F j := by
  rw [rd_nat]
  unfold rwAt
  rw [List.getD_eq_getElem?_getD, List.getElem?_append_left (by rw [tab_len]; exact h)]
  simp [tab, h]
theorem rwS_rd_lt {N u j : Nat} (F : Nat → Int) (h : j < u) : rd (rwS N u F) (j : Int) = F j := by
  rw [rd_nat]
  unfold rwS
  rw [List.getD_eq_getElem?_getD, List.getElem?_append_left (by rw [tab_len]; exact h)]
  simp [tab, h]
theorem mx_nat (a b : Nat) : mx (a : Int) (b : Int) = ((max a b : Nat) : Int) := by
  unfold mx
  split <;> omega
end Go.Proofs.YtplnffhjpmnifaaMath
