/- Orders of variables: each number below n once; and the game against the adversary. Conditions: each lemma names its own. -/
import Derived.Test.YtflnlnkbepoimaaQue
namespace Go.Proofs.YtflnlnkbepoimaaMath
open Go.RowKit Go.Proofs.YtflnlnkbepoimaaW.PrintWords Go.Proofs.YtflnlnkbepoimaaW.PrintLast Go.Proofs.YtflnlnkbepoimaaW.PrintMore
set_option linter.unusedVariables false
set_option linter.unusedSimpArgs false

theorem cover_len : ∀ (n : Nat) (l : List Nat), (∀ i, i < n → i ∈ l) → n ≤ l.length := by
  intro n
  induction n with
  | zero => intro l _; omega
  | succ n ih =>
    intro l h
    have hm := h n (by omega)
    have h2 := ih (l.erase n) fun i hi => (List.mem_erase_of_ne (by omega)).2 (h i (by omega))
    rw [List.length_erase_of_mem hm] at h2
    have : 0 < l.length := List.length_pos_of_mem hm
    omega
theorem pigeon : ∀ (n : Nat) (l : List Nat), l.Nodup → (∀ x ∈ l, x < n) → l.length ≤ n := by
  intro n
  induction n with
  | zero =>
    intro l _ h
    cases l with
    | nil => exact Nat.le_refl _
    | cons x l => exact absurd (h x (by simp)) (by omega)
  | succ n ih =>
    intro l hd h
    by_cases hm : n ∈ l
    · have h2 := ih (l.erase n) (hd.erase n) fun x hx => by
        have h3 := h x (List.mem_of_mem_erase hx)
        have h4 : x ≠ n := fun e => by subst e; exact (List.Nodup.not_mem_erase hd) hx
        omega
      rw [List.length_erase_of_mem hm] at h2
      omega
    · have h2 := ih l hd fun x hx => by
        have h3 := h x hx
        have h4 : x ≠ n := fun e => hm (e ▸ hx)
        omega
      omega
/-- A list of n numbers that has each number below n has each once, and no other. -/
theorem order_nodup {n : Nat} {l : List Nat} (hl : l.length = n) (h : ∀ i, i < n → i ∈ l) : l.Nodup ∧ ∀ x ∈ l, x < n := by
  have key : ∀ x, x ∈ l → (∀ i, i < n → i ∈ l.erase x) → False := fun x hx h2 => by
    have h3 := cover_len n _ h2
    rw [List.length_erase_of_mem hx] at h3
    have : 0 < l.length := List.length_pos_of_mem hx
    omega
  have hlt : ∀ x ∈ l, x < n := fun x hx => by
    apply Nat.lt_of_not_le
    intro hn
    exact key x hx fun i hi => (List.mem_erase_of_ne (by omega)).2 (h i hi)
  refine ⟨?_, hlt⟩
  apply Classical.byContradiction
  intro hd
  obtain ⟨x, hx, hx2⟩ : ∃ x, x ∈ l ∧ x ∈ l.erase x := by
    clear key hlt h hl
    induction l with
    | nil => exact absurd List.nodup_nil hd
    | cons a l ih =>
      by_cases ha : a ∈ l
      · exact ⟨a, by simp, by rw [List.erase_cons_head]; exact ha⟩
      · have : ¬ l.Nodup := fun h => hd (List.nodup_cons.2 ⟨ha, h⟩)
        obtain ⟨x, h1, h2⟩ := ih this
        refine ⟨x, by simp [h1], ?_⟩
        have hne : a ≠ x := fun e => ha (e ▸ h1)
        rw [List.erase_cons_tail (by simpa using hne)]
        exact List.mem_cons_of_mem _ h2
  exact key x hx fun i hi => by
    by_cases e : i = x
    · subst e; exact hx2
    · exact (List.mem_erase_of_ne e).2 (h i hi)
def ordB (l : List Int) (n : Nat) : Bool := (l.length == n) && (List.range n).all fun i => l.contains (i : Int)
/-- The order as natural numbers. -/
theorem ordB_yes {l : List Int} {n : Nat} (h : ordB l n = true) : ∃ ns : List Nat, l = ns.map (fun i : Nat => (i : Int)) ∧ ns.length = n ∧ ns.Nodup ∧ ∀ x ∈ ns, x < n := by
  unfold ordB at h
  rw [Bool.and_eq_true, beq_iff_eq, List.all_eq_true] at h
  obtain ⟨hl, hc⟩ := h
  have hc2 : ∀ i, i < n → (i : Int) ∈ l := fun i hi => by simpa using hc i (List.mem_range.2 hi)
  -- numbers below 0 are sent to n, so that they count as too great
  have hm : ∀ i, i < n → i ∈ l.map (fun x => if x < 0 then n else x.toNat) := fun i hi => List.mem_map.2 ⟨(i : Int), hc2 i hi, by rw [if_neg (by omega)]; simp⟩
  have ho := order_nodup (n := n) (l := l.map (fun x => if x < 0 then n else x.toNat)) (by simpa using hl) hm
  refine ⟨l.map (fun x => if x < 0 then n else x.toNat), ?_, by simpa using hl, ho.1, ho.2⟩
  rw [List.map_map]
  symm
  have : ∀ x ∈ l, ((fun i : Nat => (i : Int)) ∘ fun x : Int => if x < 0 then n else x.toNat) x = x := fun x hx => by
    have h2 := ho.2 _ (List.mem_map_of_mem hx)
    simp only [Function.comp_def]
    by_cases h0 : x < 0
    · rw [if_pos h0] at h2; omega
    · rw [if_neg h0]; omega
  calc l.map _ = l.map id := List.map_congr_left this
    _ = l := List.map_id l
def dis (l : List Int) (i j : Nat) : Bool := (List.range j).all fun k => decide (rd l (k : Int) ≠ rd l (i : Int))
def okp (l : List Int) (n i : Nat) : Bool := (List.range i).all fun x => decide (0 ≤ rd l (x : Int) ∧ rd l (x : Int) ≤ (n : Int) - 1) && dis l x x
theorem dis_succ (l : List Int) (i j : Nat) : dis l i (j + 1) = (dis l i j && decide (rd l (j : Int) ≠ rd l (i : Int))) := by simp [dis, List.range_succ]
theorem okp_succ (l : List Int) (n i : Nat) : okp l n (i + 1) = (okp l n i && (decide (0 ≤ rd l (i : Int) ∧ rd l (i : Int) ≤ (n : Int) - 1) && dis l i i)) := by simp [okp, List.range_succ]
theorem rd_getElem {l : List Int} {i : Nat} (h : i < l.length) : rd l (i : Int) = l[i] := by
  rw [rd_nat, List.getD_eq_getElem?_getD, List.getElem?_eq_getElem h]
  rfl
/-- Both ways to tell an order tell the same. -/
theorem perm_ord (l : List Int) (n : Nat) : (okp l n l.length && (l.length == n)) = ordB l n := by
  rw [Bool.eq_iff_iff, Bool.and_eq_true, beq_iff_eq]
  constructor
  · rintro ⟨h, hl⟩
    unfold okp at h
    rw [List.all_eq_true] at h
    have hr : ∀ (i : Nat) (hi : i < l.length), 0 ≤ l[i] ∧ l[i] ≤ (n : Int) - 1 := fun i hi => by
      have h2 := h i (List.mem_range.2 hi)
      rw [Bool.and_eq_true, decide_eq_true_eq, rd_getElem hi] at h2
      exact h2.1
    have hd : ∀ (i k : Nat) (hi : i < l.length) (hk : k < i), l[k]'(by omega) ≠ l[i] := fun i k hi hk => by
      have h2 := h i (List.mem_range.2 hi)
      rw [Bool.and_eq_true] at h2
      have h3 := h2.2
      unfold dis at h3
      rw [List.all_eq_true] at h3
      have h4 := of_decide_eq_true (h3 k (List.mem_range.2 hk))
      rwa [rd_getElem (by omega), rd_getElem hi] at h4
    have hnd : (l.map Int.toNat).Nodup := by
      rw [List.nodup_iff_pairwise_ne, List.pairwise_map, List.pairwise_iff_getElem]
      intro i j hi hj hij
      have h1 := hd j i hj hij
      have h2 := hr i hi
      have h3 := hr j hj
      omega
    have hlt : ∀ x ∈ l.map Int.toNat, x < n := fun x hx => by
      obtain ⟨y, hy, rfl⟩ := List.mem_map.1 hx
      obtain ⟨i, hi, rfl⟩ := List.getElem_of_mem hy
      have := hr i hi
      omega
    unfold ordB
    rw [Bool.and_eq_true, beq_iff_eq, List.all_eq_true]
    refine ⟨hl, fun i hi => ?_⟩
    rw [List.mem_range] at hi
    have him : i ∈ l.map Int.toNat := by
      apply Classical.byContradiction
      intro hn
      have := pigeon n (i :: l.map Int.toNat) (List.nodup_cons.2 ⟨hn, hnd⟩) fun x hx => by
        rcases List.mem_cons.1 hx with rfl | hx
        · exact hi
        · exact hlt x hx
      simp at this
      omega
    obtain ⟨y, hy, e⟩ := List.mem_map.1 him
    obtain ⟨k, hk, rfl⟩ := List.getElem_of_mem hy
    have h2 := hr k hk
    have : l[k] = (i : Int) := by omega
    rw [← this]
    simp [hy]
  · intro h
    obtain ⟨ns, rfl, hl, hd, hlt⟩ := ordB_yes h
    refine ⟨?_, by simpa using hl⟩
    unfold okp
    rw [List.all_eq_true]
    intro i hi
    rw [List.mem_range] at hi
    have hi2 : i < ns.length := by simpa using hi
    rw [Bool.and_eq_true, decide_eq_true_eq, rd_getElem hi, List.getElem_map]
    have h1 := hlt ns[i] (List.getElem_mem hi2)
    refine ⟨⟨by omega, by omega⟩, ?_⟩
    unfold dis
    rw [List.all_eq_true]
    intro k hk
    rw [List.mem_range] at hk
    have hk2 : k < ns.length := by omega
    refine decide_eq_true ?_
    rw [rd_getElem (by simpa using hk2), rd_getElem hi, List.getElem_map, List.getElem_map]
    rw [List.nodup_iff_pairwise_ne, List.pairwise_iff_getElem] at hd
    have := hd k i hk2 hi2 hk
    omega

/-! ### The game -/
def playV (n w : Nat) : List Nat → Nat → Nat → Nat → Nat
  | [], j, _, _ => j
  | i :: rest, j, m, v => if cubeV n w m v = 2 then playV n w rest (j + 1) (m ||| 2 ^ i) (ans v i (adv n w m v i)) else j
theorem playV_le (n w : Nat) : ∀ (l : List Nat) (j m v : Nat), j ≤ playV n w l j m v ∧ playV n w l j m v ≤ j + l.length := by
  intro l
  induction l with
  | nil => intro j m v; simp [playV]
  | cons i l ih =>
    intro j m v
    simp only [playV, List.length_cons]
    split
    · have := ih (j + 1) (m ||| 2 ^ i) (ans v i (adv n w m v i)); omega
    · omega
/-- The adversary makes the asker ask at least the least depth. -/
theorem playV_ask {n w : Nat} : ∀ (l : List Nat) (j m v : Nat), l.Nodup → (∀ x ∈ l, x < n ∧ m.testBit x = false) → frees m n = l.length → (j : Int) + askD n w m v ≤ playV n w l j m v := by
  intro l
  induction l with
  | nil =>
    intro j m v _ _ hf
    have hc : cubeV n w m v ≠ 2 := fun h => by have := cubeV_free h; simp at hf; omega
    rw [askD_zero hc]
    simp [playV]
  | cons i l ih =>
    intro j m v hd hx hf
    simp only [playV]
    rw [List.nodup_cons] at hd
    obtain ⟨hi, hb⟩ := hx i (by simp)
    split
    · have hf2 := frees_or hi hb
      have h2 := ih (j + 1) (m ||| 2 ^ i) (ans v i (adv n w m v i)) hd.2 (fun x hxl => by
        obtain ⟨h1, h2⟩ := hx x (by simp [hxl])
        refine ⟨h1, ?_⟩
        rw [Nat.testBit_or, h2, Nat.testBit_two_pow, decide_eq_false (show ¬ i = x from fun e => hd.1 (e ▸ hxl))]
        rfl) (by rw [List.length_cons] at hf; omega)
      rw [adv_best] at h2
      have h3 := askD_step (w := w) (v := v) hi hb
      omega
    · rename_i hc
      rw [askD_zero hc]
      omega
end Go.Proofs.YtflnlnkbepoimaaMath
