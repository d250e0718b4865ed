/- How many bits a number has: by halving, and by the steps of math/bits. Conditions: the numbers lie below 2^32. -/
import Derived.Test.YteljkpglgjjnlaaMath
import Derived.Laws.BitsAllLaws
namespace Go.Proofs.YteljkpglgjjnlaaMath
open Go.RowKit Go.Proofs.YteljkpglgjjnlaaW.PrintWords Go.Proofs.YteljkpglgjjnlaaW.PrintLast Go.Proofs.YteljkpglgjjnlaaW.PrintMore
set_option linter.unusedVariables false
set_option linter.unusedSimpArgs false

def pcf : Nat → Nat → Nat
  | 0, _ => 0
  | k + 1, x => x % 2 + pcf k (x / 2)
def pc (x : Nat) : Nat := pcf 32 x
theorem pcf_zero (k : Nat) : pcf k 0 = 0 := by
  induction k with
  | zero => rfl
  | succ k ih => simp only [pcf]; rw [show 0 / 2 = 0 from rfl, ih]
theorem pcf_le (k : Nat) : ∀ x, pcf k x ≤ k := by
  induction k with
  | zero => intro x; exact Nat.le_refl _
  | succ k ih =>
    intro x
    have := ih (x / 2)
    simp only [pcf]
    omega
theorem pcf8 (k H L : Nat) (h : L < 256) : pcf (k + 8) (256 * H + L) = pcf 8 L + pcf k H := by
  simp only [pcf, Nat.div_div_eq_div_mul]
  simp only [Nat.reduceMul]
  rw [show (256 * H + L) / 256 = H by omega]
  omega
theorem and_split (H L M m : Nat) (hL : L < 256) (hm : m < 256) : (256 * H + L) &&& (256 * M + m) = 256 * (H &&& M) + (L &&& m) := by
  apply Nat.eq_of_testBit_eq
  intro i
  have hL' : L < 2 ^ 8 := hL
  have hm' : m < 2 ^ 8 := hm
  have hr : L &&& m < 2 ^ 8 := Nat.and_lt_two_pow _ hm'
  rw [show 256 = 2 ^ 8 from rfl, Nat.testBit_and, Nat.testBit_two_pow_mul_add _ hL', Nat.testBit_two_pow_mul_add _ hm', Nat.testBit_two_pow_mul_add _ hr]
  split
  · rw [Nat.testBit_and]
  · rw [Nat.testBit_and]
def s1 (L : Nat) : Nat := (L / 2 &&& 85) + (L &&& 85)
def s2 (L : Nat) : Nat := (L / 4 &&& 51) + (L &&& 51)
def s3 (L : Nat) : Nat := (L / 16 + L) &&& 15
theorem low1 : ∀ L, L < 256 → (128 + L / 2) &&& 85 = L / 2 &&& 85 := by decide +kernel
theorem low2 : ∀ h, h < 4 → ∀ L, L < 256 → (64 * h + L / 4) &&& 51 = L / 4 &&& 51 := by decide +kernel
theorem low3 : ∀ h, h < 5 → ∀ L, L < 256 → L / 16 < 5 → L % 16 < 5 → (16 * h + L / 16 + L) &&& 15 = s3 L := by decide +kernel
theorem s1_lt : ∀ L, L < 256 → s1 L < 256 := by decide +kernel
theorem s2_lt : ∀ L, L < 256 → s2 (s1 L) < 256 ∧ s2 (s1 L) / 16 < 5 ∧ s2 (s1 L) % 16 < 5 := by decide +kernel
theorem s3_pc : ∀ L, L < 256 → s3 (s2 (s1 L)) = pcf 8 L := by decide +kernel
theorem step1 (M H L : Nat) (hL : L < 256) : ((256 * H + L) / 2 &&& (256 * M + 85)) + ((256 * H + L) &&& (256 * M + 85)) = 256 * ((H / 2 &&& M) + (H &&& M)) + s1 L := by
  have e : (256 * H + L) / 2 = 256 * (H / 2) + (128 * (H % 2) + L / 2) := by omega
  rw [e, and_split _ _ _ _ (by omega) (by omega), and_split _ _ _ _ hL (by omega)]
  have : (128 * (H % 2) + L / 2) &&& 85 = L / 2 &&& 85 := by
    rcases (by omega : H % 2 = 0 ∨ H % 2 = 1) with h | h <;> rw [h]
    · rw [Nat.mul_zero, Nat.zero_add]
    · exact low1 L hL
  rw [this]
  unfold s1
  omega
theorem step2 (M H L : Nat) (hL : L < 256) : ((256 * H + L) / 4 &&& (256 * M + 51)) + ((256 * H + L) &&& (256 * M + 51)) = 256 * ((H / 4 &&& M) + (H &&& M)) + s2 L := by
  have e : (256 * H + L) / 4 = 256 * (H / 4) + (64 * (H % 4) + L / 4) := by omega
  rw [e, and_split _ _ _ _ (by omega) (by omega), and_split _ _ _ _ hL (by omega), low2 (H % 4) (by omega) L hL]
  unfold s2
  omega
theorem step3 (M H L : Nat) (hL : L < 256) (h1 : L / 16 < 5) (h2 : L % 16 < 5) (hH : H % 16 < 5) : ((256 * H + L) / 16 + (256 * H + L)) &&& (256 * M + 15) = 256 * ((H / 16 + H) &&& M) + s3 L := by
  have e : (256 * H + L) / 16 + (256 * H + L) = 256 * (H / 16 + H) + (16 * (H % 16) + L / 16 + L) := by omega
  rw [e, and_split _ _ _ _ (by omega) (by omega), low3 (H % 16) hH L hL h1 h2]
/-- The bytes of a number below 2^32. -/
theorem bytes4 {a : Nat} (h : a < 4294967296) : ∃ b0 b1 b2 b3, b0 < 256 ∧ b1 < 256 ∧ b2 < 256 ∧ b3 < 256 ∧ a = 256 * (256 * (256 * (256 * 0 + b3) + b2) + b1) + b0 :=
  ⟨a % 256, a / 256 % 256, a / 65536 % 256, a / 16777216, by omega, by omega, by omega, by omega, by omega⟩
def n1 (a : Nat) : Nat := (a / 2 &&& 6148914691236517205) + (a &&& 6148914691236517205)
def n2 (a : Nat) : Nat := (a / 4 &&& 3689348814741910323) + (a &&& 3689348814741910323)
def n3 (a : Nat) : Nat := (a / 16 + a) &&& 1085102592571150095
theorem n1_bytes {b0 b1 b2 b3 : Nat} (h0 : b0 < 256) (h1 : b1 < 256) (h2 : b2 < 256) (h3 : b3 < 256) :
    n1 (256 * (256 * (256 * (256 * 0 + b3) + b2) + b1) + b0) = 256 * (256 * (256 * (256 * 0 + s1 b3) + s1 b2) + s1 b1) + s1 b0 := by
  unfold n1
  rw [show 6148914691236517205 = 256 * (256 * (256 * (256 * 1431655765 + 85) + 85) + 85) + 85 from rfl, step1 _ _ _ h0, step1 _ _ _ h1, step1 _ _ _ h2, step1 _ _ _ h3]
  simp
theorem n2_bytes {b0 b1 b2 b3 : Nat} (h0 : b0 < 256) (h1 : b1 < 256) (h2 : b2 < 256) (h3 : b3 < 256) :
    n2 (256 * (256 * (256 * (256 * 0 + b3) + b2) + b1) + b0) = 256 * (256 * (256 * (256 * 0 + s2 b3) + s2 b2) + s2 b1) + s2 b0 := by
  unfold n2
  rw [show 3689348814741910323 = 256 * (256 * (256 * (256 * 858993459 + 51) + 51) + 51) + 51 from rfl, step2 _ _ _ h0, step2 _ _ _ h1, step2 _ _ _ h2, step2 _ _ _ h3]
  simp
theorem n3_bytes {b0 b1 b2 b3 : Nat} (h0 : b0 < 256 ∧ b0 / 16 < 5 ∧ b0 % 16 < 5) (h1 : b1 < 256 ∧ b1 / 16 < 5 ∧ b1 % 16 < 5) (h2 : b2 < 256 ∧ b2 / 16 < 5 ∧ b2 % 16 < 5) (h3 : b3 < 256 ∧ b3 / 16 < 5 ∧ b3 % 16 < 5) :
    n3 (256 * (256 * (256 * (256 * 0 + b3) + b2) + b1) + b0) = 256 * (256 * (256 * (256 * 0 + s3 b3) + s3 b2) + s3 b1) + s3 b0 := by
  unfold n3
  rw [show 1085102592571150095 = 256 * (256 * (256 * (256 * 252645135 + 15) + 15) + 15) + 15 from rfl, step3 _ _ _ h0.1 h0.2.1 h0.2.2 (by omega), step3 _ _ _ h1.1 h1.2.1 h1.2.2 (by omega), step3 _ _ _ h2.1 h2.2.1 h2.2.2 (by omega), step3 _ _ _ h3.1 h3.2.1 h3.2.2 (by omega)]
  simp
/-- The first three steps leave the number of bits of each byte. -/
theorem n123 {a : Nat} (h : a < 4294967296) : ∃ c0 c1 c2 c3, c0 ≤ 8 ∧ c1 ≤ 8 ∧ c2 ≤ 8 ∧ c3 ≤ 8 ∧ n3 (n2 (n1 a)) = c0 + 256 * c1 + 65536 * c2 + 16777216 * c3 ∧ pc a = c0 + c1 + c2 + c3 ∧ n1 a < 4294967296 ∧ n2 (n1 a) < 4294967296 := by
  obtain ⟨b0, b1, b2, b3, h0, h1, h2, h3, rfl⟩ := bytes4 h
  have g0 := s1_lt b0 h0
  have g1 := s1_lt b1 h1
  have g2 := s1_lt b2 h2
  have g3 := s1_lt b3 h3
  have f0 := s2_lt b0 h0
  have f1 := s2_lt b1 h1
  have f2 := s2_lt b2 h2
  have f3 := s2_lt b3 h3
  rw [n1_bytes h0 h1 h2 h3, n2_bytes g0 g1 g2 g3, n3_bytes f0 f1 f2 f3, s3_pc b0 h0, s3_pc b1 h1, s3_pc b2 h2, s3_pc b3 h3]
  have e0 := pcf_le 8 b0
  have e1 := pcf_le 8 b1
  have e2 := pcf_le 8 b2
  have e3 := pcf_le 8 b3
  refine ⟨_, _, _, _, e0, e1, e2, e3, by omega, ?_, by omega, by omega⟩
  unfold pc
  rw [show 32 = 24 + 8 from rfl, pcf8 24 _ _ h0, show 24 = 16 + 8 from rfl, pcf8 16 _ _ h1, show 16 = 8 + 8 from rfl, pcf8 8 _ _ h2, show pcf 8 (256 * 0 + b3) = pcf 8 b3 by rw [Nat.mul_zero, Nat.zero_add]]
  omega
theorem uwrap {x : Nat} (h : x < 18446744073709551616) : IntKind.u64.wrap (x : Int) = (x : Int) := by rw [IntKind.wrap_u64]; omega
theorem uand {a b : Nat} (ha : a < 18446744073709551616) (hb : b < 18446744073709551616) : Go.bits .and .u64 (a : Int) (b : Int) = ((a &&& b : Nat) : Int) := u64_and_nat a b ha hb
theorem and127 (x : Nat) : x &&& 127 = x % 128 := Nat.and_two_pow_sub_one_eq_mod x 7
theorem fold4 {c0 c1 c2 c3 : Nat} (g0 : c0 ≤ 8) (g1 : c1 ≤ 8) (g2 : c2 ≤ 8) (g3 : c3 ≤ 8) :
    IntKind.u64.wrap (((c0 + 256 * c1 + 65536 * c2 + 16777216 * c3 : Nat) : Int) + (((c0 + 256 * c1 + 65536 * c2 + 16777216 * c3 : Nat) : Int) / 256)) = (((c0 + c1) + 256 * (c1 + c2) + 65536 * (c2 + c3) + 16777216 * c3 : Nat) : Int) := by
  have d : (c0 + 256 * c1 + 65536 * c2 + 16777216 * c3) / 256 = c1 + 256 * c2 + 65536 * c3 := by omega
  rw [show (((c0 + 256 * c1 + 65536 * c2 + 16777216 * c3 : Nat) : Int) / 256) = (((c0 + 256 * c1 + 65536 * c2 + 16777216 * c3) / 256 : Nat) : Int) from rfl, d, ← Int.natCast_add, uwrap (by omega)]
  congr 1
  omega
theorem fold5 {c0 c1 c2 c3 : Nat} (g0 : c0 ≤ 8) (g1 : c1 ≤ 8) (g2 : c2 ≤ 8) (g3 : c3 ≤ 8) :
    IntKind.u64.wrap ((((c0 + c1) + 256 * (c1 + c2) + 65536 * (c2 + c3) + 16777216 * c3 : Nat) : Int) + ((((c0 + c1) + 256 * (c1 + c2) + 65536 * (c2 + c3) + 16777216 * c3 : Nat) : Int) / 65536)) = (((c0 + c1 + c2 + c3) + 256 * (c1 + c2 + c3) + 65536 * (c2 + c3) + 16777216 * c3 : Nat) : Int) := by
  have d : ((c0 + c1) + 256 * (c1 + c2) + 65536 * (c2 + c3) + 16777216 * c3) / 65536 = c2 + c3 + 256 * c3 := by omega
  rw [show ((((c0 + c1) + 256 * (c1 + c2) + 65536 * (c2 + c3) + 16777216 * c3 : Nat) : Int) / 65536) = ((((c0 + c1) + 256 * (c1 + c2) + 65536 * (c2 + c3) + 16777216 * c3) / 65536 : Nat) : Int) from rfl, d, ← Int.natCast_add, uwrap (by omega)]
  congr 1
  omega
theorem fold6 {c0 c1 c2 c3 : Nat} (g0 : c0 ≤ 8) (g1 : c1 ≤ 8) (g2 : c2 ≤ 8) (g3 : c3 ≤ 8) :
    IntKind.u64.wrap ((((c0 + c1 + c2 + c3) + 256 * (c1 + c2 + c3) + 65536 * (c2 + c3) + 16777216 * c3 : Nat) : Int) + ((((c0 + c1 + c2 + c3) + 256 * (c1 + c2 + c3) + 65536 * (c2 + c3) + 16777216 * c3 : Nat) : Int) / 4294967296)) = (((c0 + c1 + c2 + c3) + 256 * (c1 + c2 + c3) + 65536 * (c2 + c3) + 16777216 * c3 : Nat) : Int) := by
  have d : ((c0 + c1 + c2 + c3) + 256 * (c1 + c2 + c3) + 65536 * (c2 + c3) + 16777216 * c3) / 4294967296 = 0 := by omega
  rw [show ((((c0 + c1 + c2 + c3) + 256 * (c1 + c2 + c3) + 65536 * (c2 + c3) + 16777216 * c3 : Nat) : Int) / 4294967296) = ((((c0 + c1 + c2 + c3) + 256 * (c1 + c2 + c3) + 65536 * (c2 + c3) + 16777216 * c3) / 4294967296 : Nat) : Int) from rfl, d, ← Int.natCast_add, uwrap (by omega)]
  rfl
theorem fold7 {c0 c1 c2 c3 : Nat} (g0 : c0 ≤ 8) (g1 : c1 ≤ 8) (g2 : c2 ≤ 8) (g3 : c3 ≤ 8) :
    Go.bits .and .i64 (wrap64 (((c0 + c1 + c2 + c3) + 256 * (c1 + c2 + c3) + 65536 * (c2 + c3) + 16777216 * c3 : Nat) : Int)) 127 = ((c0 + c1 + c2 + c3 : Nat) : Int) := by
  have d : ((c0 + c1 + c2 + c3) + 256 * (c1 + c2 + c3) + 65536 * (c2 + c3) + 16777216 * c3) % 128 = c0 + c1 + c2 + c3 := by omega
  rw [w64 (by omega) (by omega), show (127 : Int) = ((127 : Nat) : Int) from rfl, bandN (by omega) (by omega), and127, d]
end Go.Proofs.YteljkpglgjjnlaaMath
