/- Plain facts on the group: elements, products, powers, in whole numbers. -/
import Derived.Test.YtjbcfdgnafmbkaaDoorNum
set_option linter.unusedVariables false
namespace Go.Proofs.YtjbcfdgnafmbkaaDoor
open Num

/-- Is a number an element? -/
def validB (a : Int) : Bool := decide (1 ≤ a) && decide (a < 2147483579) && Num.J a.toNat 2147483579
/-- The power of an element. -/
def powI (a n : Int) : Int := (Num.pm a.toNat (n % 1073741789).toNat : Int)
/-- The product. -/
def mulI (a b : Int) : Int := a * b % 2147483579

theorem validB_true {a : Int} (h : validB a = true) : 1 ≤ a ∧ a < 2147483579 ∧ Num.J a.toNat 2147483579 = true := by
  simp only [validB, Bool.and_eq_true, decide_eq_true_eq] at h
  exact ⟨h.1.1, h.1.2, h.2⟩
theorem pmQ {a : Nat} (h1 : 1 ≤ a) (h2 : a < 2147483579) : pm a 1073741789 = 1 ∨ pm a 1073741789 = 2147483578 := by
  rw [pm_half h1 h2]; split <;> simp
theorem validB_iff {a : Int} : validB a = true ↔ 1 ≤ a ∧ a < 2147483579 ∧ pm a.toNat 1073741789 = 1 := by
  constructor
  · intro h
    obtain ⟨h1, h2, h3⟩ := validB_true h
    refine ⟨h1, h2, ?_⟩
    rw [pm_half (by omega) (by omega), if_pos h3]
  · rintro ⟨h1, h2, h3⟩
    simp only [validB, Bool.and_eq_true, decide_eq_true_eq]
    refine ⟨⟨h1, h2⟩, ?_⟩
    rw [pm_half (by omega) (by omega)] at h3
    split at h3
    · assumption
    · omega
theorem validB_nat {a : Nat} : validB a = true ↔ 1 ≤ a ∧ a < 2147483579 ∧ pm a 1073741789 = 1 := by
  rw [validB_iff, Int.toNat_natCast]; omega
theorem mul_mod_pos {a b : Nat} (h1 : 1 ≤ a) (h2 : a < 2147483579) (h3 : 1 ≤ b) (h4 : b < 2147483579) : 1 ≤ a * b % 2147483579 := by
  have := mod_pos (primeP a h1 h2) h3 h4; omega
theorem mulI_nat (a b : Nat) : mulI a b = ((a * b % 2147483579 : Nat) : Int) := by
  unfold mulI; rw [Int.natCast_emod, Int.natCast_mul]; rfl
theorem valid_mul {a b : Int} (ha : validB a = true) (hb : validB b = true) : validB (mulI a b) = true := by
  obtain ⟨a, rfl⟩ := Int.eq_ofNat_of_zero_le (show 0 ≤ a by have := (validB_true ha).1; omega)
  obtain ⟨b, rfl⟩ := Int.eq_ofNat_of_zero_le (show 0 ≤ b by have := (validB_true hb).1; omega)
  rw [mulI_nat]
  rw [validB_nat] at *
  refine ⟨mul_mod_pos ha.1 ha.2.1 hb.1 hb.2.1, Nat.mod_lt _ (by omega), ?_⟩
  rw [pm_mod, mul_pm, ha.2.2, hb.2.2]
theorem mulI_comm (a b : Int) : mulI a b = mulI b a := by unfold mulI; rw [Int.mul_comm]
theorem mulI_assoc (a b c : Int) : mulI (mulI a b) c = mulI a (mulI b c) := by
  unfold mulI
  rw [Int.mul_emod (a * b % 2147483579), Int.emod_emod, ← Int.mul_emod, Int.mul_emod a (b * c % 2147483579), Int.emod_emod, ← Int.mul_emod, Int.mul_assoc]
theorem one_pm (n : Nat) : pm 1 n = 1 := by unfold pm; rw [Nat.one_pow]
theorem zero_pm (n : Nat) (h : 0 < n) : pm 0 n = 0 := by unfold pm; rw [Nat.zero_pow h]
theorem valid_one : validB 1 = true := validB_nat (a := 1) |>.2 ⟨by omega, by omega, one_pm _⟩
theorem mulI_one {a : Int} (ha : validB a = true) : mulI a 1 = a := by
  obtain ⟨h1, h2, _⟩ := validB_true ha
  unfold mulI; rw [Int.mul_one, Int.emod_eq_of_lt (by omega) h2]
theorem one_mulI {a : Int} (ha : validB a = true) : mulI 1 a = a := by rw [mulI_comm, mulI_one ha]
theorem pm_period {a : Nat} (h : pm a 1073741789 = 1) (n : Nat) : pm a n = pm a (n % 1073741789) := by
  have e : n = 1073741789 * (n / 1073741789) + n % 1073741789 := by omega
  have : pm a n = pm a (1073741789 * (n / 1073741789) + n % 1073741789) := by rw [← e]
  rw [this, pm_add, pm_mul, h]
  rw [one_pm, Nat.one_mul, Nat.mod_eq_of_lt (pm_lt _ _)]
theorem pm_pos {a : Nat} (h : pm a 1073741789 = 1) (n : Nat) : 1 ≤ pm a n := by
  rcases Nat.eq_zero_or_pos (pm a n) with e | e
  · exfalso
    have : pm a (n * 1073741789) = 0 := by rw [pm_mul, e]; exact zero_pm _ (by omega)
    rw [pm_period h] at this
    have e2 : n * 1073741789 % 1073741789 = 0 := Nat.mul_mod_left _ _
    rw [e2, pm_zero] at this
    omega
  · exact e
theorem powI_nat (a : Nat) (n : Int) : powI a n = ((pm a (n % 1073741789).toNat : Nat) : Int) := by unfold powI; rw [Int.toNat_natCast]
theorem valid_pow {a : Int} (ha : validB a = true) (n : Int) : validB (powI a n) = true := by
  obtain ⟨a, rfl⟩ := Int.eq_ofNat_of_zero_le (show 0 ≤ a by have := (validB_true ha).1; omega)
  rw [powI_nat]
  rw [validB_nat] at *
  refine ⟨pm_pos ha.2.2 _, pm_lt _ _, ?_⟩
  rw [← pm_mul, Nat.mul_comm, pm_mul, ha.2.2]
  exact one_pm _
theorem powI_mod (a n : Int) : powI a (n % 1073741789) = powI a n := by unfold powI; rw [Int.emod_emod]
theorem powI_congr {a m n : Int} (h : m % 1073741789 = n % 1073741789) : powI a m = powI a n := by rw [← powI_mod a m, h, powI_mod]
theorem powI_zero (a : Int) : powI a 0 = 1 := by unfold powI; simp [pm_zero]
theorem powI_Q (a : Int) : powI a 1073741789 = 1 := (powI_congr (a := a) (m := 1073741789) (n := 0) (by decide)).trans (powI_zero a)
theorem powI_one {a : Int} (ha : validB a = true) : powI a 1 = a := by
  obtain ⟨h1, h2, _⟩ := validB_true ha
  unfold powI
  rw [show ((1 : Int) % 1073741789).toNat = 1 from rfl, pm_one, Nat.mod_eq_of_lt (by omega)]; omega
theorem powI_add {a : Int} (ha : validB a = true) (m n : Int) : powI a (m + n) = mulI (powI a m) (powI a n) := by
  obtain ⟨a, rfl⟩ := Int.eq_ofNat_of_zero_le (show 0 ≤ a by have := (validB_true ha).1; omega)
  rw [powI_nat, powI_nat, powI_nat, mulI_nat, ← pm_add]
  have h := (validB_nat.1 ha).2.2
  rw [pm_period h ((m % 1073741789).toNat + (n % 1073741789).toNat)]
  congr 2
  omega
theorem powI_pow {a : Int} (ha : validB a = true) (m n : Int) : powI (powI a m) n = powI a (m * n) := by
  obtain ⟨a, rfl⟩ := Int.eq_ofNat_of_zero_le (show 0 ≤ a by have := (validB_true ha).1; omega)
  rw [powI_nat, powI_nat, powI_nat, ← pm_mul]
  have h := (validB_nat.1 ha).2.2
  rw [pm_period h ((m % 1073741789).toNat * (n % 1073741789).toNat)]
  congr 2
  have h1 : (((m % 1073741789).toNat * (n % 1073741789).toNat % 1073741789 : Nat) : Int) = m * n % 1073741789 := by
    rw [Int.natCast_emod, Int.natCast_mul, Int.toNat_of_nonneg (by omega), Int.toNat_of_nonneg (by omega)]
    exact (Int.mul_emod m n 1073741789).symm
  omega
theorem mul_powI {a b : Int} (ha : validB a = true) (hb : validB b = true) (n : Int) : powI (mulI a b) n = mulI (powI a n) (powI b n) := by
  obtain ⟨a, rfl⟩ := Int.eq_ofNat_of_zero_le (show 0 ≤ a by have := (validB_true ha).1; omega)
  obtain ⟨b, rfl⟩ := Int.eq_ofNat_of_zero_le (show 0 ≤ b by have := (validB_true hb).1; omega)
  rw [mulI_nat, powI_nat, powI_nat, powI_nat, mulI_nat, ← mul_pm, pm_mod]
theorem powI_two {a : Int} (ha : validB a = true) : powI a 2 = mulI a a := by
  rw [show (2 : Int) = 1 + 1 from rfl, powI_add ha, powI_one ha]
theorem mul_inv {a : Int} (ha : validB a = true) : mulI a (powI a (-1)) = 1 := by
  have := powI_add ha 1 (-1)
  rw [powI_one ha] at this
  rw [← this]; exact powI_zero a
/-- Of n and P - n exactly one is an element. -/
theorem neg_pow (a b : Nat) (h : (a + b) % 2147483579 = 0) : ∀ k, (a ^ (2 * k + 1) + b ^ (2 * k + 1)) % 2147483579 = 0
  | 0 => by simpa using h
  | k + 1 => by
    have ih := neg_pow a b h k
    have e : ∀ x : Nat, x ^ (2 * (k + 1) + 1) = x ^ (2 * k + 1) * (x * x) := fun x => by rw [show 2 * (k + 1) + 1 = (2 * k + 1) + 1 + 1 from by omega, Nat.pow_succ, Nat.pow_succ, Nat.mul_assoc]
    rw [e, e]
    generalize a ^ (2 * k + 1) = x at ih ⊢
    generalize b ^ (2 * k + 1) = y at ih ⊢
    have h2 : (a * a) % 2147483579 = (b * b) % 2147483579 := by
      have h3 : (a * a + a * b) % 2147483579 = 0 := by rw [← Nat.mul_add, Nat.mul_mod, h, Nat.mul_zero, Nat.zero_mod]
      have h4 : (a * b + b * b) % 2147483579 = 0 := by rw [← Nat.add_mul, Nat.mul_mod, h, Nat.zero_mul, Nat.zero_mod]
      omega
    have h5 : (x * (a * a)) % 2147483579 = (x * (b * b)) % 2147483579 := by rw [Nat.mul_mod, h2, ← Nat.mul_mod]
    have h6 : (x * (b * b) + y * (b * b)) % 2147483579 = 0 := by rw [← Nat.add_mul, Nat.mul_mod, ih, Nat.zero_mul, Nat.zero_mod]
    omega
theorem neg_pm (a b : Nat) (h : (a + b) % 2147483579 = 0) (k : Nat) : (pm a (2 * k + 1) + pm b (2 * k + 1)) % 2147483579 = 0 := by
  unfold pm
  rw [← Nat.add_mod]; exact neg_pow a b h k
theorem valid_neg {n : Int} (h1 : 1 ≤ n) (h2 : n < 2147483579) : validB (2147483579 - n) = !validB n := by
  obtain ⟨a, rfl⟩ := Int.eq_ofNat_of_zero_le (show 0 ≤ n by omega)
  have h3 := neg_pm a (2147483579 - a) (by omega) 536870894
  rw [show 2 * 536870894 + 1 = 1073741789 from rfl] at h3
  have e1 := pmQ (a := a) (by omega) (by omega)
  have e2 := pmQ (a := 2147483579 - a) (by omega) (by omega)
  have c : (2147483579 : Int) - (a : Int) = ((2147483579 - a : Nat) : Int) := by omega
  rw [Bool.eq_iff_iff, c, validB_nat]
  simp only [Bool.not_eq_true', Bool.eq_false_iff, ne_eq, validB_nat]
  omega
theorem valid_sq {n : Int} (h1 : 1 ≤ n) (h2 : n < 2147483579) : validB (mulI n n) = true := by
  obtain ⟨a, rfl⟩ := Int.eq_ofNat_of_zero_le (show 0 ≤ n by omega)
  rw [mulI_nat, validB_nat]
  refine ⟨mul_mod_pos (by omega) (by omega) (by omega) (by omega), Nat.mod_lt _ (by omega), ?_⟩
  rw [pm_mod, mul_pm]
  rcases pmQ (a := a) (by omega) (by omega) with e | e <;> rw [e]
theorem valid_out {n : Int} (h : n < 1 ∨ 2147483579 ≤ n) : validB n = false := by
  rw [Bool.eq_false_iff]
  intro h2
  have := validB_true h2
  omega
/-- The element of a number from 1 to Q; the number of an element. -/
def elI (n : Int) : Int := if validB n = true then n else 2147483579 - n
def noI (x : Int) : Int := if x ≤ 1073741789 then x else 2147483579 - x
theorem valid_el {n : Int} (h1 : 1 ≤ n) (h2 : n ≤ 1073741789) : validB (elI n) = true := by
  unfold elI
  split
  · assumption
  · rename_i h
    rw [valid_neg h1 (by omega)]; simpa using h
theorem no_el {n : Int} (h1 : 1 ≤ n) (h2 : n ≤ 1073741789) : noI (elI n) = n := by
  unfold elI
  by_cases h : validB n = true
  · rw [if_pos h]; unfold noI; rw [if_pos h2]
  · rw [if_neg h]; unfold noI; rw [if_neg (by omega)]; omega
theorem el_inj {n m : Int} (h1 : 1 ≤ n) (h2 : n ≤ 1073741789) (h3 : 1 ≤ m) (h4 : m ≤ 1073741789) (h : elI n = elI m) : n = m := by
  rw [← no_el h1 h2, h, no_el h3 h4]
theorem no_range {x : Int} (h : validB x = true) : 1 ≤ noI x ∧ noI x ≤ 1073741789 := by
  obtain ⟨h1, h2, _⟩ := validB_true h
  unfold noI
  split <;> omega
theorem el_no {x : Int} (h : validB x = true) : elI (noI x) = x := by
  obtain ⟨h1, h2, _⟩ := validB_true h
  unfold noI
  split
  · unfold elI; rw [if_pos h]
  · unfold elI
    rw [valid_neg h1 h2, h, if_neg (by simp)]
    omega
/-- Powers are reckoned by squaring. -/
theorem powI_fp {a n : Nat} (hn : n < 1073741789) : powI a n = ((fp 31 a n 1 : Nat) : Int) := by
  rw [powI_nat, fp_eq _ _ _ _ (by omega) (by omega), Nat.one_mul, Nat.mod_eq_of_lt (pm_lt _ _)]
  congr 2
  omega
def validF (a : Nat) : Bool := decide (1 ≤ a) && decide (a < 2147483579) && fp 31 a 1073741789 1 == 1
theorem validF_eq (a : Nat) : validB a = validF a := by
  rw [Bool.eq_iff_iff, validB_nat]
  simp only [validF, Bool.and_eq_true, decide_eq_true_eq, beq_iff_eq]
  rw [fp_eq _ _ _ _ (by omega) (by omega), Nat.one_mul, Nat.mod_eq_of_lt (pm_lt _ _)]
  omega
theorem valid_4 : validB 4 = true := (validF_eq 4).trans (by decide +kernel)
theorem valid_2 : validB 2 = false := (validF_eq 2).trans (by decide +kernel)
theorem valid_m1 : validB 2147483578 = false := (validF_eq 2147483578).trans (by decide +kernel)
theorem valid_m2 : validB 2147483577 = true := (validF_eq 2147483577).trans (by decide +kernel)
theorem pow_42 : powI 4 2 = 16 := (powI_fp (a := 4) (n := 2) (by omega)).trans (by decide +kernel)
theorem pow_4m1 : powI 4 (-1) = 536870895 := by
  rw [powI_congr (n := ((1073741788 : Nat) : Int)) (by decide)]
  exact (powI_fp (a := 4) (n := 1073741788) (by omega)).trans (by decide +kernel)
end Go.Proofs.YtjbcfdgnafmbkaaDoor
