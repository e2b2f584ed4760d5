/- What the printed Lean functions of package group, of its reference and of the laws' helpers come to. -/
import Derived.Test.YtjbcfdgnafmbkaaDoorPGroupx1
import Derived.Test.YtjbcfdgnafmbkaaDoorPGroupx2
set_option linter.unusedVariables false
namespace Go.Proofs.YtjbcfdgnafmbkaaDoor.PGroup
open Go.RowKit Go.Proofs.YtjbcfdgnafmbkaaDoor Go.Proofs.YtjbcfdgnafmbkaaDoorW.PrintWords Go.Proofs.YtjbcfdgnafmbkaaDoorW.PrintLast

theorem prod_bound {a b : Int} (h1 : 0 ≤ a) (h2 : a < 2147483579) (h3 : 0 ≤ b) (h4 : b < 2147483579) : 0 ≤ a * b ∧ a * b ≤ 4611686018427387904 := by
  refine ⟨Int.mul_nonneg h1 h3, ?_⟩
  have e1 : a * b ≤ 2147483579 * b := Int.mul_le_mul_of_nonneg_right (by omega) h3
  omega
theorem tmod_prod {a b : Int} (h1 : 0 ≤ a) (h2 : a < 2147483579) (h3 : 0 ≤ b) (h4 : b < 2147483579) : Int.tmod (wrap64 (a * b)) 2147483579 = mulI a b := by
  obtain ⟨p1, p2⟩ := prod_bound h1 h2 h3 h4
  have : wrap64 (a * b) = a * b := by unfold wrap64; omega
  rw [this, Int.tmod_eq_emod_of_nonneg p1]; rfl
theorem mul_f (a b : Int) : group_Mul.f a b = some (if validB a = true ∧ validB b = true then (mulI a b, 0) else (0, 100)) := by
  unfold group_Mul.f group_Valid.f
  simp only [Option.bind_some]
  by_cases ha : validB a = true
  · rw [if_pos ha]
    by_cases hb : validB b = true
    · obtain ⟨a1, a2, _⟩ := validB_true ha
      obtain ⟨b1, b2, _⟩ := validB_true hb
      rw [if_pos hb, if_pos ⟨ha, hb⟩, tmod_prod (by omega) a2 (by omega) b2]
    · rw [if_neg hb, if_neg (fun h => hb h.2)]
  · rw [if_neg ha, if_neg (fun h => ha h.1)]
theorem element_f (k : Nat) (n : Int) : group_Element.f (k + 1) n = some (if 1 ≤ n ∧ n ≤ 1073741789 then (elI n, 0) else (0, 1)) := by
  unfold group_Element.f
  by_cases h1 : n < 1
  · rw [if_pos h1, group_Element.j0, if_pos rfl, if_neg (by omega)]
  · rw [if_neg h1, group_Element.j0]
    by_cases h2 : n > 1073741789
    · rw [if_pos (by simpa using h2), if_neg (by omega)]
    · rw [if_neg (by simpa using h2), if_pos (by omega)]
      unfold group_Valid.f elI
      simp only [Option.bind_some]
      have : wrap64 (2147483579 - n) = 2147483579 - n := by unfold wrap64; omega
      rw [this]
      split <;> rfl
theorem number_f (x : Int) : group_Number.f x = some (if validB x = true then (noI x, 0) else (0, 100)) := by
  unfold group_Number.f group_Valid.f
  simp only [Option.bind_some]
  by_cases h : validB x = true
  · obtain ⟨h1, h2, _⟩ := validB_true h
    have : wrap64 (2147483579 - x) = 2147483579 - x := by unfold wrap64; omega
    rw [if_pos h, if_pos h, this]
    congr 2
    unfold noI mn
    split <;> split <;> omega
  · rw [if_neg h, if_neg h]
theorem pow_f (a n : Int) : group_Pow.f a n = some (if validB a = true then (powI a n, 0) else (0, 100)) := rfl
theorem valid_f (a : Int) : group_Valid.f a = some (validB a) := rfl
theorem sane_f : signatorylaw10_sane.f 2 = some true := by
  have hv := valid_4
  have h0 : validB 0 = false := valid_out (by omega)
  have hP : validB 2147483579 = false := valid_out (by omega)
  have h16 : mulI 4 4 = 16 := by decide
  have e2 : elI 2 = 2147483577 := by unfold elI; rw [valid_2]; decide
  have n2 : noI 2147483577 = 2 := by decide
  unfold signatorylaw10_sane.f
  simp only [pow_f, mul_f, element_f, number_f, valid_4, valid_2, h0, valid_m2, pow_42, powI_Q, pow_4m1, h16, e2, n2, Option.bind_some, if_true, and_self, signatorylaw10_sane.j0, valid_f, hP, valid_one, valid_m1]
  simp
/-! ### The reference -/
theorem lt_P (x : Nat) : x % 2147483579 < 2147483579 := Nat.mod_lt _ (by decide)
theorem refpower_l0 : ∀ (k a n c : Nat), n < 2 ^ k → a < 2147483579 → c < 2147483579 → n < 9223372036854775808 → signatoryref10_power.l0 (k + 1) a n c = some ((Num.fp k a n c : Nat) : Int)
  | 0, a, n, c, h, ha, hc, _ => by
    have : n = 0 := by simp at h; omega
    subst this
    rw [signatoryref10_power.l0, if_neg (by omega)]; rfl
  | k + 1, a, n, c, h, ha, hc, hb => by
    rw [signatoryref10_power.l0, Num.fp]
    by_cases e : n = 0
    · subst e; rw [if_neg (by omega)]; rfl
    · rw [if_pos (by omega), if_neg e]
      have h1 : n / 2 < 2 ^ k := by rw [Nat.pow_succ] at h; omega
      have q1 : Int.tmod (wrap64 ((a : Int) * a)) 2147483579 = ((a * a % 2147483579 : Nat) : Int) := by rw [tmod_prod (by omega) (by omega) (by omega) (by omega), mulI_nat]
      have q2 : Int.tmod (wrap64 ((c : Int) * a)) 2147483579 = ((c * a % 2147483579 : Nat) : Int) := by rw [tmod_prod (by omega) (by omega) (by omega) (by omega), mulI_nat]
      have q3 : wrap64 (Int.tdiv (n : Int) 2) = ((n / 2 : Nat) : Int) := by
        rw [Int.tdiv_eq_ediv_of_nonneg (by omega)]; unfold wrap64; omega
      have q4 : Int.tmod (n : Int) 2 = ((n % 2 : Nat) : Int) := by rw [Int.tmod_eq_emod_of_nonneg (by omega)]; omega
      rw [q1, q2, q3, q4]
      have lb : n / 2 < 9223372036854775808 := Nat.lt_of_le_of_lt (Nat.div_le_self _ _) hb
      clear q1 q2 q3 q4 hb h
      obtain ⟨a2, ha2⟩ : ∃ a2, a * a % 2147483579 = a2 := ⟨_, rfl⟩
      obtain ⟨c2, hc2⟩ : ∃ c2, c * a % 2147483579 = c2 := ⟨_, rfl⟩
      have la : a2 < 2147483579 := ha2 ▸ lt_P _
      have lc : c2 < 2147483579 := hc2 ▸ lt_P _
      rw [ha2, hc2]
      clear ha2 hc2
      by_cases e2 : n % 2 = 1
      · have e3 : ((n % 2 : Nat) : Int) = 1 := by omega
        rw [if_pos e3, if_pos e2]
        exact refpower_l0 k a2 (n / 2) c2 h1 la lc lb
      · have e3 : ¬ ((n % 2 : Nat) : Int) = 1 := by omega
        rw [if_neg e3, if_neg e2]
        exact refpower_l0 k a2 (n / 2) c h1 la hc lb
theorem refpower_f (a n : Nat) (ha : a < 2147483579) (hn : n < 2147483648) : signatoryref10_power.f 32 a n = some ((Num.pm a n : Nat) : Int) := by
  unfold signatoryref10_power.f
  have := refpower_l0 31 a n 1 hn ha (by omega) (by omega)
  rw [Num.fp_eq _ _ _ _ hn (by omega), Nat.one_mul, Nat.mod_eq_of_lt (Num.pm_lt _ _)] at this
  exact this
theorem refvalid_f (a : Int) : signatoryref10_Valid.f 32 a = some (validB a) := by
  unfold signatoryref10_Valid.f
  by_cases h1 : a ≥ 1
  · rw [if_pos h1]
    by_cases h2 : a < 2147483579
    · rw [if_pos h2]
      obtain ⟨a, rfl⟩ := Int.eq_ofNat_of_zero_le (show 0 ≤ a by omega)
      have := refpower_f a 1073741789 (by omega) (by omega)
      rw [show ((1073741789 : Nat) : Int) = 1073741789 from rfl] at this
      rw [this, Option.bind_some]
      congr 1
      rw [Bool.eq_iff_iff, validB_nat, beq_iff_eq]
      omega
    · rw [if_neg h2, valid_out (by omega)]
  · rw [if_neg h1, valid_out (by omega)]
theorem refelement_f (n : Int) : signatoryref10_Element.f 33 n = some (if 1 ≤ n ∧ n ≤ 1073741789 then (elI n, 0) else (0, 1)) := by
  unfold signatoryref10_Element.f
  by_cases h1 : n < 1
  · rw [if_pos h1, signatoryref10_Element.j0, if_pos rfl, if_neg (by omega)]
  · rw [if_neg h1, signatoryref10_Element.j0]
    by_cases h2 : n > 1073741789
    · rw [if_pos (by simpa using h2), if_neg (by omega)]
    · rw [if_neg (by simpa using h2), if_pos (by omega), refvalid_f]
      unfold elI
      simp only [Option.bind_some]
      have : wrap64 (2147483579 - n) = 2147483579 - n := by unfold wrap64; omega
      rw [this]
      split <;> rfl
theorem refnumber_f (x : Int) : signatoryref10_Number.f 32 x = some (if validB x = true then (noI x, 0) else (0, 100)) := by
  unfold signatoryref10_Number.f
  rw [refvalid_f, Option.bind_some]
  by_cases h : validB x = true
  · obtain ⟨h1, h2, _⟩ := validB_true h
    have : wrap64 (2147483579 - x) = 2147483579 - x := by unfold wrap64; omega
    rw [if_pos h, if_pos h, this]
    unfold noI
    split <;> rfl
  · rw [if_neg h, if_neg h]
end Go.Proofs.YtjbcfdgnafmbkaaDoor.PGroup
