/- GroupSquares, over numbers: exactly the squares are elements. -/
import Derived.Test.YtjbcfdgnafmbkaaPGroupx3
import Derived.Test.YtjbcfdgnafmbkaaGroupFns
namespace Go.Proofs.Ytjbcfdgnafmbkaa.Pure
open Go.RowKit Go.Proofs.Ytjbcfdgnafmbkaa.PGroup Go.Proofs.YtjbcfdgnafmbkaaW.PrintWords Go.Proofs.YtjbcfdgnafmbkaaW.PrintLast
theorem sane_2 : signatorylaw10_sane.f 2 = some true := sane_f
theorem lawpow_f {a : Int} (h : validB a = true) (n : Int) : signatorylaw10_pow.f a n = some (powI a n) := by
  unfold signatorylaw10_pow.f
  rw [pow_f, if_pos h]
  simp
theorem squares_core (x n : Int) (h1 : 0 ≤ n) (h2 : n < 2147483579) (hx : n = x ∨ validB x = false) : signatorylaw10_GroupSquares.j0 2 x n = some true := by
  rw [signatorylaw10_GroupSquares.j0]
  by_cases h0 : n = 0
  · subst h0
    rw [if_pos rfl, valid_f, valid_f, valid_f, valid_out (n := 0) (by omega), valid_out (n := 2147483579) (by omega), valid_out (n := -4) (by omega)]
    simp
  · have e : wrap64 (2147483579 - n) = 2147483579 - n := by unfold wrap64; omega
    have e2 := tmod_prod (a := n) (b := n) (by omega) (by omega) (by omega) (by omega)
    have hsq := valid_sq (n := n) (by omega) h2
    have last : signatorylaw10_GroupSquares.j1 1 n false = some true := by
      rw [signatorylaw10_GroupSquares.j1, if_neg (by simp), valid_f, Option.bind_some]
      by_cases hv : validB n = true
      · rw [if_pos hv, lawpow_f hv, Option.bind_some, lawpow_f (valid_pow hv _), Option.bind_some, powI_pow hv, powI_congr (m := 536870895 * 2) (n := 1) (by decide), powI_one hv]
        simp
      · rw [if_neg hv]
    rw [if_neg h0, valid_f, valid_f, e, valid_neg (by omega) h2, e2, valid_f, hsq]
    simp only [Option.bind_some]
    rw [if_neg (by cases validB n <;> simp), if_pos trivial]
    rcases hx with hx | hx
    · rw [if_pos hx, last]
    · by_cases hx2 : n = x
      · rw [if_pos hx2, last]
      · rw [if_neg hx2, valid_f, hx, Option.bind_some, last]
theorem GroupSquares : signatorylaw10_GroupSquares.Pure := by
  intro x _
  refine ⟨2, ?_⟩
  have lo : -2147483579 < Int.tmod x 2147483579 := by
    have := Int.lt_tmod_of_pos x (b := 2147483579) (by omega); omega
  have hi : Int.tmod x 2147483579 < 2147483579 := Int.tmod_lt_of_pos x (by omega)
  unfold signatorylaw10_GroupSquares.f
  rw [sane_2, Option.bind_some, if_pos rfl]
  have key : ∀ n, 0 ≤ n → n < 2147483579 → n % 2147483579 = x % 2147483579 → n = x ∨ validB x = false := fun n h1 h2 h3 => by
    by_cases h : 1 ≤ x ∧ x < 2147483579
    · left; omega
    · right; exact valid_out (by omega)
  have e : (Int.tmod x 2147483579) % 2147483579 = x % 2147483579 := by
    rw [Int.tmod_eq_emod]; split <;> simp
  by_cases h : Int.tmod x 2147483579 < 0
  · have w : wrap64 (Int.tmod x 2147483579 + 2147483579) = Int.tmod x 2147483579 + 2147483579 := by unfold wrap64; omega
    rw [if_pos h, w]
    exact squares_core x _ (by omega) (by omega) (key _ (by omega) (by omega) (by omega))
  · rw [if_neg h]
    exact squares_core x _ (by omega) (by omega) (key _ (by omega) (by omega) e)
end Go.Proofs.Ytjbcfdgnafmbkaa.Pure
