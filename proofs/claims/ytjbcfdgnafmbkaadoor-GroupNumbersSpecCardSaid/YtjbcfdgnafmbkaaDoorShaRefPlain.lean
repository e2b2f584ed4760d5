/- The reference's forms of SHA-256: the same numbers. -/
import Derived.Test.YtjbcfdgnafmbkaaDoorSha7
set_option linter.unusedVariables false
namespace Go.Proofs.YtjbcfdgnafmbkaaDoor.Sha
open Go.RowKit Go.Proofs.YtjbcfdgnafmbkaaDoor
theorem ch_ref (e f g : Nat) (hg : g < 4294967296) : (e &&& f) ^^^ ((4294967295 - e) &&& g) = ch e f g ∨ 4294967296 ≤ e := by
  by_cases he : e < 4294967296
  · left
    refine Nat.eq_of_testBit_eq fun i => ?_
    have h1 : 4294967295 - e = 2 ^ 32 - (e + 1) := by omega
    unfold ch
    rw [h1]
    simp only [Nat.testBit_xor, Nat.testBit_and, Nat.testBit_two_pow_sub_succ (show e < 2 ^ 32 from he)]
    by_cases hi : i < 32
    · simp only [hi, decide_true, Bool.true_and]
      cases e.testBit i <;> cases f.testBit i <;> cases g.testBit i <;> rfl
    · have : g.testBit i = false := Nat.testBit_lt_two_pow (Nat.lt_of_lt_of_le hg (by
        have : (2 : Nat) ^ 32 ≤ 2 ^ i := Nat.pow_le_pow_right (by decide) (by omega)
        simpa using this))
      have h2 : e.testBit i = false := Nat.testBit_lt_two_pow (Nat.lt_of_lt_of_le he (by
        have : (2 : Nat) ^ 32 ≤ 2 ^ i := Nat.pow_le_pow_right (by decide) (by omega)
        simpa using this))
      rw [this, h2]
      simp
  · right; omega
theorem mj_ref (a b c : Nat) : ((a &&& b) ^^^ (a &&& c)) ^^^ (b &&& c) = mj a b c := by
  refine Nat.eq_of_testBit_eq fun i => ?_
  unfold mj
  simp only [Nat.testBit_xor, Nat.testBit_and, Nat.testBit_or]
  cases a.testBit i <;> cases b.testBit i <;> cases c.testBit i <;> rfl
theorem blocks_append (m : Nat) (t : List Nat) : ∀ (n : Nat) (s : St) (a : List Nat), a.length = 64 * n → blocks (n + m) s (a ++ t) = blocks m (blocks n s a) t
  | 0, s, a, h => by
    have : a = [] := List.eq_nil_of_length_eq_zero (by omega)
    subst this
    rw [Nat.zero_add]; rfl
  | n + 1, s, a, h => by
    rw [show n + 1 + m = (n + m) + 1 from by omega]
    show blocks (n + m) (absorb s ((a ++ t).take 64)) ((a ++ t).drop 64) = blocks m (blocks n (absorb s (a.take 64)) (a.drop 64)) t
    rw [List.take_append_of_le_length (by omega), List.drop_append_of_le_length (by omega)]
    exact blocks_append m t n _ _ (by rw [List.length_drop]; omega)
/-- The bytes with their end, as the reference makes them. -/
def padL (l : List Nat) : List Nat := l ++ [128] ++ List.replicate ((if l.length % 64 ≤ 55 then 55 else 119) - l.length % 64) 0 ++ be8 (l.length * 8)
theorem padL_split (l : List Nat) : padL l = l.take (64 * (l.length / 64)) ++ tail (l.drop (64 * (l.length / 64))) l.length := by
  have h : (l.drop (64 * (l.length / 64))).length = l.length % 64 := by rw [List.length_drop]; omega
  unfold padL tail
  rw [h, ← List.append_assoc, ← List.append_assoc, ← List.append_assoc, List.take_append_drop]
theorem padL_length (l : List Nat) : (padL l).length = 64 * (l.length / 64 + if l.length % 64 ≤ 55 then 1 else 2) := by
  have h : (l.drop (64 * (l.length / 64))).length = l.length % 64 := by rw [List.length_drop]; omega
  have ht := tail_length (l.drop (64 * (l.length / 64))) l.length (if l.length % 64 ≤ 55 then 64 else 128) (by rw [h]; split <;> omega)
  rw [padL_split, List.length_append, List.length_take, ht]
  split <;> omega
theorem sum_pad (l : List Nat) : sum l = bytes (blocks ((padL l).length / 64) H0 (padL l)) := by
  have e1 : (padL l).length / 64 = l.length / 64 + if l.length % 64 ≤ 55 then 1 else 2 := by rw [padL_length]; omega
  have hl : (l.take (64 * (l.length / 64))).length = 64 * (l.length / 64) := by rw [List.length_take]; omega
  rw [e1, padL_split, blocks_append _ _ _ _ _ hl]
  have e2 := blocks_append 0 (l.drop (64 * (l.length / 64))) (l.length / 64) H0 _ hl
  rw [List.take_append_drop, Nat.add_zero] at e2
  unfold sum
  rw [e2]
  rfl
theorem padL_lt {l : List Nat} (h : ∀ x ∈ l, x < 256) : ∀ x ∈ padL l, x < 256 := by
  rw [padL_split]
  intro x hx
  rcases List.mem_append.1 hx with hx | hx
  · exact h x (List.mem_of_mem_take hx)
  · exact tail_lt _ _ (fun y hy => h y (List.mem_of_mem_drop hy)) x hx
end Go.Proofs.YtjbcfdgnafmbkaaDoor.Sha
