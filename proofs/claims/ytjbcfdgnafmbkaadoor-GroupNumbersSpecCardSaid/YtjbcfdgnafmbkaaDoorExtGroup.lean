/- group.Valid and group.Pow answer, at every input, as plain Lean functions do: the square test, and powers modulo P. -/
import Derived.Test.YtjbcfdgnafmbkaaDoorPow
import Derived.Test.YtjbcfdgnafmbkaaDoorWWords
set_option linter.unusedVariables false
namespace Go.Proofs.YtjbcfdgnafmbkaaDoor
open Go.RowKit Go.Proofs.YtjbcfdgnafmbkaaDoorW.PrintWords

def group_Valid.f (a0 : Int) : Option Bool := some (validB a0)
def group_Pow.f (a0 a1 : Int) : Option (Int × Int) := some (if validB a0 = true then (powI a0 a1, 0) else (0, 100))
theorem valid_lo (x : Int) (w : World) (h : x < 1) : Calls Tryd.prog 38 #[.int .i64 x] w fun e w' => e = .returned (.bool false) ∧ w = w' := by
  have hd : decide (x < 1) = true := by simpa using h
  go_enter Tryd.func38, Tryd.ntmps38
  go_wp2
  go_step3
  go_wp2
  rw [Exit.noGoto_ret]
  go_ret
  exact ⟨rfl, rfl⟩
theorem valid_hi (x : Int) (w : World) (h1 : 1 ≤ x) (h : 2147483579 ≤ x) : Calls Tryd.prog 38 #[.int .i64 x] w fun e w' => e = .returned (.bool false) ∧ w = w' := by
  have hd : decide (x < 1) = false := by simp; omega
  have hd2 : decide (2147483579 ≤ x) = true := by simpa using h
  go_enter Tryd.func38, Tryd.ntmps38
  go_wp2
  go_step3
  go_wp2
  rw [Exit.noGoto_ret]
  go_ret
  exact ⟨rfl, rfl⟩
theorem valid_any (x : Int) (w : World) : Calls Tryd.prog 38 #[.int .i64 x] w fun e w' => e = .returned (.bool (validB x)) ∧ w = w' := by
  by_cases h1 : x < 1
  · have : validB x = false := by unfold validB; rw [decide_eq_false (by omega)]; rfl
    rw [this]; exact valid_lo x w h1
  · by_cases h2 : 2147483579 ≤ x
    · have : validB x = false := by unfold validB; rw [decide_eq_false (p := x < _) (by omega), Bool.and_false]; rfl
      rw [this]; exact valid_hi x w (by omega) h2
    · obtain ⟨n, rfl⟩ := Int.eq_ofNat_of_zero_le (show 0 ≤ x by omega)
      have : validB n = Num.J n 2147483579 := by unfold validB; rw [decide_eq_true (by omega), decide_eq_true (by omega)]; simp
      rw [this]; exact valid_in n w (by omega) (by omega)
theorem group_Valid.calls (a0 : Int) (r : Bool) (w : World) (h : group_Valid.f a0 = some r) :
    Calls Tryd.prog 38 #[.int .i64 a0] w fun e w' => e = .returned (.bool r) ∧ Drawn0 w w' := by
  obtain rfl := Option.some.inj h
  exact (valid_any a0 w).mono fun e w' h => ⟨h.1, by rw [← h.2]; exact Drawn0.refl _⟩
set_option maxHeartbeats 400000 in
theorem pow_no (a n : Int) (w : World) (hv : validB a = false) :
    Calls Tryd.prog 35 #[.int .i64 a, .int .i64 n] w fun e w' => e = .returned (.tuple #[.int .i64 0, .int .i64 100]) ∧ Below w.heap.size w w' := by
  have HV := Lib.hid hv
  clear hv
  go_enter Tryd.func35, Tryd.ntmps35
  go_wp2_with (go_at_call 38; refine (valid_any _ _).mono ?_; rintro e w' ⟨rfl, rfl⟩; rw [HV.out])
  have hc : ((w.alloc (.cells #[.int .i64 0] 3))).cell? ⟨w.heap.size, 0, none⟩ = some (.int .i64 0) := by simp
  refine bodyPost_ret (v := .tuple #[.int .i64 0, .int .i64 100]) (by simp [results, Tryd.results35, go_sem]) rfl ⟨rfl, ?_⟩
  exact (Below.refl _ _).alloc (Nat.le_refl _) _
theorem group_Pow.calls (a0 a1 : Int) (r1 r2 : Int) (w : World) (h : group_Pow.f a0 a1 = some (r1, r2)) :
    Calls Tryd.prog 35 #[.int .i64 a0, .int .i64 a1] w fun e w' => e = .returned (.tuple #[.int .i64 r1, .int .i64 r2]) ∧ Below w.heap.size w w' := by
  have h := Option.some.inj h
  by_cases hv : validB a0 = true
  · rw [if_pos hv] at h
    cases h
    obtain ⟨h1, h2, h3⟩ := validB_true hv
    exact pow_in a0 a1 w h1 h2 h3
  · rw [if_neg hv] at h
    cases h
    exact pow_no a0 a1 w (by simpa using hv)
end Go.Proofs.YtjbcfdgnafmbkaaDoor
