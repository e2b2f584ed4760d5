/- The walk of GroupInverse: Element and Number are inverse to each other. -/
import Derived.Test.YtjbcfdgnafmbkaaGroupWalks
namespace Go.Proofs.Ytjbcfdgnafmbkaa.GroupWalks
open Go.RowKit Go.Proofs.Ytjbcfdgnafmbkaa Go.Proofs.Ytjbcfdgnafmbkaa.PGroup Go.Proofs.YtjbcfdgnafmbkaaW.PrintWords Go.Proofs.YtjbcfdgnafmbkaaW.PrintLast

set_option maxHeartbeats 1000000 in
/-- n is no number of an element; n may be an element. -/
theorem Inv_out (n m : Int) (w0 : World) (hn : ¬ (1 ≤ n ∧ n ≤ 1073741789)) :
    Calls Try.prog 7 #[.int .i64 n, .int .i64 m] w0 fun e w' => e = .returned (.bool true) ∧ Below w0.heap.size w0 w' := by
  have hb0 := Lib.hid (Below.refl w0.heap.size w0)
  have HN := Lib.hid hn
  have d : decide (1 ≤ n) = false ∨ (decide (1 ≤ n) = true ∧ decide (n ≤ 1073741789) = false) := by
    by_cases h : 1 ≤ n
    · right; simp; omega
    · left; simpa using h
  clear hn
  cases hv : validB n with
  | true =>
    have HV := Lib.hid hv
    clear hv
    obtain ⟨r1, r2⟩ := no_range HV.out
    have d1 : decide (1 ≤ noI n) = true := by simpa using r1
    have d2 : decide (noI n ≤ 1073741789) = true := by simpa using r2
    rcases d with d | ⟨d, d'⟩
    all_goals
      go_enter Try.func7, Try.ntmps7
      go_wp2_with fail
      refine (onB hb0.out (sane_c _)).mono ?_; rintro e w1 ⟨rfl, h1⟩; replace hb0 := Lib.hid h1; clear h1
      go_wp2_with fail
      refine (onE0 HN.out hb0.out).mono ?_; rintro e w2 ⟨rfl, h1⟩; replace hb0 := Lib.hid h1; clear h1
      go_wp2_with fail
      refine (onN1 HV.out hb0.out).mono ?_; rintro e w3 ⟨rfl, h1⟩; replace hb0 := Lib.hid h1; clear h1
      go_wp2_with fail
      refine (onV HV.out hb0.out).mono ?_; rintro e w4 ⟨rfl, h1⟩; replace hb0 := Lib.hid h1; clear h1
      go_wp2_with fail
      refine (onE1 r1 r2 hb0.out).mono ?_; rintro e w5 ⟨rfl, h1⟩; replace hb0 := Lib.hid h1; clear h1
      rw [el_no HV.out]
      go_wp2
      go_ret
      exact ⟨rfl, hb0.out⟩
  | false =>
    have HV := Lib.hid hv
    clear hv
    rcases d with d | ⟨d, d'⟩
    all_goals
      go_enter Try.func7, Try.ntmps7
      go_wp2_with fail
      refine (onB hb0.out (sane_c _)).mono ?_; rintro e w1 ⟨rfl, h1⟩; replace hb0 := Lib.hid h1; clear h1
      go_wp2_with fail
      refine (onE0 HN.out hb0.out).mono ?_; rintro e w2 ⟨rfl, h1⟩; replace hb0 := Lib.hid h1; clear h1
      go_wp2_with fail
      refine (onN0 HV.out hb0.out).mono ?_; rintro e w3 ⟨rfl, h1⟩; replace hb0 := Lib.hid h1; clear h1
      go_wp2_with fail
      refine (onV0 HV.out hb0.out).mono ?_; rintro e w4 ⟨rfl, h1⟩; replace hb0 := Lib.hid h1; clear h1
      go_wp2
      go_ret
      exact ⟨rfl, hb0.out⟩

theorem onE {n X : Int} {w0 w : World} (h1 : 1 ≤ n) (h2 : n ≤ 1073741789) (hX : elI n = X) (hB : Below w0.heap.size w0 w) :
    Calls Try.prog 25 #[.int .i64 n] w fun e w' => e = .returned (.tuple #[.int .i64 X, .int .i64 0]) ∧ Below w0.heap.size w0 w' := by
  subst hX; exact onE1 h1 h2 hB
theorem onN {x k : Int} {w0 w : World} (h : validB x = true) (hk : noI x = k) (hB : Below w0.heap.size w0 w) :
    Calls Try.prog 26 #[.int .i64 x] w fun e w' => e = .returned (.tuple #[.int .i64 k, .int .i64 0]) ∧ Below w0.heap.size w0 w' := by
  subst hk; exact onN1 h hB
set_option maxHeartbeats 2000000 in
/-- n is a number of an element, and an element itself. -/
theorem Inv_in (n m : Int) (w0 : World) (n1 : 1 ≤ n) (n2 : n ≤ 1073741789) (hv : validB n = true) :
    Calls Try.prog 7 #[.int .i64 n, .int .i64 m] w0 fun e w' => e = .returned (.bool true) ∧ Below w0.heap.size w0 w' := by
  have hb0 := Lib.hid (Below.refl w0.heap.size w0)
  have d : decide (1 ≤ n) = true := by simpa using n1
  have d' : decide (n ≤ 1073741789) = true := by simpa using n2
  have HV := Lib.hid hv
  have HX : Hid (elI n = n) := Lib.hid (by unfold elI; rw [if_pos hv])
  have HK : Hid (noI n = n) := Lib.hid (by unfold noI; rw [if_pos n2])
  clear hv
  by_cases hm : 1 ≤ m ∧ m ≤ 1073741789
  · obtain ⟨m1, m2⟩ := hm
    obtain ⟨Y, hY⟩ : ∃ Y, elI m = Y := ⟨_, rfl⟩
    have HY := Lib.hid hY
    have key : (n == Y) = (n == m) := by
      rw [Bool.eq_iff_iff, beq_iff_eq, beq_iff_eq]
      constructor
      · intro e; exact el_inj n1 n2 m1 m2 (by rw [HX.out, hY, e])
      · rintro rfl; rw [← HX.out, hY]
    clear hY
    cases hnm : (n == m) <;> rw [hnm] at key
    all_goals
      go_enter Try.func7, Try.ntmps7
      go_wp2_with fail
      refine (onB hb0.out (sane_c _)).mono ?_; rintro e w1 ⟨rfl, h1⟩; replace hb0 := Lib.hid h1; clear h1
      go_wp2_with fail
      refine (onE n1 n2 HX.out hb0.out).mono ?_; rintro e w2 ⟨rfl, h1⟩; replace hb0 := Lib.hid h1; clear h1
      go_wp2_with fail
      refine (onN HV.out HK.out hb0.out).mono ?_; rintro e w3 ⟨rfl, h1⟩; replace hb0 := Lib.hid h1; clear h1
      go_wp2_with fail
      refine (onV HV.out hb0.out).mono ?_; rintro e w4 ⟨rfl, h1⟩; replace hb0 := Lib.hid h1; clear h1
      go_wp2_with fail
      refine (onE m1 m2 HY.out hb0.out).mono ?_; rintro e w5 ⟨rfl, h1⟩; replace hb0 := Lib.hid h1; clear h1
      go_wp2_with fail
      refine (onN HV.out HK.out hb0.out).mono ?_; rintro e w6 ⟨rfl, h1⟩; replace hb0 := Lib.hid h1; clear h1
      go_wp2_with fail
      refine (onV HV.out hb0.out).mono ?_; rintro e w7 ⟨rfl, h1⟩; replace hb0 := Lib.hid h1; clear h1
      go_wp2_with fail
      refine (onE n1 n2 HX.out hb0.out).mono ?_; rintro e w8 ⟨rfl, h1⟩; replace hb0 := Lib.hid h1; clear h1
      go_wp2
      go_ret
      exact ⟨rfl, hb0.out⟩
  · have HM := Lib.hid hm
    clear hm
    go_enter Try.func7, Try.ntmps7
    go_wp2_with fail
    refine (onB hb0.out (sane_c _)).mono ?_; rintro e w1 ⟨rfl, h1⟩; replace hb0 := Lib.hid h1; clear h1
    go_wp2_with fail
    refine (onE n1 n2 HX.out hb0.out).mono ?_; rintro e w2 ⟨rfl, h1⟩; replace hb0 := Lib.hid h1; clear h1
    go_wp2_with fail
    refine (onN HV.out HK.out hb0.out).mono ?_; rintro e w3 ⟨rfl, h1⟩; replace hb0 := Lib.hid h1; clear h1
    go_wp2_with fail
    refine (onV HV.out hb0.out).mono ?_; rintro e w4 ⟨rfl, h1⟩; replace hb0 := Lib.hid h1; clear h1
    go_wp2_with fail
    refine (onE0 HM.out hb0.out).mono ?_; rintro e w5 ⟨rfl, h1⟩; replace hb0 := Lib.hid h1; clear h1
    go_wp2_with fail
    refine (onN HV.out HK.out hb0.out).mono ?_; rintro e w6 ⟨rfl, h1⟩; replace hb0 := Lib.hid h1; clear h1
    go_wp2_with fail
    refine (onV HV.out hb0.out).mono ?_; rintro e w7 ⟨rfl, h1⟩; replace hb0 := Lib.hid h1; clear h1
    go_wp2_with fail
    refine (onE n1 n2 HX.out hb0.out).mono ?_; rintro e w8 ⟨rfl, h1⟩; replace hb0 := Lib.hid h1; clear h1
    go_wp2
    go_ret
    exact ⟨rfl, hb0.out⟩
set_option maxHeartbeats 2000000 in
/-- n is a number of an element, and no element. -/
theorem Inv_in0 (n m : Int) (w0 : World) (n1 : 1 ≤ n) (n2 : n ≤ 1073741789) (hv : validB n = false) :
    Calls Try.prog 7 #[.int .i64 n, .int .i64 m] w0 fun e w' => e = .returned (.bool true) ∧ Below w0.heap.size w0 w' := by
  have hb0 := Lib.hid (Below.refl w0.heap.size w0)
  have d : decide (1 ≤ n) = true := by simpa using n1
  have d' : decide (n ≤ 1073741789) = true := by simpa using n2
  have HV := Lib.hid hv
  obtain ⟨X, hX⟩ : ∃ X, X = 2147483579 - n := ⟨_, rfl⟩
  have HX : Hid (elI n = X) := Lib.hid (by unfold elI; rw [if_neg (by rw [hv]; simp), hX])
  have HW : Hid (validB X = true) := Lib.hid (by rw [← HX.out]; exact valid_el n1 n2)
  have HK : Hid (noI X = n) := Lib.hid (by rw [← HX.out]; exact no_el n1 n2)
  have x1 : (X == n) = false := by rw [beq_eq_false_iff_ne]; omega
  have x2 : (X == 2147483579 - n) = true := by rw [beq_iff_eq]; exact hX
  have x3 : (X != n) = true := by rw [bne_iff_ne]; omega
  have x4 : (X != 2147483579 - n) = false := by rw [bne_eq_false_iff_eq]; exact hX
  clear hv hX
  by_cases hm : 1 ≤ m ∧ m ≤ 1073741789
  · obtain ⟨m1, m2⟩ := hm
    obtain ⟨Y, hY⟩ : ∃ Y, elI m = Y := ⟨_, rfl⟩
    have HY := Lib.hid hY
    have key : (X == Y) = (n == m) := by
      rw [Bool.eq_iff_iff, beq_iff_eq, beq_iff_eq]
      constructor
      · intro e; exact el_inj n1 n2 m1 m2 (by rw [HX.out, hY, e])
      · rintro rfl; rw [← HX.out, hY]
    clear hY
    cases hnm : (n == m) <;> rw [hnm] at key
    all_goals
      go_enter Try.func7, Try.ntmps7
      go_wp2_with fail
      refine (onB hb0.out (sane_c _)).mono ?_; rintro e w1 ⟨rfl, h1⟩; replace hb0 := Lib.hid h1; clear h1
      go_wp2_with fail
      refine (onE n1 n2 HX.out hb0.out).mono ?_; rintro e w2 ⟨rfl, h1⟩; replace hb0 := Lib.hid h1; clear h1
      go_wp2_with fail
      refine (onN HW.out HK.out hb0.out).mono ?_; rintro e w3 ⟨rfl, h1⟩; replace hb0 := Lib.hid h1; clear h1
      go_wp2_with fail
      refine (onV HW.out hb0.out).mono ?_; rintro e w4 ⟨rfl, h1⟩; replace hb0 := Lib.hid h1; clear h1
      go_wp2_with fail
      refine (onE m1 m2 HY.out hb0.out).mono ?_; rintro e w5 ⟨rfl, h1⟩; replace hb0 := Lib.hid h1; clear h1
      go_wp2_with fail
      refine (onN0 HV.out hb0.out).mono ?_; rintro e w6 ⟨rfl, h1⟩; replace hb0 := Lib.hid h1; clear h1
      go_wp2_with fail
      refine (onV0 HV.out hb0.out).mono ?_; rintro e w7 ⟨rfl, h1⟩; replace hb0 := Lib.hid h1; clear h1
      go_wp2
      go_ret
      exact ⟨rfl, hb0.out⟩
  · have HM := Lib.hid hm
    clear hm
    go_enter Try.func7, Try.ntmps7
    go_wp2_with fail
    refine (onB hb0.out (sane_c _)).mono ?_; rintro e w1 ⟨rfl, h1⟩; replace hb0 := Lib.hid h1; clear h1
    go_wp2_with fail
    refine (onE n1 n2 HX.out hb0.out).mono ?_; rintro e w2 ⟨rfl, h1⟩; replace hb0 := Lib.hid h1; clear h1
    go_wp2_with fail
    refine (onN HW.out HK.out hb0.out).mono ?_; rintro e w3 ⟨rfl, h1⟩; replace hb0 := Lib.hid h1; clear h1
    go_wp2_with fail
    refine (onV HW.out hb0.out).mono ?_; rintro e w4 ⟨rfl, h1⟩; replace hb0 := Lib.hid h1; clear h1
    go_wp2_with fail
    refine (onE0 HM.out hb0.out).mono ?_; rintro e w5 ⟨rfl, h1⟩; replace hb0 := Lib.hid h1; clear h1
    go_wp2_with fail
    refine (onN0 HV.out hb0.out).mono ?_; rintro e w6 ⟨rfl, h1⟩; replace hb0 := Lib.hid h1; clear h1
    go_wp2_with fail
    refine (onV0 HV.out hb0.out).mono ?_; rintro e w7 ⟨rfl, h1⟩; replace hb0 := Lib.hid h1; clear h1
    go_wp2
    go_ret
    exact ⟨rfl, hb0.out⟩
theorem GroupInverse_walk (n m : Int) (w0 : World) :
    Calls Try.prog 7 #[.int .i64 n, .int .i64 m] w0 fun e w' => e = .returned (.bool true) ∧ Below w0.heap.size w0 w' := by
  by_cases h : 1 ≤ n ∧ n ≤ 1073741789
  · cases hv : validB n with
    | true => exact Inv_in n m w0 h.1 h.2 hv
    | false => exact Inv_in0 n m w0 h.1 h.2 hv
  · exact Inv_out n m w0 h
end Go.Proofs.Ytjbcfdgnafmbkaa.GroupWalks
