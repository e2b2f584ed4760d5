/- Lean functions that answer as the Go functions do, and the walks that show it: written by a program of this session. -/
import Derived.Test.YtjbcfdgnafmbkaaDoorPGroupx0
namespace Go.Proofs.YtjbcfdgnafmbkaaDoor.PGroup
open Go.RowKit Go.Proofs.YtjbcfdgnafmbkaaDoorW.PrintWords Go.Proofs.YtjbcfdgnafmbkaaDoorW.PrintLast Go.Proofs.YtjbcfdgnafmbkaaDoorW.PrintMore
attribute [local go_sem] max2_int min2_int max_two min_two max_three min_three max_four min_four   -- for this text's walks alone
set_option linter.unusedVariables false
set_option linter.unusedSimpArgs false

/-! ### group_Element: function 16 -/
def group_Element.j0 : Nat → Int → Bool → Option (Int × Int)
  | 0, _, _ => none
  | k + 1, x0, x9 => if x9 = true then (some (0, 1)) else ((group_Valid.f x0).bind fun t101 => (if t101 = true then (some (x0, 0)) else (some (wrap64 (2147483579 - x0), 0))))
def group_Element.f (k : Nat) (a0 : Int) : Option (Int × Int) := if a0 < 1 then (group_Element.j0 k a0 true) else (group_Element.j0 k a0 (decide (a0 > 1073741789)))
theorem group_Element.mono_l : ∀ k, (∀ y0 y1, LeO (group_Element.j0 k y0 y1) (group_Element.j0 (k + 1) y0 y1))
  | 0 => fun _ _ r h => by simp [group_Element.j0] at h
  | k + 1 => by
    have ih0 := group_Element.mono_l k
    · intro y0 y1
      unfold group_Element.j0
      repeat' first
      | (with_reducible exact ih0 _ _)
      | (with_reducible exact LeO.refl _)
      | (with_reducible exact LeO.none _)
      | (with_reducible refine LeO.ite ?_ ?_)
      | (with_reducible refine LeO.bind ?_ (fun _ => ?_))
      | exact ih0 _ _
      | exact LeO.none _
      | refine LeO.ite ?_ ?_
      | refine LeO.bind ?_ (fun _ => ?_)
theorem group_Element.mono : ∀ a0 k, LeO (group_Element.f k a0) (group_Element.f (k + 1) a0) := by
  intro a0 k
  have ih0 := group_Element.mono_l k
  unfold group_Element.f
  repeat' first
      | (with_reducible exact ih0 _ _)
      | (with_reducible exact LeO.refl _)
      | (with_reducible exact LeO.none _)
      | (with_reducible refine LeO.ite ?_ ?_)
      | (with_reducible refine LeO.bind ?_ (fun _ => ?_))
      | exact ih0 _ _
      | exact LeO.none _
      | refine LeO.ite ?_ ?_
      | refine LeO.bind ?_ (fun _ => ?_)
set_option maxHeartbeats 8000000 in
set_option maxRecDepth 100000 in
theorem group_Element.calls (k : Nat) (a0 : Int) (r1 : Int) (r2 : Int) (w : World) (h : group_Element.f k a0 = some (r1, r2)) :
    Calls Tryd.prog 16 #[.int .i64 a0] w fun e w' => e = .returned (.tuple #[.int .i64 r1, .int .i64 r2]) ∧ Drawn0 w w' := by
  have H : (if a0 < 1 then (group_Element.j0 k a0 true) else (group_Element.j0 k a0 (decide (a0 > 1073741789)))) = some (r1, r2) := h
  clear h
  have HC2 := Aside0.mk H
  clear H
  go_enter Tryd.func16, Tryd.ntmps16
  go_upto_region 1 with (fail)
  go_cut [9] (fun v9 wc => ∃ (kq : Nat) (x9_1 : Bool), v9 = .bool x9_1 ∧ Aside0 (group_Element.j0 kq a0 x9_1 = some (r1, r2)) ∧ Aside0 (kq ≤ k) ∧ Drawn0 w wc)
  case first =>
    have H := HC2.out
    clear HC2
    by_cases c3 : a0 < 1
    · rw [if_pos c3] at H
      have c3b0 : decide (a0 < 1) = true := decide_eq_true c3
      clear c3
      (first | rw [c3b0] | (simp only [i64_w, i32_w]; rw [c3b0]) | skip)
      have H' := Aside0.mk H
      clear H
      go_wp2
      go_meet
      case rel => exact ⟨_, (true), (by first | rfl | (simp; done) | (simp [*]; done)), H', ⟨by first | omega | exact Nat.le_refl _⟩, by repeat (first | exact Drawn0.refl _ | apply Drawn0.step)⟩
    · rw [if_neg c3] at H
      have c3b0 : decide (a0 < 1) = false := decide_eq_false c3
      clear c3
      (first | rw [c3b0] | (simp only [i64_w, i32_w]; rw [c3b0]) | skip)
      have H' := Aside0.mk H
      clear H
      go_wp2
      go_meet
      case rel => exact ⟨_, (decide (a0 > 1073741789)), (by first | rfl | (simp; done) | (simp [*]; done)), H', ⟨by first | omega | exact Nat.le_refl _⟩, by repeat (first | exact Drawn0.refl _ | apply Drawn0.step)⟩
  case rest =>
    clear HC2
    try clear c1
    try clear p2
    try clear c3
    try clear c3b0
    obtain ⟨kq, x9_1, rfl, HA, HJ1, ⟨mc1, rfl⟩⟩ := hcut
    cases kq with
    | zero => exact absurd HA.out (by simp [group_Element.j0])
    | succ kj1 =>
      have H := HA.out
      clear HA
      simp only [group_Element.j0] at H
      by_cases c4 : x9_1 = true
      · subst c4
        have H1 : (some (0, 1)) = some (r1, r2) := by rw [if_pos rfl] at H; exact H
        clear H
        have H := H1
        clear H1
        simp only [Option.some.injEq, Prod.mk.injEq] at H
        obtain ⟨rfl, rfl⟩ := H
        go_wp2
        go_ret2
        exact ⟨by first | rfl | (simp; done) | (simp [*]; done), by repeat (first | exact Drawn0.refl _ | apply Drawn0.step)⟩
      · replace c4 := Bool.eq_false_iff.mpr c4
        subst c4
        have H1 : ((group_Valid.f a0).bind fun t101 => (if t101 = true then (some (a0, 0)) else (some (wrap64 (2147483579 - a0), 0)))) = some (r1, r2) := by rw [if_neg (show ¬ (false = true) by decide)] at H; exact H
        clear H
        have H := H1
        clear H1
        replace H := Option.bind_eq_some_iff.mp H
        obtain ⟨t101, A50, H⟩ := H
        replace H : (if t101 = true then (some (a0, 0)) else (some (wrap64 (2147483579 - a0), 0))) = some (r1, r2) := H
        have A5 := Aside0.mk A50
        clear A50
        by_cases c6 : t101 = true
        · subst c6
          have H1 : (some (a0, 0)) = some (r1, r2) := by rw [if_pos rfl] at H; exact H
          clear H
          have H := H1
          clear H1
          simp only [Option.some.injEq, Prod.mk.injEq] at H
          obtain ⟨rfl, rfl⟩ := H
          go_wp2_with (first | ((with_reducible refine gate_callee (f := 38) rfl ?_); refine goesL_ (some 11) rfl rfl Tryd.func38 (by kernel_rfl) rfl #[.int .i64 a0] rfl (by (try simp only [List.map_toArray, List.map_cons, List.map_nil]); first | done | rfl | (simp only [List.length_drop, List.length_take]; rfl)) ?_; (with_reducible refine (group_Valid.calls a0 true _ A5.out).mono ?_); rintro e w' ⟨rfl, ⟨nd, rfl⟩⟩; refine ⟨_, rfl, ?_⟩))
          go_ret2
          exact ⟨by first | rfl | (simp; done) | (simp [*]; done), by repeat (first | exact Drawn0.refl _ | apply Drawn0.step)⟩
        · replace c6 := Bool.eq_false_iff.mpr c6
          subst c6
          have H1 : (some (wrap64 (2147483579 - a0), 0)) = some (r1, r2) := by rw [if_neg (show ¬ (false = true) by decide)] at H; exact H
          clear H
          have H := H1
          clear H1
          simp only [Option.some.injEq, Prod.mk.injEq] at H
          obtain ⟨rfl, rfl⟩ := H
          go_wp2_with (first | ((with_reducible refine gate_callee (f := 38) rfl ?_); refine goesL_ (some 11) rfl rfl Tryd.func38 (by kernel_rfl) rfl #[.int .i64 a0] rfl (by (try simp only [List.map_toArray, List.map_cons, List.map_nil]); first | done | rfl | (simp only [List.length_drop, List.length_take]; rfl)) ?_; (with_reducible refine (group_Valid.calls a0 false _ A5.out).mono ?_); rintro e w' ⟨rfl, ⟨nd, rfl⟩⟩; refine ⟨_, rfl, ?_⟩))
          go_ret2
          exact ⟨by first | rfl | (simp; done) | (simp [*]; done), by repeat (first | exact Drawn0.refl _ | apply Drawn0.step)⟩

/-! ### group_Number: function 18 -/
def group_Number.f (a0 : Int) : Option (Int × Int) := (group_Valid.f a0).bind fun t102 => (if t102 = true then (some (mn a0 (wrap64 (2147483579 - a0)), 0)) else (some (0, 100)))
set_option maxHeartbeats 8000000 in
set_option maxRecDepth 100000 in
theorem group_Number.calls (a0 : Int) (r1 : Int) (r2 : Int) (w : World) (h : group_Number.f a0 = some (r1, r2)) :
    Calls Tryd.prog 18 #[.int .i64 a0] w fun e w' => e = .returned (.tuple #[.int .i64 r1, .int .i64 r2]) ∧ Below w.heap.size w w' := by
  have HB := Aside0.mk (Below.refl w.heap.size w)
  have H : ((group_Valid.f a0).bind fun t102 => (if t102 = true then (some (mn a0 (wrap64 (2147483579 - a0)), 0)) else (some (0, 100)))) = some (r1, r2) := h
  clear h
  replace H := Option.bind_eq_some_iff.mp H
  obtain ⟨t102, A20, H⟩ := H
  replace H : (if t102 = true then (some (mn a0 (wrap64 (2147483579 - a0)), 0)) else (some (0, 100))) = some (r1, r2) := H
  have A2 := Aside0.mk A20
  clear A20
  by_cases c3 : t102 = true
  · subst c3
    have H1 : (some (mn a0 (wrap64 (2147483579 - a0)), 0)) = some (r1, r2) := by rw [if_pos rfl] at H; exact H
    clear H
    have H := H1
    clear H1
    obtain ⟨ji4, hji4⟩ : ∃ j_ : Int, (mn a0 (wrap64 (2147483579 - a0))) = j_ := ⟨_, rfl⟩
    replace H : (some (ji4, 0)) = some (r1, r2) := by first | (rw [hji4] at H; exact H) | (simp only [hji4] at H ⊢; exact H)
    (try rw [hji4] at A2)
    have hji4_ : (if (wrap64 (2147483579 - a0)) < a0 then (wrap64 (2147483579 - a0)) else a0) = ji4 := hji4
    simp only [Option.some.injEq, Prod.mk.injEq] at H
    obtain ⟨rfl, rfl⟩ := H
    go_enter Tryd.func18, Tryd.ntmps18
    go_wp2_with (first | ((with_reducible refine gate_callee (f := 38) rfl ?_); refine goesL_ (some 5) rfl rfl Tryd.func38 (by kernel_rfl) rfl #[.int .i64 a0] rfl (by (try simp only [List.map_toArray, List.map_cons, List.map_nil]); first | done | rfl | (simp only [List.length_drop, List.length_take]; rfl)) ?_; (with_reducible refine (group_Valid.calls a0 true _ A2.out).mono ?_); rintro e w' ⟨rfl, ⟨nd, rfl⟩⟩; refine ⟨_, rfl, ?_⟩))
    go_ret2
    exact ⟨by first | rfl | (simp [errW_none, errW_some] <;> rfl) | (simp only [← hji4]; first | rfl | (simp [errW_none, errW_some] <;> rfl)) | (simp [*, errW_none, errW_some] <;> rfl), by repeat (first | (with_reducible first | exact HB.out | apply below_alloc | apply pw_below_drewN | apply below_drew1) | exact HB.out)⟩
  · replace c3 := Bool.eq_false_iff.mpr c3
    subst c3
    have H1 : (some (0, 100)) = some (r1, r2) := by rw [if_neg (show ¬ (false = true) by decide)] at H; exact H
    clear H
    have H := H1
    clear H1
    simp only [Option.some.injEq, Prod.mk.injEq] at H
    obtain ⟨rfl, rfl⟩ := H
    go_enter Tryd.func18, Tryd.ntmps18
    go_wp2_with (first | ((with_reducible refine gate_callee (f := 38) rfl ?_); refine goesL_ (some 5) rfl rfl Tryd.func38 (by kernel_rfl) rfl #[.int .i64 a0] rfl (by (try simp only [List.map_toArray, List.map_cons, List.map_nil]); first | done | rfl | (simp only [List.length_drop, List.length_take]; rfl)) ?_; (with_reducible refine (group_Valid.calls a0 false _ A2.out).mono ?_); rintro e w' ⟨rfl, ⟨nd, rfl⟩⟩; refine ⟨_, rfl, ?_⟩))
    go_ret2
    exact ⟨by first | rfl | (simp [errW_none, errW_some] <;> rfl) | (simp [*, errW_none, errW_some] <;> rfl), by repeat (first | (with_reducible first | exact HB.out | apply below_alloc | apply pw_below_drewN | apply below_drew1) | exact HB.out)⟩

/-! ### group_Mul: function 37 -/
def group_Mul.f (a0 : Int) (a1 : Int) : Option (Int × Int) := (group_Valid.f a0).bind fun t103 => (if t103 = true then ((group_Valid.f a1).bind fun t104 => (if t104 = true then (some (Int.tmod (wrap64 (a0 * a1)) 2147483579, 0)) else (some (0, 100)))) else (some (0, 100)))
set_option maxHeartbeats 8000000 in
set_option maxRecDepth 100000 in
theorem group_Mul.calls (a0 : Int) (a1 : Int) (r1 : Int) (r2 : Int) (w : World) (h : group_Mul.f a0 a1 = some (r1, r2)) :
    Calls Tryd.prog 37 #[.int .i64 a0, .int .i64 a1] w fun e w' => e = .returned (.tuple #[.int .i64 r1, .int .i64 r2]) ∧ Drawn0 w w' := by
  have H : ((group_Valid.f a0).bind fun t103 => (if t103 = true then ((group_Valid.f a1).bind fun t104 => (if t104 = true then (some (Int.tmod (wrap64 (a0 * a1)) 2147483579, 0)) else (some (0, 100)))) else (some (0, 100)))) = some (r1, r2) := h
  clear h
  replace H := Option.bind_eq_some_iff.mp H
  obtain ⟨t103, A30, H⟩ := H
  replace H : (if t103 = true then ((group_Valid.f a1).bind fun t104 => (if t104 = true then (some (Int.tmod (wrap64 (a0 * a1)) 2147483579, 0)) else (some (0, 100)))) else (some (0, 100))) = some (r1, r2) := H
  have A3 := Aside0.mk A30
  clear A30
  by_cases c4 : t103 = true
  · subst c4
    have H1 : ((group_Valid.f a1).bind fun t104 => (if t104 = true then (some (Int.tmod (wrap64 (a0 * a1)) 2147483579, 0)) else (some (0, 100)))) = some (r1, r2) := by rw [if_pos rfl] at H; exact H
    clear H
    have H := H1
    clear H1
    replace H := Option.bind_eq_some_iff.mp H
    obtain ⟨t104, A50, H⟩ := H
    replace H : (if t104 = true then (some (Int.tmod (wrap64 (a0 * a1)) 2147483579, 0)) else (some (0, 100))) = some (r1, r2) := H
    have A5 := Aside0.mk A50
    clear A50
    by_cases c6 : t104 = true
    · subst c6
      have H1 : (some (Int.tmod (wrap64 (a0 * a1)) 2147483579, 0)) = some (r1, r2) := by rw [if_pos rfl] at H; exact H
      clear H
      have H := H1
      clear H1
      simp only [Option.some.injEq, Prod.mk.injEq] at H
      obtain ⟨rfl, rfl⟩ := H
      go_enter Tryd.func37, Tryd.ntmps37
      go_wp2_with (first | ((with_reducible refine gate_callee (f := 38) rfl ?_); refine goesL_ (some 7) rfl rfl Tryd.func38 (by kernel_rfl) rfl #[.int .i64 a0] rfl (by (try simp only [List.map_toArray, List.map_cons, List.map_nil]); first | done | rfl | (simp only [List.length_drop, List.length_take]; rfl)) ?_; (with_reducible refine (group_Valid.calls a0 true _ A3.out).mono ?_); rintro e w' ⟨rfl, ⟨nd, rfl⟩⟩; refine ⟨_, rfl, ?_⟩) | (go_at_call 38; (with_reducible refine (group_Valid.calls a1 true _ A5.out).mono ?_); rintro e w' ⟨rfl, ⟨nd, rfl⟩⟩))
      go_ret2
      exact ⟨by first | rfl | (simp; done) | (simp [*]; done), by repeat (first | exact Drawn0.refl _ | apply Drawn0.step)⟩
    · replace c6 := Bool.eq_false_iff.mpr c6
      subst c6
      have H1 : (some (0, 100)) = some (r1, r2) := by rw [if_neg (show ¬ (false = true) by decide)] at H; exact H
      clear H
      have H := H1
      clear H1
      simp only [Option.some.injEq, Prod.mk.injEq] at H
      obtain ⟨rfl, rfl⟩ := H
      go_enter Tryd.func37, Tryd.ntmps37
      go_wp2_with (first | ((with_reducible refine gate_callee (f := 38) rfl ?_); refine goesL_ (some 7) rfl rfl Tryd.func38 (by kernel_rfl) rfl #[.int .i64 a0] rfl (by (try simp only [List.map_toArray, List.map_cons, List.map_nil]); first | done | rfl | (simp only [List.length_drop, List.length_take]; rfl)) ?_; (with_reducible refine (group_Valid.calls a0 true _ A3.out).mono ?_); rintro e w' ⟨rfl, ⟨nd, rfl⟩⟩; refine ⟨_, rfl, ?_⟩) | (go_at_call 38; (with_reducible refine (group_Valid.calls a1 false _ A5.out).mono ?_); rintro e w' ⟨rfl, ⟨nd, rfl⟩⟩))
      go_ret2
      exact ⟨by first | rfl | (simp; done) | (simp [*]; done), by repeat (first | exact Drawn0.refl _ | apply Drawn0.step)⟩
  · replace c4 := Bool.eq_false_iff.mpr c4
    subst c4
    have H1 : (some (0, 100)) = some (r1, r2) := by rw [if_neg (show ¬ (false = true) by decide)] at H; exact H
    clear H
    have H := H1
    clear H1
    simp only [Option.some.injEq, Prod.mk.injEq] at H
    obtain ⟨rfl, rfl⟩ := H
    go_enter Tryd.func37, Tryd.ntmps37
    go_wp2_with (first | ((with_reducible refine gate_callee (f := 38) rfl ?_); refine goesL_ (some 7) rfl rfl Tryd.func38 (by kernel_rfl) rfl #[.int .i64 a0] rfl (by (try simp only [List.map_toArray, List.map_cons, List.map_nil]); first | done | rfl | (simp only [List.length_drop, List.length_take]; rfl)) ?_; (with_reducible refine (group_Valid.calls a0 false _ A3.out).mono ?_); rintro e w' ⟨rfl, ⟨nd, rfl⟩⟩; refine ⟨_, rfl, ?_⟩))
    go_ret2
    exact ⟨by first | rfl | (simp; done) | (simp [*]; done), by repeat (first | exact Drawn0.refl _ | apply Drawn0.step)⟩

/-! ### signatorylaw10_sane: function 15 -/
def signatorylaw10_sane.j0 : Nat → Int → Int → Int → Int → Int → Int → Bool → Option (Bool)
  | 0, _, _, _, _, _, _, _ => none
  | k + 1, x1, x3, x5, x9, x13, x19, x108 => if x108 = true then (some false) else ((group_Valid.f 0).bind fun t127 => (if t127 = true then (some false) else ((group_Valid.f 2147483579).bind fun t128 => (if t128 = true then (some false) else ((group_Valid.f 2).bind fun t129 => (if t129 = true then (some false) else ((group_Valid.f 1).bind fun t130 => (if t130 = true then ((group_Valid.f 4).bind fun t131 => (if t131 = true then ((group_Valid.f 2147483578).bind fun t132 => (if t132 = true then (some false) else (if x1 = 16 then (if x3 = 1 then (if x5 = 536870895 then (if x9 = 16 then (if x13 = 2147483577 then (some (x19 == 2)) else (some false)) else (some false)) else (some false)) else (some false)) else (some false)))) else (some false))) else (some false)))))))))
def signatorylaw10_sane.f (k : Nat)  : Option (Bool) := (group_Pow.f 4 2).bind fun bt105 => ((group_Pow.f 4 1073741789).bind fun bt107 => ((group_Pow.f 4 (-1)).bind fun bt109 => ((group_Pow.f 0 1).bind fun bt111 => ((group_Mul.f 4 4).bind fun bt113 => ((group_Mul.f 4 2).bind fun bt115 => ((group_Element.f k 2).bind fun bt117 => ((group_Element.f k 0).bind fun bt119 => ((group_Element.f k 1073741790).bind fun bt121 => ((group_Number.f 2147483577).bind fun bt123 => ((group_Number.f 2).bind fun bt125 => (if bt105.2 = 0 then (if bt107.2 = 0 then (if bt109.2 = 0 then (if bt111.2 = 100 then (if bt113.2 = 0 then (if bt115.2 = 100 then (if bt117.2 = 0 then (if bt119.2 = 1 then (if bt121.2 = 1 then (if bt123.2 = 0 then (signatorylaw10_sane.j0 k bt105.1 bt107.1 bt109.1 bt113.1 bt117.1 bt123.1 (bt125.2 != 100)) else (signatorylaw10_sane.j0 k bt105.1 bt107.1 bt109.1 bt113.1 bt117.1 bt123.1 true)) else (signatorylaw10_sane.j0 k bt105.1 bt107.1 bt109.1 bt113.1 bt117.1 bt123.1 true)) else (signatorylaw10_sane.j0 k bt105.1 bt107.1 bt109.1 bt113.1 bt117.1 bt123.1 true)) else (signatorylaw10_sane.j0 k bt105.1 bt107.1 bt109.1 bt113.1 bt117.1 bt123.1 true)) else (signatorylaw10_sane.j0 k bt105.1 bt107.1 bt109.1 bt113.1 bt117.1 bt123.1 true)) else (signatorylaw10_sane.j0 k bt105.1 bt107.1 bt109.1 bt113.1 bt117.1 bt123.1 true)) else (signatorylaw10_sane.j0 k bt105.1 bt107.1 bt109.1 bt113.1 bt117.1 bt123.1 true)) else (signatorylaw10_sane.j0 k bt105.1 bt107.1 bt109.1 bt113.1 bt117.1 bt123.1 true)) else (signatorylaw10_sane.j0 k bt105.1 bt107.1 bt109.1 bt113.1 bt117.1 bt123.1 true)) else (signatorylaw10_sane.j0 k bt105.1 bt107.1 bt109.1 bt113.1 bt117.1 bt123.1 true))))))))))))
theorem signatorylaw10_sane.mono_l : ∀ k, (∀ y0 y1 y2 y3 y4 y5 y6, LeO (signatorylaw10_sane.j0 k y0 y1 y2 y3 y4 y5 y6) (signatorylaw10_sane.j0 (k + 1) y0 y1 y2 y3 y4 y5 y6))
  | 0 => fun _ _ _ _ _ _ _ r h => by simp [signatorylaw10_sane.j0] at h
  | k + 1 => by
    have ih0 := signatorylaw10_sane.mono_l k
    · intro y0 y1 y2 y3 y4 y5 y6
      unfold signatorylaw10_sane.j0
      repeat' first
      | (with_reducible exact ih0 _ _ _ _ _ _ _)
      | (with_reducible exact group_Element.mono _ _)
      | (with_reducible exact LeO.refl _)
      | (with_reducible exact LeO.none _)
      | (with_reducible refine LeO.ite ?_ ?_)
      | (with_reducible refine LeO.bind ?_ (fun _ => ?_))
      | exact ih0 _ _ _ _ _ _ _
      | exact group_Element.mono _ _
      | exact LeO.none _
      | refine LeO.ite ?_ ?_
      | refine LeO.bind ?_ (fun _ => ?_)
theorem signatorylaw10_sane.mono : ∀ k, LeO (signatorylaw10_sane.f k ) (signatorylaw10_sane.f (k + 1) ) := by
  intro  k
  have ih0 := signatorylaw10_sane.mono_l k
  unfold signatorylaw10_sane.f
  repeat' first
      | (with_reducible exact ih0 _ _ _ _ _ _ _)
      | (with_reducible exact group_Element.mono _ _)
      | (with_reducible exact LeO.refl _)
      | (with_reducible exact LeO.none _)
      | (with_reducible refine LeO.ite ?_ ?_)
      | (with_reducible refine LeO.bind ?_ (fun _ => ?_))
      | exact ih0 _ _ _ _ _ _ _
      | exact group_Element.mono _ _
      | exact LeO.none _
      | refine LeO.ite ?_ ?_
      | refine LeO.bind ?_ (fun _ => ?_)
set_option maxHeartbeats 8000000 in
set_option maxRecDepth 100000 in
theorem signatorylaw10_sane.calls (k : Nat)  (r : Bool) (w : World) (h : signatorylaw10_sane.f k  = some r) :
    Calls Tryd.prog 15 #[] w fun e w' => e = .returned (.bool r) ∧ Below w.heap.size w w' := by
  have HB := Aside0.mk (Below.refl w.heap.size w)
  have H : ((group_Pow.f 4 2).bind fun bt105 => ((group_Pow.f 4 1073741789).bind fun bt107 => ((group_Pow.f 4 (-1)).bind fun bt109 => ((group_Pow.f 0 1).bind fun bt111 => ((group_Mul.f 4 4).bind fun bt113 => ((group_Mul.f 4 2).bind fun bt115 => ((group_Element.f k 2).bind fun bt117 => ((group_Element.f k 0).bind fun bt119 => ((group_Element.f k 1073741790).bind fun bt121 => ((group_Number.f 2147483577).bind fun bt123 => ((group_Number.f 2).bind fun bt125 => (if bt105.2 = 0 then (if bt107.2 = 0 then (if bt109.2 = 0 then (if bt111.2 = 100 then (if bt113.2 = 0 then (if bt115.2 = 100 then (if bt117.2 = 0 then (if bt119.2 = 1 then (if bt121.2 = 1 then (if bt123.2 = 0 then (signatorylaw10_sane.j0 k bt105.1 bt107.1 bt109.1 bt113.1 bt117.1 bt123.1 (bt125.2 != 100)) else (signatorylaw10_sane.j0 k bt105.1 bt107.1 bt109.1 bt113.1 bt117.1 bt123.1 true)) else (signatorylaw10_sane.j0 k bt105.1 bt107.1 bt109.1 bt113.1 bt117.1 bt123.1 true)) else (signatorylaw10_sane.j0 k bt105.1 bt107.1 bt109.1 bt113.1 bt117.1 bt123.1 true)) else (signatorylaw10_sane.j0 k bt105.1 bt107.1 bt109.1 bt113.1 bt117.1 bt123.1 true)) else (signatorylaw10_sane.j0 k bt105.1 bt107.1 bt109.1 bt113.1 bt117.1 bt123.1 true)) else (signatorylaw10_sane.j0 k bt105.1 bt107.1 bt109.1 bt113.1 bt117.1 bt123.1 true)) else (signatorylaw10_sane.j0 k bt105.1 bt107.1 bt109.1 bt113.1 bt117.1 bt123.1 true)) else (signatorylaw10_sane.j0 k bt105.1 bt107.1 bt109.1 bt113.1 bt117.1 bt123.1 true)) else (signatorylaw10_sane.j0 k bt105.1 bt107.1 bt109.1 bt113.1 bt117.1 bt123.1 true)) else (signatorylaw10_sane.j0 k bt105.1 bt107.1 bt109.1 bt113.1 bt117.1 bt123.1 true))))))))))))) = some r := h
  clear h
  replace H := Option.bind_eq_some_iff.mp H
  obtain ⟨⟨t105, t106⟩, A10, H⟩ := H
  replace H : ((group_Pow.f 4 1073741789).bind fun bt107 => ((group_Pow.f 4 (-1)).bind fun bt109 => ((group_Pow.f 0 1).bind fun bt111 => ((group_Mul.f 4 4).bind fun bt113 => ((group_Mul.f 4 2).bind fun bt115 => ((group_Element.f k 2).bind fun bt117 => ((group_Element.f k 0).bind fun bt119 => ((group_Element.f k 1073741790).bind fun bt121 => ((group_Number.f 2147483577).bind fun bt123 => ((group_Number.f 2).bind fun bt125 => (if t106 = 0 then (if bt107.2 = 0 then (if bt109.2 = 0 then (if bt111.2 = 100 then (if bt113.2 = 0 then (if bt115.2 = 100 then (if bt117.2 = 0 then (if bt119.2 = 1 then (if bt121.2 = 1 then (if bt123.2 = 0 then (signatorylaw10_sane.j0 k t105 bt107.1 bt109.1 bt113.1 bt117.1 bt123.1 (bt125.2 != 100)) else (signatorylaw10_sane.j0 k t105 bt107.1 bt109.1 bt113.1 bt117.1 bt123.1 true)) else (signatorylaw10_sane.j0 k t105 bt107.1 bt109.1 bt113.1 bt117.1 bt123.1 true)) else (signatorylaw10_sane.j0 k t105 bt107.1 bt109.1 bt113.1 bt117.1 bt123.1 true)) else (signatorylaw10_sane.j0 k t105 bt107.1 bt109.1 bt113.1 bt117.1 bt123.1 true)) else (signatorylaw10_sane.j0 k t105 bt107.1 bt109.1 bt113.1 bt117.1 bt123.1 true)) else (signatorylaw10_sane.j0 k t105 bt107.1 bt109.1 bt113.1 bt117.1 bt123.1 true)) else (signatorylaw10_sane.j0 k t105 bt107.1 bt109.1 bt113.1 bt117.1 bt123.1 true)) else (signatorylaw10_sane.j0 k t105 bt107.1 bt109.1 bt113.1 bt117.1 bt123.1 true)) else (signatorylaw10_sane.j0 k t105 bt107.1 bt109.1 bt113.1 bt117.1 bt123.1 true)) else (signatorylaw10_sane.j0 k t105 bt107.1 bt109.1 bt113.1 bt117.1 bt123.1 true)))))))))))) = some r := H
  have A1 := Aside0.mk A10
  clear A10
  replace H := Option.bind_eq_some_iff.mp H
  obtain ⟨⟨t107, t108⟩, A20, H⟩ := H
  replace H : ((group_Pow.f 4 (-1)).bind fun bt109 => ((group_Pow.f 0 1).bind fun bt111 => ((group_Mul.f 4 4).bind fun bt113 => ((group_Mul.f 4 2).bind fun bt115 => ((group_Element.f k 2).bind fun bt117 => ((group_Element.f k 0).bind fun bt119 => ((group_Element.f k 1073741790).bind fun bt121 => ((group_Number.f 2147483577).bind fun bt123 => ((group_Number.f 2).bind fun bt125 => (if t106 = 0 then (if t108 = 0 then (if bt109.2 = 0 then (if bt111.2 = 100 then (if bt113.2 = 0 then (if bt115.2 = 100 then (if bt117.2 = 0 then (if bt119.2 = 1 then (if bt121.2 = 1 then (if bt123.2 = 0 then (signatorylaw10_sane.j0 k t105 t107 bt109.1 bt113.1 bt117.1 bt123.1 (bt125.2 != 100)) else (signatorylaw10_sane.j0 k t105 t107 bt109.1 bt113.1 bt117.1 bt123.1 true)) else (signatorylaw10_sane.j0 k t105 t107 bt109.1 bt113.1 bt117.1 bt123.1 true)) else (signatorylaw10_sane.j0 k t105 t107 bt109.1 bt113.1 bt117.1 bt123.1 true)) else (signatorylaw10_sane.j0 k t105 t107 bt109.1 bt113.1 bt117.1 bt123.1 true)) else (signatorylaw10_sane.j0 k t105 t107 bt109.1 bt113.1 bt117.1 bt123.1 true)) else (signatorylaw10_sane.j0 k t105 t107 bt109.1 bt113.1 bt117.1 bt123.1 true)) else (signatorylaw10_sane.j0 k t105 t107 bt109.1 bt113.1 bt117.1 bt123.1 true)) else (signatorylaw10_sane.j0 k t105 t107 bt109.1 bt113.1 bt117.1 bt123.1 true)) else (signatorylaw10_sane.j0 k t105 t107 bt109.1 bt113.1 bt117.1 bt123.1 true)) else (signatorylaw10_sane.j0 k t105 t107 bt109.1 bt113.1 bt117.1 bt123.1 true))))))))))) = some r := H
  have A2 := Aside0.mk A20
  clear A20
  replace H := Option.bind_eq_some_iff.mp H
  obtain ⟨⟨t109, t110⟩, A30, H⟩ := H
  replace H : ((group_Pow.f 0 1).bind fun bt111 => ((group_Mul.f 4 4).bind fun bt113 => ((group_Mul.f 4 2).bind fun bt115 => ((group_Element.f k 2).bind fun bt117 => ((group_Element.f k 0).bind fun bt119 => ((group_Element.f k 1073741790).bind fun bt121 => ((group_Number.f 2147483577).bind fun bt123 => ((group_Number.f 2).bind fun bt125 => (if t106 = 0 then (if t108 = 0 then (if t110 = 0 then (if bt111.2 = 100 then (if bt113.2 = 0 then (if bt115.2 = 100 then (if bt117.2 = 0 then (if bt119.2 = 1 then (if bt121.2 = 1 then (if bt123.2 = 0 then (signatorylaw10_sane.j0 k t105 t107 t109 bt113.1 bt117.1 bt123.1 (bt125.2 != 100)) else (signatorylaw10_sane.j0 k t105 t107 t109 bt113.1 bt117.1 bt123.1 true)) else (signatorylaw10_sane.j0 k t105 t107 t109 bt113.1 bt117.1 bt123.1 true)) else (signatorylaw10_sane.j0 k t105 t107 t109 bt113.1 bt117.1 bt123.1 true)) else (signatorylaw10_sane.j0 k t105 t107 t109 bt113.1 bt117.1 bt123.1 true)) else (signatorylaw10_sane.j0 k t105 t107 t109 bt113.1 bt117.1 bt123.1 true)) else (signatorylaw10_sane.j0 k t105 t107 t109 bt113.1 bt117.1 bt123.1 true)) else (signatorylaw10_sane.j0 k t105 t107 t109 bt113.1 bt117.1 bt123.1 true)) else (signatorylaw10_sane.j0 k t105 t107 t109 bt113.1 bt117.1 bt123.1 true)) else (signatorylaw10_sane.j0 k t105 t107 t109 bt113.1 bt117.1 bt123.1 true)) else (signatorylaw10_sane.j0 k t105 t107 t109 bt113.1 bt117.1 bt123.1 true)))))))))) = some r := H
  have A3 := Aside0.mk A30
  clear A30
  replace H := Option.bind_eq_some_iff.mp H
  obtain ⟨⟨t111, t112⟩, A40, H⟩ := H
  replace H : ((group_Mul.f 4 4).bind fun bt113 => ((group_Mul.f 4 2).bind fun bt115 => ((group_Element.f k 2).bind fun bt117 => ((group_Element.f k 0).bind fun bt119 => ((group_Element.f k 1073741790).bind fun bt121 => ((group_Number.f 2147483577).bind fun bt123 => ((group_Number.f 2).bind fun bt125 => (if t106 = 0 then (if t108 = 0 then (if t110 = 0 then (if t112 = 100 then (if bt113.2 = 0 then (if bt115.2 = 100 then (if bt117.2 = 0 then (if bt119.2 = 1 then (if bt121.2 = 1 then (if bt123.2 = 0 then (signatorylaw10_sane.j0 k t105 t107 t109 bt113.1 bt117.1 bt123.1 (bt125.2 != 100)) else (signatorylaw10_sane.j0 k t105 t107 t109 bt113.1 bt117.1 bt123.1 true)) else (signatorylaw10_sane.j0 k t105 t107 t109 bt113.1 bt117.1 bt123.1 true)) else (signatorylaw10_sane.j0 k t105 t107 t109 bt113.1 bt117.1 bt123.1 true)) else (signatorylaw10_sane.j0 k t105 t107 t109 bt113.1 bt117.1 bt123.1 true)) else (signatorylaw10_sane.j0 k t105 t107 t109 bt113.1 bt117.1 bt123.1 true)) else (signatorylaw10_sane.j0 k t105 t107 t109 bt113.1 bt117.1 bt123.1 true)) else (signatorylaw10_sane.j0 k t105 t107 t109 bt113.1 bt117.1 bt123.1 true)) else (signatorylaw10_sane.j0 k t105 t107 t109 bt113.1 bt117.1 bt123.1 true)) else (signatorylaw10_sane.j0 k t105 t107 t109 bt113.1 bt117.1 bt123.1 true)) else (signatorylaw10_sane.j0 k t105 t107 t109 bt113.1 bt117.1 bt123.1 true))))))))) = some r := H
  have A4 := Aside0.mk A40
  clear A40
  replace H := Option.bind_eq_some_iff.mp H
  obtain ⟨⟨t113, t114⟩, A50, H⟩ := H
  replace H : ((group_Mul.f 4 2).bind fun bt115 => ((group_Element.f k 2).bind fun bt117 => ((group_Element.f k 0).bind fun bt119 => ((group_Element.f k 1073741790).bind fun bt121 => ((group_Number.f 2147483577).bind fun bt123 => ((group_Number.f 2).bind fun bt125 => (if t106 = 0 then (if t108 = 0 then (if t110 = 0 then (if t112 = 100 then (if t114 = 0 then (if bt115.2 = 100 then (if bt117.2 = 0 then (if bt119.2 = 1 then (if bt121.2 = 1 then (if bt123.2 = 0 then (signatorylaw10_sane.j0 k t105 t107 t109 t113 bt117.1 bt123.1 (bt125.2 != 100)) else (signatorylaw10_sane.j0 k t105 t107 t109 t113 bt117.1 bt123.1 true)) else (signatorylaw10_sane.j0 k t105 t107 t109 t113 bt117.1 bt123.1 true)) else (signatorylaw10_sane.j0 k t105 t107 t109 t113 bt117.1 bt123.1 true)) else (signatorylaw10_sane.j0 k t105 t107 t109 t113 bt117.1 bt123.1 true)) else (signatorylaw10_sane.j0 k t105 t107 t109 t113 bt117.1 bt123.1 true)) else (signatorylaw10_sane.j0 k t105 t107 t109 t113 bt117.1 bt123.1 true)) else (signatorylaw10_sane.j0 k t105 t107 t109 t113 bt117.1 bt123.1 true)) else (signatorylaw10_sane.j0 k t105 t107 t109 t113 bt117.1 bt123.1 true)) else (signatorylaw10_sane.j0 k t105 t107 t109 t113 bt117.1 bt123.1 true)) else (signatorylaw10_sane.j0 k t105 t107 t109 t113 bt117.1 bt123.1 true)))))))) = some r := H
  have A5 := Aside0.mk A50
  clear A50
  replace H := Option.bind_eq_some_iff.mp H
  obtain ⟨⟨t115, t116⟩, A60, H⟩ := H
  replace H : ((group_Element.f k 2).bind fun bt117 => ((group_Element.f k 0).bind fun bt119 => ((group_Element.f k 1073741790).bind fun bt121 => ((group_Number.f 2147483577).bind fun bt123 => ((group_Number.f 2).bind fun bt125 => (if t106 = 0 then (if t108 = 0 then (if t110 = 0 then (if t112 = 100 then (if t114 = 0 then (if t116 = 100 then (if bt117.2 = 0 then (if bt119.2 = 1 then (if bt121.2 = 1 then (if bt123.2 = 0 then (signatorylaw10_sane.j0 k t105 t107 t109 t113 bt117.1 bt123.1 (bt125.2 != 100)) else (signatorylaw10_sane.j0 k t105 t107 t109 t113 bt117.1 bt123.1 true)) else (signatorylaw10_sane.j0 k t105 t107 t109 t113 bt117.1 bt123.1 true)) else (signatorylaw10_sane.j0 k t105 t107 t109 t113 bt117.1 bt123.1 true)) else (signatorylaw10_sane.j0 k t105 t107 t109 t113 bt117.1 bt123.1 true)) else (signatorylaw10_sane.j0 k t105 t107 t109 t113 bt117.1 bt123.1 true)) else (signatorylaw10_sane.j0 k t105 t107 t109 t113 bt117.1 bt123.1 true)) else (signatorylaw10_sane.j0 k t105 t107 t109 t113 bt117.1 bt123.1 true)) else (signatorylaw10_sane.j0 k t105 t107 t109 t113 bt117.1 bt123.1 true)) else (signatorylaw10_sane.j0 k t105 t107 t109 t113 bt117.1 bt123.1 true)) else (signatorylaw10_sane.j0 k t105 t107 t109 t113 bt117.1 bt123.1 true))))))) = some r := H
  have A6 := Aside0.mk A60
  clear A60
  replace H := Option.bind_eq_some_iff.mp H
  obtain ⟨⟨t117, t118⟩, A70, H⟩ := H
  replace H : ((group_Element.f k 0).bind fun bt119 => ((group_Element.f k 1073741790).bind fun bt121 => ((group_Number.f 2147483577).bind fun bt123 => ((group_Number.f 2).bind fun bt125 => (if t106 = 0 then (if t108 = 0 then (if t110 = 0 then (if t112 = 100 then (if t114 = 0 then (if t116 = 100 then (if t118 = 0 then (if bt119.2 = 1 then (if bt121.2 = 1 then (if bt123.2 = 0 then (signatorylaw10_sane.j0 k t105 t107 t109 t113 t117 bt123.1 (bt125.2 != 100)) else (signatorylaw10_sane.j0 k t105 t107 t109 t113 t117 bt123.1 true)) else (signatorylaw10_sane.j0 k t105 t107 t109 t113 t117 bt123.1 true)) else (signatorylaw10_sane.j0 k t105 t107 t109 t113 t117 bt123.1 true)) else (signatorylaw10_sane.j0 k t105 t107 t109 t113 t117 bt123.1 true)) else (signatorylaw10_sane.j0 k t105 t107 t109 t113 t117 bt123.1 true)) else (signatorylaw10_sane.j0 k t105 t107 t109 t113 t117 bt123.1 true)) else (signatorylaw10_sane.j0 k t105 t107 t109 t113 t117 bt123.1 true)) else (signatorylaw10_sane.j0 k t105 t107 t109 t113 t117 bt123.1 true)) else (signatorylaw10_sane.j0 k t105 t107 t109 t113 t117 bt123.1 true)) else (signatorylaw10_sane.j0 k t105 t107 t109 t113 t117 bt123.1 true)))))) = some r := H
  have A7 := Aside0.mk A70
  clear A70
  replace H := Option.bind_eq_some_iff.mp H
  obtain ⟨⟨t119, t120⟩, A80, H⟩ := H
  replace H : ((group_Element.f k 1073741790).bind fun bt121 => ((group_Number.f 2147483577).bind fun bt123 => ((group_Number.f 2).bind fun bt125 => (if t106 = 0 then (if t108 = 0 then (if t110 = 0 then (if t112 = 100 then (if t114 = 0 then (if t116 = 100 then (if t118 = 0 then (if t120 = 1 then (if bt121.2 = 1 then (if bt123.2 = 0 then (signatorylaw10_sane.j0 k t105 t107 t109 t113 t117 bt123.1 (bt125.2 != 100)) else (signatorylaw10_sane.j0 k t105 t107 t109 t113 t117 bt123.1 true)) else (signatorylaw10_sane.j0 k t105 t107 t109 t113 t117 bt123.1 true)) else (signatorylaw10_sane.j0 k t105 t107 t109 t113 t117 bt123.1 true)) else (signatorylaw10_sane.j0 k t105 t107 t109 t113 t117 bt123.1 true)) else (signatorylaw10_sane.j0 k t105 t107 t109 t113 t117 bt123.1 true)) else (signatorylaw10_sane.j0 k t105 t107 t109 t113 t117 bt123.1 true)) else (signatorylaw10_sane.j0 k t105 t107 t109 t113 t117 bt123.1 true)) else (signatorylaw10_sane.j0 k t105 t107 t109 t113 t117 bt123.1 true)) else (signatorylaw10_sane.j0 k t105 t107 t109 t113 t117 bt123.1 true)) else (signatorylaw10_sane.j0 k t105 t107 t109 t113 t117 bt123.1 true))))) = some r := H
  have A8 := Aside0.mk A80
  clear A80
  replace H := Option.bind_eq_some_iff.mp H
  obtain ⟨⟨t121, t122⟩, A90, H⟩ := H
  replace H : ((group_Number.f 2147483577).bind fun bt123 => ((group_Number.f 2).bind fun bt125 => (if t106 = 0 then (if t108 = 0 then (if t110 = 0 then (if t112 = 100 then (if t114 = 0 then (if t116 = 100 then (if t118 = 0 then (if t120 = 1 then (if t122 = 1 then (if bt123.2 = 0 then (signatorylaw10_sane.j0 k t105 t107 t109 t113 t117 bt123.1 (bt125.2 != 100)) else (signatorylaw10_sane.j0 k t105 t107 t109 t113 t117 bt123.1 true)) else (signatorylaw10_sane.j0 k t105 t107 t109 t113 t117 bt123.1 true)) else (signatorylaw10_sane.j0 k t105 t107 t109 t113 t117 bt123.1 true)) else (signatorylaw10_sane.j0 k t105 t107 t109 t113 t117 bt123.1 true)) else (signatorylaw10_sane.j0 k t105 t107 t109 t113 t117 bt123.1 true)) else (signatorylaw10_sane.j0 k t105 t107 t109 t113 t117 bt123.1 true)) else (signatorylaw10_sane.j0 k t105 t107 t109 t113 t117 bt123.1 true)) else (signatorylaw10_sane.j0 k t105 t107 t109 t113 t117 bt123.1 true)) else (signatorylaw10_sane.j0 k t105 t107 t109 t113 t117 bt123.1 true)) else (signatorylaw10_sane.j0 k t105 t107 t109 t113 t117 bt123.1 true)))) = some r := H
  have A9 := Aside0.mk A90
  clear A90
  replace H := Option.bind_eq_some_iff.mp H
  obtain ⟨⟨t123, t124⟩, A100, H⟩ := H
  replace H : ((group_Number.f 2).bind fun bt125 => (if t106 = 0 then (if t108 = 0 then (if t110 = 0 then (if t112 = 100 then (if t114 = 0 then (if t116 = 100 then (if t118 = 0 then (if t120 = 1 then (if t122 = 1 then (if t124 = 0 then (signatorylaw10_sane.j0 k t105 t107 t109 t113 t117 t123 (bt125.2 != 100)) else (signatorylaw10_sane.j0 k t105 t107 t109 t113 t117 t123 true)) else (signatorylaw10_sane.j0 k t105 t107 t109 t113 t117 t123 true)) else (signatorylaw10_sane.j0 k t105 t107 t109 t113 t117 t123 true)) else (signatorylaw10_sane.j0 k t105 t107 t109 t113 t117 t123 true)) else (signatorylaw10_sane.j0 k t105 t107 t109 t113 t117 t123 true)) else (signatorylaw10_sane.j0 k t105 t107 t109 t113 t117 t123 true)) else (signatorylaw10_sane.j0 k t105 t107 t109 t113 t117 t123 true)) else (signatorylaw10_sane.j0 k t105 t107 t109 t113 t117 t123 true)) else (signatorylaw10_sane.j0 k t105 t107 t109 t113 t117 t123 true)) else (signatorylaw10_sane.j0 k t105 t107 t109 t113 t117 t123 true))) = some r := H
  have A10 := Aside0.mk A100
  clear A100
  replace H := Option.bind_eq_some_iff.mp H
  obtain ⟨⟨t125, t126⟩, A110, H⟩ := H
  replace H : (if t106 = 0 then (if t108 = 0 then (if t110 = 0 then (if t112 = 100 then (if t114 = 0 then (if t116 = 100 then (if t118 = 0 then (if t120 = 1 then (if t122 = 1 then (if t124 = 0 then (signatorylaw10_sane.j0 k t105 t107 t109 t113 t117 t123 (t126 != 100)) else (signatorylaw10_sane.j0 k t105 t107 t109 t113 t117 t123 true)) else (signatorylaw10_sane.j0 k t105 t107 t109 t113 t117 t123 true)) else (signatorylaw10_sane.j0 k t105 t107 t109 t113 t117 t123 true)) else (signatorylaw10_sane.j0 k t105 t107 t109 t113 t117 t123 true)) else (signatorylaw10_sane.j0 k t105 t107 t109 t113 t117 t123 true)) else (signatorylaw10_sane.j0 k t105 t107 t109 t113 t117 t123 true)) else (signatorylaw10_sane.j0 k t105 t107 t109 t113 t117 t123 true)) else (signatorylaw10_sane.j0 k t105 t107 t109 t113 t117 t123 true)) else (signatorylaw10_sane.j0 k t105 t107 t109 t113 t117 t123 true)) else (signatorylaw10_sane.j0 k t105 t107 t109 t113 t117 t123 true)) = some r := H
  have A11 := Aside0.mk A110
  clear A110
  have HC12 := Aside0.mk H
  clear H
  go_enter Tryd.func15, Tryd.ntmps15
  go_upto_region 12 with (first | ((with_reducible refine gate_callee (f := 35) rfl ?_); refine goesL_ (some 24) rfl rfl Tryd.func35 (by kernel_rfl) rfl #[.int .i64 4, .int .i64 2] rfl (by (try simp only [List.map_toArray, List.map_cons, List.map_nil]); first | done | rfl | (simp only [List.length_drop, List.length_take]; rfl)) ?_; (with_reducible refine (group_Pow.calls 4 2 t105 t106 _ A1.out).mono ?_); rintro e w13 ⟨rfl, hb⟩; refine ⟨_, rfl, ?_⟩; have n0_ := Aside0.mk (below_step (by repeat (first | (with_reducible first | exact HB.out | apply below_alloc | apply pw_below_drewN | apply below_drew1) | exact HB.out)) hb); clear HB; have HB := n0_; clear n0_; (try clear hb); (try clear hb2); (try clear hk); (try clear hi)) | ((with_reducible refine gate_callee (f := 35) rfl ?_); refine goesL_ (some 28) rfl rfl Tryd.func35 (by kernel_rfl) rfl #[.int .i64 4, .int .i64 1073741789] rfl (by (try simp only [List.map_toArray, List.map_cons, List.map_nil]); first | done | rfl | (simp only [List.length_drop, List.length_take]; rfl)) ?_; (with_reducible refine (group_Pow.calls 4 1073741789 t107 t108 _ A2.out).mono ?_); rintro e w14 ⟨rfl, hb⟩; refine ⟨_, rfl, ?_⟩; have n0_ := Aside0.mk (below_step (by repeat (first | (with_reducible first | exact HB.out | apply below_alloc | apply pw_below_drewN | apply below_drew1) | exact HB.out)) hb); clear HB; have HB := n0_; clear n0_; (try clear hb); (try clear hb2); (try clear hk); (try clear hi)) | ((with_reducible refine gate_callee (f := 35) rfl ?_); refine goesL_ (some 32) rfl rfl Tryd.func35 (by kernel_rfl) rfl #[.int .i64 4, .int .i64 (-1)] rfl (by (try simp only [List.map_toArray, List.map_cons, List.map_nil]); first | done | rfl | (simp only [List.length_drop, List.length_take]; rfl)) ?_; (with_reducible refine (group_Pow.calls 4 (-1) t109 t110 _ A3.out).mono ?_); rintro e w15 ⟨rfl, hb⟩; refine ⟨_, rfl, ?_⟩; have n0_ := Aside0.mk (below_step (by repeat (first | (with_reducible first | exact HB.out | apply below_alloc | apply pw_below_drewN | apply below_drew1) | exact HB.out)) hb); clear HB; have HB := n0_; clear n0_; (try clear hb); (try clear hb2); (try clear hk); (try clear hi)) | ((with_reducible refine gate_callee (f := 35) rfl ?_); refine goesL_ (some 36) rfl rfl Tryd.func35 (by kernel_rfl) rfl #[.int .i64 0, .int .i64 1] rfl (by (try simp only [List.map_toArray, List.map_cons, List.map_nil]); first | done | rfl | (simp only [List.length_drop, List.length_take]; rfl)) ?_; (with_reducible refine (group_Pow.calls 0 1 t111 t112 _ A4.out).mono ?_); rintro e w16 ⟨rfl, hb⟩; refine ⟨_, rfl, ?_⟩; have n0_ := Aside0.mk (below_step (by repeat (first | (with_reducible first | exact HB.out | apply below_alloc | apply pw_below_drewN | apply below_drew1) | exact HB.out)) hb); clear HB; have HB := n0_; clear n0_; (try clear hb); (try clear hb2); (try clear hk); (try clear hi)) | ((with_reducible refine gate_callee (f := 37) rfl ?_); refine goesL_ (some 40) rfl rfl Tryd.func37 (by kernel_rfl) rfl #[.int .i64 4, .int .i64 4] rfl (by (try simp only [List.map_toArray, List.map_cons, List.map_nil]); first | done | rfl | (simp only [List.length_drop, List.length_take]; rfl)) ?_; (with_reducible refine (group_Mul.calls 4 4 t113 t114 _ A5.out).mono ?_); rintro e w' ⟨rfl, ⟨nd, rfl⟩⟩; refine ⟨_, rfl, ?_⟩) | ((with_reducible refine gate_callee (f := 37) rfl ?_); refine goesL_ (some 44) rfl rfl Tryd.func37 (by kernel_rfl) rfl #[.int .i64 4, .int .i64 2] rfl (by (try simp only [List.map_toArray, List.map_cons, List.map_nil]); first | done | rfl | (simp only [List.length_drop, List.length_take]; rfl)) ?_; (with_reducible refine (group_Mul.calls 4 2 t115 t116 _ A6.out).mono ?_); rintro e w' ⟨rfl, ⟨nd, rfl⟩⟩; refine ⟨_, rfl, ?_⟩) | ((with_reducible refine gate_callee (f := 16) rfl ?_); refine goesL_ (some 48) rfl rfl Tryd.func16 (by kernel_rfl) rfl #[.int .i64 2] rfl (by (try simp only [List.map_toArray, List.map_cons, List.map_nil]); first | done | rfl | (simp only [List.length_drop, List.length_take]; rfl)) ?_; (with_reducible refine (group_Element.calls k 2 t117 t118 _ A7.out).mono ?_); rintro e w' ⟨rfl, ⟨nd, rfl⟩⟩; refine ⟨_, rfl, ?_⟩) | ((with_reducible refine gate_callee (f := 16) rfl ?_); refine goesL_ (some 52) rfl rfl Tryd.func16 (by kernel_rfl) rfl #[.int .i64 0] rfl (by (try simp only [List.map_toArray, List.map_cons, List.map_nil]); first | done | rfl | (simp only [List.length_drop, List.length_take]; rfl)) ?_; (with_reducible refine (group_Element.calls k 0 t119 t120 _ A8.out).mono ?_); rintro e w' ⟨rfl, ⟨nd, rfl⟩⟩; refine ⟨_, rfl, ?_⟩) | ((with_reducible refine gate_callee (f := 16) rfl ?_); refine goesL_ (some 56) rfl rfl Tryd.func16 (by kernel_rfl) rfl #[.int .i64 1073741790] rfl (by (try simp only [List.map_toArray, List.map_cons, List.map_nil]); first | done | rfl | (simp only [List.length_drop, List.length_take]; rfl)) ?_; (with_reducible refine (group_Element.calls k 1073741790 t121 t122 _ A9.out).mono ?_); rintro e w' ⟨rfl, ⟨nd, rfl⟩⟩; refine ⟨_, rfl, ?_⟩) | ((with_reducible refine gate_callee (f := 18) rfl ?_); refine goesL_ (some 60) rfl rfl Tryd.func18 (by kernel_rfl) rfl #[.int .i64 2147483577] rfl (by (try simp only [List.map_toArray, List.map_cons, List.map_nil]); first | done | rfl | (simp only [List.length_drop, List.length_take]; rfl)) ?_; (with_reducible refine (group_Number.calls 2147483577 t123 t124 _ A10.out).mono ?_); rintro e w17 ⟨rfl, hb⟩; refine ⟨_, rfl, ?_⟩; have n0_ := Aside0.mk (below_step (by repeat (first | (with_reducible first | exact HB.out | apply below_alloc | apply pw_below_drewN | apply below_drew1) | exact HB.out)) hb); clear HB; have HB := n0_; clear n0_; (try clear hb); (try clear hb2); (try clear hk); (try clear hi)) | ((with_reducible refine gate_callee (f := 18) rfl ?_); refine goesL_ (some 64) rfl rfl Tryd.func18 (by kernel_rfl) rfl #[.int .i64 2] rfl (by (try simp only [List.map_toArray, List.map_cons, List.map_nil]); first | done | rfl | (simp only [List.length_drop, List.length_take]; rfl)) ?_; (with_reducible refine (group_Number.calls 2 t125 t126 _ A11.out).mono ?_); rintro e w18 ⟨rfl, hb⟩; refine ⟨_, rfl, ?_⟩; have n0_ := Aside0.mk (below_step (by repeat (first | (with_reducible first | exact HB.out | apply below_alloc | apply pw_below_drewN | apply below_drew1) | exact HB.out)) hb); clear HB; have HB := n0_; clear n0_; (try clear hb); (try clear hb2); (try clear hk); (try clear hi)))
  (try simp only [Act.put, List.setIfInBounds_toArray, List.set_cons_zero, List.set_cons_succ])
  go_cut [108] (fun v108 wc => ∃ (kq : Nat) (x108_11 : Bool), v108 = .bool x108_11 ∧ Aside0 (signatorylaw10_sane.j0 kq t105 t107 t109 t113 t117 t123 x108_11 = some r) ∧ Aside0 (kq ≤ k) ∧ Aside0 (Below w.heap.size w wc))
  case first =>
    have H := HC12.out
    clear HC12
    by_cases c19 : t106 = 0
    · rw [if_pos c19] at H
      have c19b0 : (t106 == 0) = true := beq_iff_eq.mpr c19
      have c19b1 : (t106 != 0) = false := bne_eq_false_iff_eq.mpr c19
      clear c19
      (first | rw [c19b0] | (simp only [i64_w, i32_w]; rw [c19b0]) | skip)
      by_cases c20 : t108 = 0
      · rw [if_pos c20] at H
        have c20b0 : (t108 == 0) = true := beq_iff_eq.mpr c20
        have c20b1 : (t108 != 0) = false := bne_eq_false_iff_eq.mpr c20
        clear c20
        by_cases c21 : t110 = 0
        · rw [if_pos c21] at H
          have c21b0 : (t110 == 0) = true := beq_iff_eq.mpr c21
          have c21b1 : (t110 != 0) = false := bne_eq_false_iff_eq.mpr c21
          clear c21
          by_cases c22 : t112 = 100
          · rw [if_pos c22] at H
            have c22b0 : (t112 == 100) = true := beq_iff_eq.mpr c22
            have c22b1 : (t112 != 100) = false := bne_eq_false_iff_eq.mpr c22
            clear c22
            by_cases c23 : t114 = 0
            · rw [if_pos c23] at H
              have c23b0 : (t114 == 0) = true := beq_iff_eq.mpr c23
              have c23b1 : (t114 != 0) = false := bne_eq_false_iff_eq.mpr c23
              clear c23
              by_cases c24 : t116 = 100
              · rw [if_pos c24] at H
                have c24b0 : (t116 == 100) = true := beq_iff_eq.mpr c24
                have c24b1 : (t116 != 100) = false := bne_eq_false_iff_eq.mpr c24
                clear c24
                by_cases c25 : t118 = 0
                · rw [if_pos c25] at H
                  have c25b0 : (t118 == 0) = true := beq_iff_eq.mpr c25
                  have c25b1 : (t118 != 0) = false := bne_eq_false_iff_eq.mpr c25
                  clear c25
                  by_cases c26 : t120 = 1
                  · rw [if_pos c26] at H
                    have c26b0 : (t120 == 1) = true := beq_iff_eq.mpr c26
                    have c26b1 : (t120 != 1) = false := bne_eq_false_iff_eq.mpr c26
                    clear c26
                    by_cases c27 : t122 = 1
                    · rw [if_pos c27] at H
                      have c27b0 : (t122 == 1) = true := beq_iff_eq.mpr c27
                      have c27b1 : (t122 != 1) = false := bne_eq_false_iff_eq.mpr c27
                      clear c27
                      by_cases c28 : t124 = 0
                      · rw [if_pos c28] at H
                        have c28b0 : (t124 == 0) = true := beq_iff_eq.mpr c28
                        have c28b1 : (t124 != 0) = false := bne_eq_false_iff_eq.mpr c28
                        clear c28
                        have H' := Aside0.mk H
                        clear H
                        go_wp2
                        go_meet
                        case rel => exact ⟨_, ((t126 != 100)), (by first | rfl | (simp; done) | (simp [*]; done)), H', ⟨by first | omega | exact Nat.le_refl _⟩, ⟨by repeat (first | (with_reducible first | exact HB.out | apply below_alloc | apply pw_below_drewN | apply below_drew1) | exact HB.out)⟩⟩
                      · rw [if_neg c28] at H
                        have c28b0 : (t124 == 0) = false := beq_eq_false_iff_ne.mpr c28
                        have c28b1 : (t124 != 0) = true := bne_iff_ne.mpr c28
                        have H' := Aside0.mk H
                        clear H
                        go_wp2
                        go_meet
                        case rel => exact ⟨_, (true), (by first | rfl | (simp; done) | (simp [*]; done)), H', ⟨by first | omega | exact Nat.le_refl _⟩, ⟨by repeat (first | (with_reducible first | exact HB.out | apply below_alloc | apply pw_below_drewN | apply below_drew1) | exact HB.out)⟩⟩
                    · rw [if_neg c27] at H
                      have c27b0 : (t122 == 1) = false := beq_eq_false_iff_ne.mpr c27
                      have c27b1 : (t122 != 1) = true := bne_iff_ne.mpr c27
                      have H' := Aside0.mk H
                      clear H
                      go_wp2
                      go_meet
                      case rel => exact ⟨_, (true), (by first | rfl | (simp; done) | (simp [*]; done)), H', ⟨by first | omega | exact Nat.le_refl _⟩, ⟨by repeat (first | (with_reducible first | exact HB.out | apply below_alloc | apply pw_below_drewN | apply below_drew1) | exact HB.out)⟩⟩
                  · rw [if_neg c26] at H
                    have c26b0 : (t120 == 1) = false := beq_eq_false_iff_ne.mpr c26
                    have c26b1 : (t120 != 1) = true := bne_iff_ne.mpr c26
                    have H' := Aside0.mk H
                    clear H
                    go_wp2
                    go_meet
                    case rel => exact ⟨_, (true), (by first | rfl | (simp; done) | (simp [*]; done)), H', ⟨by first | omega | exact Nat.le_refl _⟩, ⟨by repeat (first | (with_reducible first | exact HB.out | apply below_alloc | apply pw_below_drewN | apply below_drew1) | exact HB.out)⟩⟩
                · rw [if_neg c25] at H
                  have c25b0 : (t118 == 0) = false := beq_eq_false_iff_ne.mpr c25
                  have c25b1 : (t118 != 0) = true := bne_iff_ne.mpr c25
                  have H' := Aside0.mk H
                  clear H
                  go_wp2
                  go_meet
                  case rel => exact ⟨_, (true), (by first | rfl | (simp; done) | (simp [*]; done)), H', ⟨by first | omega | exact Nat.le_refl _⟩, ⟨by repeat (first | (with_reducible first | exact HB.out | apply below_alloc | apply pw_below_drewN | apply below_drew1) | exact HB.out)⟩⟩
              · rw [if_neg c24] at H
                have c24b0 : (t116 == 100) = false := beq_eq_false_iff_ne.mpr c24
                have c24b1 : (t116 != 100) = true := bne_iff_ne.mpr c24
                have H' := Aside0.mk H
                clear H
                go_wp2
                go_meet
                case rel => exact ⟨_, (true), (by first | rfl | (simp; done) | (simp [*]; done)), H', ⟨by first | omega | exact Nat.le_refl _⟩, ⟨by repeat (first | (with_reducible first | exact HB.out | apply below_alloc | apply pw_below_drewN | apply below_drew1) | exact HB.out)⟩⟩
            · rw [if_neg c23] at H
              have c23b0 : (t114 == 0) = false := beq_eq_false_iff_ne.mpr c23
              have c23b1 : (t114 != 0) = true := bne_iff_ne.mpr c23
              have H' := Aside0.mk H
              clear H
              go_wp2
              go_meet
              case rel => exact ⟨_, (true), (by first | rfl | (simp; done) | (simp [*]; done)), H', ⟨by first | omega | exact Nat.le_refl _⟩, ⟨by repeat (first | (with_reducible first | exact HB.out | apply below_alloc | apply pw_below_drewN | apply below_drew1) | exact HB.out)⟩⟩
          · rw [if_neg c22] at H
            have c22b0 : (t112 == 100) = false := beq_eq_false_iff_ne.mpr c22
            have c22b1 : (t112 != 100) = true := bne_iff_ne.mpr c22
            have H' := Aside0.mk H
            clear H
            go_wp2
            go_meet
            case rel => exact ⟨_, (true), (by first | rfl | (simp; done) | (simp [*]; done)), H', ⟨by first | omega | exact Nat.le_refl _⟩, ⟨by repeat (first | (with_reducible first | exact HB.out | apply below_alloc | apply pw_below_drewN | apply below_drew1) | exact HB.out)⟩⟩
        · rw [if_neg c21] at H
          have c21b0 : (t110 == 0) = false := beq_eq_false_iff_ne.mpr c21
          have c21b1 : (t110 != 0) = true := bne_iff_ne.mpr c21
          have H' := Aside0.mk H
          clear H
          go_wp2
          go_meet
          case rel => exact ⟨_, (true), (by first | rfl | (simp; done) | (simp [*]; done)), H', ⟨by first | omega | exact Nat.le_refl _⟩, ⟨by repeat (first | (with_reducible first | exact HB.out | apply below_alloc | apply pw_below_drewN | apply below_drew1) | exact HB.out)⟩⟩
      · rw [if_neg c20] at H
        have c20b0 : (t108 == 0) = false := beq_eq_false_iff_ne.mpr c20
        have c20b1 : (t108 != 0) = true := bne_iff_ne.mpr c20
        have H' := Aside0.mk H
        clear H
        go_wp2
        go_meet
        case rel => exact ⟨_, (true), (by first | rfl | (simp; done) | (simp [*]; done)), H', ⟨by first | omega | exact Nat.le_refl _⟩, ⟨by repeat (first | (with_reducible first | exact HB.out | apply below_alloc | apply pw_below_drewN | apply below_drew1) | exact HB.out)⟩⟩
    · rw [if_neg c19] at H
      have c19b0 : (t106 == 0) = false := beq_eq_false_iff_ne.mpr c19
      have c19b1 : (t106 != 0) = true := bne_iff_ne.mpr c19
      (first | rw [c19b0] | (simp only [i64_w, i32_w]; rw [c19b0]) | skip)
      have H' := Aside0.mk H
      clear H
      go_wp2
      go_meet
      case rel => exact ⟨_, (true), (by first | rfl | (simp; done) | (simp [*]; done)), H', ⟨by first | omega | exact Nat.le_refl _⟩, ⟨by repeat (first | (with_reducible first | exact HB.out | apply below_alloc | apply pw_below_drewN | apply below_drew1) | exact HB.out)⟩⟩
  case rest =>
    clear HC12
    try clear c1
    try clear c2
    try clear p2
    try clear c3
    try clear c15
    try clear c16
    try clear c18
    try clear c19
    try clear c19b0
    try clear c19b1
    try clear c20
    try clear c20b0
    try clear c20b1
    try clear c21
    try clear c21b0
    try clear c21b1
    try clear c22
    try clear c22b0
    try clear c22b1
    try clear c23
    try clear c23b0
    try clear c23b1
    try clear c24
    try clear c24b0
    try clear c24b1
    try clear c25
    try clear c25b0
    try clear c25b1
    try clear c26
    try clear c26b0
    try clear c26b1
    try clear c27
    try clear c27b0
    try clear c27b1
    try clear c28
    try clear c28b0
    try clear c28b1
    obtain ⟨kq, x108_11, rfl, HA, HJ11, HB⟩ := hcut
    cases kq with
    | zero => exact absurd HA.out (by simp [signatorylaw10_sane.j0])
    | succ kj11 =>
      have H := HA.out
      clear HA
      simp only [signatorylaw10_sane.j0] at H
      by_cases c29 : x108_11 = true
      · subst c29
        have H1 : (some false) = some r := by rw [if_pos rfl] at H; exact H
        clear H
        have H := H1
        clear H1
        obtain rfl := Option.some.inj H
        go_wp2
        go_ret
        exact ⟨by first | rfl | (simp [errW_none, errW_some] <;> rfl) | (simp [*, errW_none, errW_some] <;> rfl), by repeat (first | (with_reducible first | exact HB.out | apply below_alloc | apply pw_below_drewN | apply below_drew1) | exact HB.out)⟩
      · replace c29 := Bool.eq_false_iff.mpr c29
        subst c29
        have H1 : ((group_Valid.f 0).bind fun t127 => (if t127 = true then (some false) else ((group_Valid.f 2147483579).bind fun t128 => (if t128 = true then (some false) else ((group_Valid.f 2).bind fun t129 => (if t129 = true then (some false) else ((group_Valid.f 1).bind fun t130 => (if t130 = true then ((group_Valid.f 4).bind fun t131 => (if t131 = true then ((group_Valid.f 2147483578).bind fun t132 => (if t132 = true then (some false) else (if t105 = 16 then (if t107 = 1 then (if t109 = 536870895 then (if t113 = 16 then (if t117 = 2147483577 then (some (t123 == 2)) else (some false)) else (some false)) else (some false)) else (some false)) else (some false)))) else (some false))) else (some false))))))))) = some r := by rw [if_neg (show ¬ (false = true) by decide)] at H; exact H
        clear H
        have H := H1
        clear H1
        replace H := Option.bind_eq_some_iff.mp H
        obtain ⟨t127, A300, H⟩ := H
        replace H : (if t127 = true then (some false) else ((group_Valid.f 2147483579).bind fun t128 => (if t128 = true then (some false) else ((group_Valid.f 2).bind fun t129 => (if t129 = true then (some false) else ((group_Valid.f 1).bind fun t130 => (if t130 = true then ((group_Valid.f 4).bind fun t131 => (if t131 = true then ((group_Valid.f 2147483578).bind fun t132 => (if t132 = true then (some false) else (if t105 = 16 then (if t107 = 1 then (if t109 = 536870895 then (if t113 = 16 then (if t117 = 2147483577 then (some (t123 == 2)) else (some false)) else (some false)) else (some false)) else (some false)) else (some false)))) else (some false))) else (some false)))))))) = some r := H
        have A30 := Aside0.mk A300
        clear A300
        by_cases c31 : t127 = true
        · subst c31
          have H1 : (some false) = some r := by rw [if_pos rfl] at H; exact H
          clear H
          have H := H1
          clear H1
          obtain rfl := Option.some.inj H
          go_wp2_with (first | ((with_reducible refine gate_callee (f := 38) rfl ?_); refine goesL_ (some 109) rfl rfl Tryd.func38 (by kernel_rfl) rfl #[.int .i64 0] rfl (by (try simp only [List.map_toArray, List.map_cons, List.map_nil]); first | done | rfl | (simp only [List.length_drop, List.length_take]; rfl)) ?_; (with_reducible refine (group_Valid.calls 0 true _ A30.out).mono ?_); rintro e w' ⟨rfl, ⟨nd, rfl⟩⟩; refine ⟨_, rfl, ?_⟩))
          go_ret
          exact ⟨by first | rfl | (simp [errW_none, errW_some] <;> rfl) | (simp [*, errW_none, errW_some] <;> rfl), by repeat (first | (with_reducible first | exact HB.out | apply below_alloc | apply pw_below_drewN | apply below_drew1) | exact HB.out)⟩
        · replace c31 := Bool.eq_false_iff.mpr c31
          subst c31
          have H1 : ((group_Valid.f 2147483579).bind fun t128 => (if t128 = true then (some false) else ((group_Valid.f 2).bind fun t129 => (if t129 = true then (some false) else ((group_Valid.f 1).bind fun t130 => (if t130 = true then ((group_Valid.f 4).bind fun t131 => (if t131 = true then ((group_Valid.f 2147483578).bind fun t132 => (if t132 = true then (some false) else (if t105 = 16 then (if t107 = 1 then (if t109 = 536870895 then (if t113 = 16 then (if t117 = 2147483577 then (some (t123 == 2)) else (some false)) else (some false)) else (some false)) else (some false)) else (some false)))) else (some false))) else (some false))))))) = some r := by rw [if_neg (show ¬ (false = true) by decide)] at H; exact H
          clear H
          have H := H1
          clear H1
          replace H := Option.bind_eq_some_iff.mp H
          obtain ⟨t128, A320, H⟩ := H
          replace H : (if t128 = true then (some false) else ((group_Valid.f 2).bind fun t129 => (if t129 = true then (some false) else ((group_Valid.f 1).bind fun t130 => (if t130 = true then ((group_Valid.f 4).bind fun t131 => (if t131 = true then ((group_Valid.f 2147483578).bind fun t132 => (if t132 = true then (some false) else (if t105 = 16 then (if t107 = 1 then (if t109 = 536870895 then (if t113 = 16 then (if t117 = 2147483577 then (some (t123 == 2)) else (some false)) else (some false)) else (some false)) else (some false)) else (some false)))) else (some false))) else (some false)))))) = some r := H
          have A32 := Aside0.mk A320
          clear A320
          by_cases c33 : t128 = true
          · subst c33
            have H1 : (some false) = some r := by rw [if_pos rfl] at H; exact H
            clear H
            have H := H1
            clear H1
            obtain rfl := Option.some.inj H
            go_wp2_with (first | ((with_reducible refine gate_callee (f := 38) rfl ?_); refine goesL_ (some 109) rfl rfl Tryd.func38 (by kernel_rfl) rfl #[.int .i64 0] rfl (by (try simp only [List.map_toArray, List.map_cons, List.map_nil]); first | done | rfl | (simp only [List.length_drop, List.length_take]; rfl)) ?_; (with_reducible refine (group_Valid.calls 0 false _ A30.out).mono ?_); rintro e w' ⟨rfl, ⟨nd, rfl⟩⟩; refine ⟨_, rfl, ?_⟩) | (go_at_call 38; (with_reducible refine (group_Valid.calls 2147483579 true _ A32.out).mono ?_); rintro e w' ⟨rfl, ⟨nd, rfl⟩⟩))
            go_ret
            exact ⟨by first | rfl | (simp [errW_none, errW_some] <;> rfl) | (simp [*, errW_none, errW_some] <;> rfl), by repeat (first | (with_reducible first | exact HB.out | apply below_alloc | apply pw_below_drewN | apply below_drew1) | exact HB.out)⟩
          · replace c33 := Bool.eq_false_iff.mpr c33
            subst c33
            have H1 : ((group_Valid.f 2).bind fun t129 => (if t129 = true then (some false) else ((group_Valid.f 1).bind fun t130 => (if t130 = true then ((group_Valid.f 4).bind fun t131 => (if t131 = true then ((group_Valid.f 2147483578).bind fun t132 => (if t132 = true then (some false) else (if t105 = 16 then (if t107 = 1 then (if t109 = 536870895 then (if t113 = 16 then (if t117 = 2147483577 then (some (t123 == 2)) else (some false)) else (some false)) else (some false)) else (some false)) else (some false)))) else (some false))) else (some false))))) = some r := by rw [if_neg (show ¬ (false = true) by decide)] at H; exact H
            clear H
            have H := H1
            clear H1
            replace H := Option.bind_eq_some_iff.mp H
            obtain ⟨t129, A340, H⟩ := H
            replace H : (if t129 = true then (some false) else ((group_Valid.f 1).bind fun t130 => (if t130 = true then ((group_Valid.f 4).bind fun t131 => (if t131 = true then ((group_Valid.f 2147483578).bind fun t132 => (if t132 = true then (some false) else (if t105 = 16 then (if t107 = 1 then (if t109 = 536870895 then (if t113 = 16 then (if t117 = 2147483577 then (some (t123 == 2)) else (some false)) else (some false)) else (some false)) else (some false)) else (some false)))) else (some false))) else (some false)))) = some r := H
            have A34 := Aside0.mk A340
            clear A340
            by_cases c35 : t129 = true
            · subst c35
              have H1 : (some false) = some r := by rw [if_pos rfl] at H; exact H
              clear H
              have H := H1
              clear H1
              obtain rfl := Option.some.inj H
              go_wp2_with (first | ((with_reducible refine gate_callee (f := 38) rfl ?_); refine goesL_ (some 109) rfl rfl Tryd.func38 (by kernel_rfl) rfl #[.int .i64 0] rfl (by (try simp only [List.map_toArray, List.map_cons, List.map_nil]); first | done | rfl | (simp only [List.length_drop, List.length_take]; rfl)) ?_; (with_reducible refine (group_Valid.calls 0 false _ A30.out).mono ?_); rintro e w' ⟨rfl, ⟨nd, rfl⟩⟩; refine ⟨_, rfl, ?_⟩) | (go_at_call 38; (with_reducible refine (group_Valid.calls 2147483579 false _ A32.out).mono ?_); rintro e w' ⟨rfl, ⟨nd, rfl⟩⟩) | (go_at_call 38; (with_reducible refine (group_Valid.calls 2 true _ A34.out).mono ?_); rintro e w' ⟨rfl, ⟨nd, rfl⟩⟩))
              go_ret
              exact ⟨by first | rfl | (simp [errW_none, errW_some] <;> rfl) | (simp [*, errW_none, errW_some] <;> rfl), by repeat (first | (with_reducible first | exact HB.out | apply below_alloc | apply pw_below_drewN | apply below_drew1) | exact HB.out)⟩
            · replace c35 := Bool.eq_false_iff.mpr c35
              subst c35
              have H1 : ((group_Valid.f 1).bind fun t130 => (if t130 = true then ((group_Valid.f 4).bind fun t131 => (if t131 = true then ((group_Valid.f 2147483578).bind fun t132 => (if t132 = true then (some false) else (if t105 = 16 then (if t107 = 1 then (if t109 = 536870895 then (if t113 = 16 then (if t117 = 2147483577 then (some (t123 == 2)) else (some false)) else (some false)) else (some false)) else (some false)) else (some false)))) else (some false))) else (some false))) = some r := by rw [if_neg (show ¬ (false = true) by decide)] at H; exact H
              clear H
              have H := H1
              clear H1
              replace H := Option.bind_eq_some_iff.mp H
              obtain ⟨t130, A360, H⟩ := H
              replace H : (if t130 = true then ((group_Valid.f 4).bind fun t131 => (if t131 = true then ((group_Valid.f 2147483578).bind fun t132 => (if t132 = true then (some false) else (if t105 = 16 then (if t107 = 1 then (if t109 = 536870895 then (if t113 = 16 then (if t117 = 2147483577 then (some (t123 == 2)) else (some false)) else (some false)) else (some false)) else (some false)) else (some false)))) else (some false))) else (some false)) = some r := H
              have A36 := Aside0.mk A360
              clear A360
              by_cases c37 : t130 = true
              · subst c37
                have H1 : ((group_Valid.f 4).bind fun t131 => (if t131 = true then ((group_Valid.f 2147483578).bind fun t132 => (if t132 = true then (some false) else (if t105 = 16 then (if t107 = 1 then (if t109 = 536870895 then (if t113 = 16 then (if t117 = 2147483577 then (some (t123 == 2)) else (some false)) else (some false)) else (some false)) else (some false)) else (some false)))) else (some false))) = some r := by rw [if_pos rfl] at H; exact H
                clear H
                have H := H1
                clear H1
                replace H := Option.bind_eq_some_iff.mp H
                obtain ⟨t131, A380, H⟩ := H
                replace H : (if t131 = true then ((group_Valid.f 2147483578).bind fun t132 => (if t132 = true then (some false) else (if t105 = 16 then (if t107 = 1 then (if t109 = 536870895 then (if t113 = 16 then (if t117 = 2147483577 then (some (t123 == 2)) else (some false)) else (some false)) else (some false)) else (some false)) else (some false)))) else (some false)) = some r := H
                have A38 := Aside0.mk A380
                clear A380
                by_cases c39 : t131 = true
                · subst c39
                  have H1 : ((group_Valid.f 2147483578).bind fun t132 => (if t132 = true then (some false) else (if t105 = 16 then (if t107 = 1 then (if t109 = 536870895 then (if t113 = 16 then (if t117 = 2147483577 then (some (t123 == 2)) else (some false)) else (some false)) else (some false)) else (some false)) else (some false)))) = some r := by rw [if_pos rfl] at H; exact H
                  clear H
                  have H := H1
                  clear H1
                  replace H := Option.bind_eq_some_iff.mp H
                  obtain ⟨t132, A400, H⟩ := H
                  replace H : (if t132 = true then (some false) else (if t105 = 16 then (if t107 = 1 then (if t109 = 536870895 then (if t113 = 16 then (if t117 = 2147483577 then (some (t123 == 2)) else (some false)) else (some false)) else (some false)) else (some false)) else (some false))) = some r := H
                  have A40 := Aside0.mk A400
                  clear A400
                  by_cases c41 : t132 = true
                  · subst c41
                    have H1 : (some false) = some r := by rw [if_pos rfl] at H; exact H
                    clear H
                    have H := H1
                    clear H1
                    obtain rfl := Option.some.inj H
                    go_wp2_with (first | ((with_reducible refine gate_callee (f := 38) rfl ?_); refine goesL_ (some 109) rfl rfl Tryd.func38 (by kernel_rfl) rfl #[.int .i64 0] rfl (by (try simp only [List.map_toArray, List.map_cons, List.map_nil]); first | done | rfl | (simp only [List.length_drop, List.length_take]; rfl)) ?_; (with_reducible refine (group_Valid.calls 0 false _ A30.out).mono ?_); rintro e w' ⟨rfl, ⟨nd, rfl⟩⟩; refine ⟨_, rfl, ?_⟩) | (go_at_call 38; (with_reducible refine (group_Valid.calls 2147483579 false _ A32.out).mono ?_); rintro e w' ⟨rfl, ⟨nd, rfl⟩⟩) | (go_at_call 38; (with_reducible refine (group_Valid.calls 2 false _ A34.out).mono ?_); rintro e w' ⟨rfl, ⟨nd, rfl⟩⟩) | (go_at_call 38; (with_reducible refine (group_Valid.calls 1 true _ A36.out).mono ?_); rintro e w' ⟨rfl, ⟨nd, rfl⟩⟩) | (go_at_call 38; (with_reducible refine (group_Valid.calls 4 true _ A38.out).mono ?_); rintro e w' ⟨rfl, ⟨nd, rfl⟩⟩) | (go_at_call 38; (with_reducible refine (group_Valid.calls 2147483578 true _ A40.out).mono ?_); rintro e w' ⟨rfl, ⟨nd, rfl⟩⟩))
                    go_ret
                    exact ⟨by first | rfl | (simp [errW_none, errW_some] <;> rfl) | (simp [*, errW_none, errW_some] <;> rfl), by repeat (first | (with_reducible first | exact HB.out | apply below_alloc | apply pw_below_drewN | apply below_drew1) | exact HB.out)⟩
                  · replace c41 := Bool.eq_false_iff.mpr c41
                    subst c41
                    have H1 : (if t105 = 16 then (if t107 = 1 then (if t109 = 536870895 then (if t113 = 16 then (if t117 = 2147483577 then (some (t123 == 2)) else (some false)) else (some false)) else (some false)) else (some false)) else (some false)) = some r := by rw [if_neg (show ¬ (false = true) by decide)] at H; exact H
                    clear H
                    have H := H1
                    clear H1
                    by_cases c42 : t105 = 16
                    · rw [if_pos c42] at H
                      have c42b0 : (t105 == 16) = true := beq_iff_eq.mpr c42
                      have c42b1 : (t105 != 16) = false := bne_eq_false_iff_eq.mpr c42
                      clear c42
                      by_cases c43 : t107 = 1
                      · rw [if_pos c43] at H
                        have c43b0 : (t107 == 1) = true := beq_iff_eq.mpr c43
                        have c43b1 : (t107 != 1) = false := bne_eq_false_iff_eq.mpr c43
                        clear c43
                        by_cases c44 : t109 = 536870895
                        · rw [if_pos c44] at H
                          have c44b0 : (t109 == 536870895) = true := beq_iff_eq.mpr c44
                          have c44b1 : (t109 != 536870895) = false := bne_eq_false_iff_eq.mpr c44
                          clear c44
                          by_cases c45 : t113 = 16
                          · rw [if_pos c45] at H
                            have c45b0 : (t113 == 16) = true := beq_iff_eq.mpr c45
                            have c45b1 : (t113 != 16) = false := bne_eq_false_iff_eq.mpr c45
                            clear c45
                            by_cases c46 : t117 = 2147483577
                            · rw [if_pos c46] at H
                              have c46b0 : (t117 == 2147483577) = true := beq_iff_eq.mpr c46
                              have c46b1 : (t117 != 2147483577) = false := bne_eq_false_iff_eq.mpr c46
                              clear c46
                              obtain rfl := Option.some.inj H
                              go_wp2_with (first | ((with_reducible refine gate_callee (f := 38) rfl ?_); refine goesL_ (some 109) rfl rfl Tryd.func38 (by kernel_rfl) rfl #[.int .i64 0] rfl (by (try simp only [List.map_toArray, List.map_cons, List.map_nil]); first | done | rfl | (simp only [List.length_drop, List.length_take]; rfl)) ?_; (with_reducible refine (group_Valid.calls 0 false _ A30.out).mono ?_); rintro e w' ⟨rfl, ⟨nd, rfl⟩⟩; refine ⟨_, rfl, ?_⟩) | (go_at_call 38; (with_reducible refine (group_Valid.calls 2147483579 false _ A32.out).mono ?_); rintro e w' ⟨rfl, ⟨nd, rfl⟩⟩) | (go_at_call 38; (with_reducible refine (group_Valid.calls 2 false _ A34.out).mono ?_); rintro e w' ⟨rfl, ⟨nd, rfl⟩⟩) | (go_at_call 38; (with_reducible refine (group_Valid.calls 1 true _ A36.out).mono ?_); rintro e w' ⟨rfl, ⟨nd, rfl⟩⟩) | (go_at_call 38; (with_reducible refine (group_Valid.calls 4 true _ A38.out).mono ?_); rintro e w' ⟨rfl, ⟨nd, rfl⟩⟩) | (go_at_call 38; (with_reducible refine (group_Valid.calls 2147483578 false _ A40.out).mono ?_); rintro e w' ⟨rfl, ⟨nd, rfl⟩⟩))
                              go_ret
                              exact ⟨by first | rfl | (simp [errW_none, errW_some] <;> rfl) | (simp [*, errW_none, errW_some] <;> rfl), by repeat (first | (with_reducible first | exact HB.out | apply below_alloc | apply pw_below_drewN | apply below_drew1) | exact HB.out)⟩
                            · rw [if_neg c46] at H
                              have c46b0 : (t117 == 2147483577) = false := beq_eq_false_iff_ne.mpr c46
                              have c46b1 : (t117 != 2147483577) = true := bne_iff_ne.mpr c46
                              obtain rfl := Option.some.inj H
                              go_wp2_with (first | ((with_reducible refine gate_callee (f := 38) rfl ?_); refine goesL_ (some 109) rfl rfl Tryd.func38 (by kernel_rfl) rfl #[.int .i64 0] rfl (by (try simp only [List.map_toArray, List.map_cons, List.map_nil]); first | done | rfl | (simp only [List.length_drop, List.length_take]; rfl)) ?_; (with_reducible refine (group_Valid.calls 0 false _ A30.out).mono ?_); rintro e w' ⟨rfl, ⟨nd, rfl⟩⟩; refine ⟨_, rfl, ?_⟩) | (go_at_call 38; (with_reducible refine (group_Valid.calls 2147483579 false _ A32.out).mono ?_); rintro e w' ⟨rfl, ⟨nd, rfl⟩⟩) | (go_at_call 38; (with_reducible refine (group_Valid.calls 2 false _ A34.out).mono ?_); rintro e w' ⟨rfl, ⟨nd, rfl⟩⟩) | (go_at_call 38; (with_reducible refine (group_Valid.calls 1 true _ A36.out).mono ?_); rintro e w' ⟨rfl, ⟨nd, rfl⟩⟩) | (go_at_call 38; (with_reducible refine (group_Valid.calls 4 true _ A38.out).mono ?_); rintro e w' ⟨rfl, ⟨nd, rfl⟩⟩) | (go_at_call 38; (with_reducible refine (group_Valid.calls 2147483578 false _ A40.out).mono ?_); rintro e w' ⟨rfl, ⟨nd, rfl⟩⟩))
                              go_ret
                              exact ⟨by first | rfl | (simp [errW_none, errW_some] <;> rfl) | (simp [*, errW_none, errW_some] <;> rfl), by repeat (first | (with_reducible first | exact HB.out | apply below_alloc | apply pw_below_drewN | apply below_drew1) | exact HB.out)⟩
                          · rw [if_neg c45] at H
                            have c45b0 : (t113 == 16) = false := beq_eq_false_iff_ne.mpr c45
                            have c45b1 : (t113 != 16) = true := bne_iff_ne.mpr c45
                            obtain rfl := Option.some.inj H
                            go_wp2_with (first | ((with_reducible refine gate_callee (f := 38) rfl ?_); refine goesL_ (some 109) rfl rfl Tryd.func38 (by kernel_rfl) rfl #[.int .i64 0] rfl (by (try simp only [List.map_toArray, List.map_cons, List.map_nil]); first | done | rfl | (simp only [List.length_drop, List.length_take]; rfl)) ?_; (with_reducible refine (group_Valid.calls 0 false _ A30.out).mono ?_); rintro e w' ⟨rfl, ⟨nd, rfl⟩⟩; refine ⟨_, rfl, ?_⟩) | (go_at_call 38; (with_reducible refine (group_Valid.calls 2147483579 false _ A32.out).mono ?_); rintro e w' ⟨rfl, ⟨nd, rfl⟩⟩) | (go_at_call 38; (with_reducible refine (group_Valid.calls 2 false _ A34.out).mono ?_); rintro e w' ⟨rfl, ⟨nd, rfl⟩⟩) | (go_at_call 38; (with_reducible refine (group_Valid.calls 1 true _ A36.out).mono ?_); rintro e w' ⟨rfl, ⟨nd, rfl⟩⟩) | (go_at_call 38; (with_reducible refine (group_Valid.calls 4 true _ A38.out).mono ?_); rintro e w' ⟨rfl, ⟨nd, rfl⟩⟩) | (go_at_call 38; (with_reducible refine (group_Valid.calls 2147483578 false _ A40.out).mono ?_); rintro e w' ⟨rfl, ⟨nd, rfl⟩⟩))
                            go_ret
                            exact ⟨by first | rfl | (simp [errW_none, errW_some] <;> rfl) | (simp [*, errW_none, errW_some] <;> rfl), by repeat (first | (with_reducible first | exact HB.out | apply below_alloc | apply pw_below_drewN | apply below_drew1) | exact HB.out)⟩
                        · rw [if_neg c44] at H
                          have c44b0 : (t109 == 536870895) = false := beq_eq_false_iff_ne.mpr c44
                          have c44b1 : (t109 != 536870895) = true := bne_iff_ne.mpr c44
                          obtain rfl := Option.some.inj H
                          go_wp2_with (first | ((with_reducible refine gate_callee (f := 38) rfl ?_); refine goesL_ (some 109) rfl rfl Tryd.func38 (by kernel_rfl) rfl #[.int .i64 0] rfl (by (try simp only [List.map_toArray, List.map_cons, List.map_nil]); first | done | rfl | (simp only [List.length_drop, List.length_take]; rfl)) ?_; (with_reducible refine (group_Valid.calls 0 false _ A30.out).mono ?_); rintro e w' ⟨rfl, ⟨nd, rfl⟩⟩; refine ⟨_, rfl, ?_⟩) | (go_at_call 38; (with_reducible refine (group_Valid.calls 2147483579 false _ A32.out).mono ?_); rintro e w' ⟨rfl, ⟨nd, rfl⟩⟩) | (go_at_call 38; (with_reducible refine (group_Valid.calls 2 false _ A34.out).mono ?_); rintro e w' ⟨rfl, ⟨nd, rfl⟩⟩) | (go_at_call 38; (with_reducible refine (group_Valid.calls 1 true _ A36.out).mono ?_); rintro e w' ⟨rfl, ⟨nd, rfl⟩⟩) | (go_at_call 38; (with_reducible refine (group_Valid.calls 4 true _ A38.out).mono ?_); rintro e w' ⟨rfl, ⟨nd, rfl⟩⟩) | (go_at_call 38; (with_reducible refine (group_Valid.calls 2147483578 false _ A40.out).mono ?_); rintro e w' ⟨rfl, ⟨nd, rfl⟩⟩))
                          go_ret
                          exact ⟨by first | rfl | (simp [errW_none, errW_some] <;> rfl) | (simp [*, errW_none, errW_some] <;> rfl), by repeat (first | (with_reducible first | exact HB.out | apply below_alloc | apply pw_below_drewN | apply below_drew1) | exact HB.out)⟩
                      · rw [if_neg c43] at H
                        have c43b0 : (t107 == 1) = false := beq_eq_false_iff_ne.mpr c43
                        have c43b1 : (t107 != 1) = true := bne_iff_ne.mpr c43
                        obtain rfl := Option.some.inj H
                        go_wp2_with (first | ((with_reducible refine gate_callee (f := 38) rfl ?_); refine goesL_ (some 109) rfl rfl Tryd.func38 (by kernel_rfl) rfl #[.int .i64 0] rfl (by (try simp only [List.map_toArray, List.map_cons, List.map_nil]); first | done | rfl | (simp only [List.length_drop, List.length_take]; rfl)) ?_; (with_reducible refine (group_Valid.calls 0 false _ A30.out).mono ?_); rintro e w' ⟨rfl, ⟨nd, rfl⟩⟩; refine ⟨_, rfl, ?_⟩) | (go_at_call 38; (with_reducible refine (group_Valid.calls 2147483579 false _ A32.out).mono ?_); rintro e w' ⟨rfl, ⟨nd, rfl⟩⟩) | (go_at_call 38; (with_reducible refine (group_Valid.calls 2 false _ A34.out).mono ?_); rintro e w' ⟨rfl, ⟨nd, rfl⟩⟩) | (go_at_call 38; (with_reducible refine (group_Valid.calls 1 true _ A36.out).mono ?_); rintro e w' ⟨rfl, ⟨nd, rfl⟩⟩) | (go_at_call 38; (with_reducible refine (group_Valid.calls 4 true _ A38.out).mono ?_); rintro e w' ⟨rfl, ⟨nd, rfl⟩⟩) | (go_at_call 38; (with_reducible refine (group_Valid.calls 2147483578 false _ A40.out).mono ?_); rintro e w' ⟨rfl, ⟨nd, rfl⟩⟩))
                        go_ret
                        exact ⟨by first | rfl | (simp [errW_none, errW_some] <;> rfl) | (simp [*, errW_none, errW_some] <;> rfl), by repeat (first | (with_reducible first | exact HB.out | apply below_alloc | apply pw_below_drewN | apply below_drew1) | exact HB.out)⟩
                    · rw [if_neg c42] at H
                      have c42b0 : (t105 == 16) = false := beq_eq_false_iff_ne.mpr c42
                      have c42b1 : (t105 != 16) = true := bne_iff_ne.mpr c42
                      obtain rfl := Option.some.inj H
                      go_wp2_with (first | ((with_reducible refine gate_callee (f := 38) rfl ?_); refine goesL_ (some 109) rfl rfl Tryd.func38 (by kernel_rfl) rfl #[.int .i64 0] rfl (by (try simp only [List.map_toArray, List.map_cons, List.map_nil]); first | done | rfl | (simp only [List.length_drop, List.length_take]; rfl)) ?_; (with_reducible refine (group_Valid.calls 0 false _ A30.out).mono ?_); rintro e w' ⟨rfl, ⟨nd, rfl⟩⟩; refine ⟨_, rfl, ?_⟩) | (go_at_call 38; (with_reducible refine (group_Valid.calls 2147483579 false _ A32.out).mono ?_); rintro e w' ⟨rfl, ⟨nd, rfl⟩⟩) | (go_at_call 38; (with_reducible refine (group_Valid.calls 2 false _ A34.out).mono ?_); rintro e w' ⟨rfl, ⟨nd, rfl⟩⟩) | (go_at_call 38; (with_reducible refine (group_Valid.calls 1 true _ A36.out).mono ?_); rintro e w' ⟨rfl, ⟨nd, rfl⟩⟩) | (go_at_call 38; (with_reducible refine (group_Valid.calls 4 true _ A38.out).mono ?_); rintro e w' ⟨rfl, ⟨nd, rfl⟩⟩) | (go_at_call 38; (with_reducible refine (group_Valid.calls 2147483578 false _ A40.out).mono ?_); rintro e w' ⟨rfl, ⟨nd, rfl⟩⟩))
                      go_ret
                      exact ⟨by first | rfl | (simp [errW_none, errW_some] <;> rfl) | (simp [*, errW_none, errW_some] <;> rfl), by repeat (first | (with_reducible first | exact HB.out | apply below_alloc | apply pw_below_drewN | apply below_drew1) | exact HB.out)⟩
                · replace c39 := Bool.eq_false_iff.mpr c39
                  subst c39
                  have H1 : (some false) = some r := by rw [if_neg (show ¬ (false = true) by decide)] at H; exact H
                  clear H
                  have H := H1
                  clear H1
                  obtain rfl := Option.some.inj H
                  go_wp2_with (first | ((with_reducible refine gate_callee (f := 38) rfl ?_); refine goesL_ (some 109) rfl rfl Tryd.func38 (by kernel_rfl) rfl #[.int .i64 0] rfl (by (try simp only [List.map_toArray, List.map_cons, List.map_nil]); first | done | rfl | (simp only [List.length_drop, List.length_take]; rfl)) ?_; (with_reducible refine (group_Valid.calls 0 false _ A30.out).mono ?_); rintro e w' ⟨rfl, ⟨nd, rfl⟩⟩; refine ⟨_, rfl, ?_⟩) | (go_at_call 38; (with_reducible refine (group_Valid.calls 2147483579 false _ A32.out).mono ?_); rintro e w' ⟨rfl, ⟨nd, rfl⟩⟩) | (go_at_call 38; (with_reducible refine (group_Valid.calls 2 false _ A34.out).mono ?_); rintro e w' ⟨rfl, ⟨nd, rfl⟩⟩) | (go_at_call 38; (with_reducible refine (group_Valid.calls 1 true _ A36.out).mono ?_); rintro e w' ⟨rfl, ⟨nd, rfl⟩⟩) | (go_at_call 38; (with_reducible refine (group_Valid.calls 4 false _ A38.out).mono ?_); rintro e w' ⟨rfl, ⟨nd, rfl⟩⟩))
                  go_ret
                  exact ⟨by first | rfl | (simp [errW_none, errW_some] <;> rfl) | (simp [*, errW_none, errW_some] <;> rfl), by repeat (first | (with_reducible first | exact HB.out | apply below_alloc | apply pw_below_drewN | apply below_drew1) | exact HB.out)⟩
              · replace c37 := Bool.eq_false_iff.mpr c37
                subst c37
                have H1 : (some false) = some r := by rw [if_neg (show ¬ (false = true) by decide)] at H; exact H
                clear H
                have H := H1
                clear H1
                obtain rfl := Option.some.inj H
                go_wp2_with (first | ((with_reducible refine gate_callee (f := 38) rfl ?_); refine goesL_ (some 109) rfl rfl Tryd.func38 (by kernel_rfl) rfl #[.int .i64 0] rfl (by (try simp only [List.map_toArray, List.map_cons, List.map_nil]); first | done | rfl | (simp only [List.length_drop, List.length_take]; rfl)) ?_; (with_reducible refine (group_Valid.calls 0 false _ A30.out).mono ?_); rintro e w' ⟨rfl, ⟨nd, rfl⟩⟩; refine ⟨_, rfl, ?_⟩) | (go_at_call 38; (with_reducible refine (group_Valid.calls 2147483579 false _ A32.out).mono ?_); rintro e w' ⟨rfl, ⟨nd, rfl⟩⟩) | (go_at_call 38; (with_reducible refine (group_Valid.calls 2 false _ A34.out).mono ?_); rintro e w' ⟨rfl, ⟨nd, rfl⟩⟩) | (go_at_call 38; (with_reducible refine (group_Valid.calls 1 false _ A36.out).mono ?_); rintro e w' ⟨rfl, ⟨nd, rfl⟩⟩))
                go_ret
                exact ⟨by first | rfl | (simp [errW_none, errW_some] <;> rfl) | (simp [*, errW_none, errW_some] <;> rfl), by repeat (first | (with_reducible first | exact HB.out | apply below_alloc | apply pw_below_drewN | apply below_drew1) | exact HB.out)⟩

/-- THE ONE PURE STATEMENT of signatorylaw10_sane: yours. -/
def signatorylaw10_sane.Pure : Prop := ∃ k, signatorylaw10_sane.f k  = some true
theorem signatorylaw10_sane.walk (P : signatorylaw10_sane.Pure)  (w : World)  :
    Calls Tryd.prog 15 #[] w fun e w' => e = .returned (.bool true) ∧ Below w.heap.size w w' := by
  obtain ⟨k, h⟩ := P  
  refine (signatorylaw10_sane.calls k  true w h).mono ?_
  rintro e w' ⟨rfl, hd⟩
  exact ⟨rfl, hd⟩

/-! ### signatoryref10_power: function 93 -/
def signatoryref10_power.l0 : Nat → Int → Int → Int → Option (Int)
  | 0, _, _, _ => none
  | k + 1, x0, x1, x5 => if x1 > 0 then (if (Int.tmod x1 2) = 1 then (signatoryref10_power.l0 k (Int.tmod (wrap64 (x0 * x0)) 2147483579) (wrap64 (Int.tdiv x1 2)) (Int.tmod (wrap64 (x5 * x0)) 2147483579)) else (signatoryref10_power.l0 k (Int.tmod (wrap64 (x0 * x0)) 2147483579) (wrap64 (Int.tdiv x1 2)) x5)) else (some x5)
def signatoryref10_power.f (k : Nat) (a0 : Int) (a1 : Int) : Option (Int) := signatoryref10_power.l0 k a0 a1 1
theorem signatoryref10_power.mono_l : ∀ k, (∀ y0 y1 y2, LeO (signatoryref10_power.l0 k y0 y1 y2) (signatoryref10_power.l0 (k + 1) y0 y1 y2))
  | 0 => fun _ _ _ r h => by simp [signatoryref10_power.l0] at h
  | k + 1 => by
    have ih0 := signatoryref10_power.mono_l k
    · intro y0 y1 y2
      unfold signatoryref10_power.l0
      repeat' first
      | (with_reducible exact ih0 _ _ _)
      | (with_reducible exact LeO.refl _)
      | (with_reducible exact LeO.none _)
      | (with_reducible refine LeO.ite ?_ ?_)
      | (with_reducible refine LeO.bind ?_ (fun _ => ?_))
      | exact ih0 _ _ _
      | exact LeO.none _
      | refine LeO.ite ?_ ?_
      | refine LeO.bind ?_ (fun _ => ?_)
theorem signatoryref10_power.mono : ∀ a0 a1 k, LeO (signatoryref10_power.f k a0 a1) (signatoryref10_power.f (k + 1) a0 a1) := by
  intro a0 a1 k
  have ih0 := signatoryref10_power.mono_l k
  unfold signatoryref10_power.f
  repeat' first
      | (with_reducible exact ih0 _ _ _)
      | (with_reducible exact LeO.refl _)
      | (with_reducible exact LeO.none _)
      | (with_reducible refine LeO.ite ?_ ?_)
      | (with_reducible refine LeO.bind ?_ (fun _ => ?_))
      | exact ih0 _ _ _
      | exact LeO.none _
      | refine LeO.ite ?_ ?_
      | refine LeO.bind ?_ (fun _ => ?_)
set_option maxHeartbeats 8000000 in
set_option maxRecDepth 100000 in
theorem signatoryref10_power.calls (k : Nat) (a0 : Int) (a1 : Int) (r : Int) (w : World) (h : signatoryref10_power.f k a0 a1 = some r) :
    Calls Tryd.prog 93 #[.int .i64 a0, .int .i64 a1] w fun e w' => e = .returned (.int .i64 r) ∧ Drawn0 w w' := by
  have H : (signatoryref10_power.l0 k a0 a1 1) = some r := h
  clear h
  have H' := Aside0.mk H
  clear H
  go_enter Tryd.func93, Tryd.ntmps93
  go_wp2
  go_loopg [0, 1, 5] k (fun kq v0 v1 v5 w' => ∃ (x0_1 : Int) (x1_1 : Int) (x5_1 : Int), v0 = .int .i64 x0_1 ∧ v1 = .int .i64 x1_1 ∧ v5 = .int .i64 x5_1 ∧ Aside0 (signatoryref10_power.l0 kq x0_1 x1_1 x5_1 = some r) ∧ Aside0 (kq ≤ k) ∧ Drawn0 w w')
  case atStart => exact ⟨(a0), (a1), (1), (by first | rfl | (simp; done) | (simp [*]; done)), (by first | rfl | (simp; done) | (simp [*]; done)), (by first | rfl | (simp; done) | (simp [*]; done)), H', ⟨Nat.le_refl _⟩, by repeat (first | exact Drawn0.refl _ | apply Drawn0.step)⟩
  case round =>
    clear H'
    try clear p2
    obtain ⟨x0_1, x1_1, x5_1, rfl, rfl, rfl, HA, HK1, ⟨m1, rfl⟩⟩ := hrel
    cases gk with
    | zero => exact absurd HA.out (by simp [signatoryref10_power.l0])
    | succ k1 =>
      have H := HA.out
      clear HA
      simp only [signatoryref10_power.l0] at H
      by_cases c3 : x1_1 > 0
      · rw [if_pos c3] at H
        have c3b0 : decide (0 < x1_1) = true := decide_eq_true c3
        clear c3
        by_cases c4 : (Int.tmod x1_1 2) = 1
        · rw [if_pos c4] at H
          have c4b0 : ((Int.tmod x1_1 2) == 1) = true := beq_iff_eq.mpr c4
          have c4b1 : ((Int.tmod x1_1 2) != 1) = false := bne_eq_false_iff_eq.mpr c4
          clear c4
          have H' := Aside0.mk H
          clear H
          go_wp2
          go_roundg k1
          case measure => have := HK1.out; omega
          case rel => exact ⟨(Int.tmod (wrap64 (x0_1 * x0_1)) 2147483579), (wrap64 (Int.tdiv x1_1 2)), (Int.tmod (wrap64 (x5_1 * x0_1)) 2147483579), (by first | rfl | (simp; done) | (simp [*]; done)), (by first | rfl | (simp; done) | (simp [*]; done)), (by first | rfl | (simp; done) | (simp [*]; done)), H', ⟨by have := HK1.out; omega⟩, by repeat (first | exact Drawn0.refl _ | apply Drawn0.step)⟩
        · rw [if_neg c4] at H
          have c4b0 : ((Int.tmod x1_1 2) == 1) = false := beq_eq_false_iff_ne.mpr c4
          have c4b1 : ((Int.tmod x1_1 2) != 1) = true := bne_iff_ne.mpr c4
          have H' := Aside0.mk H
          clear H
          go_wp2
          go_roundg k1
          case measure => have := HK1.out; omega
          case rel => exact ⟨(Int.tmod (wrap64 (x0_1 * x0_1)) 2147483579), (wrap64 (Int.tdiv x1_1 2)), (x5_1), (by first | rfl | (simp; done) | (simp [*]; done)), (by first | rfl | (simp; done) | (simp [*]; done)), (by first | rfl | (simp; done) | (simp [*]; done)), H', ⟨by have := HK1.out; omega⟩, by repeat (first | exact Drawn0.refl _ | apply Drawn0.step)⟩
      · rw [if_neg c3] at H
        have c3b0 : decide (0 < x1_1) = false := decide_eq_false c3
        clear c3
        obtain rfl := Option.some.inj H
        go_wp2
        go_ret
        exact ⟨by first | rfl | (simp; done) | (simp [*]; done), by repeat (first | exact Drawn0.refl _ | apply Drawn0.step)⟩

/-! ### signatoryref10_Valid: function 55 -/
def signatoryref10_Valid.f (k : Nat) (a0 : Int) : Option (Bool) := if a0 ≥ 1 then (if a0 < 2147483579 then ((signatoryref10_power.f k a0 1073741789).bind fun t133 => (some (t133 == 1))) else (some false)) else (some false)
theorem signatoryref10_Valid.mono : ∀ a0 k, LeO (signatoryref10_Valid.f k a0) (signatoryref10_Valid.f (k + 1) a0) := by
  intro a0 k
  unfold signatoryref10_Valid.f
  repeat' first
      | (with_reducible exact signatoryref10_power.mono _ _ _)
      | (with_reducible exact LeO.refl _)
      | (with_reducible exact LeO.none _)
      | (with_reducible refine LeO.ite ?_ ?_)
      | (with_reducible refine LeO.bind ?_ (fun _ => ?_))
      | exact signatoryref10_power.mono _ _ _
      | exact LeO.none _
      | refine LeO.ite ?_ ?_
      | refine LeO.bind ?_ (fun _ => ?_)
set_option maxHeartbeats 8000000 in
set_option maxRecDepth 100000 in
theorem signatoryref10_Valid.calls (k : Nat) (a0 : Int) (r : Bool) (w : World) (h : signatoryref10_Valid.f k a0 = some r) :
    Calls Tryd.prog 55 #[.int .i64 a0] w fun e w' => e = .returned (.bool r) ∧ Drawn0 w w' := by
  have H : (if a0 ≥ 1 then (if a0 < 2147483579 then ((signatoryref10_power.f k a0 1073741789).bind fun t133 => (some (t133 == 1))) else (some false)) else (some false)) = some r := h
  clear h
  by_cases c2 : a0 ≥ 1
  · rw [if_pos c2] at H
    have c2b0 : decide (1 ≤ a0) = true := decide_eq_true c2
    clear c2
    by_cases c3 : a0 < 2147483579
    · rw [if_pos c3] at H
      have c3b0 : decide (a0 < 2147483579) = true := decide_eq_true c3
      clear c3
      replace H := Option.bind_eq_some_iff.mp H
      obtain ⟨t133, A40, H⟩ := H
      replace H : (some (t133 == 1)) = some r := H
      have A4 := Aside0.mk A40
      clear A40
      obtain rfl := Option.some.inj H
      go_enter Tryd.func55, Tryd.ntmps55
      go_wp2_with (first | (go_at_call 93; (with_reducible refine (signatoryref10_power.calls k a0 1073741789 t133 _ A4.out).mono ?_); rintro e w' ⟨rfl, ⟨nd, rfl⟩⟩))
      go_ret
      exact ⟨by first | rfl | (simp; done) | (simp [*]; done), by repeat (first | exact Drawn0.refl _ | apply Drawn0.step)⟩
    · rw [if_neg c3] at H
      have c3b0 : decide (a0 < 2147483579) = false := decide_eq_false c3
      clear c3
      obtain rfl := Option.some.inj H
      go_enter Tryd.func55, Tryd.ntmps55
      go_wp2
      go_ret
      exact ⟨by first | rfl | (simp; done) | (simp [*]; done), by repeat (first | exact Drawn0.refl _ | apply Drawn0.step)⟩
  · rw [if_neg c2] at H
    have c2b0 : decide (1 ≤ a0) = false := decide_eq_false c2
    clear c2
    obtain rfl := Option.some.inj H
    go_enter Tryd.func55, Tryd.ntmps55
    go_wp2
    go_ret
    exact ⟨by first | rfl | (simp; done) | (simp [*]; done), by repeat (first | exact Drawn0.refl _ | apply Drawn0.step)⟩

end Go.Proofs.YtjbcfdgnafmbkaaDoor.PGroup
