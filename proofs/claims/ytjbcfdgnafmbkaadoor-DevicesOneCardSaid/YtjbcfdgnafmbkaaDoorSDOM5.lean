/- Lemmas, walks and printed functions for the claim. -/
import Derived.Test.YtjbcfdgnafmbkaaDoorSDOM3
import Derived.BigQuiet
import Derived.Deep.LoopGhost
import Derived.Deep.QuietTactic
import Derived.Lib.Hide
import Derived.LoopTactic
import Derived.Outline
import Derived.OwnWalk
import Derived.RowKit3
import Derived.Test.YtjbcfdgnafmbkaaDoorProg
import Derived.WalkKit
import Derived.WalkMore
section
set_option linter.unusedVariables false
namespace Go.Proofs.YtjbcfdgnafmbkaaDoor
open Go.RowKit
structure VInv (x X N : Nat) (S : Bool) : Prop where
  hX : 1 ≤ X
  hXP : X < 2147483579
  hN : N % 2 = 1
  hNP : N ≤ 2147483579
  hc : Nat.Coprime X N
  hJ : (S == Num.J X N) = Num.J x 2147483579
theorem VInv.start {x : Nat} (h : 1 ≤ x) (h2 : x < 2147483579) : VInv x x 2147483579 true := ⟨h, h2, by decide, by omega, Num.primeP x h h2, by simp⟩
theorem VInv.half {x X N : Nat} {S : Bool} (h : VInv x X N S) (he : X % 2 = 0) : VInv x (X / 2) N (if N % 8 = 3 ∨ N % 8 = 5 then !S else S) := by
  have e : X = 2 * (X / 2) := by omega
  have hc := h.hc
  have hJ := h.hJ
  have hh := h.hX
  have hp := h.hXP
  rw [e] at hc hJ
  rw [Num.J_half h.hN hc] at hJ
  refine ⟨by omega, by omega, h.hN, h.hNP, Nat.Coprime.coprime_mul_left hc, ?_⟩
  by_cases e8 : N % 8 = 3 ∨ N % 8 = 5
  · rw [if_pos e8] at hJ ⊢; rw [← hJ]; cases S <;> simp
  · rw [if_neg e8] at hJ ⊢; exact hJ
theorem VInv.swap {x X N : Nat} {S : Bool} (h : VInv x X N S) (ho : X % 2 = 1) (h1 : X ≠ 1) : VInv x (N % X) X (if X % 4 = 3 ∧ N % 4 = 3 then !S else S) := by
  have hJ := h.hJ
  have hh := h.hX
  have hp := h.hXP
  rw [Num.J_swap ho h.hN h.hc] at hJ
  have hl := Nat.mod_lt N (show 0 < X by omega)
  have hpos : 1 ≤ N % X := by
    rcases Nat.eq_zero_or_pos (N % X) with e | e
    · have hd : X ∣ N := Nat.dvd_of_mod_eq_zero e
      have := Nat.Coprime.eq_one_of_dvd h.hc hd
      omega
    · exact e
  refine ⟨hpos, by omega, ho, by omega, ?_, ?_⟩
  · have := h.hc
    unfold Nat.Coprime at this ⊢
    rw [← Nat.gcd_rec]
    exact this
  · by_cases e8 : X % 4 = 3 ∧ N % 4 = 3
    · rw [if_pos e8] at hJ ⊢; rw [← hJ]; cases S <;> simp
    · rw [if_neg e8] at hJ ⊢; exact hJ
theorem VInv.fin {x N : Nat} {S : Bool} (h : VInv x 1 N S) : S = Num.J x 2147483579 := by
  have hJ := h.hJ
  rw [Num.J_one] at hJ
  simpa using hJ
set_option maxHeartbeats 400000 in
theorem valid_in (x : Nat) (w : World) (h : 1 ≤ x) (h2 : x < 2147483579) :
    Calls Tryd.prog 38 #[.int .i64 x] w fun e w' => e = .returned (.bool (Num.J x 2147483579)) ∧ w = w' := by
  have hd : decide ((x : Int) < 1) = false := by simp; omega
  have hd2 : decide (2147483579 ≤ (x : Int)) = false := by simp; omega
  go_enter Tryd.func38, Tryd.ntmps38
  go_wp2
  go_step3
  go_wp2
  go_step3
  go_wp2
  go_loopg [0, 3, 4] (x + 1) (fun g vx vn vs w' => ∃ (X N : Nat) (S : Bool), vx = .int .i64 X ∧ vn = .int .i64 N ∧ vs = .bool S ∧ VInv x X N S ∧ X < g ∧ w = w')
  case atStart => exact ⟨x, 2147483579, true, rfl, rfl, rfl, VInv.start h h2, by omega, rfl⟩
  case round =>
    obtain ⟨X, N, S, rfl, rfl, rfl, hv, hg, rfl⟩ := hrel
    have hX := hv.hX
    have hXP := hv.hXP
    have hNP := hv.hNP
    by_cases c1 : X = 1
    · subst c1
      have := hv.fin
      subst this
      go_wp2
      rw [Exit.noGoto_ret]
      go_ret
      exact ⟨rfl, rfl⟩
    have c1' : decide (1 < (X : Int)) = true := by simp; omega
    go_wp2
    go_loopg [0, 4] (X + 1) (fun g2 vx vs w' => ∃ (X2 : Nat) (S2 : Bool), vx = .int .i64 X2 ∧ vs = .bool S2 ∧ VInv x X2 N S2 ∧ X2 < g2 ∧ X2 ≤ X ∧ w = w')
    case atStart => exact ⟨X, S, rfl, rfl, hv, by omega, by omega, rfl⟩
    case round =>
      obtain ⟨X2, S2, rfl, rfl, hv2, hg2, hle2, rfl⟩ := hrel
      have hX2 := hv2.hX
      by_cases c2 : X2 % 2 = 0
      · have c2' : ((X2 : Int) % 2 == 0) = true := by simp; omega
        have hh := hv2.half c2
        by_cases c3 : N % 8 = 3
        · have c3' : ((N : Int) % 8 == 3) = true := by simp; omega
          rw [if_pos (.inl c3)] at hh
          go_wp2
          go_roundg (X2 / 2 + 1)
          case measure => omega
          case rel => exact ⟨X2 / 2, !S2, by go_num, rfl, hh, by omega, by omega, rfl⟩
        · have c3' : ((N : Int) % 8 == 3) = false := by simp; omega
          by_cases c4 : N % 8 = 5
          · have c4' : ((N : Int) % 8 == 5) = true := by simp; omega
            rw [if_pos (.inr c4)] at hh
            go_wp2
            go_roundg (X2 / 2 + 1)
            case measure => omega
            case rel => exact ⟨X2 / 2, !S2, by go_num, rfl, hh, by omega, by omega, rfl⟩
          · have c4' : ((N : Int) % 8 == 5) = false := by simp; omega
            rw [if_neg (by omega)] at hh
            go_wp2
            go_roundg (X2 / 2 + 1)
            case measure => omega
            case rel => exact ⟨X2 / 2, S2, by go_num, rfl, hh, by omega, by omega, rfl⟩
      · have c2' : ((X2 : Int) % 2 == 0) = false := by simp; omega
        by_cases c3 : X2 = 1
        · subst c3
          have := hv2.fin
          subst this
          go_wp2
          rw [Exit.noGoto_ret]
          go_ret
          exact ⟨rfl, rfl⟩
        · have c3' : ((X2 : Int) == 1) = false := by simp; omega
          have hh := hv2.swap (by omega) c3
          by_cases c4 : X2 % 4 = 3
          · have c4' : ((X2 : Int) % 4 == 3) = true := by simp; omega
            by_cases c5 : N % 4 = 3
            · have c5' : ((N : Int) % 4 == 3) = true := by simp; omega
              rw [if_pos ⟨c4, c5⟩] at hh
              go_wp2
              go_roundg X2
              case measure => omega
              case rel => exact ⟨N % X2, X2, !S2, by go_num, rfl, rfl, hh, by have := Nat.mod_lt N (show 0 < X2 by omega); omega, rfl⟩
            · have c5' : ((N : Int) % 4 == 3) = false := by simp; omega
              rw [if_neg (by omega)] at hh
              go_wp2
              go_roundg X2
              case measure => omega
              case rel => exact ⟨N % X2, X2, S2, by go_num, rfl, rfl, hh, by have := Nat.mod_lt N (show 0 < X2 by omega); omega, rfl⟩
          · have c4' : ((X2 : Int) % 4 == 3) = false := by simp; omega
            rw [if_neg (by omega)] at hh
            go_wp2
            go_roundg X2
            case measure => omega
            case rel => exact ⟨N % X2, X2, S2, by go_num, rfl, rfl, hh, by have := Nat.mod_lt N (show 0 < X2 by omega); omega, rfl⟩
end Go.Proofs.YtjbcfdgnafmbkaaDoor
end
