/- Lemmas, walks and printed functions for the claim. -/
import Derived.Test.YtjbcfdgnafmbkaaDoorSDOM2
import Derived.Test.YtjbcfdgnafmbkaaDoorSDOM21
import Derived.Test.YtjbcfdgnafmbkaaDoorSDOM22
import Derived.Test.YtjbcfdgnafmbkaaDoorSDOM23
import Derived.Test.YtjbcfdgnafmbkaaDoorSDOM24
section
namespace Go.Proofs.YtjbcfdgnafmbkaaDoor.PBig
open Go.RowKit Go.Proofs.YtjbcfdgnafmbkaaDoorW.PrintWords Go.Proofs.YtjbcfdgnafmbkaaDoorW.PrintLast Go.Proofs.YtjbcfdgnafmbkaaDoorW.PrintMore
attribute [local go_sem] max2_int min2_int max_two min_two max_three min_three max_four min_four
set_option linter.unusedVariables false
set_option linter.unusedSimpArgs false
mutual
def signatorylaw48_DevicesOne.j0 : Nat → List (S65) → Int → Int → List Int → Int → Int → Bool → Int → Int → Option (Bool)
  | 0, _, _, _, _, _, _, _, _, _ => none
  | k + 1, x0, x1, x2, x3, x5, x6, x50, x369000, x369001 => if x50 = true then (some true) else ((devices_Current.f x0 x1 x5 x6).bind fun bt375 => ((devices_Current.f x0 x2 x5 x6).bind fun bt379 => ((devices_Accepts.f x0 x1 x3 x369000 x369001 x5 x6).bind fun bt383 => (if bt375.2.2.2 = 0 then (if bt379.2.2.2 = 0 then (if bt383.2.2 = 0 then (if x1 = x2 then (signatorylaw48_DevicesOne.j1 k x0 x1 x3 x5 x6 bt375.1 bt375.2.1 bt375.2.2.1 bt383.1 bt383.2.1 false x369000 x369001) else (if bt375.2.2.1 = true then (if bt379.2.2.1 = true then (signatorylaw48_DevicesOne.j1 k x0 x1 x3 x5 x6 bt375.1 bt375.2.1 bt375.2.2.1 bt383.1 bt383.2.1 (bt375.1 == bt379.1) x369000 x369001) else (signatorylaw48_DevicesOne.j1 k x0 x1 x3 x5 x6 bt375.1 bt375.2.1 bt375.2.2.1 bt383.1 bt383.2.1 false x369000 x369001)) else (signatorylaw48_DevicesOne.j1 k x0 x1 x3 x5 x6 bt375.1 bt375.2.1 bt375.2.2.1 bt383.1 bt383.2.1 false x369000 x369001))) else (signatorylaw48_DevicesOne.j1 k x0 x1 x3 x5 x6 bt375.1 bt375.2.1 bt375.2.2.1 bt383.1 bt383.2.1 true x369000 x369001)) else (signatorylaw48_DevicesOne.j1 k x0 x1 x3 x5 x6 bt375.1 bt375.2.1 bt375.2.2.1 bt383.1 bt383.2.1 true x369000 x369001)) else (signatorylaw48_DevicesOne.j1 k x0 x1 x3 x5 x6 bt375.1 bt375.2.1 bt375.2.2.1 bt383.1 bt383.2.1 true x369000 x369001)))))
def signatorylaw48_DevicesOne.j1 : Nat → List (S65) → Int → List Int → Int → Int → Int → Int → Bool → Int → Bool → Bool → Int → Int → Option (Bool)
  | 0, _, _, _, _, _, _, _, _, _, _, _, _, _ => none
  | k + 1, x0, x1, x3, x5, x6, x15, x16, x17, x23, x24, x107, x369000, x369001 => if x107 = true then (some false) else (if x17 = true then ((sign_Verify.f x16 x3 x369000 x369001).bind fun t386 => (if (x24 != t386) = true then (signatorylaw48_DevicesOne.j2 k x0 x1 x5 x6 x15 x16 x17 true) else (if x24 = true then (signatorylaw48_DevicesOne.j2 k x0 x1 x5 x6 x15 x16 x17 (x23 != x15)) else (signatorylaw48_DevicesOne.j2 k x0 x1 x5 x6 x15 x16 x17 false)))) else (if (x24 != false) = true then (signatorylaw48_DevicesOne.j2 k x0 x1 x5 x6 x15 x16 x17 true) else (if x24 = true then (signatorylaw48_DevicesOne.j2 k x0 x1 x5 x6 x15 x16 x17 (x23 != x15)) else (signatorylaw48_DevicesOne.j2 k x0 x1 x5 x6 x15 x16 x17 false))))
def signatorylaw48_DevicesOne.j2 : Nat → List (S65) → Int → Int → Int → Int → Int → Bool → Bool → Option (Bool)
  | 0, _, _, _, _, _, _, _, _ => none
  | k + 1, x0, x1, x5, x6, x15, x16, x17, x124 => if x124 = true then (some false) else (signatorylaw48_DevicesOne.l0 k x0 x1 x5 x6 x15 x16 x17 false x0 (x0.length : Int) 0)
def signatorylaw48_DevicesOne.l0 : Nat → List (S65) → Int → Int → Int → Int → Int → Bool → Bool → List (S65) → Int → Int → Option (Bool)
  | 0, _, _, _, _, _, _, _, _, _, _, _ => none
  | k + 1, x0, x1, x5, x6, x15, x16, x17, x26, x125, x126, x127 => if x127 < x126 then (if 0 ≤ x127 then (if x127 < (x125.length : Int) then (if ((rd_T65 x125 x127).f3) = x1 then (if ((rd_T65 x125 x127).f1) > x5 then (signatorylaw48_DevicesOne.j4 k x0 x1 x5 x6 x15 x16 x17 x26 x125 x126 x127 true ((rd_T65 x125 x127).f0) ((rd_T65 x125 x127).f1) ((rd_T65 x125 x127).f2) ((rd_T65 x125 x127).f3) ((rd_T65 x125 x127).f4) ((rd_T65 x125 x127).f5)) else (signatorylaw48_DevicesOne.j4 k x0 x1 x5 x6 x15 x16 x17 x26 x125 x126 x127 (decide (((rd_T65 x125 x127).f2) > x6)) ((rd_T65 x125 x127).f0) ((rd_T65 x125 x127).f1) ((rd_T65 x125 x127).f2) ((rd_T65 x125 x127).f3) ((rd_T65 x125 x127).f4) ((rd_T65 x125 x127).f5))) else (signatorylaw48_DevicesOne.j4 k x0 x1 x5 x6 x15 x16 x17 x26 x125 x126 x127 true ((rd_T65 x125 x127).f0) ((rd_T65 x125 x127).f1) ((rd_T65 x125 x127).f2) ((rd_T65 x125 x127).f3) ((rd_T65 x125 x127).f4) ((rd_T65 x125 x127).f5))) else (none)) else (none)) else (some (x26 == x17))
def signatorylaw48_DevicesOne.j4 : Nat → List (S65) → Int → Int → Int → Int → Int → Bool → Bool → List (S65) → Int → Int → Bool → Int → Int → Int → Int → Int → Bool → Option (Bool)
  | 0, _, _, _, _, _, _, _, _, _, _, _, _, _, _, _, _, _, _ => none
  | k + 1, x0, x1, x5, x6, x15, x16, x17, x26, x125, x126, x127, x146, x389000, x389001, x389002, x389003, x389004, x389005 => if x146 = true then (signatorylaw48_DevicesOne.l0 k x0 x1 x5 x6 x15 x16 x17 x26 x125 x126 (wrap64 (x127 + 1))) else (signatorylaw48_DevicesOne.l1 k x0 x1 x5 x6 x15 x16 x17 x26 true x125 x126 x127 x0 (x0.length : Int) 0 x389000 x389001 x389002 x389003 x389004 x389005)
def signatorylaw48_DevicesOne.l1 : Nat → List (S65) → Int → Int → Int → Int → Int → Bool → Bool → Bool → List (S65) → Int → Int → List (S65) → Int → Int → Int → Int → Int → Int → Int → Bool → Option (Bool)
  | 0, _, _, _, _, _, _, _, _, _, _, _, _, _, _, _, _, _, _, _, _, _ => none
  | k + 1, x0, x1, x5, x6, x15, x16, x17, x26, x29, x125, x126, x127, x147, x148, x149, x389000, x389001, x389002, x389003, x389004, x389005 => if x149 < x148 then (if 0 ≤ x149 then (if x149 < (x147.length : Int) then (if x29 = true then (if ((rd_T65 x147 x149).f3) = x1 then (if ((rd_T65 x147 x149).f1) > x5 then (signatorylaw48_DevicesOne.l1 k x0 x1 x5 x6 x15 x16 x17 x26 true x125 x126 x127 x147 x148 (wrap64 (x149 + 1)) x389000 x389001 x389002 x389003 x389004 x389005) else (if ((rd_T65 x147 x149).f2) > x6 then (signatorylaw48_DevicesOne.l1 k x0 x1 x5 x6 x15 x16 x17 x26 true x125 x126 x127 x147 x148 (wrap64 (x149 + 1)) x389000 x389001 x389002 x389003 x389004 x389005) else (if ((rd_T65 x147 x149).f1) < x389001 then (signatorylaw48_DevicesOne.l1 k x0 x1 x5 x6 x15 x16 x17 x26 true x125 x126 x127 x147 x148 (wrap64 (x149 + 1)) x389000 x389001 x389002 x389003 x389004 x389005) else (if ((rd_T65 x147 x149).f1) = x389001 then (signatorylaw48_DevicesOne.l1 k x0 x1 x5 x6 x15 x16 x17 x26 (decide (((rd_T65 x147 x149).f0) ≤ x389000)) x125 x126 x127 x147 x148 (wrap64 (x149 + 1)) x389000 x389001 x389002 x389003 x389004 x389005) else (signatorylaw48_DevicesOne.l1 k x0 x1 x5 x6 x15 x16 x17 x26 false x125 x126 x127 x147 x148 (wrap64 (x149 + 1)) x389000 x389001 x389002 x389003 x389004 x389005))))) else (signatorylaw48_DevicesOne.l1 k x0 x1 x5 x6 x15 x16 x17 x26 true x125 x126 x127 x147 x148 (wrap64 (x149 + 1)) x389000 x389001 x389002 x389003 x389004 x389005)) else (signatorylaw48_DevicesOne.l1 k x0 x1 x5 x6 x15 x16 x17 x26 false x125 x126 x127 x147 x148 (wrap64 (x149 + 1)) x389000 x389001 x389002 x389003 x389004 x389005)) else (none)) else (none)) else (if x29 = true then (if x389005 = true then (signatorylaw48_DevicesOne.l0 k x0 x1 x5 x6 x15 x16 x17 (!x389005) x125 x126 (wrap64 (x127 + 1))) else (if x389000 = x15 then (if x389004 = x16 then (signatorylaw48_DevicesOne.l0 k x0 x1 x5 x6 x15 x16 x17 (!x389005) x125 x126 (wrap64 (x127 + 1))) else (some false)) else (some false))) else (signatorylaw48_DevicesOne.l0 k x0 x1 x5 x6 x15 x16 x17 x26 x125 x126 (wrap64 (x127 + 1))))
end
def signatorylaw48_DevicesOne.f (k : Nat) (l0 : List (S65)) (a1 : Int) (a2 : Int) (l3 : List Int) (a4_0 : Int) (a4_1 : Int) (a5 : Int) (a6 : Int) : Option (Bool) := (signatorylaw48_sane.f k).bind fun t369 => (if t369 = true then ((signatorylaw48_right.f k l0 a1 (([a5, a6] : List Int))).bind fun t373 => (if t373 = true then ((signatoryref48_Person.f a2).bind fun t374 => (if t374 = true then (signatorylaw48_DevicesOne.j0 k l0 a1 a2 l3 a5 a6 (decide ((l3.length : Int) > 200)) a4_0 a4_1) else (signatorylaw48_DevicesOne.j0 k l0 a1 a2 l3 a5 a6 true a4_0 a4_1))) else (signatorylaw48_DevicesOne.j0 k l0 a1 a2 l3 a5 a6 true a4_0 a4_1))) else (some false))
theorem signatorylaw48_DevicesOne.mono_l : ∀ k, (∀ y0 y1 y2 y3 y4 y5 y6 y7 y8, LeO (signatorylaw48_DevicesOne.j0 k y0 y1 y2 y3 y4 y5 y6 y7 y8) (signatorylaw48_DevicesOne.j0 (k + 1) y0 y1 y2 y3 y4 y5 y6 y7 y8)) ∧ (∀ y0 y1 y2 y3 y4 y5 y6 y7 y8 y9 y10 y11 y12, LeO (signatorylaw48_DevicesOne.j1 k y0 y1 y2 y3 y4 y5 y6 y7 y8 y9 y10 y11 y12) (signatorylaw48_DevicesOne.j1 (k + 1) y0 y1 y2 y3 y4 y5 y6 y7 y8 y9 y10 y11 y12)) ∧ (∀ y0 y1 y2 y3 y4 y5 y6 y7, LeO (signatorylaw48_DevicesOne.j2 k y0 y1 y2 y3 y4 y5 y6 y7) (signatorylaw48_DevicesOne.j2 (k + 1) y0 y1 y2 y3 y4 y5 y6 y7)) ∧ (∀ y0 y1 y2 y3 y4 y5 y6 y7 y8 y9 y10, LeO (signatorylaw48_DevicesOne.l0 k y0 y1 y2 y3 y4 y5 y6 y7 y8 y9 y10) (signatorylaw48_DevicesOne.l0 (k + 1) y0 y1 y2 y3 y4 y5 y6 y7 y8 y9 y10)) ∧ (∀ y0 y1 y2 y3 y4 y5 y6 y7 y8 y9 y10 y11 y12 y13 y14 y15 y16 y17, LeO (signatorylaw48_DevicesOne.j4 k y0 y1 y2 y3 y4 y5 y6 y7 y8 y9 y10 y11 y12 y13 y14 y15 y16 y17) (signatorylaw48_DevicesOne.j4 (k + 1) y0 y1 y2 y3 y4 y5 y6 y7 y8 y9 y10 y11 y12 y13 y14 y15 y16 y17)) ∧ (∀ y0 y1 y2 y3 y4 y5 y6 y7 y8 y9 y10 y11 y12 y13 y14 y15 y16 y17 y18 y19 y20, LeO (signatorylaw48_DevicesOne.l1 k y0 y1 y2 y3 y4 y5 y6 y7 y8 y9 y10 y11 y12 y13 y14 y15 y16 y17 y18 y19 y20) (signatorylaw48_DevicesOne.l1 (k + 1) y0 y1 y2 y3 y4 y5 y6 y7 y8 y9 y10 y11 y12 y13 y14 y15 y16 y17 y18 y19 y20))
  | 0 => ⟨fun _ _ _ _ _ _ _ _ _ r h => by simp [signatorylaw48_DevicesOne.j0] at h, fun _ _ _ _ _ _ _ _ _ _ _ _ _ r h => by simp [signatorylaw48_DevicesOne.j1] at h, fun _ _ _ _ _ _ _ _ r h => by simp [signatorylaw48_DevicesOne.j2] at h, fun _ _ _ _ _ _ _ _ _ _ _ r h => by simp [signatorylaw48_DevicesOne.l0] at h, fun _ _ _ _ _ _ _ _ _ _ _ _ _ _ _ _ _ _ r h => by simp [signatorylaw48_DevicesOne.j4] at h, fun _ _ _ _ _ _ _ _ _ _ _ _ _ _ _ _ _ _ _ _ _ r h => by simp [signatorylaw48_DevicesOne.l1] at h⟩
  | k + 1 => by
    obtain ⟨ih0, ih1, ih2, ih3, ih4, ih5⟩ := signatorylaw48_DevicesOne.mono_l k
    refine ⟨?_, ?_, ?_, ?_, ?_, ?_⟩
    · intro y0 y1 y2 y3 y4 y5 y6 y7 y8
      unfold signatorylaw48_DevicesOne.j0
      repeat' first
      | (with_reducible exact ih0 _ _ _ _ _ _ _ _ _)
      | (with_reducible exact ih1 _ _ _ _ _ _ _ _ _ _ _ _ _)
      | (with_reducible exact ih2 _ _ _ _ _ _ _ _)
      | (with_reducible exact ih3 _ _ _ _ _ _ _ _ _ _ _)
      | (with_reducible exact ih4 _ _ _ _ _ _ _ _ _ _ _ _ _ _ _ _ _ _)
      | (with_reducible exact ih5 _ _ _ _ _ _ _ _ _ _ _ _ _ _ _ _ _ _ _ _ _)
      | (with_reducible exact signatorylaw48_right.mono _ _ _ _)
      | (with_reducible exact signatorylaw48_sane.mono _)
      | (with_reducible exact LeO.refl _)
      | (with_reducible exact LeO.none _)
      | (with_reducible refine LeO.ite ?_ ?_)
      | (with_reducible refine LeO.bind ?_ (fun _ => ?_))
      | exact ih0 _ _ _ _ _ _ _ _ _
      | exact ih1 _ _ _ _ _ _ _ _ _ _ _ _ _
      | exact ih2 _ _ _ _ _ _ _ _
      | exact ih3 _ _ _ _ _ _ _ _ _ _ _
      | exact ih4 _ _ _ _ _ _ _ _ _ _ _ _ _ _ _ _ _ _
      | exact ih5 _ _ _ _ _ _ _ _ _ _ _ _ _ _ _ _ _ _ _ _ _
      | exact signatorylaw48_right.mono _ _ _ _
      | exact signatorylaw48_sane.mono _
      | exact LeO.none _
      | refine LeO.ite ?_ ?_
      | refine LeO.bind ?_ (fun _ => ?_)
    · intro y0 y1 y2 y3 y4 y5 y6 y7 y8 y9 y10 y11 y12
      unfold signatorylaw48_DevicesOne.j1
      repeat' first
      | (with_reducible exact ih0 _ _ _ _ _ _ _ _ _)
      | (with_reducible exact ih1 _ _ _ _ _ _ _ _ _ _ _ _ _)
      | (with_reducible exact ih2 _ _ _ _ _ _ _ _)
      | (with_reducible exact ih3 _ _ _ _ _ _ _ _ _ _ _)
      | (with_reducible exact ih4 _ _ _ _ _ _ _ _ _ _ _ _ _ _ _ _ _ _)
      | (with_reducible exact ih5 _ _ _ _ _ _ _ _ _ _ _ _ _ _ _ _ _ _ _ _ _)
      | (with_reducible exact signatorylaw48_right.mono _ _ _ _)
      | (with_reducible exact signatorylaw48_sane.mono _)
      | (with_reducible exact LeO.refl _)
      | (with_reducible exact LeO.none _)
      | (with_reducible refine LeO.ite ?_ ?_)
      | (with_reducible refine LeO.bind ?_ (fun _ => ?_))
      | exact ih0 _ _ _ _ _ _ _ _ _
      | exact ih1 _ _ _ _ _ _ _ _ _ _ _ _ _
      | exact ih2 _ _ _ _ _ _ _ _
      | exact ih3 _ _ _ _ _ _ _ _ _ _ _
      | exact ih4 _ _ _ _ _ _ _ _ _ _ _ _ _ _ _ _ _ _
      | exact ih5 _ _ _ _ _ _ _ _ _ _ _ _ _ _ _ _ _ _ _ _ _
      | exact signatorylaw48_right.mono _ _ _ _
      | exact signatorylaw48_sane.mono _
      | exact LeO.none _
      | refine LeO.ite ?_ ?_
      | refine LeO.bind ?_ (fun _ => ?_)
    · intro y0 y1 y2 y3 y4 y5 y6 y7
      unfold signatorylaw48_DevicesOne.j2
      repeat' first
      | (with_reducible exact ih0 _ _ _ _ _ _ _ _ _)
      | (with_reducible exact ih1 _ _ _ _ _ _ _ _ _ _ _ _ _)
      | (with_reducible exact ih2 _ _ _ _ _ _ _ _)
      | (with_reducible exact ih3 _ _ _ _ _ _ _ _ _ _ _)
      | (with_reducible exact ih4 _ _ _ _ _ _ _ _ _ _ _ _ _ _ _ _ _ _)
      | (with_reducible exact ih5 _ _ _ _ _ _ _ _ _ _ _ _ _ _ _ _ _ _ _ _ _)
      | (with_reducible exact signatorylaw48_right.mono _ _ _ _)
      | (with_reducible exact signatorylaw48_sane.mono _)
      | (with_reducible exact LeO.refl _)
      | (with_reducible exact LeO.none _)
      | (with_reducible refine LeO.ite ?_ ?_)
      | (with_reducible refine LeO.bind ?_ (fun _ => ?_))
      | exact ih0 _ _ _ _ _ _ _ _ _
      | exact ih1 _ _ _ _ _ _ _ _ _ _ _ _ _
      | exact ih2 _ _ _ _ _ _ _ _
      | exact ih3 _ _ _ _ _ _ _ _ _ _ _
      | exact ih4 _ _ _ _ _ _ _ _ _ _ _ _ _ _ _ _ _ _
      | exact ih5 _ _ _ _ _ _ _ _ _ _ _ _ _ _ _ _ _ _ _ _ _
      | exact signatorylaw48_right.mono _ _ _ _
      | exact signatorylaw48_sane.mono _
      | exact LeO.none _
      | refine LeO.ite ?_ ?_
      | refine LeO.bind ?_ (fun _ => ?_)
    · intro y0 y1 y2 y3 y4 y5 y6 y7 y8 y9 y10
      unfold signatorylaw48_DevicesOne.l0
      repeat' first
      | (with_reducible exact ih0 _ _ _ _ _ _ _ _ _)
      | (with_reducible exact ih1 _ _ _ _ _ _ _ _ _ _ _ _ _)
      | (with_reducible exact ih2 _ _ _ _ _ _ _ _)
      | (with_reducible exact ih3 _ _ _ _ _ _ _ _ _ _ _)
      | (with_reducible exact ih4 _ _ _ _ _ _ _ _ _ _ _ _ _ _ _ _ _ _)
      | (with_reducible exact ih5 _ _ _ _ _ _ _ _ _ _ _ _ _ _ _ _ _ _ _ _ _)
      | (with_reducible exact signatorylaw48_right.mono _ _ _ _)
      | (with_reducible exact signatorylaw48_sane.mono _)
      | (with_reducible exact LeO.refl _)
      | (with_reducible exact LeO.none _)
      | (with_reducible refine LeO.ite ?_ ?_)
      | (with_reducible refine LeO.bind ?_ (fun _ => ?_))
      | exact ih0 _ _ _ _ _ _ _ _ _
      | exact ih1 _ _ _ _ _ _ _ _ _ _ _ _ _
      | exact ih2 _ _ _ _ _ _ _ _
      | exact ih3 _ _ _ _ _ _ _ _ _ _ _
      | exact ih4 _ _ _ _ _ _ _ _ _ _ _ _ _ _ _ _ _ _
      | exact ih5 _ _ _ _ _ _ _ _ _ _ _ _ _ _ _ _ _ _ _ _ _
      | exact signatorylaw48_right.mono _ _ _ _
      | exact signatorylaw48_sane.mono _
      | exact LeO.none _
      | refine LeO.ite ?_ ?_
      | refine LeO.bind ?_ (fun _ => ?_)
    · intro y0 y1 y2 y3 y4 y5 y6 y7 y8 y9 y10 y11 y12 y13 y14 y15 y16 y17
      unfold signatorylaw48_DevicesOne.j4
      repeat' first
      | (with_reducible exact ih0 _ _ _ _ _ _ _ _ _)
      | (with_reducible exact ih1 _ _ _ _ _ _ _ _ _ _ _ _ _)
      | (with_reducible exact ih2 _ _ _ _ _ _ _ _)
      | (with_reducible exact ih3 _ _ _ _ _ _ _ _ _ _ _)
      | (with_reducible exact ih4 _ _ _ _ _ _ _ _ _ _ _ _ _ _ _ _ _ _)
      | (with_reducible exact ih5 _ _ _ _ _ _ _ _ _ _ _ _ _ _ _ _ _ _ _ _ _)
      | (with_reducible exact signatorylaw48_right.mono _ _ _ _)
      | (with_reducible exact signatorylaw48_sane.mono _)
      | (with_reducible exact LeO.refl _)
      | (with_reducible exact LeO.none _)
      | (with_reducible refine LeO.ite ?_ ?_)
      | (with_reducible refine LeO.bind ?_ (fun _ => ?_))
      | exact ih0 _ _ _ _ _ _ _ _ _
      | exact ih1 _ _ _ _ _ _ _ _ _ _ _ _ _
      | exact ih2 _ _ _ _ _ _ _ _
      | exact ih3 _ _ _ _ _ _ _ _ _ _ _
      | exact ih4 _ _ _ _ _ _ _ _ _ _ _ _ _ _ _ _ _ _
      | exact ih5 _ _ _ _ _ _ _ _ _ _ _ _ _ _ _ _ _ _ _ _ _
      | exact signatorylaw48_right.mono _ _ _ _
      | exact signatorylaw48_sane.mono _
      | exact LeO.none _
      | refine LeO.ite ?_ ?_
      | refine LeO.bind ?_ (fun _ => ?_)
    · intro y0 y1 y2 y3 y4 y5 y6 y7 y8 y9 y10 y11 y12 y13 y14 y15 y16 y17 y18 y19 y20
      unfold signatorylaw48_DevicesOne.l1
      repeat' first
      | (with_reducible exact ih0 _ _ _ _ _ _ _ _ _)
      | (with_reducible exact ih1 _ _ _ _ _ _ _ _ _ _ _ _ _)
      | (with_reducible exact ih2 _ _ _ _ _ _ _ _)
      | (with_reducible exact ih3 _ _ _ _ _ _ _ _ _ _ _)
      | (with_reducible exact ih4 _ _ _ _ _ _ _ _ _ _ _ _ _ _ _ _ _ _)
      | (with_reducible exact ih5 _ _ _ _ _ _ _ _ _ _ _ _ _ _ _ _ _ _ _ _ _)
      | (with_reducible exact signatorylaw48_right.mono _ _ _ _)
      | (with_reducible exact signatorylaw48_sane.mono _)
      | (with_reducible exact LeO.refl _)
      | (with_reducible exact LeO.none _)
      | (with_reducible refine LeO.ite ?_ ?_)
      | (with_reducible refine LeO.bind ?_ (fun _ => ?_))
      | exact ih0 _ _ _ _ _ _ _ _ _
      | exact ih1 _ _ _ _ _ _ _ _ _ _ _ _ _
      | exact ih2 _ _ _ _ _ _ _ _
      | exact ih3 _ _ _ _ _ _ _ _ _ _ _
      | exact ih4 _ _ _ _ _ _ _ _ _ _ _ _ _ _ _ _ _ _
      | exact ih5 _ _ _ _ _ _ _ _ _ _ _ _ _ _ _ _ _ _ _ _ _
      | exact signatorylaw48_right.mono _ _ _ _
      | exact signatorylaw48_sane.mono _
      | exact LeO.none _
      | refine LeO.ite ?_ ?_
      | refine LeO.bind ?_ (fun _ => ?_)
theorem signatorylaw48_DevicesOne.mono : ∀ a0 a1 a2 a3 a4 a5 a6 a7 k, LeO (signatorylaw48_DevicesOne.f k a0 a1 a2 a3 a4 a5 a6 a7) (signatorylaw48_DevicesOne.f (k + 1) a0 a1 a2 a3 a4 a5 a6 a7) := by
  intro a0 a1 a2 a3 a4 a5 a6 a7 k
  obtain ⟨ih0, ih1, ih2, ih3, ih4, ih5⟩ := signatorylaw48_DevicesOne.mono_l k
  unfold signatorylaw48_DevicesOne.f
  repeat' first
      | (with_reducible exact ih0 _ _ _ _ _ _ _ _ _)
      | (with_reducible exact ih1 _ _ _ _ _ _ _ _ _ _ _ _ _)
      | (with_reducible exact ih2 _ _ _ _ _ _ _ _)
      | (with_reducible exact ih3 _ _ _ _ _ _ _ _ _ _ _)
      | (with_reducible exact ih4 _ _ _ _ _ _ _ _ _ _ _ _ _ _ _ _ _ _)
      | (with_reducible exact ih5 _ _ _ _ _ _ _ _ _ _ _ _ _ _ _ _ _ _ _ _ _)
      | (with_reducible exact signatorylaw48_right.mono _ _ _ _)
      | (with_reducible exact signatorylaw48_sane.mono _)
      | (with_reducible exact LeO.refl _)
      | (with_reducible exact LeO.none _)
      | (with_reducible refine LeO.ite ?_ ?_)
      | (with_reducible refine LeO.bind ?_ (fun _ => ?_))
      | exact ih0 _ _ _ _ _ _ _ _ _
      | exact ih1 _ _ _ _ _ _ _ _ _ _ _ _ _
      | exact ih2 _ _ _ _ _ _ _ _
      | exact ih3 _ _ _ _ _ _ _ _ _ _ _
      | exact ih4 _ _ _ _ _ _ _ _ _ _ _ _ _ _ _ _ _ _
      | exact ih5 _ _ _ _ _ _ _ _ _ _ _ _ _ _ _ _ _ _ _ _ _
      | exact signatorylaw48_right.mono _ _ _ _
      | exact signatorylaw48_sane.mono _
      | exact LeO.none _
      | refine LeO.ite ?_ ?_
      | refine LeO.bind ?_ (fun _ => ?_)
def hdR : Code → Nat
  | .region n _ _ => n
  | .seq a _ => hdR a
  | _ => 0
def fromR (n : Nat) : Code → Code
  | .seq a b => if hdR a = n then .seq a b else fromR n b
  | c => c
end Go.Proofs.YtjbcfdgnafmbkaaDoor.PBig
end
