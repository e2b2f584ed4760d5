/- Lean functions that answer as the Go functions do, and the walks that show it: written by a program of this session. -/
import Derived.Test.YtjbcfdgnafmbkaaPGroupx0
import Derived.Test.YtjbcfdgnafmbkaaPGroupx1
namespace Go.Proofs.Ytjbcfdgnafmbkaa.PGroup
open Go.RowKit Go.Proofs.YtjbcfdgnafmbkaaW.PrintWords Go.Proofs.YtjbcfdgnafmbkaaW.PrintLast Go.Proofs.YtjbcfdgnafmbkaaW.PrintMore
attribute [local go_sem] max2_int min2_int max_two min_two max_three min_three max_four min_four   -- for this text's walks alone
set_option linter.unusedVariables false
set_option linter.unusedSimpArgs false

/-! ### signatorylaw10_sane: function 15 -/
def signatorylaw10_sane.j0 : Nat → Int → Int → Int → Int → Int → Int → Bool → Option (Bool)
  | 0, _, _, _, _, _, _, _ => none
  | k + 1, x1, x3, x5, x9, x13, x19, x108 => if x108 = true then (some false) else ((group_Valid.f 0).bind fun t136 => (if t136 = true then (some false) else ((group_Valid.f 2147483579).bind fun t137 => (if t137 = true then (some false) else ((group_Valid.f 2).bind fun t138 => (if t138 = true then (some false) else ((group_Valid.f 1).bind fun t139 => (if t139 = true then ((group_Valid.f 4).bind fun t140 => (if t140 = true then ((group_Valid.f 2147483578).bind fun t141 => (if t141 = true then (some false) else (if x1 = 16 then (if x3 = 1 then (if x5 = 536870895 then (if x9 = 16 then (if x13 = 2147483577 then (some (x19 == 2)) else (some false)) else (some false)) else (some false)) else (some false)) else (some false)))) else (some false))) else (some false)))))))))
def signatorylaw10_sane.f (k : Nat)  : Option (Bool) := (group_Pow.f 4 2).bind fun bt114 => ((group_Pow.f 4 1073741789).bind fun bt116 => ((group_Pow.f 4 (-1)).bind fun bt118 => ((group_Pow.f 0 1).bind fun bt120 => ((group_Mul.f 4 4).bind fun bt122 => ((group_Mul.f 4 2).bind fun bt124 => ((group_Element.f k 2).bind fun bt126 => ((group_Element.f k 0).bind fun bt128 => ((group_Element.f k 1073741790).bind fun bt130 => ((group_Number.f 2147483577).bind fun bt132 => ((group_Number.f 2).bind fun bt134 => (if bt114.2 = 0 then (if bt116.2 = 0 then (if bt118.2 = 0 then (if bt120.2 = 100 then (if bt122.2 = 0 then (if bt124.2 = 100 then (if bt126.2 = 0 then (if bt128.2 = 1 then (if bt130.2 = 1 then (if bt132.2 = 0 then (signatorylaw10_sane.j0 k bt114.1 bt116.1 bt118.1 bt122.1 bt126.1 bt132.1 (bt134.2 != 100)) else (signatorylaw10_sane.j0 k bt114.1 bt116.1 bt118.1 bt122.1 bt126.1 bt132.1 true)) else (signatorylaw10_sane.j0 k bt114.1 bt116.1 bt118.1 bt122.1 bt126.1 bt132.1 true)) else (signatorylaw10_sane.j0 k bt114.1 bt116.1 bt118.1 bt122.1 bt126.1 bt132.1 true)) else (signatorylaw10_sane.j0 k bt114.1 bt116.1 bt118.1 bt122.1 bt126.1 bt132.1 true)) else (signatorylaw10_sane.j0 k bt114.1 bt116.1 bt118.1 bt122.1 bt126.1 bt132.1 true)) else (signatorylaw10_sane.j0 k bt114.1 bt116.1 bt118.1 bt122.1 bt126.1 bt132.1 true)) else (signatorylaw10_sane.j0 k bt114.1 bt116.1 bt118.1 bt122.1 bt126.1 bt132.1 true)) else (signatorylaw10_sane.j0 k bt114.1 bt116.1 bt118.1 bt122.1 bt126.1 bt132.1 true)) else (signatorylaw10_sane.j0 k bt114.1 bt116.1 bt118.1 bt122.1 bt126.1 bt132.1 true)) else (signatorylaw10_sane.j0 k bt114.1 bt116.1 bt118.1 bt122.1 bt126.1 bt132.1 true))))))))))))
theorem signatorylaw10_sane.mono_l : ∀ k, (∀ y0 y1 y2 y3 y4 y5 y6, LeO (signatorylaw10_sane.j0 k y0 y1 y2 y3 y4 y5 y6) (signatorylaw10_sane.j0 (k + 1) y0 y1 y2 y3 y4 y5 y6))
  | 0 => fun _ _ _ _ _ _ _ r h => by simp [signatorylaw10_sane.j0] at h
  | k + 1 => by
    have ih0 := signatorylaw10_sane.mono_l k
    · intro y0 y1 y2 y3 y4 y5 y6
      unfold signatorylaw10_sane.j0
      repeat' first
      | (with_reducible exact ih0 _ _ _ _ _ _ _)
      | (with_reducible exact group_Element.mono _ _)
      | (with_reducible exact LeO.refl _)
      | (with_reducible exact LeO.none _)
      | (with_reducible refine LeO.ite ?_ ?_)
      | (with_reducible refine LeO.bind ?_ (fun _ => ?_))
      | exact ih0 _ _ _ _ _ _ _
      | exact group_Element.mono _ _
      | exact LeO.none _
      | refine LeO.ite ?_ ?_
      | refine LeO.bind ?_ (fun _ => ?_)
theorem signatorylaw10_sane.mono : ∀ k, LeO (signatorylaw10_sane.f k ) (signatorylaw10_sane.f (k + 1) ) := by
  intro  k
  have ih0 := signatorylaw10_sane.mono_l k
  unfold signatorylaw10_sane.f
  repeat' first
      | (with_reducible exact ih0 _ _ _ _ _ _ _)
      | (with_reducible exact group_Element.mono _ _)
      | (with_reducible exact LeO.refl _)
      | (with_reducible exact LeO.none _)
      | (with_reducible refine LeO.ite ?_ ?_)
      | (with_reducible refine LeO.bind ?_ (fun _ => ?_))
      | exact ih0 _ _ _ _ _ _ _
      | exact group_Element.mono _ _
      | exact LeO.none _
      | refine LeO.ite ?_ ?_
      | refine LeO.bind ?_ (fun _ => ?_)
set_option maxHeartbeats 8000000 in
set_option maxRecDepth 100000 in
theorem signatorylaw10_sane.calls (k : Nat)  (r : Bool) (w : World) (h : signatorylaw10_sane.f k  = some r) :
    Calls Try.prog 15 #[] w fun e w' => e = .returned (.bool r) ∧ Below w.heap.size w w' := by
  have HB := Aside0.mk (Below.refl w.heap.size w)
  have H : ((group_Pow.f 4 2).bind fun bt114 => ((group_Pow.f 4 1073741789).bind fun bt116 => ((group_Pow.f 4 (-1)).bind fun bt118 => ((group_Pow.f 0 1).bind fun bt120 => ((group_Mul.f 4 4).bind fun bt122 => ((group_Mul.f 4 2).bind fun bt124 => ((group_Element.f k 2).bind fun bt126 => ((group_Element.f k 0).bind fun bt128 => ((group_Element.f k 1073741790).bind fun bt130 => ((group_Number.f 2147483577).bind fun bt132 => ((group_Number.f 2).bind fun bt134 => (if bt114.2 = 0 then (if bt116.2 = 0 then (if bt118.2 = 0 then (if bt120.2 = 100 then (if bt122.2 = 0 then (if bt124.2 = 100 then (if bt126.2 = 0 then (if bt128.2 = 1 then (if bt130.2 = 1 then (if bt132.2 = 0 then (signatorylaw10_sane.j0 k bt114.1 bt116.1 bt118.1 bt122.1 bt126.1 bt132.1 (bt134.2 != 100)) else (signatorylaw10_sane.j0 k bt114.1 bt116.1 bt118.1 bt122.1 bt126.1 bt132.1 true)) else (signatorylaw10_sane.j0 k bt114.1 bt116.1 bt118.1 bt122.1 bt126.1 bt132.1 true)) else (signatorylaw10_sane.j0 k bt114.1 bt116.1 bt118.1 bt122.1 bt126.1 bt132.1 true)) else (signatorylaw10_sane.j0 k bt114.1 bt116.1 bt118.1 bt122.1 bt126.1 bt132.1 true)) else (signatorylaw10_sane.j0 k bt114.1 bt116.1 bt118.1 bt122.1 bt126.1 bt132.1 true)) else (signatorylaw10_sane.j0 k bt114.1 bt116.1 bt118.1 bt122.1 bt126.1 bt132.1 true)) else (signatorylaw10_sane.j0 k bt114.1 bt116.1 bt118.1 bt122.1 bt126.1 bt132.1 true)) else (signatorylaw10_sane.j0 k bt114.1 bt116.1 bt118.1 bt122.1 bt126.1 bt132.1 true)) else (signatorylaw10_sane.j0 k bt114.1 bt116.1 bt118.1 bt122.1 bt126.1 bt132.1 true)) else (signatorylaw10_sane.j0 k bt114.1 bt116.1 bt118.1 bt122.1 bt126.1 bt132.1 true))))))))))))) = some r := h
  clear h
  replace H := Option.bind_eq_some_iff.mp H
  obtain ⟨⟨t114, t115⟩, A10, H⟩ := H
  replace H : ((group_Pow.f 4 1073741789).bind fun bt116 => ((group_Pow.f 4 (-1)).bind fun bt118 => ((group_Pow.f 0 1).bind fun bt120 => ((group_Mul.f 4 4).bind fun bt122 => ((group_Mul.f 4 2).bind fun bt124 => ((group_Element.f k 2).bind fun bt126 => ((group_Element.f k 0).bind fun bt128 => ((group_Element.f k 1073741790).bind fun bt130 => ((group_Number.f 2147483577).bind fun bt132 => ((group_Number.f 2).bind fun bt134 => (if t115 = 0 then (if bt116.2 = 0 then (if bt118.2 = 0 then (if bt120.2 = 100 then (if bt122.2 = 0 then (if bt124.2 = 100 then (if bt126.2 = 0 then (if bt128.2 = 1 then (if bt130.2 = 1 then (if bt132.2 = 0 then (signatorylaw10_sane.j0 k t114 bt116.1 bt118.1 bt122.1 bt126.1 bt132.1 (bt134.2 != 100)) else (signatorylaw10_sane.j0 k t114 bt116.1 bt118.1 bt122.1 bt126.1 bt132.1 true)) else (signatorylaw10_sane.j0 k t114 bt116.1 bt118.1 bt122.1 bt126.1 bt132.1 true)) else (signatorylaw10_sane.j0 k t114 bt116.1 bt118.1 bt122.1 bt126.1 bt132.1 true)) else (signatorylaw10_sane.j0 k t114 bt116.1 bt118.1 bt122.1 bt126.1 bt132.1 true)) else (signatorylaw10_sane.j0 k t114 bt116.1 bt118.1 bt122.1 bt126.1 bt132.1 true)) else (signatorylaw10_sane.j0 k t114 bt116.1 bt118.1 bt122.1 bt126.1 bt132.1 true)) else (signatorylaw10_sane.j0 k t114 bt116.1 bt118.1 bt122.1 bt126.1 bt132.1 true)) else (signatorylaw10_sane.j0 k t114 bt116.1 bt118.1 bt122.1 bt126.1 bt132.1 true)) else (signatorylaw10_sane.j0 k t114 bt116.1 bt118.1 bt122.1 bt126.1 bt132.1 true)) else (signatorylaw10_sane.j0 k t114 bt116.1 bt118.1 bt122.1 bt126.1 bt132.1 true)))))))))))) = some r := H
  have A1 := Aside0.mk A10
  clear A10
  replace H := Option.bind_eq_some_iff.mp H
  obtain ⟨⟨t116, t117⟩, A20, H⟩ := H
  replace H : ((group_Pow.f 4 (-1)).bind fun bt118 => ((group_Pow.f 0 1).bind fun bt120 => ((group_Mul.f 4 4).bind fun bt122 => ((group_Mul.f 4 2).bind fun bt124 => ((group_Element.f k 2).bind fun bt126 => ((group_Element.f k 0).bind fun bt128 => ((group_Element.f k 1073741790).bind fun bt130 => ((group_Number.f 2147483577).bind fun bt132 => ((group_Number.f 2).bind fun bt134 => (if t115 = 0 then (if t117 = 0 then (if bt118.2 = 0 then (if bt120.2 = 100 then (if bt122.2 = 0 then (if bt124.2 = 100 then (if bt126.2 = 0 then (if bt128.2 = 1 then (if bt130.2 = 1 then (if bt132.2 = 0 then (signatorylaw10_sane.j0 k t114 t116 bt118.1 bt122.1 bt126.1 bt132.1 (bt134.2 != 100)) else (signatorylaw10_sane.j0 k t114 t116 bt118.1 bt122.1 bt126.1 bt132.1 true)) else (signatorylaw10_sane.j0 k t114 t116 bt118.1 bt122.1 bt126.1 bt132.1 true)) else (signatorylaw10_sane.j0 k t114 t116 bt118.1 bt122.1 bt126.1 bt132.1 true)) else (signatorylaw10_sane.j0 k t114 t116 bt118.1 bt122.1 bt126.1 bt132.1 true)) else (signatorylaw10_sane.j0 k t114 t116 bt118.1 bt122.1 bt126.1 bt132.1 true)) else (signatorylaw10_sane.j0 k t114 t116 bt118.1 bt122.1 bt126.1 bt132.1 true)) else (signatorylaw10_sane.j0 k t114 t116 bt118.1 bt122.1 bt126.1 bt132.1 true)) else (signatorylaw10_sane.j0 k t114 t116 bt118.1 bt122.1 bt126.1 bt132.1 true)) else (signatorylaw10_sane.j0 k t114 t116 bt118.1 bt122.1 bt126.1 bt132.1 true)) else (signatorylaw10_sane.j0 k t114 t116 bt118.1 bt122.1 bt126.1 bt132.1 true))))))))))) = some r := H
  have A2 := Aside0.mk A20
  clear A20
  replace H := Option.bind_eq_some_iff.mp H
  obtain ⟨⟨t118, t119⟩, A30, H⟩ := H
  replace H : ((group_Pow.f 0 1).bind fun bt120 => ((group_Mul.f 4 4).bind fun bt122 => ((group_Mul.f 4 2).bind fun bt124 => ((group_Element.f k 2).bind fun bt126 => ((group_Element.f k 0).bind fun bt128 => ((group_Element.f k 1073741790).bind fun bt130 => ((group_Number.f 2147483577).bind fun bt132 => ((group_Number.f 2).bind fun bt134 => (if t115 = 0 then (if t117 = 0 then (if t119 = 0 then (if bt120.2 = 100 then (if bt122.2 = 0 then (if bt124.2 = 100 then (if bt126.2 = 0 then (if bt128.2 = 1 then (if bt130.2 = 1 then (if bt132.2 = 0 then (signatorylaw10_sane.j0 k t114 t116 t118 bt122.1 bt126.1 bt132.1 (bt134.2 != 100)) else (signatorylaw10_sane.j0 k t114 t116 t118 bt122.1 bt126.1 bt132.1 true)) else (signatorylaw10_sane.j0 k t114 t116 t118 bt122.1 bt126.1 bt132.1 true)) else (signatorylaw10_sane.j0 k t114 t116 t118 bt122.1 bt126.1 bt132.1 true)) else (signatorylaw10_sane.j0 k t114 t116 t118 bt122.1 bt126.1 bt132.1 true)) else (signatorylaw10_sane.j0 k t114 t116 t118 bt122.1 bt126.1 bt132.1 true)) else (signatorylaw10_sane.j0 k t114 t116 t118 bt122.1 bt126.1 bt132.1 true)) else (signatorylaw10_sane.j0 k t114 t116 t118 bt122.1 bt126.1 bt132.1 true)) else (signatorylaw10_sane.j0 k t114 t116 t118 bt122.1 bt126.1 bt132.1 true)) else (signatorylaw10_sane.j0 k t114 t116 t118 bt122.1 bt126.1 bt132.1 true)) else (signatorylaw10_sane.j0 k t114 t116 t118 bt122.1 bt126.1 bt132.1 true)))))))))) = some r := H
  have A3 := Aside0.mk A30
  clear A30
  replace H := Option.bind_eq_some_iff.mp H
  obtain ⟨⟨t120, t121⟩, A40, H⟩ := H
  replace H : ((group_Mul.f 4 4).bind fun bt122 => ((group_Mul.f 4 2).bind fun bt124 => ((group_Element.f k 2).bind fun bt126 => ((group_Element.f k 0).bind fun bt128 => ((group_Element.f k 1073741790).bind fun bt130 => ((group_Number.f 2147483577).bind fun bt132 => ((group_Number.f 2).bind fun bt134 => (if t115 = 0 then (if t117 = 0 then (if t119 = 0 then (if t121 = 100 then (if bt122.2 = 0 then (if bt124.2 = 100 then (if bt126.2 = 0 then (if bt128.2 = 1 then (if bt130.2 = 1 then (if bt132.2 = 0 then (signatorylaw10_sane.j0 k t114 t116 t118 bt122.1 bt126.1 bt132.1 (bt134.2 != 100)) else (signatorylaw10_sane.j0 k t114 t116 t118 bt122.1 bt126.1 bt132.1 true)) else (signatorylaw10_sane.j0 k t114 t116 t118 bt122.1 bt126.1 bt132.1 true)) else (signatorylaw10_sane.j0 k t114 t116 t118 bt122.1 bt126.1 bt132.1 true)) else (signatorylaw10_sane.j0 k t114 t116 t118 bt122.1 bt126.1 bt132.1 true)) else (signatorylaw10_sane.j0 k t114 t116 t118 bt122.1 bt126.1 bt132.1 true)) else (signatorylaw10_sane.j0 k t114 t116 t118 bt122.1 bt126.1 bt132.1 true)) else (signatorylaw10_sane.j0 k t114 t116 t118 bt122.1 bt126.1 bt132.1 true)) else (signatorylaw10_sane.j0 k t114 t116 t118 bt122.1 bt126.1 bt132.1 true)) else (signatorylaw10_sane.j0 k t114 t116 t118 bt122.1 bt126.1 bt132.1 true)) else (signatorylaw10_sane.j0 k t114 t116 t118 bt122.1 bt126.1 bt132.1 true))))))))) = some r := H
  have A4 := Aside0.mk A40
  clear A40
  replace H := Option.bind_eq_some_iff.mp H
  obtain ⟨⟨t122, t123⟩, A50, H⟩ := H
  replace H : ((group_Mul.f 4 2).bind fun bt124 => ((group_Element.f k 2).bind fun bt126 => ((group_Element.f k 0).bind fun bt128 => ((group_Element.f k 1073741790).bind fun bt130 => ((group_Number.f 2147483577).bind fun bt132 => ((group_Number.f 2).bind fun bt134 => (if t115 = 0 then (if t117 = 0 then (if t119 = 0 then (if t121 = 100 then (if t123 = 0 then (if bt124.2 = 100 then (if bt126.2 = 0 then (if bt128.2 = 1 then (if bt130.2 = 1 then (if bt132.2 = 0 then (signatorylaw10_sane.j0 k t114 t116 t118 t122 bt126.1 bt132.1 (bt134.2 != 100)) else (signatorylaw10_sane.j0 k t114 t116 t118 t122 bt126.1 bt132.1 true)) else (signatorylaw10_sane.j0 k t114 t116 t118 t122 bt126.1 bt132.1 true)) else (signatorylaw10_sane.j0 k t114 t116 t118 t122 bt126.1 bt132.1 true)) else (signatorylaw10_sane.j0 k t114 t116 t118 t122 bt126.1 bt132.1 true)) else (signatorylaw10_sane.j0 k t114 t116 t118 t122 bt126.1 bt132.1 true)) else (signatorylaw10_sane.j0 k t114 t116 t118 t122 bt126.1 bt132.1 true)) else (signatorylaw10_sane.j0 k t114 t116 t118 t122 bt126.1 bt132.1 true)) else (signatorylaw10_sane.j0 k t114 t116 t118 t122 bt126.1 bt132.1 true)) else (signatorylaw10_sane.j0 k t114 t116 t118 t122 bt126.1 bt132.1 true)) else (signatorylaw10_sane.j0 k t114 t116 t118 t122 bt126.1 bt132.1 true)))))))) = some r := H
  have A5 := Aside0.mk A50
  clear A50
  replace H := Option.bind_eq_some_iff.mp H
  obtain ⟨⟨t124, t125⟩, A60, H⟩ := H
  replace H : ((group_Element.f k 2).bind fun bt126 => ((group_Element.f k 0).bind fun bt128 => ((group_Element.f k 1073741790).bind fun bt130 => ((group_Number.f 2147483577).bind fun bt132 => ((group_Number.f 2).bind fun bt134 => (if t115 = 0 then (if t117 = 0 then (if t119 = 0 then (if t121 = 100 then (if t123 = 0 then (if t125 = 100 then (if bt126.2 = 0 then (if bt128.2 = 1 then (if bt130.2 = 1 then (if bt132.2 = 0 then (signatorylaw10_sane.j0 k t114 t116 t118 t122 bt126.1 bt132.1 (bt134.2 != 100)) else (signatorylaw10_sane.j0 k t114 t116 t118 t122 bt126.1 bt132.1 true)) else (signatorylaw10_sane.j0 k t114 t116 t118 t122 bt126.1 bt132.1 true)) else (signatorylaw10_sane.j0 k t114 t116 t118 t122 bt126.1 bt132.1 true)) else (signatorylaw10_sane.j0 k t114 t116 t118 t122 bt126.1 bt132.1 true)) else (signatorylaw10_sane.j0 k t114 t116 t118 t122 bt126.1 bt132.1 true)) else (signatorylaw10_sane.j0 k t114 t116 t118 t122 bt126.1 bt132.1 true)) else (signatorylaw10_sane.j0 k t114 t116 t118 t122 bt126.1 bt132.1 true)) else (signatorylaw10_sane.j0 k t114 t116 t118 t122 bt126.1 bt132.1 true)) else (signatorylaw10_sane.j0 k t114 t116 t118 t122 bt126.1 bt132.1 true)) else (signatorylaw10_sane.j0 k t114 t116 t118 t122 bt126.1 bt132.1 true))))))) = some r := H
  have A6 := Aside0.mk A60
  clear A60
  replace H := Option.bind_eq_some_iff.mp H
  obtain ⟨⟨t126, t127⟩, A70, H⟩ := H
  replace H : ((group_Element.f k 0).bind fun bt128 => ((group_Element.f k 1073741790).bind fun bt130 => ((group_Number.f 2147483577).bind fun bt132 => ((group_Number.f 2).bind fun bt134 => (if t115 = 0 then (if t117 = 0 then (if t119 = 0 then (if t121 = 100 then (if t123 = 0 then (if t125 = 100 then (if t127 = 0 then (if bt128.2 = 1 then (if bt130.2 = 1 then (if bt132.2 = 0 then (signatorylaw10_sane.j0 k t114 t116 t118 t122 t126 bt132.1 (bt134.2 != 100)) else (signatorylaw10_sane.j0 k t114 t116 t118 t122 t126 bt132.1 true)) else (signatorylaw10_sane.j0 k t114 t116 t118 t122 t126 bt132.1 true)) else (signatorylaw10_sane.j0 k t114 t116 t118 t122 t126 bt132.1 true)) else (signatorylaw10_sane.j0 k t114 t116 t118 t122 t126 bt132.1 true)) else (signatorylaw10_sane.j0 k t114 t116 t118 t122 t126 bt132.1 true)) else (signatorylaw10_sane.j0 k t114 t116 t118 t122 t126 bt132.1 true)) else (signatorylaw10_sane.j0 k t114 t116 t118 t122 t126 bt132.1 true)) else (signatorylaw10_sane.j0 k t114 t116 t118 t122 t126 bt132.1 true)) else (signatorylaw10_sane.j0 k t114 t116 t118 t122 t126 bt132.1 true)) else (signatorylaw10_sane.j0 k t114 t116 t118 t122 t126 bt132.1 true)))))) = some r := H
  have A7 := Aside0.mk A70
  clear A70
  replace H := Option.bind_eq_some_iff.mp H
  obtain ⟨⟨t128, t129⟩, A80, H⟩ := H
  replace H : ((group_Element.f k 1073741790).bind fun bt130 => ((group_Number.f 2147483577).bind fun bt132 => ((group_Number.f 2).bind fun bt134 => (if t115 = 0 then (if t117 = 0 then (if t119 = 0 then (if t121 = 100 then (if t123 = 0 then (if t125 = 100 then (if t127 = 0 then (if t129 = 1 then (if bt130.2 = 1 then (if bt132.2 = 0 then (signatorylaw10_sane.j0 k t114 t116 t118 t122 t126 bt132.1 (bt134.2 != 100)) else (signatorylaw10_sane.j0 k t114 t116 t118 t122 t126 bt132.1 true)) else (signatorylaw10_sane.j0 k t114 t116 t118 t122 t126 bt132.1 true)) else (signatorylaw10_sane.j0 k t114 t116 t118 t122 t126 bt132.1 true)) else (signatorylaw10_sane.j0 k t114 t116 t118 t122 t126 bt132.1 true)) else (signatorylaw10_sane.j0 k t114 t116 t118 t122 t126 bt132.1 true)) else (signatorylaw10_sane.j0 k t114 t116 t118 t122 t126 bt132.1 true)) else (signatorylaw10_sane.j0 k t114 t116 t118 t122 t126 bt132.1 true)) else (signatorylaw10_sane.j0 k t114 t116 t118 t122 t126 bt132.1 true)) else (signatorylaw10_sane.j0 k t114 t116 t118 t122 t126 bt132.1 true)) else (signatorylaw10_sane.j0 k t114 t116 t118 t122 t126 bt132.1 true))))) = some r := H
  have A8 := Aside0.mk A80
  clear A80
  replace H := Option.bind_eq_some_iff.mp H
  obtain ⟨⟨t130, t131⟩, A90, H⟩ := H
  replace H : ((group_Number.f 2147483577).bind fun bt132 => ((group_Number.f 2).bind fun bt134 => (if t115 = 0 then (if t117 = 0 then (if t119 = 0 then (if t121 = 100 then (if t123 = 0 then (if t125 = 100 then (if t127 = 0 then (if t129 = 1 then (if t131 = 1 then (if bt132.2 = 0 then (signatorylaw10_sane.j0 k t114 t116 t118 t122 t126 bt132.1 (bt134.2 != 100)) else (signatorylaw10_sane.j0 k t114 t116 t118 t122 t126 bt132.1 true)) else (signatorylaw10_sane.j0 k t114 t116 t118 t122 t126 bt132.1 true)) else (signatorylaw10_sane.j0 k t114 t116 t118 t122 t126 bt132.1 true)) else (signatorylaw10_sane.j0 k t114 t116 t118 t122 t126 bt132.1 true)) else (signatorylaw10_sane.j0 k t114 t116 t118 t122 t126 bt132.1 true)) else (signatorylaw10_sane.j0 k t114 t116 t118 t122 t126 bt132.1 true)) else (signatorylaw10_sane.j0 k t114 t116 t118 t122 t126 bt132.1 true)) else (signatorylaw10_sane.j0 k t114 t116 t118 t122 t126 bt132.1 true)) else (signatorylaw10_sane.j0 k t114 t116 t118 t122 t126 bt132.1 true)) else (signatorylaw10_sane.j0 k t114 t116 t118 t122 t126 bt132.1 true)))) = some r := H
  have A9 := Aside0.mk A90
  clear A90
  replace H := Option.bind_eq_some_iff.mp H
  obtain ⟨⟨t132, t133⟩, A100, H⟩ := H
  replace H : ((group_Number.f 2).bind fun bt134 => (if t115 = 0 then (if t117 = 0 then (if t119 = 0 then (if t121 = 100 then (if t123 = 0 then (if t125 = 100 then (if t127 = 0 then (if t129 = 1 then (if t131 = 1 then (if t133 = 0 then (signatorylaw10_sane.j0 k t114 t116 t118 t122 t126 t132 (bt134.2 != 100)) else (signatorylaw10_sane.j0 k t114 t116 t118 t122 t126 t132 true)) else (signatorylaw10_sane.j0 k t114 t116 t118 t122 t126 t132 true)) else (signatorylaw10_sane.j0 k t114 t116 t118 t122 t126 t132 true)) else (signatorylaw10_sane.j0 k t114 t116 t118 t122 t126 t132 true)) else (signatorylaw10_sane.j0 k t114 t116 t118 t122 t126 t132 true)) else (signatorylaw10_sane.j0 k t114 t116 t118 t122 t126 t132 true)) else (signatorylaw10_sane.j0 k t114 t116 t118 t122 t126 t132 true)) else (signatorylaw10_sane.j0 k t114 t116 t118 t122 t126 t132 true)) else (signatorylaw10_sane.j0 k t114 t116 t118 t122 t126 t132 true)) else (signatorylaw10_sane.j0 k t114 t116 t118 t122 t126 t132 true))) = some r := H
  have A10 := Aside0.mk A100
  clear A100
  replace H := Option.bind_eq_some_iff.mp H
  obtain ⟨⟨t134, t135⟩, A110, H⟩ := H
  replace H : (if t115 = 0 then (if t117 = 0 then (if t119 = 0 then (if t121 = 100 then (if t123 = 0 then (if t125 = 100 then (if t127 = 0 then (if t129 = 1 then (if t131 = 1 then (if t133 = 0 then (signatorylaw10_sane.j0 k t114 t116 t118 t122 t126 t132 (t135 != 100)) else (signatorylaw10_sane.j0 k t114 t116 t118 t122 t126 t132 true)) else (signatorylaw10_sane.j0 k t114 t116 t118 t122 t126 t132 true)) else (signatorylaw10_sane.j0 k t114 t116 t118 t122 t126 t132 true)) else (signatorylaw10_sane.j0 k t114 t116 t118 t122 t126 t132 true)) else (signatorylaw10_sane.j0 k t114 t116 t118 t122 t126 t132 true)) else (signatorylaw10_sane.j0 k t114 t116 t118 t122 t126 t132 true)) else (signatorylaw10_sane.j0 k t114 t116 t118 t122 t126 t132 true)) else (signatorylaw10_sane.j0 k t114 t116 t118 t122 t126 t132 true)) else (signatorylaw10_sane.j0 k t114 t116 t118 t122 t126 t132 true)) else (signatorylaw10_sane.j0 k t114 t116 t118 t122 t126 t132 true)) = some r := H
  have A11 := Aside0.mk A110
  clear A110
  have HC12 := Aside0.mk H
  clear H
  go_enter Try.func15, Try.ntmps15
  go_upto_region 12 with (first | ((with_reducible refine gate_callee (f := 18) rfl ?_); refine goesL_ (some 24) rfl rfl Try.func18 (by kernel_rfl) rfl #[.int .i64 4, .int .i64 2] rfl (by (try simp only [List.map_toArray, List.map_cons, List.map_nil]); first | done | rfl | (simp only [List.length_drop, List.length_take]; rfl)) ?_; (with_reducible refine (group_Pow.calls 4 2 t114 t115 _ A1.out).mono ?_); rintro e w13 ⟨rfl, hb⟩; refine ⟨_, rfl, ?_⟩; have n0_ := Aside0.mk (below_step (by repeat (first | (with_reducible first | exact HB.out | apply below_alloc | apply pw_below_drewN | apply below_drew1) | exact HB.out)) hb); clear HB; have HB := n0_; clear n0_; (try clear hb); (try clear hb2); (try clear hk); (try clear hi)) | ((with_reducible refine gate_callee (f := 18) rfl ?_); refine goesL_ (some 28) rfl rfl Try.func18 (by kernel_rfl) rfl #[.int .i64 4, .int .i64 1073741789] rfl (by (try simp only [List.map_toArray, List.map_cons, List.map_nil]); first | done | rfl | (simp only [List.length_drop, List.length_take]; rfl)) ?_; (with_reducible refine (group_Pow.calls 4 1073741789 t116 t117 _ A2.out).mono ?_); rintro e w14 ⟨rfl, hb⟩; refine ⟨_, rfl, ?_⟩; have n0_ := Aside0.mk (below_step (by repeat (first | (with_reducible first | exact HB.out | apply below_alloc | apply pw_below_drewN | apply below_drew1) | exact HB.out)) hb); clear HB; have HB := n0_; clear n0_; (try clear hb); (try clear hb2); (try clear hk); (try clear hi)) | ((with_reducible refine gate_callee (f := 18) rfl ?_); refine goesL_ (some 32) rfl rfl Try.func18 (by kernel_rfl) rfl #[.int .i64 4, .int .i64 (-1)] rfl (by (try simp only [List.map_toArray, List.map_cons, List.map_nil]); first | done | rfl | (simp only [List.length_drop, List.length_take]; rfl)) ?_; (with_reducible refine (group_Pow.calls 4 (-1) t118 t119 _ A3.out).mono ?_); rintro e w15 ⟨rfl, hb⟩; refine ⟨_, rfl, ?_⟩; have n0_ := Aside0.mk (below_step (by repeat (first | (with_reducible first | exact HB.out | apply below_alloc | apply pw_below_drewN | apply below_drew1) | exact HB.out)) hb); clear HB; have HB := n0_; clear n0_; (try clear hb); (try clear hb2); (try clear hk); (try clear hi)) | ((with_reducible refine gate_callee (f := 18) rfl ?_); refine goesL_ (some 36) rfl rfl Try.func18 (by kernel_rfl) rfl #[.int .i64 0, .int .i64 1] rfl (by (try simp only [List.map_toArray, List.map_cons, List.map_nil]); first | done | rfl | (simp only [List.length_drop, List.length_take]; rfl)) ?_; (with_reducible refine (group_Pow.calls 0 1 t120 t121 _ A4.out).mono ?_); rintro e w16 ⟨rfl, hb⟩; refine ⟨_, rfl, ?_⟩; have n0_ := Aside0.mk (below_step (by repeat (first | (with_reducible first | exact HB.out | apply below_alloc | apply pw_below_drewN | apply below_drew1) | exact HB.out)) hb); clear HB; have HB := n0_; clear n0_; (try clear hb); (try clear hb2); (try clear hk); (try clear hi)) | ((with_reducible refine gate_callee (f := 16) rfl ?_); refine goesL_ (some 40) rfl rfl Try.func16 (by kernel_rfl) rfl #[.int .i64 4, .int .i64 4] rfl (by (try simp only [List.map_toArray, List.map_cons, List.map_nil]); first | done | rfl | (simp only [List.length_drop, List.length_take]; rfl)) ?_; (with_reducible refine (group_Mul.calls 4 4 t122 t123 _ A5.out).mono ?_); rintro e w' ⟨rfl, ⟨nd, rfl⟩⟩; refine ⟨_, rfl, ?_⟩) | ((with_reducible refine gate_callee (f := 16) rfl ?_); refine goesL_ (some 44) rfl rfl Try.func16 (by kernel_rfl) rfl #[.int .i64 4, .int .i64 2] rfl (by (try simp only [List.map_toArray, List.map_cons, List.map_nil]); first | done | rfl | (simp only [List.length_drop, List.length_take]; rfl)) ?_; (with_reducible refine (group_Mul.calls 4 2 t124 t125 _ A6.out).mono ?_); rintro e w' ⟨rfl, ⟨nd, rfl⟩⟩; refine ⟨_, rfl, ?_⟩) | ((with_reducible refine gate_callee (f := 25) rfl ?_); refine goesL_ (some 48) rfl rfl Try.func25 (by kernel_rfl) rfl #[.int .i64 2] rfl (by (try simp only [List.map_toArray, List.map_cons, List.map_nil]); first | done | rfl | (simp only [List.length_drop, List.length_take]; rfl)) ?_; (with_reducible refine (group_Element.calls k 2 t126 t127 _ A7.out).mono ?_); rintro e w' ⟨rfl, ⟨nd, rfl⟩⟩; refine ⟨_, rfl, ?_⟩) | ((with_reducible refine gate_callee (f := 25) rfl ?_); refine goesL_ (some 52) rfl rfl Try.func25 (by kernel_rfl) rfl #[.int .i64 0] rfl (by (try simp only [List.map_toArray, List.map_cons, List.map_nil]); first | done | rfl | (simp only [List.length_drop, List.length_take]; rfl)) ?_; (with_reducible refine (group_Element.calls k 0 t128 t129 _ A8.out).mono ?_); rintro e w' ⟨rfl, ⟨nd, rfl⟩⟩; refine ⟨_, rfl, ?_⟩) | ((with_reducible refine gate_callee (f := 25) rfl ?_); refine goesL_ (some 56) rfl rfl Try.func25 (by kernel_rfl) rfl #[.int .i64 1073741790] rfl (by (try simp only [List.map_toArray, List.map_cons, List.map_nil]); first | done | rfl | (simp only [List.length_drop, List.length_take]; rfl)) ?_; (with_reducible refine (group_Element.calls k 1073741790 t130 t131 _ A9.out).mono ?_); rintro e w' ⟨rfl, ⟨nd, rfl⟩⟩; refine ⟨_, rfl, ?_⟩) | ((with_reducible refine gate_callee (f := 26) rfl ?_); refine goesL_ (some 60) rfl rfl Try.func26 (by kernel_rfl) rfl #[.int .i64 2147483577] rfl (by (try simp only [List.map_toArray, List.map_cons, List.map_nil]); first | done | rfl | (simp only [List.length_drop, List.length_take]; rfl)) ?_; (with_reducible refine (group_Number.calls 2147483577 t132 t133 _ A10.out).mono ?_); rintro e w17 ⟨rfl, hb⟩; refine ⟨_, rfl, ?_⟩; have n0_ := Aside0.mk (below_step (by repeat (first | (with_reducible first | exact HB.out | apply below_alloc | apply pw_below_drewN | apply below_drew1) | exact HB.out)) hb); clear HB; have HB := n0_; clear n0_; (try clear hb); (try clear hb2); (try clear hk); (try clear hi)) | ((with_reducible refine gate_callee (f := 26) rfl ?_); refine goesL_ (some 64) rfl rfl Try.func26 (by kernel_rfl) rfl #[.int .i64 2] rfl (by (try simp only [List.map_toArray, List.map_cons, List.map_nil]); first | done | rfl | (simp only [List.length_drop, List.length_take]; rfl)) ?_; (with_reducible refine (group_Number.calls 2 t134 t135 _ A11.out).mono ?_); rintro e w18 ⟨rfl, hb⟩; refine ⟨_, rfl, ?_⟩; have n0_ := Aside0.mk (below_step (by repeat (first | (with_reducible first | exact HB.out | apply below_alloc | apply pw_below_drewN | apply below_drew1) | exact HB.out)) hb); clear HB; have HB := n0_; clear n0_; (try clear hb); (try clear hb2); (try clear hk); (try clear hi)))
  (try simp only [Act.put, List.setIfInBounds_toArray, List.set_cons_zero, List.set_cons_succ])
  go_cut [108] (fun v108 wc => ∃ (kq : Nat) (x108_11 : Bool), v108 = .bool x108_11 ∧ Aside0 (signatorylaw10_sane.j0 kq t114 t116 t118 t122 t126 t132 x108_11 = some r) ∧ Aside0 (kq ≤ k) ∧ Aside0 (Below w.heap.size w wc))
  case first =>
    have H := HC12.out
    clear HC12
    by_cases c19 : t115 = 0
    · rw [if_pos c19] at H
      have c19b0 : (t115 == 0) = true := beq_iff_eq.mpr c19
      have c19b1 : (t115 != 0) = false := bne_eq_false_iff_eq.mpr c19
      clear c19
      (first | rw [c19b0] | (simp only [i64_w, i32_w]; rw [c19b0]) | skip)
      by_cases c20 : t117 = 0
      · rw [if_pos c20] at H
        have c20b0 : (t117 == 0) = true := beq_iff_eq.mpr c20
        have c20b1 : (t117 != 0) = false := bne_eq_false_iff_eq.mpr c20
        clear c20
        by_cases c21 : t119 = 0
        · rw [if_pos c21] at H
          have c21b0 : (t119 == 0) = true := beq_iff_eq.mpr c21
          have c21b1 : (t119 != 0) = false := bne_eq_false_iff_eq.mpr c21
          clear c21
          by_cases c22 : t121 = 100
          · rw [if_pos c22] at H
            have c22b0 : (t121 == 100) = true := beq_iff_eq.mpr c22
            have c22b1 : (t121 != 100) = false := bne_eq_false_iff_eq.mpr c22
            clear c22
            by_cases c23 : t123 = 0
            · rw [if_pos c23] at H
              have c23b0 : (t123 == 0) = true := beq_iff_eq.mpr c23
              have c23b1 : (t123 != 0) = false := bne_eq_false_iff_eq.mpr c23
              clear c23
              by_cases c24 : t125 = 100
              · rw [if_pos c24] at H
                have c24b0 : (t125 == 100) = true := beq_iff_eq.mpr c24
                have c24b1 : (t125 != 100) = false := bne_eq_false_iff_eq.mpr c24
                clear c24
                by_cases c25 : t127 = 0
                · rw [if_pos c25] at H
                  have c25b0 : (t127 == 0) = true := beq_iff_eq.mpr c25
                  have c25b1 : (t127 != 0) = false := bne_eq_false_iff_eq.mpr c25
                  clear c25
                  by_cases c26 : t129 = 1
                  · rw [if_pos c26] at H
                    have c26b0 : (t129 == 1) = true := beq_iff_eq.mpr c26
                    have c26b1 : (t129 != 1) = false := bne_eq_false_iff_eq.mpr c26
                    clear c26
                    by_cases c27 : t131 = 1
                    · rw [if_pos c27] at H
                      have c27b0 : (t131 == 1) = true := beq_iff_eq.mpr c27
                      have c27b1 : (t131 != 1) = false := bne_eq_false_iff_eq.mpr c27
                      clear c27
                      by_cases c28 : t133 = 0
                      · rw [if_pos c28] at H
                        have c28b0 : (t133 == 0) = true := beq_iff_eq.mpr c28
                        have c28b1 : (t133 != 0) = false := bne_eq_false_iff_eq.mpr c28
                        clear c28
                        have H' := Aside0.mk H
                        clear H
                        go_wp2
                        go_meet
                        case rel => exact ⟨_, ((t135 != 100)), (by first | rfl | (simp; done) | (simp [*]; done)), H', ⟨by first | omega | exact Nat.le_refl _⟩, ⟨by repeat (first | (with_reducible first | exact HB.out | apply below_alloc | apply pw_below_drewN | apply below_drew1) | exact HB.out)⟩⟩
                      · rw [if_neg c28] at H
                        have c28b0 : (t133 == 0) = false := beq_eq_false_iff_ne.mpr c28
                        have c28b1 : (t133 != 0) = true := bne_iff_ne.mpr c28
                        have H' := Aside0.mk H
                        clear H
                        go_wp2
                        go_meet
                        case rel => exact ⟨_, (true), (by first | rfl | (simp; done) | (simp [*]; done)), H', ⟨by first | omega | exact Nat.le_refl _⟩, ⟨by repeat (first | (with_reducible first | exact HB.out | apply below_alloc | apply pw_below_drewN | apply below_drew1) | exact HB.out)⟩⟩
                    · rw [if_neg c27] at H
                      have c27b0 : (t131 == 1) = false := beq_eq_false_iff_ne.mpr c27
                      have c27b1 : (t131 != 1) = true := bne_iff_ne.mpr c27
                      have H' := Aside0.mk H
                      clear H
                      go_wp2
                      go_meet
                      case rel => exact ⟨_, (true), (by first | rfl | (simp; done) | (simp [*]; done)), H', ⟨by first | omega | exact Nat.le_refl _⟩, ⟨by repeat (first | (with_reducible first | exact HB.out | apply below_alloc | apply pw_below_drewN | apply below_drew1) | exact HB.out)⟩⟩
                  · rw [if_neg c26] at H
                    have c26b0 : (t129 == 1) = false := beq_eq_false_iff_ne.mpr c26
                    have c26b1 : (t129 != 1) = true := bne_iff_ne.mpr c26
                    have H' := Aside0.mk H
                    clear H
                    go_wp2
                    go_meet
                    case rel => exact ⟨_, (true), (by first | rfl | (simp; done) | (simp [*]; done)), H', ⟨by first | omega | exact Nat.le_refl _⟩, ⟨by repeat (first | (with_reducible first | exact HB.out | apply below_alloc | apply pw_below_drewN | apply below_drew1) | exact HB.out)⟩⟩
                · rw [if_neg c25] at H
                  have c25b0 : (t127 == 0) = false := beq_eq_false_iff_ne.mpr c25
                  have c25b1 : (t127 != 0) = true := bne_iff_ne.mpr c25
                  have H' := Aside0.mk H
                  clear H
                  go_wp2
                  go_meet
                  case rel => exact ⟨_, (true), (by first | rfl | (simp; done) | (simp [*]; done)), H', ⟨by first | omega | exact Nat.le_refl _⟩, ⟨by repeat (first | (with_reducible first | exact HB.out | apply below_alloc | apply pw_below_drewN | apply below_drew1) | exact HB.out)⟩⟩
              · rw [if_neg c24] at H
                have c24b0 : (t125 == 100) = false := beq_eq_false_iff_ne.mpr c24
                have c24b1 : (t125 != 100) = true := bne_iff_ne.mpr c24
                have H' := Aside0.mk H
                clear H
                go_wp2
                go_meet
                case rel => exact ⟨_, (true), (by first | rfl | (simp; done) | (simp [*]; done)), H', ⟨by first | omega | exact Nat.le_refl _⟩, ⟨by repeat (first | (with_reducible first | exact HB.out | apply below_alloc | apply pw_below_drewN | apply below_drew1) | exact HB.out)⟩⟩
            · rw [if_neg c23] at H
              have c23b0 : (t123 == 0) = false := beq_eq_false_iff_ne.mpr c23
              have c23b1 : (t123 != 0) = true := bne_iff_ne.mpr c23
              have H' := Aside0.mk H
              clear H
              go_wp2
              go_meet
              case rel => exact ⟨_, (true), (by first | rfl | (simp; done) | (simp [*]; done)), H', ⟨by first | omega | exact Nat.le_refl _⟩, ⟨by repeat (first | (with_reducible first | exact HB.out | apply below_alloc | apply pw_below_drewN | apply below_drew1) | exact HB.out)⟩⟩
          · rw [if_neg c22] at H
            have c22b0 : (t121 == 100) = false := beq_eq_false_iff_ne.mpr c22
            have c22b1 : (t121 != 100) = true := bne_iff_ne.mpr c22
            have H' := Aside0.mk H
            clear H
            go_wp2
            go_meet
            case rel => exact ⟨_, (true), (by first | rfl | (simp; done) | (simp [*]; done)), H', ⟨by first | omega | exact Nat.le_refl _⟩, ⟨by repeat (first | (with_reducible first | exact HB.out | apply below_alloc | apply pw_below_drewN | apply below_drew1) | exact HB.out)⟩⟩
        · rw [if_neg c21] at H
          have c21b0 : (t119 == 0) = false := beq_eq_false_iff_ne.mpr c21
          have c21b1 : (t119 != 0) = true := bne_iff_ne.mpr c21
          have H' := Aside0.mk H
          clear H
          go_wp2
          go_meet
          case rel => exact ⟨_, (true), (by first | rfl | (simp; done) | (simp [*]; done)), H', ⟨by first | omega | exact Nat.le_refl _⟩, ⟨by repeat (first | (with_reducible first | exact HB.out | apply below_alloc | apply pw_below_drewN | apply below_drew1) | exact HB.out)⟩⟩
      · rw [if_neg c20] at H
        have c20b0 : (t117 == 0) = false := beq_eq_false_iff_ne.mpr c20
        have c20b1 : (t117 != 0) = true := bne_iff_ne.mpr c20
        have H' := Aside0.mk H
        clear H
        go_wp2
        go_meet
        case rel => exact ⟨_, (true), (by first | rfl | (simp; done) | (simp [*]; done)), H', ⟨by first | omega | exact Nat.le_refl _⟩, ⟨by repeat (first | (with_reducible first | exact HB.out | apply below_alloc | apply pw_below_drewN | apply below_drew1) | exact HB.out)⟩⟩
    · rw [if_neg c19] at H
      have c19b0 : (t115 == 0) = false := beq_eq_false_iff_ne.mpr c19
      have c19b1 : (t115 != 0) = true := bne_iff_ne.mpr c19
      (first | rw [c19b0] | (simp only [i64_w, i32_w]; rw [c19b0]) | skip)
      have H' := Aside0.mk H
      clear H
      go_wp2
      go_meet
      case rel => exact ⟨_, (true), (by first | rfl | (simp; done) | (simp [*]; done)), H', ⟨by first | omega | exact Nat.le_refl _⟩, ⟨by repeat (first | (with_reducible first | exact HB.out | apply below_alloc | apply pw_below_drewN | apply below_drew1) | exact HB.out)⟩⟩
  case rest =>
    clear HC12
    try clear c1
    try clear c2
    try clear p2
    try clear c15
    try clear c16
    try clear c18
    try clear c19
    try clear c19b0
    try clear c19b1
    try clear c20
    try clear c20b0
    try clear c20b1
    try clear c21
    try clear c21b0
    try clear c21b1
    try clear c22
    try clear c22b0
    try clear c22b1
    try clear c23
    try clear c23b0
    try clear c23b1
    try clear c24
    try clear c24b0
    try clear c24b1
    try clear c25
    try clear c25b0
    try clear c25b1
    try clear c26
    try clear c26b0
    try clear c26b1
    try clear c27
    try clear c27b0
    try clear c27b1
    try clear c28
    try clear c28b0
    try clear c28b1
    obtain ⟨kq, x108_11, rfl, HA, HJ11, HB⟩ := hcut
    cases kq with
    | zero => exact absurd HA.out (by simp [signatorylaw10_sane.j0])
    | succ kj11 =>
      have H := HA.out
      clear HA
      simp only [signatorylaw10_sane.j0] at H
      by_cases c29 : x108_11 = true
      · subst c29
        have H1 : (some false) = some r := by rw [if_pos rfl] at H; exact H
        clear H
        have H := H1
        clear H1
        obtain rfl := Option.some.inj H
        go_wp2
        go_ret
        exact ⟨by first | rfl | (simp [errW_none, errW_some] <;> rfl) | (simp [*, errW_none, errW_some] <;> rfl), by repeat (first | (with_reducible first | exact HB.out | apply below_alloc | apply pw_below_drewN | apply below_drew1) | exact HB.out)⟩
      · replace c29 := Bool.eq_false_iff.mpr c29
        subst c29
        have H1 : ((group_Valid.f 0).bind fun t136 => (if t136 = true then (some false) else ((group_Valid.f 2147483579).bind fun t137 => (if t137 = true then (some false) else ((group_Valid.f 2).bind fun t138 => (if t138 = true then (some false) else ((group_Valid.f 1).bind fun t139 => (if t139 = true then ((group_Valid.f 4).bind fun t140 => (if t140 = true then ((group_Valid.f 2147483578).bind fun t141 => (if t141 = true then (some false) else (if t114 = 16 then (if t116 = 1 then (if t118 = 536870895 then (if t122 = 16 then (if t126 = 2147483577 then (some (t132 == 2)) else (some false)) else (some false)) else (some false)) else (some false)) else (some false)))) else (some false))) else (some false))))))))) = some r := by rw [if_neg (show ¬ (false = true) by decide)] at H; exact H
        clear H
        have H := H1
        clear H1
        replace H := Option.bind_eq_some_iff.mp H
        obtain ⟨t136, A300, H⟩ := H
        replace H : (if t136 = true then (some false) else ((group_Valid.f 2147483579).bind fun t137 => (if t137 = true then (some false) else ((group_Valid.f 2).bind fun t138 => (if t138 = true then (some false) else ((group_Valid.f 1).bind fun t139 => (if t139 = true then ((group_Valid.f 4).bind fun t140 => (if t140 = true then ((group_Valid.f 2147483578).bind fun t141 => (if t141 = true then (some false) else (if t114 = 16 then (if t116 = 1 then (if t118 = 536870895 then (if t122 = 16 then (if t126 = 2147483577 then (some (t132 == 2)) else (some false)) else (some false)) else (some false)) else (some false)) else (some false)))) else (some false))) else (some false)))))))) = some r := H
        have A30 := Aside0.mk A300
        clear A300
        by_cases c31 : t136 = true
        · subst c31
          have H1 : (some false) = some r := by rw [if_pos rfl] at H; exact H
          clear H
          have H := H1
          clear H1
          obtain rfl := Option.some.inj H
          go_wp2_with (first | ((with_reducible refine gate_callee (f := 20) rfl ?_); refine goesL_ (some 109) rfl rfl Try.func20 (by kernel_rfl) rfl #[.int .i64 0] rfl (by (try simp only [List.map_toArray, List.map_cons, List.map_nil]); first | done | rfl | (simp only [List.length_drop, List.length_take]; rfl)) ?_; (with_reducible refine (group_Valid.calls 0 true _ A30.out).mono ?_); rintro e w' ⟨rfl, ⟨nd, rfl⟩⟩; refine ⟨_, rfl, ?_⟩))
          go_ret
          exact ⟨by first | rfl | (simp [errW_none, errW_some] <;> rfl) | (simp [*, errW_none, errW_some] <;> rfl), by repeat (first | (with_reducible first | exact HB.out | apply below_alloc | apply pw_below_drewN | apply below_drew1) | exact HB.out)⟩
        · replace c31 := Bool.eq_false_iff.mpr c31
          subst c31
          have H1 : ((group_Valid.f 2147483579).bind fun t137 => (if t137 = true then (some false) else ((group_Valid.f 2).bind fun t138 => (if t138 = true then (some false) else ((group_Valid.f 1).bind fun t139 => (if t139 = true then ((group_Valid.f 4).bind fun t140 => (if t140 = true then ((group_Valid.f 2147483578).bind fun t141 => (if t141 = true then (some false) else (if t114 = 16 then (if t116 = 1 then (if t118 = 536870895 then (if t122 = 16 then (if t126 = 2147483577 then (some (t132 == 2)) else (some false)) else (some false)) else (some false)) else (some false)) else (some false)))) else (some false))) else (some false))))))) = some r := by rw [if_neg (show ¬ (false = true) by decide)] at H; exact H
          clear H
          have H := H1
          clear H1
          replace H := Option.bind_eq_some_iff.mp H
          obtain ⟨t137, A320, H⟩ := H
          replace H : (if t137 = true then (some false) else ((group_Valid.f 2).bind fun t138 => (if t138 = true then (some false) else ((group_Valid.f 1).bind fun t139 => (if t139 = true then ((group_Valid.f 4).bind fun t140 => (if t140 = true then ((group_Valid.f 2147483578).bind fun t141 => (if t141 = true then (some false) else (if t114 = 16 then (if t116 = 1 then (if t118 = 536870895 then (if t122 = 16 then (if t126 = 2147483577 then (some (t132 == 2)) else (some false)) else (some false)) else (some false)) else (some false)) else (some false)))) else (some false))) else (some false)))))) = some r := H
          have A32 := Aside0.mk A320
          clear A320
          by_cases c33 : t137 = true
          · subst c33
            have H1 : (some false) = some r := by rw [if_pos rfl] at H; exact H
            clear H
            have H := H1
            clear H1
            obtain rfl := Option.some.inj H
            go_wp2_with (first | ((with_reducible refine gate_callee (f := 20) rfl ?_); refine goesL_ (some 109) rfl rfl Try.func20 (by kernel_rfl) rfl #[.int .i64 0] rfl (by (try simp only [List.map_toArray, List.map_cons, List.map_nil]); first | done | rfl | (simp only [List.length_drop, List.length_take]; rfl)) ?_; (with_reducible refine (group_Valid.calls 0 false _ A30.out).mono ?_); rintro e w' ⟨rfl, ⟨nd, rfl⟩⟩; refine ⟨_, rfl, ?_⟩) | (go_at_call 20; (with_reducible refine (group_Valid.calls 2147483579 true _ A32.out).mono ?_); rintro e w' ⟨rfl, ⟨nd, rfl⟩⟩))
            go_ret
            exact ⟨by first | rfl | (simp [errW_none, errW_some] <;> rfl) | (simp [*, errW_none, errW_some] <;> rfl), by repeat (first | (with_reducible first | exact HB.out | apply below_alloc | apply pw_below_drewN | apply below_drew1) | exact HB.out)⟩
          · replace c33 := Bool.eq_false_iff.mpr c33
            subst c33
            have H1 : ((group_Valid.f 2).bind fun t138 => (if t138 = true then (some false) else ((group_Valid.f 1).bind fun t139 => (if t139 = true then ((group_Valid.f 4).bind fun t140 => (if t140 = true then ((group_Valid.f 2147483578).bind fun t141 => (if t141 = true then (some false) else (if t114 = 16 then (if t116 = 1 then (if t118 = 536870895 then (if t122 = 16 then (if t126 = 2147483577 then (some (t132 == 2)) else (some false)) else (some false)) else (some false)) else (some false)) else (some false)))) else (some false))) else (some false))))) = some r := by rw [if_neg (show ¬ (false = true) by decide)] at H; exact H
            clear H
            have H := H1
            clear H1
            replace H := Option.bind_eq_some_iff.mp H
            obtain ⟨t138, A340, H⟩ := H
            replace H : (if t138 = true then (some false) else ((group_Valid.f 1).bind fun t139 => (if t139 = true then ((group_Valid.f 4).bind fun t140 => (if t140 = true then ((group_Valid.f 2147483578).bind fun t141 => (if t141 = true then (some false) else (if t114 = 16 then (if t116 = 1 then (if t118 = 536870895 then (if t122 = 16 then (if t126 = 2147483577 then (some (t132 == 2)) else (some false)) else (some false)) else (some false)) else (some false)) else (some false)))) else (some false))) else (some false)))) = some r := H
            have A34 := Aside0.mk A340
            clear A340
            by_cases c35 : t138 = true
            · subst c35
              have H1 : (some false) = some r := by rw [if_pos rfl] at H; exact H
              clear H
              have H := H1
              clear H1
              obtain rfl := Option.some.inj H
              go_wp2_with (first | ((with_reducible refine gate_callee (f := 20) rfl ?_); refine goesL_ (some 109) rfl rfl Try.func20 (by kernel_rfl) rfl #[.int .i64 0] rfl (by (try simp only [List.map_toArray, List.map_cons, List.map_nil]); first | done | rfl | (simp only [List.length_drop, List.length_take]; rfl)) ?_; (with_reducible refine (group_Valid.calls 0 false _ A30.out).mono ?_); rintro e w' ⟨rfl, ⟨nd, rfl⟩⟩; refine ⟨_, rfl, ?_⟩) | (go_at_call 20; (with_reducible refine (group_Valid.calls 2147483579 false _ A32.out).mono ?_); rintro e w' ⟨rfl, ⟨nd, rfl⟩⟩) | (go_at_call 20; (with_reducible refine (group_Valid.calls 2 true _ A34.out).mono ?_); rintro e w' ⟨rfl, ⟨nd, rfl⟩⟩))
              go_ret
              exact ⟨by first | rfl | (simp [errW_none, errW_some] <;> rfl) | (simp [*, errW_none, errW_some] <;> rfl), by repeat (first | (with_reducible first | exact HB.out | apply below_alloc | apply pw_below_drewN | apply below_drew1) | exact HB.out)⟩
            · replace c35 := Bool.eq_false_iff.mpr c35
              subst c35
              have H1 : ((group_Valid.f 1).bind fun t139 => (if t139 = true then ((group_Valid.f 4).bind fun t140 => (if t140 = true then ((group_Valid.f 2147483578).bind fun t141 => (if t141 = true then (some false) else (if t114 = 16 then (if t116 = 1 then (if t118 = 536870895 then (if t122 = 16 then (if t126 = 2147483577 then (some (t132 == 2)) else (some false)) else (some false)) else (some false)) else (some false)) else (some false)))) else (some false))) else (some false))) = some r := by rw [if_neg (show ¬ (false = true) by decide)] at H; exact H
              clear H
              have H := H1
              clear H1
              replace H := Option.bind_eq_some_iff.mp H
              obtain ⟨t139, A360, H⟩ := H
              replace H : (if t139 = true then ((group_Valid.f 4).bind fun t140 => (if t140 = true then ((group_Valid.f 2147483578).bind fun t141 => (if t141 = true then (some false) else (if t114 = 16 then (if t116 = 1 then (if t118 = 536870895 then (if t122 = 16 then (if t126 = 2147483577 then (some (t132 == 2)) else (some false)) else (some false)) else (some false)) else (some false)) else (some false)))) else (some false))) else (some false)) = some r := H
              have A36 := Aside0.mk A360
              clear A360
              by_cases c37 : t139 = true
              · subst c37
                have H1 : ((group_Valid.f 4).bind fun t140 => (if t140 = true then ((group_Valid.f 2147483578).bind fun t141 => (if t141 = true then (some false) else (if t114 = 16 then (if t116 = 1 then (if t118 = 536870895 then (if t122 = 16 then (if t126 = 2147483577 then (some (t132 == 2)) else (some false)) else (some false)) else (some false)) else (some false)) else (some false)))) else (some false))) = some r := by rw [if_pos rfl] at H; exact H
                clear H
                have H := H1
                clear H1
                replace H := Option.bind_eq_some_iff.mp H
                obtain ⟨t140, A380, H⟩ := H
                replace H : (if t140 = true then ((group_Valid.f 2147483578).bind fun t141 => (if t141 = true then (some false) else (if t114 = 16 then (if t116 = 1 then (if t118 = 536870895 then (if t122 = 16 then (if t126 = 2147483577 then (some (t132 == 2)) else (some false)) else (some false)) else (some false)) else (some false)) else (some false)))) else (some false)) = some r := H
                have A38 := Aside0.mk A380
                clear A380
                by_cases c39 : t140 = true
                · subst c39
                  have H1 : ((group_Valid.f 2147483578).bind fun t141 => (if t141 = true then (some false) else (if t114 = 16 then (if t116 = 1 then (if t118 = 536870895 then (if t122 = 16 then (if t126 = 2147483577 then (some (t132 == 2)) else (some false)) else (some false)) else (some false)) else (some false)) else (some false)))) = some r := by rw [if_pos rfl] at H; exact H
                  clear H
                  have H := H1
                  clear H1
                  replace H := Option.bind_eq_some_iff.mp H
                  obtain ⟨t141, A400, H⟩ := H
                  replace H : (if t141 = true then (some false) else (if t114 = 16 then (if t116 = 1 then (if t118 = 536870895 then (if t122 = 16 then (if t126 = 2147483577 then (some (t132 == 2)) else (some false)) else (some false)) else (some false)) else (some false)) else (some false))) = some r := H
                  have A40 := Aside0.mk A400
                  clear A400
                  by_cases c41 : t141 = true
                  · subst c41
                    have H1 : (some false) = some r := by rw [if_pos rfl] at H; exact H
                    clear H
                    have H := H1
                    clear H1
                    obtain rfl := Option.some.inj H
                    go_wp2_with (first | ((with_reducible refine gate_callee (f := 20) rfl ?_); refine goesL_ (some 109) rfl rfl Try.func20 (by kernel_rfl) rfl #[.int .i64 0] rfl (by (try simp only [List.map_toArray, List.map_cons, List.map_nil]); first | done | rfl | (simp only [List.length_drop, List.length_take]; rfl)) ?_; (with_reducible refine (group_Valid.calls 0 false _ A30.out).mono ?_); rintro e w' ⟨rfl, ⟨nd, rfl⟩⟩; refine ⟨_, rfl, ?_⟩) | (go_at_call 20; (with_reducible refine (group_Valid.calls 2147483579 false _ A32.out).mono ?_); rintro e w' ⟨rfl, ⟨nd, rfl⟩⟩) | (go_at_call 20; (with_reducible refine (group_Valid.calls 2 false _ A34.out).mono ?_); rintro e w' ⟨rfl, ⟨nd, rfl⟩⟩) | (go_at_call 20; (with_reducible refine (group_Valid.calls 1 true _ A36.out).mono ?_); rintro e w' ⟨rfl, ⟨nd, rfl⟩⟩) | (go_at_call 20; (with_reducible refine (group_Valid.calls 4 true _ A38.out).mono ?_); rintro e w' ⟨rfl, ⟨nd, rfl⟩⟩) | (go_at_call 20; (with_reducible refine (group_Valid.calls 2147483578 true _ A40.out).mono ?_); rintro e w' ⟨rfl, ⟨nd, rfl⟩⟩))
                    go_ret
                    exact ⟨by first | rfl | (simp [errW_none, errW_some] <;> rfl) | (simp [*, errW_none, errW_some] <;> rfl), by repeat (first | (with_reducible first | exact HB.out | apply below_alloc | apply pw_below_drewN | apply below_drew1) | exact HB.out)⟩
                  · replace c41 := Bool.eq_false_iff.mpr c41
                    subst c41
                    have H1 : (if t114 = 16 then (if t116 = 1 then (if t118 = 536870895 then (if t122 = 16 then (if t126 = 2147483577 then (some (t132 == 2)) else (some false)) else (some false)) else (some false)) else (some false)) else (some false)) = some r := by rw [if_neg (show ¬ (false = true) by decide)] at H; exact H
                    clear H
                    have H := H1
                    clear H1
                    by_cases c42 : t114 = 16
                    · rw [if_pos c42] at H
                      have c42b0 : (t114 == 16) = true := beq_iff_eq.mpr c42
                      have c42b1 : (t114 != 16) = false := bne_eq_false_iff_eq.mpr c42
                      clear c42
                      by_cases c43 : t116 = 1
                      · rw [if_pos c43] at H
                        have c43b0 : (t116 == 1) = true := beq_iff_eq.mpr c43
                        have c43b1 : (t116 != 1) = false := bne_eq_false_iff_eq.mpr c43
                        clear c43
                        by_cases c44 : t118 = 536870895
                        · rw [if_pos c44] at H
                          have c44b0 : (t118 == 536870895) = true := beq_iff_eq.mpr c44
                          have c44b1 : (t118 != 536870895) = false := bne_eq_false_iff_eq.mpr c44
                          clear c44
                          by_cases c45 : t122 = 16
                          · rw [if_pos c45] at H
                            have c45b0 : (t122 == 16) = true := beq_iff_eq.mpr c45
                            have c45b1 : (t122 != 16) = false := bne_eq_false_iff_eq.mpr c45
                            clear c45
                            by_cases c46 : t126 = 2147483577
                            · rw [if_pos c46] at H
                              have c46b0 : (t126 == 2147483577) = true := beq_iff_eq.mpr c46
                              have c46b1 : (t126 != 2147483577) = false := bne_eq_false_iff_eq.mpr c46
                              clear c46
                              obtain rfl := Option.some.inj H
                              go_wp2_with (first | ((with_reducible refine gate_callee (f := 20) rfl ?_); refine goesL_ (some 109) rfl rfl Try.func20 (by kernel_rfl) rfl #[.int .i64 0] rfl (by (try simp only [List.map_toArray, List.map_cons, List.map_nil]); first | done | rfl | (simp only [List.length_drop, List.length_take]; rfl)) ?_; (with_reducible refine (group_Valid.calls 0 false _ A30.out).mono ?_); rintro e w' ⟨rfl, ⟨nd, rfl⟩⟩; refine ⟨_, rfl, ?_⟩) | (go_at_call 20; (with_reducible refine (group_Valid.calls 2147483579 false _ A32.out).mono ?_); rintro e w' ⟨rfl, ⟨nd, rfl⟩⟩) | (go_at_call 20; (with_reducible refine (group_Valid.calls 2 false _ A34.out).mono ?_); rintro e w' ⟨rfl, ⟨nd, rfl⟩⟩) | (go_at_call 20; (with_reducible refine (group_Valid.calls 1 true _ A36.out).mono ?_); rintro e w' ⟨rfl, ⟨nd, rfl⟩⟩) | (go_at_call 20; (with_reducible refine (group_Valid.calls 4 true _ A38.out).mono ?_); rintro e w' ⟨rfl, ⟨nd, rfl⟩⟩) | (go_at_call 20; (with_reducible refine (group_Valid.calls 2147483578 false _ A40.out).mono ?_); rintro e w' ⟨rfl, ⟨nd, rfl⟩⟩))
                              go_ret
                              exact ⟨by first | rfl | (simp [errW_none, errW_some] <;> rfl) | (simp [*, errW_none, errW_some] <;> rfl), by repeat (first | (with_reducible first | exact HB.out | apply below_alloc | apply pw_below_drewN | apply below_drew1) | exact HB.out)⟩
                            · rw [if_neg c46] at H
                              have c46b0 : (t126 == 2147483577) = false := beq_eq_false_iff_ne.mpr c46
                              have c46b1 : (t126 != 2147483577) = true := bne_iff_ne.mpr c46
                              obtain rfl := Option.some.inj H
                              go_wp2_with (first | ((with_reducible refine gate_callee (f := 20) rfl ?_); refine goesL_ (some 109) rfl rfl Try.func20 (by kernel_rfl) rfl #[.int .i64 0] rfl (by (try simp only [List.map_toArray, List.map_cons, List.map_nil]); first | done | rfl | (simp only [List.length_drop, List.length_take]; rfl)) ?_; (with_reducible refine (group_Valid.calls 0 false _ A30.out).mono ?_); rintro e w' ⟨rfl, ⟨nd, rfl⟩⟩; refine ⟨_, rfl, ?_⟩) | (go_at_call 20; (with_reducible refine (group_Valid.calls 2147483579 false _ A32.out).mono ?_); rintro e w' ⟨rfl, ⟨nd, rfl⟩⟩) | (go_at_call 20; (with_reducible refine (group_Valid.calls 2 false _ A34.out).mono ?_); rintro e w' ⟨rfl, ⟨nd, rfl⟩⟩) | (go_at_call 20; (with_reducible refine (group_Valid.calls 1 true _ A36.out).mono ?_); rintro e w' ⟨rfl, ⟨nd, rfl⟩⟩) | (go_at_call 20; (with_reducible refine (group_Valid.calls 4 true _ A38.out).mono ?_); rintro e w' ⟨rfl, ⟨nd, rfl⟩⟩) | (go_at_call 20; (with_reducible refine (group_Valid.calls 2147483578 false _ A40.out).mono ?_); rintro e w' ⟨rfl, ⟨nd, rfl⟩⟩))
                              go_ret
                              exact ⟨by first | rfl | (simp [errW_none, errW_some] <;> rfl) | (simp [*, errW_none, errW_some] <;> rfl), by repeat (first | (with_reducible first | exact HB.out | apply below_alloc | apply pw_below_drewN | apply below_drew1) | exact HB.out)⟩
                          · rw [if_neg c45] at H
                            have c45b0 : (t122 == 16) = false := beq_eq_false_iff_ne.mpr c45
                            have c45b1 : (t122 != 16) = true := bne_iff_ne.mpr c45
                            obtain rfl := Option.some.inj H
                            go_wp2_with (first | ((with_reducible refine gate_callee (f := 20) rfl ?_); refine goesL_ (some 109) rfl rfl Try.func20 (by kernel_rfl) rfl #[.int .i64 0] rfl (by (try simp only [List.map_toArray, List.map_cons, List.map_nil]); first | done | rfl | (simp only [List.length_drop, List.length_take]; rfl)) ?_; (with_reducible refine (group_Valid.calls 0 false _ A30.out).mono ?_); rintro e w' ⟨rfl, ⟨nd, rfl⟩⟩; refine ⟨_, rfl, ?_⟩) | (go_at_call 20; (with_reducible refine (group_Valid.calls 2147483579 false _ A32.out).mono ?_); rintro e w' ⟨rfl, ⟨nd, rfl⟩⟩) | (go_at_call 20; (with_reducible refine (group_Valid.calls 2 false _ A34.out).mono ?_); rintro e w' ⟨rfl, ⟨nd, rfl⟩⟩) | (go_at_call 20; (with_reducible refine (group_Valid.calls 1 true _ A36.out).mono ?_); rintro e w' ⟨rfl, ⟨nd, rfl⟩⟩) | (go_at_call 20; (with_reducible refine (group_Valid.calls 4 true _ A38.out).mono ?_); rintro e w' ⟨rfl, ⟨nd, rfl⟩⟩) | (go_at_call 20; (with_reducible refine (group_Valid.calls 2147483578 false _ A40.out).mono ?_); rintro e w' ⟨rfl, ⟨nd, rfl⟩⟩))
                            go_ret
                            exact ⟨by first | rfl | (simp [errW_none, errW_some] <;> rfl) | (simp [*, errW_none, errW_some] <;> rfl), by repeat (first | (with_reducible first | exact HB.out | apply below_alloc | apply pw_below_drewN | apply below_drew1) | exact HB.out)⟩
                        · rw [if_neg c44] at H
                          have c44b0 : (t118 == 536870895) = false := beq_eq_false_iff_ne.mpr c44
                          have c44b1 : (t118 != 536870895) = true := bne_iff_ne.mpr c44
                          obtain rfl := Option.some.inj H
                          go_wp2_with (first | ((with_reducible refine gate_callee (f := 20) rfl ?_); refine goesL_ (some 109) rfl rfl Try.func20 (by kernel_rfl) rfl #[.int .i64 0] rfl (by (try simp only [List.map_toArray, List.map_cons, List.map_nil]); first | done | rfl | (simp only [List.length_drop, List.length_take]; rfl)) ?_; (with_reducible refine (group_Valid.calls 0 false _ A30.out).mono ?_); rintro e w' ⟨rfl, ⟨nd, rfl⟩⟩; refine ⟨_, rfl, ?_⟩) | (go_at_call 20; (with_reducible refine (group_Valid.calls 2147483579 false _ A32.out).mono ?_); rintro e w' ⟨rfl, ⟨nd, rfl⟩⟩) | (go_at_call 20; (with_reducible refine (group_Valid.calls 2 false _ A34.out).mono ?_); rintro e w' ⟨rfl, ⟨nd, rfl⟩⟩) | (go_at_call 20; (with_reducible refine (group_Valid.calls 1 true _ A36.out).mono ?_); rintro e w' ⟨rfl, ⟨nd, rfl⟩⟩) | (go_at_call 20; (with_reducible refine (group_Valid.calls 4 true _ A38.out).mono ?_); rintro e w' ⟨rfl, ⟨nd, rfl⟩⟩) | (go_at_call 20; (with_reducible refine (group_Valid.calls 2147483578 false _ A40.out).mono ?_); rintro e w' ⟨rfl, ⟨nd, rfl⟩⟩))
                          go_ret
                          exact ⟨by first | rfl | (simp [errW_none, errW_some] <;> rfl) | (simp [*, errW_none, errW_some] <;> rfl), by repeat (first | (with_reducible first | exact HB.out | apply below_alloc | apply pw_below_drewN | apply below_drew1) | exact HB.out)⟩
                      · rw [if_neg c43] at H
                        have c43b0 : (t116 == 1) = false := beq_eq_false_iff_ne.mpr c43
                        have c43b1 : (t116 != 1) = true := bne_iff_ne.mpr c43
                        obtain rfl := Option.some.inj H
                        go_wp2_with (first | ((with_reducible refine gate_callee (f := 20) rfl ?_); refine goesL_ (some 109) rfl rfl Try.func20 (by kernel_rfl) rfl #[.int .i64 0] rfl (by (try simp only [List.map_toArray, List.map_cons, List.map_nil]); first | done | rfl | (simp only [List.length_drop, List.length_take]; rfl)) ?_; (with_reducible refine (group_Valid.calls 0 false _ A30.out).mono ?_); rintro e w' ⟨rfl, ⟨nd, rfl⟩⟩; refine ⟨_, rfl, ?_⟩) | (go_at_call 20; (with_reducible refine (group_Valid.calls 2147483579 false _ A32.out).mono ?_); rintro e w' ⟨rfl, ⟨nd, rfl⟩⟩) | (go_at_call 20; (with_reducible refine (group_Valid.calls 2 false _ A34.out).mono ?_); rintro e w' ⟨rfl, ⟨nd, rfl⟩⟩) | (go_at_call 20; (with_reducible refine (group_Valid.calls 1 true _ A36.out).mono ?_); rintro e w' ⟨rfl, ⟨nd, rfl⟩⟩) | (go_at_call 20; (with_reducible refine (group_Valid.calls 4 true _ A38.out).mono ?_); rintro e w' ⟨rfl, ⟨nd, rfl⟩⟩) | (go_at_call 20; (with_reducible refine (group_Valid.calls 2147483578 false _ A40.out).mono ?_); rintro e w' ⟨rfl, ⟨nd, rfl⟩⟩))
                        go_ret
                        exact ⟨by first | rfl | (simp [errW_none, errW_some] <;> rfl) | (simp [*, errW_none, errW_some] <;> rfl), by repeat (first | (with_reducible first | exact HB.out | apply below_alloc | apply pw_below_drewN | apply below_drew1) | exact HB.out)⟩
                    · rw [if_neg c42] at H
                      have c42b0 : (t114 == 16) = false := beq_eq_false_iff_ne.mpr c42
                      have c42b1 : (t114 != 16) = true := bne_iff_ne.mpr c42
                      obtain rfl := Option.some.inj H
                      go_wp2_with (first | ((with_reducible refine gate_callee (f := 20) rfl ?_); refine goesL_ (some 109) rfl rfl Try.func20 (by kernel_rfl) rfl #[.int .i64 0] rfl (by (try simp only [List.map_toArray, List.map_cons, List.map_nil]); first | done | rfl | (simp only [List.length_drop, List.length_take]; rfl)) ?_; (with_reducible refine (group_Valid.calls 0 false _ A30.out).mono ?_); rintro e w' ⟨rfl, ⟨nd, rfl⟩⟩; refine ⟨_, rfl, ?_⟩) | (go_at_call 20; (with_reducible refine (group_Valid.calls 2147483579 false _ A32.out).mono ?_); rintro e w' ⟨rfl, ⟨nd, rfl⟩⟩) | (go_at_call 20; (with_reducible refine (group_Valid.calls 2 false _ A34.out).mono ?_); rintro e w' ⟨rfl, ⟨nd, rfl⟩⟩) | (go_at_call 20; (with_reducible refine (group_Valid.calls 1 true _ A36.out).mono ?_); rintro e w' ⟨rfl, ⟨nd, rfl⟩⟩) | (go_at_call 20; (with_reducible refine (group_Valid.calls 4 true _ A38.out).mono ?_); rintro e w' ⟨rfl, ⟨nd, rfl⟩⟩) | (go_at_call 20; (with_reducible refine (group_Valid.calls 2147483578 false _ A40.out).mono ?_); rintro e w' ⟨rfl, ⟨nd, rfl⟩⟩))
                      go_ret
                      exact ⟨by first | rfl | (simp [errW_none, errW_some] <;> rfl) | (simp [*, errW_none, errW_some] <;> rfl), by repeat (first | (with_reducible first | exact HB.out | apply below_alloc | apply pw_below_drewN | apply below_drew1) | exact HB.out)⟩
                · replace c39 := Bool.eq_false_iff.mpr c39
                  subst c39
                  have H1 : (some false) = some r := by rw [if_neg (show ¬ (false = true) by decide)] at H; exact H
                  clear H
                  have H := H1
                  clear H1
                  obtain rfl := Option.some.inj H
                  go_wp2_with (first | ((with_reducible refine gate_callee (f := 20) rfl ?_); refine goesL_ (some 109) rfl rfl Try.func20 (by kernel_rfl) rfl #[.int .i64 0] rfl (by (try simp only [List.map_toArray, List.map_cons, List.map_nil]); first | done | rfl | (simp only [List.length_drop, List.length_take]; rfl)) ?_; (with_reducible refine (group_Valid.calls 0 false _ A30.out).mono ?_); rintro e w' ⟨rfl, ⟨nd, rfl⟩⟩; refine ⟨_, rfl, ?_⟩) | (go_at_call 20; (with_reducible refine (group_Valid.calls 2147483579 false _ A32.out).mono ?_); rintro e w' ⟨rfl, ⟨nd, rfl⟩⟩) | (go_at_call 20; (with_reducible refine (group_Valid.calls 2 false _ A34.out).mono ?_); rintro e w' ⟨rfl, ⟨nd, rfl⟩⟩) | (go_at_call 20; (with_reducible refine (group_Valid.calls 1 true _ A36.out).mono ?_); rintro e w' ⟨rfl, ⟨nd, rfl⟩⟩) | (go_at_call 20; (with_reducible refine (group_Valid.calls 4 false _ A38.out).mono ?_); rintro e w' ⟨rfl, ⟨nd, rfl⟩⟩))
                  go_ret
                  exact ⟨by first | rfl | (simp [errW_none, errW_some] <;> rfl) | (simp [*, errW_none, errW_some] <;> rfl), by repeat (first | (with_reducible first | exact HB.out | apply below_alloc | apply pw_below_drewN | apply below_drew1) | exact HB.out)⟩
              · replace c37 := Bool.eq_false_iff.mpr c37
                subst c37
                have H1 : (some false) = some r := by rw [if_neg (show ¬ (false = true) by decide)] at H; exact H
                clear H
                have H := H1
                clear H1
                obtain rfl := Option.some.inj H
                go_wp2_with (first | ((with_reducible refine gate_callee (f := 20) rfl ?_); refine goesL_ (some 109) rfl rfl Try.func20 (by kernel_rfl) rfl #[.int .i64 0] rfl (by (try simp only [List.map_toArray, List.map_cons, List.map_nil]); first | done | rfl | (simp only [List.length_drop, List.length_take]; rfl)) ?_; (with_reducible refine (group_Valid.calls 0 false _ A30.out).mono ?_); rintro e w' ⟨rfl, ⟨nd, rfl⟩⟩; refine ⟨_, rfl, ?_⟩) | (go_at_call 20; (with_reducible refine (group_Valid.calls 2147483579 false _ A32.out).mono ?_); rintro e w' ⟨rfl, ⟨nd, rfl⟩⟩) | (go_at_call 20; (with_reducible refine (group_Valid.calls 2 false _ A34.out).mono ?_); rintro e w' ⟨rfl, ⟨nd, rfl⟩⟩) | (go_at_call 20; (with_reducible refine (group_Valid.calls 1 false _ A36.out).mono ?_); rintro e w' ⟨rfl, ⟨nd, rfl⟩⟩))
                go_ret
                exact ⟨by first | rfl | (simp [errW_none, errW_some] <;> rfl) | (simp [*, errW_none, errW_some] <;> rfl), by repeat (first | (with_reducible first | exact HB.out | apply below_alloc | apply pw_below_drewN | apply below_drew1) | exact HB.out)⟩

/-! ### signatoryref10_power: function 52 -/
def signatoryref10_power.l0 : Nat → Int → Int → Int → Option (Int)
  | 0, _, _, _ => none
  | k + 1, x0, x1, x5 => if x1 > 0 then (if (Int.tmod x1 2) = 1 then (signatoryref10_power.l0 k (Int.tmod (wrap64 (x0 * x0)) 2147483579) (wrap64 (Int.tdiv x1 2)) (Int.tmod (wrap64 (x5 * x0)) 2147483579)) else (signatoryref10_power.l0 k (Int.tmod (wrap64 (x0 * x0)) 2147483579) (wrap64 (Int.tdiv x1 2)) x5)) else (some x5)
def signatoryref10_power.f (k : Nat) (a0 : Int) (a1 : Int) : Option (Int) := signatoryref10_power.l0 k a0 a1 1
theorem signatoryref10_power.mono_l : ∀ k, (∀ y0 y1 y2, LeO (signatoryref10_power.l0 k y0 y1 y2) (signatoryref10_power.l0 (k + 1) y0 y1 y2))
  | 0 => fun _ _ _ r h => by simp [signatoryref10_power.l0] at h
  | k + 1 => by
    have ih0 := signatoryref10_power.mono_l k
    · intro y0 y1 y2
      unfold signatoryref10_power.l0
      repeat' first
      | (with_reducible exact ih0 _ _ _)
      | (with_reducible exact LeO.refl _)
      | (with_reducible exact LeO.none _)
      | (with_reducible refine LeO.ite ?_ ?_)
      | (with_reducible refine LeO.bind ?_ (fun _ => ?_))
      | exact ih0 _ _ _
      | exact LeO.none _
      | refine LeO.ite ?_ ?_
      | refine LeO.bind ?_ (fun _ => ?_)
theorem signatoryref10_power.mono : ∀ a0 a1 k, LeO (signatoryref10_power.f k a0 a1) (signatoryref10_power.f (k + 1) a0 a1) := by
  intro a0 a1 k
  have ih0 := signatoryref10_power.mono_l k
  unfold signatoryref10_power.f
  repeat' first
      | (with_reducible exact ih0 _ _ _)
      | (with_reducible exact LeO.refl _)
      | (with_reducible exact LeO.none _)
      | (with_reducible refine LeO.ite ?_ ?_)
      | (with_reducible refine LeO.bind ?_ (fun _ => ?_))
      | exact ih0 _ _ _
      | exact LeO.none _
      | refine LeO.ite ?_ ?_
      | refine LeO.bind ?_ (fun _ => ?_)
set_option maxHeartbeats 8000000 in
set_option maxRecDepth 100000 in
theorem signatoryref10_power.calls (k : Nat) (a0 : Int) (a1 : Int) (r : Int) (w : World) (h : signatoryref10_power.f k a0 a1 = some r) :
    Calls Try.prog 52 #[.int .i64 a0, .int .i64 a1] w fun e w' => e = .returned (.int .i64 r) ∧ Drawn0 w w' := by
  have H : (signatoryref10_power.l0 k a0 a1 1) = some r := h
  clear h
  have H' := Aside0.mk H
  clear H
  go_enter Try.func52, Try.ntmps52
  go_wp2
  go_loopg [0, 1, 5] k (fun kq v0 v1 v5 w' => ∃ (x0_1 : Int) (x1_1 : Int) (x5_1 : Int), v0 = .int .i64 x0_1 ∧ v1 = .int .i64 x1_1 ∧ v5 = .int .i64 x5_1 ∧ Aside0 (signatoryref10_power.l0 kq x0_1 x1_1 x5_1 = some r) ∧ Aside0 (kq ≤ k) ∧ Drawn0 w w')
  case atStart => exact ⟨(a0), (a1), (1), (by first | rfl | (simp; done) | (simp [*]; done)), (by first | rfl | (simp; done) | (simp [*]; done)), (by first | rfl | (simp; done) | (simp [*]; done)), H', ⟨Nat.le_refl _⟩, by repeat (first | exact Drawn0.refl _ | apply Drawn0.step)⟩
  case round =>
    clear H'
    try clear p2
    obtain ⟨x0_1, x1_1, x5_1, rfl, rfl, rfl, HA, HK1, ⟨m1, rfl⟩⟩ := hrel
    cases gk with
    | zero => exact absurd HA.out (by simp [signatoryref10_power.l0])
    | succ k1 =>
      have H := HA.out
      clear HA
      simp only [signatoryref10_power.l0] at H
      by_cases c3 : x1_1 > 0
      · rw [if_pos c3] at H
        have c3b0 : decide (0 < x1_1) = true := decide_eq_true c3
        clear c3
        by_cases c4 : (Int.tmod x1_1 2) = 1
        · rw [if_pos c4] at H
          have c4b0 : ((Int.tmod x1_1 2) == 1) = true := beq_iff_eq.mpr c4
          have c4b1 : ((Int.tmod x1_1 2) != 1) = false := bne_eq_false_iff_eq.mpr c4
          clear c4
          have H' := Aside0.mk H
          clear H
          go_wp2
          go_roundg k1
          case measure => have := HK1.out; omega
          case rel => exact ⟨(Int.tmod (wrap64 (x0_1 * x0_1)) 2147483579), (wrap64 (Int.tdiv x1_1 2)), (Int.tmod (wrap64 (x5_1 * x0_1)) 2147483579), (by first | rfl | (simp; done) | (simp [*]; done)), (by first | rfl | (simp; done) | (simp [*]; done)), (by first | rfl | (simp; done) | (simp [*]; done)), H', ⟨by have := HK1.out; omega⟩, by repeat (first | exact Drawn0.refl _ | apply Drawn0.step)⟩
        · rw [if_neg c4] at H
          have c4b0 : ((Int.tmod x1_1 2) == 1) = false := beq_eq_false_iff_ne.mpr c4
          have c4b1 : ((Int.tmod x1_1 2) != 1) = true := bne_iff_ne.mpr c4
          have H' := Aside0.mk H
          clear H
          go_wp2
          go_roundg k1
          case measure => have := HK1.out; omega
          case rel => exact ⟨(Int.tmod (wrap64 (x0_1 * x0_1)) 2147483579), (wrap64 (Int.tdiv x1_1 2)), (x5_1), (by first | rfl | (simp; done) | (simp [*]; done)), (by first | rfl | (simp; done) | (simp [*]; done)), (by first | rfl | (simp; done) | (simp [*]; done)), H', ⟨by have := HK1.out; omega⟩, by repeat (first | exact Drawn0.refl _ | apply Drawn0.step)⟩
      · rw [if_neg c3] at H
        have c3b0 : decide (0 < x1_1) = false := decide_eq_false c3
        clear c3
        obtain rfl := Option.some.inj H
        go_wp2
        go_ret
        exact ⟨by first | rfl | (simp; done) | (simp [*]; done), by repeat (first | exact Drawn0.refl _ | apply Drawn0.step)⟩

/-! ### signatoryref10_Valid: function 21 -/
def signatoryref10_Valid.f (k : Nat) (a0 : Int) : Option (Bool) := if a0 ≥ 1 then (if a0 < 2147483579 then ((signatoryref10_power.f k a0 1073741789).bind fun t142 => (some (t142 == 1))) else (some false)) else (some false)
theorem signatoryref10_Valid.mono : ∀ a0 k, LeO (signatoryref10_Valid.f k a0) (signatoryref10_Valid.f (k + 1) a0) := by
  intro a0 k
  unfold signatoryref10_Valid.f
  repeat' first
      | (with_reducible exact signatoryref10_power.mono _ _ _)
      | (with_reducible exact LeO.refl _)
      | (with_reducible exact LeO.none _)
      | (with_reducible refine LeO.ite ?_ ?_)
      | (with_reducible refine LeO.bind ?_ (fun _ => ?_))
      | exact signatoryref10_power.mono _ _ _
      | exact LeO.none _
      | refine LeO.ite ?_ ?_
      | refine LeO.bind ?_ (fun _ => ?_)
set_option maxHeartbeats 8000000 in
set_option maxRecDepth 100000 in
theorem signatoryref10_Valid.calls (k : Nat) (a0 : Int) (r : Bool) (w : World) (h : signatoryref10_Valid.f k a0 = some r) :
    Calls Try.prog 21 #[.int .i64 a0] w fun e w' => e = .returned (.bool r) ∧ Drawn0 w w' := by
  have H : (if a0 ≥ 1 then (if a0 < 2147483579 then ((signatoryref10_power.f k a0 1073741789).bind fun t142 => (some (t142 == 1))) else (some false)) else (some false)) = some r := h
  clear h
  by_cases c2 : a0 ≥ 1
  · rw [if_pos c2] at H
    have c2b0 : decide (1 ≤ a0) = true := decide_eq_true c2
    clear c2
    by_cases c3 : a0 < 2147483579
    · rw [if_pos c3] at H
      have c3b0 : decide (a0 < 2147483579) = true := decide_eq_true c3
      clear c3
      replace H := Option.bind_eq_some_iff.mp H
      obtain ⟨t142, A40, H⟩ := H
      replace H : (some (t142 == 1)) = some r := H
      have A4 := Aside0.mk A40
      clear A40
      obtain rfl := Option.some.inj H
      go_enter Try.func21, Try.ntmps21
      go_wp2_with (first | (go_at_call 52; (with_reducible refine (signatoryref10_power.calls k a0 1073741789 t142 _ A4.out).mono ?_); rintro e w' ⟨rfl, ⟨nd, rfl⟩⟩))
      go_ret
      exact ⟨by first | rfl | (simp; done) | (simp [*]; done), by repeat (first | exact Drawn0.refl _ | apply Drawn0.step)⟩
    · rw [if_neg c3] at H
      have c3b0 : decide (a0 < 2147483579) = false := decide_eq_false c3
      clear c3
      obtain rfl := Option.some.inj H
      go_enter Try.func21, Try.ntmps21
      go_wp2
      go_ret
      exact ⟨by first | rfl | (simp; done) | (simp [*]; done), by repeat (first | exact Drawn0.refl _ | apply Drawn0.step)⟩
  · rw [if_neg c2] at H
    have c2b0 : decide (1 ≤ a0) = false := decide_eq_false c2
    clear c2
    obtain rfl := Option.some.inj H
    go_enter Try.func21, Try.ntmps21
    go_wp2
    go_ret
    exact ⟨by first | rfl | (simp; done) | (simp [*]; done), by repeat (first | exact Drawn0.refl _ | apply Drawn0.step)⟩

/-! ### signatoryref10_Mul: function 17 -/
def signatoryref10_Mul.f (k : Nat) (a0 : Int) (a1 : Int) : Option (Int × Int) := (signatoryref10_Valid.f k a0).bind fun t143 => (if t143 = true then ((signatoryref10_Valid.f k a1).bind fun t144 => (if t144 = true then (some (Int.tmod (wrap64 (a0 * a1)) 2147483579, 0)) else (some (0, 100)))) else (some (0, 100)))
theorem signatoryref10_Mul.mono : ∀ a0 a1 k, LeO (signatoryref10_Mul.f k a0 a1) (signatoryref10_Mul.f (k + 1) a0 a1) := by
  intro a0 a1 k
  unfold signatoryref10_Mul.f
  repeat' first
      | (with_reducible exact signatoryref10_Valid.mono _ _)
      | (with_reducible exact LeO.refl _)
      | (with_reducible exact LeO.none _)
      | (with_reducible refine LeO.ite ?_ ?_)
      | (with_reducible refine LeO.bind ?_ (fun _ => ?_))
      | exact signatoryref10_Valid.mono _ _
      | exact LeO.none _
      | refine LeO.ite ?_ ?_
      | refine LeO.bind ?_ (fun _ => ?_)
set_option maxHeartbeats 8000000 in
set_option maxRecDepth 100000 in
theorem signatoryref10_Mul.calls (k : Nat) (a0 : Int) (a1 : Int) (r1 : Int) (r2 : Int) (w : World) (h : signatoryref10_Mul.f k a0 a1 = some (r1, r2)) :
    Calls Try.prog 17 #[.int .i64 a0, .int .i64 a1] w fun e w' => e = .returned (.tuple #[.int .i64 r1, .int .i64 r2]) ∧ Drawn0 w w' := by
  have H : ((signatoryref10_Valid.f k a0).bind fun t143 => (if t143 = true then ((signatoryref10_Valid.f k a1).bind fun t144 => (if t144 = true then (some (Int.tmod (wrap64 (a0 * a1)) 2147483579, 0)) else (some (0, 100)))) else (some (0, 100)))) = some (r1, r2) := h
  clear h
  replace H := Option.bind_eq_some_iff.mp H
  obtain ⟨t143, A30, H⟩ := H
  replace H : (if t143 = true then ((signatoryref10_Valid.f k a1).bind fun t144 => (if t144 = true then (some (Int.tmod (wrap64 (a0 * a1)) 2147483579, 0)) else (some (0, 100)))) else (some (0, 100))) = some (r1, r2) := H
  have A3 := Aside0.mk A30
  clear A30
  by_cases c4 : t143 = true
  · subst c4
    have H1 : ((signatoryref10_Valid.f k a1).bind fun t144 => (if t144 = true then (some (Int.tmod (wrap64 (a0 * a1)) 2147483579, 0)) else (some (0, 100)))) = some (r1, r2) := by rw [if_pos rfl] at H; exact H
    clear H
    have H := H1
    clear H1
    replace H := Option.bind_eq_some_iff.mp H
    obtain ⟨t144, A50, H⟩ := H
    replace H : (if t144 = true then (some (Int.tmod (wrap64 (a0 * a1)) 2147483579, 0)) else (some (0, 100))) = some (r1, r2) := H
    have A5 := Aside0.mk A50
    clear A50
    by_cases c6 : t144 = true
    · subst c6
      have H1 : (some (Int.tmod (wrap64 (a0 * a1)) 2147483579, 0)) = some (r1, r2) := by rw [if_pos rfl] at H; exact H
      clear H
      have H := H1
      clear H1
      simp only [Option.some.injEq, Prod.mk.injEq] at H
      obtain ⟨rfl, rfl⟩ := H
      go_enter Try.func17, Try.ntmps17
      go_wp2_with (first | ((with_reducible refine gate_callee (f := 21) rfl ?_); refine goesL_ (some 7) rfl rfl Try.func21 (by kernel_rfl) rfl #[.int .i64 a0] rfl (by (try simp only [List.map_toArray, List.map_cons, List.map_nil]); first | done | rfl | (simp only [List.length_drop, List.length_take]; rfl)) ?_; (with_reducible refine (signatoryref10_Valid.calls k a0 true _ A3.out).mono ?_); rintro e w' ⟨rfl, ⟨nd, rfl⟩⟩; refine ⟨_, rfl, ?_⟩) | (go_at_call 21; (with_reducible refine (signatoryref10_Valid.calls k a1 true _ A5.out).mono ?_); rintro e w' ⟨rfl, ⟨nd, rfl⟩⟩))
      go_ret2
      exact ⟨by first | rfl | (simp; done) | (simp [*]; done), by repeat (first | exact Drawn0.refl _ | apply Drawn0.step)⟩
    · replace c6 := Bool.eq_false_iff.mpr c6
      subst c6
      have H1 : (some (0, 100)) = some (r1, r2) := by rw [if_neg (show ¬ (false = true) by decide)] at H; exact H
      clear H
      have H := H1
      clear H1
      simp only [Option.some.injEq, Prod.mk.injEq] at H
      obtain ⟨rfl, rfl⟩ := H
      go_enter Try.func17, Try.ntmps17
      go_wp2_with (first | ((with_reducible refine gate_callee (f := 21) rfl ?_); refine goesL_ (some 7) rfl rfl Try.func21 (by kernel_rfl) rfl #[.int .i64 a0] rfl (by (try simp only [List.map_toArray, List.map_cons, List.map_nil]); first | done | rfl | (simp only [List.length_drop, List.length_take]; rfl)) ?_; (with_reducible refine (signatoryref10_Valid.calls k a0 true _ A3.out).mono ?_); rintro e w' ⟨rfl, ⟨nd, rfl⟩⟩; refine ⟨_, rfl, ?_⟩) | (go_at_call 21; (with_reducible refine (signatoryref10_Valid.calls k a1 false _ A5.out).mono ?_); rintro e w' ⟨rfl, ⟨nd, rfl⟩⟩))
      go_ret2
      exact ⟨by first | rfl | (simp; done) | (simp [*]; done), by repeat (first | exact Drawn0.refl _ | apply Drawn0.step)⟩
  · replace c4 := Bool.eq_false_iff.mpr c4
    subst c4
    have H1 : (some (0, 100)) = some (r1, r2) := by rw [if_neg (show ¬ (false = true) by decide)] at H; exact H
    clear H
    have H := H1
    clear H1
    simp only [Option.some.injEq, Prod.mk.injEq] at H
    obtain ⟨rfl, rfl⟩ := H
    go_enter Try.func17, Try.ntmps17
    go_wp2_with (first | ((with_reducible refine gate_callee (f := 21) rfl ?_); refine goesL_ (some 7) rfl rfl Try.func21 (by kernel_rfl) rfl #[.int .i64 a0] rfl (by (try simp only [List.map_toArray, List.map_cons, List.map_nil]); first | done | rfl | (simp only [List.length_drop, List.length_take]; rfl)) ?_; (with_reducible refine (signatoryref10_Valid.calls k a0 false _ A3.out).mono ?_); rintro e w' ⟨rfl, ⟨nd, rfl⟩⟩; refine ⟨_, rfl, ?_⟩))
    go_ret2
    exact ⟨by first | rfl | (simp; done) | (simp [*]; done), by repeat (first | exact Drawn0.refl _ | apply Drawn0.step)⟩

/-! ### signatoryref10_exponent: function 53 -/
def signatoryref10_exponent.f (a0 : Int) : Option (Int) := if (Int.tmod a0 1073741789) < 0 then (some (wrap64 ((Int.tmod a0 1073741789) + 1073741789))) else (some (Int.tmod a0 1073741789))
set_option maxHeartbeats 8000000 in
set_option maxRecDepth 100000 in
theorem signatoryref10_exponent.calls (a0 : Int) (r : Int) (w : World) (h : signatoryref10_exponent.f a0 = some r) :
    Calls Try.prog 53 #[.int .i64 a0] w fun e w' => e = .returned (.int .i64 r) ∧ Drawn0 w w' := by
  have H : (if (Int.tmod a0 1073741789) < 0 then (some (wrap64 ((Int.tmod a0 1073741789) + 1073741789))) else (some (Int.tmod a0 1073741789))) = some r := h
  clear h
  by_cases c2 : (Int.tmod a0 1073741789) < 0
  · rw [if_pos c2] at H
    have c2b0 : decide ((Int.tmod a0 1073741789) < 0) = true := decide_eq_true c2
    clear c2
    obtain rfl := Option.some.inj H
    go_enter Try.func53, Try.ntmps53
    go_wp2
    go_ret
    exact ⟨by first | rfl | (simp; done) | (simp [*]; done), by repeat (first | exact Drawn0.refl _ | apply Drawn0.step)⟩
  · rw [if_neg c2] at H
    have c2b0 : decide ((Int.tmod a0 1073741789) < 0) = false := decide_eq_false c2
    clear c2
    obtain rfl := Option.some.inj H
    go_enter Try.func53, Try.ntmps53
    go_wp2
    go_ret
    exact ⟨by first | rfl | (simp; done) | (simp [*]; done), by repeat (first | exact Drawn0.refl _ | apply Drawn0.step)⟩

/-! ### signatoryref10_Pow: function 19 -/
def signatoryref10_Pow.f (k : Nat) (a0 : Int) (a1 : Int) : Option (Int × Int) := (signatoryref10_Valid.f k a0).bind fun t145 => (if t145 = true then ((signatoryref10_exponent.f a1).bind fun t146 => ((signatoryref10_power.f k a0 t146).bind fun t147 => (some (t147, 0)))) else (some (0, 100)))
theorem signatoryref10_Pow.mono : ∀ a0 a1 k, LeO (signatoryref10_Pow.f k a0 a1) (signatoryref10_Pow.f (k + 1) a0 a1) := by
  intro a0 a1 k
  unfold signatoryref10_Pow.f
  repeat' first
      | (with_reducible exact signatoryref10_Valid.mono _ _)
      | (with_reducible exact signatoryref10_power.mono _ _ _)
      | (with_reducible exact LeO.refl _)
      | (with_reducible exact LeO.none _)
      | (with_reducible refine LeO.ite ?_ ?_)
      | (with_reducible refine LeO.bind ?_ (fun _ => ?_))
      | exact signatoryref10_Valid.mono _ _
      | exact signatoryref10_power.mono _ _ _
      | exact LeO.none _
      | refine LeO.ite ?_ ?_
      | refine LeO.bind ?_ (fun _ => ?_)
set_option maxHeartbeats 8000000 in
set_option maxRecDepth 100000 in
theorem signatoryref10_Pow.calls (k : Nat) (a0 : Int) (a1 : Int) (r1 : Int) (r2 : Int) (w : World) (h : signatoryref10_Pow.f k a0 a1 = some (r1, r2)) :
    Calls Try.prog 19 #[.int .i64 a0, .int .i64 a1] w fun e w' => e = .returned (.tuple #[.int .i64 r1, .int .i64 r2]) ∧ Drawn0 w w' := by
  have H : ((signatoryref10_Valid.f k a0).bind fun t145 => (if t145 = true then ((signatoryref10_exponent.f a1).bind fun t146 => ((signatoryref10_power.f k a0 t146).bind fun t147 => (some (t147, 0)))) else (some (0, 100)))) = some (r1, r2) := h
  clear h
  replace H := Option.bind_eq_some_iff.mp H
  obtain ⟨t145, A30, H⟩ := H
  replace H : (if t145 = true then ((signatoryref10_exponent.f a1).bind fun t146 => ((signatoryref10_power.f k a0 t146).bind fun t147 => (some (t147, 0)))) else (some (0, 100))) = some (r1, r2) := H
  have A3 := Aside0.mk A30
  clear A30
  by_cases c4 : t145 = true
  · subst c4
    have H1 : ((signatoryref10_exponent.f a1).bind fun t146 => ((signatoryref10_power.f k a0 t146).bind fun t147 => (some (t147, 0)))) = some (r1, r2) := by rw [if_pos rfl] at H; exact H
    clear H
    have H := H1
    clear H1
    replace H := Option.bind_eq_some_iff.mp H
    obtain ⟨t146, A50, H⟩ := H
    replace H : ((signatoryref10_power.f k a0 t146).bind fun t147 => (some (t147, 0))) = some (r1, r2) := H
    have A5 := Aside0.mk A50
    clear A50
    replace H := Option.bind_eq_some_iff.mp H
    obtain ⟨t147, A60, H⟩ := H
    replace H : (some (t147, 0)) = some (r1, r2) := H
    have A6 := Aside0.mk A60
    clear A60
    simp only [Option.some.injEq, Prod.mk.injEq] at H
    obtain ⟨rfl, rfl⟩ := H
    go_enter Try.func19, Try.ntmps19
    go_wp2_with (first | ((with_reducible refine gate_callee (f := 21) rfl ?_); refine goesL_ (some 7) rfl rfl Try.func21 (by kernel_rfl) rfl #[.int .i64 a0] rfl (by (try simp only [List.map_toArray, List.map_cons, List.map_nil]); first | done | rfl | (simp only [List.length_drop, List.length_take]; rfl)) ?_; (with_reducible refine (signatoryref10_Valid.calls k a0 true _ A3.out).mono ?_); rintro e w' ⟨rfl, ⟨nd, rfl⟩⟩; refine ⟨_, rfl, ?_⟩) | ((with_reducible refine gate_callee (f := 53) rfl ?_); refine goesL_ (some 11) rfl rfl Try.func53 (by kernel_rfl) rfl #[.int .i64 a1] rfl (by (try simp only [List.map_toArray, List.map_cons, List.map_nil]); first | done | rfl | (simp only [List.length_drop, List.length_take]; rfl)) ?_; (with_reducible refine (signatoryref10_exponent.calls a1 t146 _ A5.out).mono ?_); rintro e w' ⟨rfl, ⟨nd, rfl⟩⟩; refine ⟨_, rfl, ?_⟩) | ((with_reducible refine gate_callee (f := 52) rfl ?_); refine goesL_ (some 12) rfl rfl Try.func52 (by kernel_rfl) rfl #[.int .i64 a0, .int .i64 t146] rfl (by (try simp only [List.map_toArray, List.map_cons, List.map_nil]); first | done | rfl | (simp only [List.length_drop, List.length_take]; rfl)) ?_; (with_reducible refine (signatoryref10_power.calls k a0 t146 t147 _ A6.out).mono ?_); rintro e w' ⟨rfl, ⟨nd, rfl⟩⟩; refine ⟨_, rfl, ?_⟩))
    go_ret2
    exact ⟨by first | rfl | (simp; done) | (simp [*]; done), by repeat (first | exact Drawn0.refl _ | apply Drawn0.step)⟩
  · replace c4 := Bool.eq_false_iff.mpr c4
    subst c4
    have H1 : (some (0, 100)) = some (r1, r2) := by rw [if_neg (show ¬ (false = true) by decide)] at H; exact H
    clear H
    have H := H1
    clear H1
    simp only [Option.some.injEq, Prod.mk.injEq] at H
    obtain ⟨rfl, rfl⟩ := H
    go_enter Try.func19, Try.ntmps19
    go_wp2_with (first | ((with_reducible refine gate_callee (f := 21) rfl ?_); refine goesL_ (some 7) rfl rfl Try.func21 (by kernel_rfl) rfl #[.int .i64 a0] rfl (by (try simp only [List.map_toArray, List.map_cons, List.map_nil]); first | done | rfl | (simp only [List.length_drop, List.length_take]; rfl)) ?_; (with_reducible refine (signatoryref10_Valid.calls k a0 false _ A3.out).mono ?_); rintro e w' ⟨rfl, ⟨nd, rfl⟩⟩; refine ⟨_, rfl, ?_⟩))
    go_ret2
    exact ⟨by first | rfl | (simp; done) | (simp [*]; done), by repeat (first | exact Drawn0.refl _ | apply Drawn0.step)⟩

end Go.Proofs.Ytjbcfdgnafmbkaa.PGroup
