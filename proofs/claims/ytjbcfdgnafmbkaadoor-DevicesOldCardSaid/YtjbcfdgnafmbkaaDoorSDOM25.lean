/- Lemmas, walks and printed functions for the claim. -/
import Derived.Test.YtjbcfdgnafmbkaaDoorSDOM2
import Derived.Test.YtjbcfdgnafmbkaaDoorSDOM21
import Derived.Test.YtjbcfdgnafmbkaaDoorSDOM22
import Derived.Test.YtjbcfdgnafmbkaaDoorSDOM23
import Derived.Test.YtjbcfdgnafmbkaaDoorSDOM24
section
namespace Go.Proofs.YtjbcfdgnafmbkaaDoor.PBig
open Go.RowKit Go.Proofs.YtjbcfdgnafmbkaaDoorW.PrintWords Go.Proofs.YtjbcfdgnafmbkaaDoorW.PrintLast Go.Proofs.YtjbcfdgnafmbkaaDoorW.PrintMore
attribute [local go_sem] max2_int min2_int max_two min_two max_three min_three max_four min_four
set_option linter.unusedVariables false
set_option linter.unusedSimpArgs false
mutual
def signatorylaw48_DevicesOld.j0 : Nat → List (S65) → Int → List Int → Int → Int → Int → Int → Int → Bool → Option (Bool)
  | 0, _, _, _, _, _, _, _, _, _ => none
  | k + 1, x0, x1, x2, x3, x4, x5, x6, x7, x59 => if x59 = true then (some true) else ((devices_Current.f x0 x1 x4 x7).bind fun bt396 => ((devices_Current.f x0 x1 x5 x7).bind fun bt400 => ((devices_Current.f x0 x1 x6 x7).bind fun bt404 => (if bt396.2.2.2 = 0 then (if bt400.2.2.2 = 0 then (signatorylaw48_DevicesOld.j1 k x0 x1 x2 x3 x6 x7 bt396.1 bt396.2.1 bt396.2.2.1 bt400.1 bt400.2.2.1 bt404.1 bt404.2.1 bt404.2.2.1 (bt404.2.2.2 != 0)) else (signatorylaw48_DevicesOld.j1 k x0 x1 x2 x3 x6 x7 bt396.1 bt396.2.1 bt396.2.2.1 bt400.1 bt400.2.2.1 bt404.1 bt404.2.1 bt404.2.2.1 true)) else (signatorylaw48_DevicesOld.j1 k x0 x1 x2 x3 x6 x7 bt396.1 bt396.2.1 bt396.2.2.1 bt400.1 bt400.2.2.1 bt404.1 bt404.2.1 bt404.2.2.1 true)))))
def signatorylaw48_DevicesOld.j1 : Nat → List (S65) → Int → List Int → Int → Int → Int → Int → Int → Bool → Int → Bool → Int → Int → Bool → Bool → Option (Bool)
  | 0, _, _, _, _, _, _, _, _, _, _, _, _, _, _, _ => none
  | k + 1, x0, x1, x2, x3, x6, x7, x17, x18, x19, x21, x23, x25, x26, x27, x99 => if x99 = true then (some false) else (if x19 = true then (if x23 = true then (signatorylaw48_DevicesOld.j2 k x0 x1 x2 x3 x6 x7 x17 x18 x25 x26 x27 (x21 == x17)) else (signatorylaw48_DevicesOld.j2 k x0 x1 x2 x3 x6 x7 x17 x18 x25 x26 x27 false)) else (signatorylaw48_DevicesOld.j2 k x0 x1 x2 x3 x6 x7 x17 x18 x25 x26 x27 true))
def signatorylaw48_DevicesOld.j2 : Nat → List (S65) → Int → List Int → Int → Int → Int → Int → Int → Int → Int → Bool → Bool → Option (Bool)
  | 0, _, _, _, _, _, _, _, _, _, _, _, _ => none
  | k + 1, x0, x1, x2, x3, x6, x7, x17, x18, x25, x26, x27, x109 => if x109 = true then (some true) else (if x27 = true then (if x25 = x17 then (signatorylaw48_DevicesOld.j3 k x0 x1 x2 x3 x6 x7 x18 x25 x26 x27 true) else (signatorylaw48_DevicesOld.j3 k x0 x1 x2 x3 x6 x7 x18 x25 x26 x27 (x26 == x18))) else (signatorylaw48_DevicesOld.j3 k x0 x1 x2 x3 x6 x7 x18 x25 x26 x27 false))
def signatorylaw48_DevicesOld.j3 : Nat → List (S65) → Int → List Int → Int → Int → Int → Int → Int → Int → Bool → Bool → Option (Bool)
  | 0, _, _, _, _, _, _, _, _, _, _, _ => none
  | k + 1, x0, x1, x2, x3, x6, x7, x18, x25, x26, x27, x120 => if x120 = true then (some false) else ((sign_Sign.f x3 x2).bind fun bt408 => (if bt408.2.2 = 0 then ((sign_Verify.f x18 x2 bt408.1 bt408.2.1).bind fun t412 => (signatorylaw48_DevicesOld.j4 k x0 x1 x2 x6 x7 x25 x26 x27 (!t412) bt408.1 bt408.2.1)) else (signatorylaw48_DevicesOld.j4 k x0 x1 x2 x6 x7 x25 x26 x27 true bt408.1 bt408.2.1)))
def signatorylaw48_DevicesOld.j4 : Nat → List (S65) → Int → List Int → Int → Int → Int → Int → Bool → Bool → Int → Int → Option (Bool)
  | 0, _, _, _, _, _, _, _, _, _, _, _ => none
  | k + 1, x0, x1, x2, x6, x7, x25, x26, x27, x135, x412000, x412001 => if x135 = true then (some true) else ((devices_Accepts.f x0 x1 x2 x412000 x412001 x6 x7).bind fun bt413 => (if bt413.2.2 = 0 then (if bt413.2.1 = true then (if x27 = true then (if bt413.1 = x25 then ((sign_Verify.f x26 x2 x412000 x412001).bind fun t416 => (some t416)) else (some false)) else (some false)) else (some true)) else (some false)))
end
def signatorylaw48_DevicesOld.f (k : Nat) (l0 : List (S65)) (a1 : Int) (l2 : List Int) (a3 : Int) (a4 : Int) (a5 : Int) (a6 : Int) (a7 : Int) : Option (Bool) := (signatorylaw48_sane.f k).bind fun t391 => (if t391 = true then ((signatorylaw48_right.f k l0 a1 (([a4, a5, a6, a7] : List Int))).bind fun t395 => (if t395 = true then (if a4 > a5 then (signatorylaw48_DevicesOld.j0 k l0 a1 l2 a3 a4 a5 a6 a7 true) else (if a5 > a6 then (signatorylaw48_DevicesOld.j0 k l0 a1 l2 a3 a4 a5 a6 a7 true) else (signatorylaw48_DevicesOld.j0 k l0 a1 l2 a3 a4 a5 a6 a7 (decide ((l2.length : Int) > 200))))) else (signatorylaw48_DevicesOld.j0 k l0 a1 l2 a3 a4 a5 a6 a7 true))) else (some false))
theorem signatorylaw48_DevicesOld.mono_l : ∀ k, (∀ y0 y1 y2 y3 y4 y5 y6 y7 y8, LeO (signatorylaw48_DevicesOld.j0 k y0 y1 y2 y3 y4 y5 y6 y7 y8) (signatorylaw48_DevicesOld.j0 (k + 1) y0 y1 y2 y3 y4 y5 y6 y7 y8)) ∧ (∀ y0 y1 y2 y3 y4 y5 y6 y7 y8 y9 y10 y11 y12 y13 y14, LeO (signatorylaw48_DevicesOld.j1 k y0 y1 y2 y3 y4 y5 y6 y7 y8 y9 y10 y11 y12 y13 y14) (signatorylaw48_DevicesOld.j1 (k + 1) y0 y1 y2 y3 y4 y5 y6 y7 y8 y9 y10 y11 y12 y13 y14)) ∧ (∀ y0 y1 y2 y3 y4 y5 y6 y7 y8 y9 y10 y11, LeO (signatorylaw48_DevicesOld.j2 k y0 y1 y2 y3 y4 y5 y6 y7 y8 y9 y10 y11) (signatorylaw48_DevicesOld.j2 (k + 1) y0 y1 y2 y3 y4 y5 y6 y7 y8 y9 y10 y11)) ∧ (∀ y0 y1 y2 y3 y4 y5 y6 y7 y8 y9 y10, LeO (signatorylaw48_DevicesOld.j3 k y0 y1 y2 y3 y4 y5 y6 y7 y8 y9 y10) (signatorylaw48_DevicesOld.j3 (k + 1) y0 y1 y2 y3 y4 y5 y6 y7 y8 y9 y10)) ∧ (∀ y0 y1 y2 y3 y4 y5 y6 y7 y8 y9 y10, LeO (signatorylaw48_DevicesOld.j4 k y0 y1 y2 y3 y4 y5 y6 y7 y8 y9 y10) (signatorylaw48_DevicesOld.j4 (k + 1) y0 y1 y2 y3 y4 y5 y6 y7 y8 y9 y10))
  | 0 => ⟨fun _ _ _ _ _ _ _ _ _ r h => by simp [signatorylaw48_DevicesOld.j0] at h, fun _ _ _ _ _ _ _ _ _ _ _ _ _ _ _ r h => by simp [signatorylaw48_DevicesOld.j1] at h, fun _ _ _ _ _ _ _ _ _ _ _ _ r h => by simp [signatorylaw48_DevicesOld.j2] at h, fun _ _ _ _ _ _ _ _ _ _ _ r h => by simp [signatorylaw48_DevicesOld.j3] at h, fun _ _ _ _ _ _ _ _ _ _ _ r h => by simp [signatorylaw48_DevicesOld.j4] at h⟩
  | k + 1 => by
    obtain ⟨ih0, ih1, ih2, ih3, ih4⟩ := signatorylaw48_DevicesOld.mono_l k
    refine ⟨?_, ?_, ?_, ?_, ?_⟩
    · intro y0 y1 y2 y3 y4 y5 y6 y7 y8
      unfold signatorylaw48_DevicesOld.j0
      repeat' first
      | (with_reducible exact ih0 _ _ _ _ _ _ _ _ _)
      | (with_reducible exact ih1 _ _ _ _ _ _ _ _ _ _ _ _ _ _ _)
      | (with_reducible exact ih2 _ _ _ _ _ _ _ _ _ _ _ _)
      | (with_reducible exact ih3 _ _ _ _ _ _ _ _ _ _ _)
      | (with_reducible exact ih4 _ _ _ _ _ _ _ _ _ _ _)
      | (with_reducible exact signatorylaw48_right.mono _ _ _ _)
      | (with_reducible exact signatorylaw48_sane.mono _)
      | (with_reducible exact LeO.refl _)
      | (with_reducible exact LeO.none _)
      | (with_reducible refine LeO.ite ?_ ?_)
      | (with_reducible refine LeO.bind ?_ (fun _ => ?_))
      | exact ih0 _ _ _ _ _ _ _ _ _
      | exact ih1 _ _ _ _ _ _ _ _ _ _ _ _ _ _ _
      | exact ih2 _ _ _ _ _ _ _ _ _ _ _ _
      | exact ih3 _ _ _ _ _ _ _ _ _ _ _
      | exact ih4 _ _ _ _ _ _ _ _ _ _ _
      | exact signatorylaw48_right.mono _ _ _ _
      | exact signatorylaw48_sane.mono _
      | exact LeO.none _
      | refine LeO.ite ?_ ?_
      | refine LeO.bind ?_ (fun _ => ?_)
    · intro y0 y1 y2 y3 y4 y5 y6 y7 y8 y9 y10 y11 y12 y13 y14
      unfold signatorylaw48_DevicesOld.j1
      repeat' first
      | (with_reducible exact ih0 _ _ _ _ _ _ _ _ _)
      | (with_reducible exact ih1 _ _ _ _ _ _ _ _ _ _ _ _ _ _ _)
      | (with_reducible exact ih2 _ _ _ _ _ _ _ _ _ _ _ _)
      | (with_reducible exact ih3 _ _ _ _ _ _ _ _ _ _ _)
      | (with_reducible exact ih4 _ _ _ _ _ _ _ _ _ _ _)
      | (with_reducible exact signatorylaw48_right.mono _ _ _ _)
      | (with_reducible exact signatorylaw48_sane.mono _)
      | (with_reducible exact LeO.refl _)
      | (with_reducible exact LeO.none _)
      | (with_reducible refine LeO.ite ?_ ?_)
      | (with_reducible refine LeO.bind ?_ (fun _ => ?_))
      | exact ih0 _ _ _ _ _ _ _ _ _
      | exact ih1 _ _ _ _ _ _ _ _ _ _ _ _ _ _ _
      | exact ih2 _ _ _ _ _ _ _ _ _ _ _ _
      | exact ih3 _ _ _ _ _ _ _ _ _ _ _
      | exact ih4 _ _ _ _ _ _ _ _ _ _ _
      | exact signatorylaw48_right.mono _ _ _ _
      | exact signatorylaw48_sane.mono _
      | exact LeO.none _
      | refine LeO.ite ?_ ?_
      | refine LeO.bind ?_ (fun _ => ?_)
    · intro y0 y1 y2 y3 y4 y5 y6 y7 y8 y9 y10 y11
      unfold signatorylaw48_DevicesOld.j2
      repeat' first
      | (with_reducible exact ih0 _ _ _ _ _ _ _ _ _)
      | (with_reducible exact ih1 _ _ _ _ _ _ _ _ _ _ _ _ _ _ _)
      | (with_reducible exact ih2 _ _ _ _ _ _ _ _ _ _ _ _)
      | (with_reducible exact ih3 _ _ _ _ _ _ _ _ _ _ _)
      | (with_reducible exact ih4 _ _ _ _ _ _ _ _ _ _ _)
      | (with_reducible exact signatorylaw48_right.mono _ _ _ _)
      | (with_reducible exact signatorylaw48_sane.mono _)
      | (with_reducible exact LeO.refl _)
      | (with_reducible exact LeO.none _)
      | (with_reducible refine LeO.ite ?_ ?_)
      | (with_reducible refine LeO.bind ?_ (fun _ => ?_))
      | exact ih0 _ _ _ _ _ _ _ _ _
      | exact ih1 _ _ _ _ _ _ _ _ _ _ _ _ _ _ _
      | exact ih2 _ _ _ _ _ _ _ _ _ _ _ _
      | exact ih3 _ _ _ _ _ _ _ _ _ _ _
      | exact ih4 _ _ _ _ _ _ _ _ _ _ _
      | exact signatorylaw48_right.mono _ _ _ _
      | exact signatorylaw48_sane.mono _
      | exact LeO.none _
      | refine LeO.ite ?_ ?_
      | refine LeO.bind ?_ (fun _ => ?_)
    · intro y0 y1 y2 y3 y4 y5 y6 y7 y8 y9 y10
      unfold signatorylaw48_DevicesOld.j3
      repeat' first
      | (with_reducible exact ih0 _ _ _ _ _ _ _ _ _)
      | (with_reducible exact ih1 _ _ _ _ _ _ _ _ _ _ _ _ _ _ _)
      | (with_reducible exact ih2 _ _ _ _ _ _ _ _ _ _ _ _)
      | (with_reducible exact ih3 _ _ _ _ _ _ _ _ _ _ _)
      | (with_reducible exact ih4 _ _ _ _ _ _ _ _ _ _ _)
      | (with_reducible exact signatorylaw48_right.mono _ _ _ _)
      | (with_reducible exact signatorylaw48_sane.mono _)
      | (with_reducible exact LeO.refl _)
      | (with_reducible exact LeO.none _)
      | (with_reducible refine LeO.ite ?_ ?_)
      | (with_reducible refine LeO.bind ?_ (fun _ => ?_))
      | exact ih0 _ _ _ _ _ _ _ _ _
      | exact ih1 _ _ _ _ _ _ _ _ _ _ _ _ _ _ _
      | exact ih2 _ _ _ _ _ _ _ _ _ _ _ _
      | exact ih3 _ _ _ _ _ _ _ _ _ _ _
      | exact ih4 _ _ _ _ _ _ _ _ _ _ _
      | exact signatorylaw48_right.mono _ _ _ _
      | exact signatorylaw48_sane.mono _
      | exact LeO.none _
      | refine LeO.ite ?_ ?_
      | refine LeO.bind ?_ (fun _ => ?_)
    · intro y0 y1 y2 y3 y4 y5 y6 y7 y8 y9 y10
      unfold signatorylaw48_DevicesOld.j4
      repeat' first
      | (with_reducible exact ih0 _ _ _ _ _ _ _ _ _)
      | (with_reducible exact ih1 _ _ _ _ _ _ _ _ _ _ _ _ _ _ _)
      | (with_reducible exact ih2 _ _ _ _ _ _ _ _ _ _ _ _)
      | (with_reducible exact ih3 _ _ _ _ _ _ _ _ _ _ _)
      | (with_reducible exact ih4 _ _ _ _ _ _ _ _ _ _ _)
      | (with_reducible exact signatorylaw48_right.mono _ _ _ _)
      | (with_reducible exact signatorylaw48_sane.mono _)
      | (with_reducible exact LeO.refl _)
      | (with_reducible exact LeO.none _)
      | (with_reducible refine LeO.ite ?_ ?_)
      | (with_reducible refine LeO.bind ?_ (fun _ => ?_))
      | exact ih0 _ _ _ _ _ _ _ _ _
      | exact ih1 _ _ _ _ _ _ _ _ _ _ _ _ _ _ _
      | exact ih2 _ _ _ _ _ _ _ _ _ _ _ _
      | exact ih3 _ _ _ _ _ _ _ _ _ _ _
      | exact ih4 _ _ _ _ _ _ _ _ _ _ _
      | exact signatorylaw48_right.mono _ _ _ _
      | exact signatorylaw48_sane.mono _
      | exact LeO.none _
      | refine LeO.ite ?_ ?_
      | refine LeO.bind ?_ (fun _ => ?_)
theorem signatorylaw48_DevicesOld.mono : ∀ a0 a1 a2 a3 a4 a5 a6 a7 k, LeO (signatorylaw48_DevicesOld.f k a0 a1 a2 a3 a4 a5 a6 a7) (signatorylaw48_DevicesOld.f (k + 1) a0 a1 a2 a3 a4 a5 a6 a7) := by
  intro a0 a1 a2 a3 a4 a5 a6 a7 k
  obtain ⟨ih0, ih1, ih2, ih3, ih4⟩ := signatorylaw48_DevicesOld.mono_l k
  unfold signatorylaw48_DevicesOld.f
  repeat' first
      | (with_reducible exact ih0 _ _ _ _ _ _ _ _ _)
      | (with_reducible exact ih1 _ _ _ _ _ _ _ _ _ _ _ _ _ _ _)
      | (with_reducible exact ih2 _ _ _ _ _ _ _ _ _ _ _ _)
      | (with_reducible exact ih3 _ _ _ _ _ _ _ _ _ _ _)
      | (with_reducible exact ih4 _ _ _ _ _ _ _ _ _ _ _)
      | (with_reducible exact signatorylaw48_right.mono _ _ _ _)
      | (with_reducible exact signatorylaw48_sane.mono _)
      | (with_reducible exact LeO.refl _)
      | (with_reducible exact LeO.none _)
      | (with_reducible refine LeO.ite ?_ ?_)
      | (with_reducible refine LeO.bind ?_ (fun _ => ?_))
      | exact ih0 _ _ _ _ _ _ _ _ _
      | exact ih1 _ _ _ _ _ _ _ _ _ _ _ _ _ _ _
      | exact ih2 _ _ _ _ _ _ _ _ _ _ _ _
      | exact ih3 _ _ _ _ _ _ _ _ _ _ _
      | exact ih4 _ _ _ _ _ _ _ _ _ _ _
      | exact signatorylaw48_right.mono _ _ _ _
      | exact signatorylaw48_sane.mono _
      | exact LeO.none _
      | refine LeO.ite ?_ ?_
      | refine LeO.bind ?_ (fun _ => ?_)
set_option maxHeartbeats 8000000 in
set_option maxRecDepth 100000 in
theorem signatorylaw48_DevicesOld.calls (k : Nat) (A0 : Option Addr) (c0 : Nat) (l0 : List (S65)) (a1 : Int) (A2 : Option Addr) (c2 : Nat) (l2 : List Int) (a3 : Int) (a4 : Int) (a5 : Int) (a6 : Int) (a7 : Int) (r : Bool) (w : World) (hLd : Go.Proofs.YtjbcfdgnafmbkaaDoor.Sha.Laid w) (hr0 : Kd.C k65 w A0 l0.length l0) (hc0 : l0.length ≤ c0) (hr2 : Kd.C (Kd.int .u8) w A2 l2.length l2) (hc2 : l2.length ≤ c2) (h : signatorylaw48_DevicesOld.f k l0 a1 l2 a3 a4 a5 a6 a7 = some r) :
    Calls Tryd.prog 13 #[.slice A0 l0.length c0, .int .i64 a1, .slice A2 l2.length c2, .int .i64 a3, .int .i64 a4, .int .i64 a5, .int .i64 a6, .int .i64 a7] w fun e w' => e = .returned (.bool r) ∧ Below w.heap.size w w' := by
  have HLd := Aside0.mk hLd
  clear hLd
  have hu73 := Tryd.underlying73
  have HR0 := Aside0.mk hr0
  have HC0 := Aside0.mk hc0
  clear hr0 hc0
  have HR2 := Aside0.mk hr2
  have HC2 := Aside0.mk hc2
  clear hr2 hc2
  have HB := Aside0.mk (Below.refl w.heap.size w)
  have H : ((signatorylaw48_sane.f k).bind fun t391 => (if t391 = true then ((signatorylaw48_right.f k l0 a1 (([a4, a5, a6, a7] : List Int))).bind fun t395 => (if t395 = true then (if a4 > a5 then (signatorylaw48_DevicesOld.j0 k l0 a1 l2 a3 a4 a5 a6 a7 true) else (if a5 > a6 then (signatorylaw48_DevicesOld.j0 k l0 a1 l2 a3 a4 a5 a6 a7 true) else (signatorylaw48_DevicesOld.j0 k l0 a1 l2 a3 a4 a5 a6 a7 (decide ((l2.length : Int) > 200))))) else (signatorylaw48_DevicesOld.j0 k l0 a1 l2 a3 a4 a5 a6 a7 true))) else (some false))) = some r := h
  clear h
  replace H := Option.bind_eq_some_iff.mp H
  obtain ⟨t391, A90, H⟩ := H
  replace H : (if t391 = true then ((signatorylaw48_right.f k l0 a1 (([a4, a5, a6, a7] : List Int))).bind fun t395 => (if t395 = true then (if a4 > a5 then (signatorylaw48_DevicesOld.j0 k l0 a1 l2 a3 a4 a5 a6 a7 true) else (if a5 > a6 then (signatorylaw48_DevicesOld.j0 k l0 a1 l2 a3 a4 a5 a6 a7 true) else (signatorylaw48_DevicesOld.j0 k l0 a1 l2 a3 a4 a5 a6 a7 (decide ((l2.length : Int) > 200))))) else (signatorylaw48_DevicesOld.j0 k l0 a1 l2 a3 a4 a5 a6 a7 true))) else (some false)) = some r := H
  have A9 := Aside0.mk A90
  clear A90
  by_cases c10 : t391 = true
  · subst c10
    have H1 : ((signatorylaw48_right.f k l0 a1 (([a4, a5, a6, a7] : List Int))).bind fun t395 => (if t395 = true then (if a4 > a5 then (signatorylaw48_DevicesOld.j0 k l0 a1 l2 a3 a4 a5 a6 a7 true) else (if a5 > a6 then (signatorylaw48_DevicesOld.j0 k l0 a1 l2 a3 a4 a5 a6 a7 true) else (signatorylaw48_DevicesOld.j0 k l0 a1 l2 a3 a4 a5 a6 a7 (decide ((l2.length : Int) > 200))))) else (signatorylaw48_DevicesOld.j0 k l0 a1 l2 a3 a4 a5 a6 a7 true))) = some r := by rw [if_pos rfl] at H; exact H
    clear H
    have H := H1
    clear H1
    have HC11 := Aside0.mk H
    clear H
    go_enter Tryd.func13, Tryd.ntmps13
    go_upto_region 3 with (first | ((with_reducible refine gate_callee (f := 40) rfl ?_); refine goesL_ (some 34) rfl rfl Tryd.func40 (by kernel_rfl) rfl #[] rfl (by (try simp only [List.map_toArray, List.map_cons, List.map_nil]); first | done | rfl | (simp only [List.length_drop, List.length_take]; rfl)) ?_; (with_reducible refine (signatorylaw48_sane.calls (hLd := ?sideL) k  true _ A9.out).mono ?_); (case sideL => exact Go.Proofs.YtjbcfdgnafmbkaaDoor.Cod.Laid.below HLd.out (by repeat (first | (with_reducible first | exact HB.out | apply below_alloc | apply pw_below_drewN | apply below_drew1) | exact HB.out))); rintro e w12 ⟨rfl, hb⟩; refine ⟨_, rfl, ?_⟩; have n0_ := Aside0.mk (below_step (by repeat (first | (with_reducible first | exact HB.out | apply below_alloc | apply pw_below_drewN | apply below_drew1) | exact HB.out)) hb); clear HB; have HB := n0_; clear n0_; (try clear hb); (try clear hb2); (try clear hk); (try clear hi)))
    (try simp only [Act.put, List.setIfInBounds_toArray, List.set_cons_zero, List.set_cons_succ])
    go_cut [59] (fun v59 wc => ∃ (kq : Nat) (x59_10 : Bool), v59 = .bool x59_10 ∧ Aside0 (signatorylaw48_DevicesOld.j0 kq l0 a1 l2 a3 a4 a5 a6 a7 x59_10 = some r) ∧ Aside0 (kq ≤ k) ∧ Aside0 (Below w.heap.size w wc))
    case first =>
      have H := HC11.out
      clear HC11
      obtain ⟨y392, hy392⟩ : ∃ y_ : List Int, y_ = (([a4, a5, a6, a7] : List Int)) := ⟨_, rfl⟩
      replace H : ((signatorylaw48_right.f k l0 a1 y392).bind fun t395 => (if t395 = true then (if a4 > a5 then (signatorylaw48_DevicesOld.j0 k l0 a1 l2 a3 a4 a5 a6 a7 true) else (if a5 > a6 then (signatorylaw48_DevicesOld.j0 k l0 a1 l2 a3 a4 a5 a6 a7 true) else (signatorylaw48_DevicesOld.j0 k l0 a1 l2 a3 a4 a5 a6 a7 (decide ((l2.length : Int) > 200))))) else (signatorylaw48_DevicesOld.j0 k l0 a1 l2 a3 a4 a5 a6 a7 true))) = some r := by first | (rw [hy392]; with_reducible exact H) | (have H2_ := (Option.bind_some _ _).symm.trans H; rw [hy392]; with_reducible exact H2_) | (have H2_ := (Option.bind_some _ _).symm.trans H; with_reducible exact H2_) | with_reducible exact H | (rw [hy392]; exact H) | exact H
      have Ny392 := Aside0.mk hy392
      clear hy392
      replace H := Option.bind_eq_some_iff.mp H
      obtain ⟨t395, A130, H⟩ := H
      replace H : (if t395 = true then (if a4 > a5 then (signatorylaw48_DevicesOld.j0 k l0 a1 l2 a3 a4 a5 a6 a7 true) else (if a5 > a6 then (signatorylaw48_DevicesOld.j0 k l0 a1 l2 a3 a4 a5 a6 a7 true) else (signatorylaw48_DevicesOld.j0 k l0 a1 l2 a3 a4 a5 a6 a7 (decide ((l2.length : Int) > 200))))) else (signatorylaw48_DevicesOld.j0 k l0 a1 l2 a3 a4 a5 a6 a7 true)) = some r := H
      have A13 := Aside0.mk A130
      clear A130
      by_cases c14 : t395 = true
      · subst c14
        have H1 : (if a4 > a5 then (signatorylaw48_DevicesOld.j0 k l0 a1 l2 a3 a4 a5 a6 a7 true) else (if a5 > a6 then (signatorylaw48_DevicesOld.j0 k l0 a1 l2 a3 a4 a5 a6 a7 true) else (signatorylaw48_DevicesOld.j0 k l0 a1 l2 a3 a4 a5 a6 a7 (decide ((l2.length : Int) > 200))))) = some r := by rw [if_pos rfl] at H; exact H
        clear H
        have H := H1
        clear H1
        by_cases c15 : a4 > a5
        · rw [if_pos c15] at H
          have c15b0 : decide (a5 < a4) = true := decide_eq_true c15
          clear c15
          (first | rw [c15b0] | (simp only [i64_w, i32_w]; rw [c15b0]) | skip)
          have H' := Aside0.mk H
          clear H
          go_wp2_with (first | ((with_reducible refine gate_dst (N := 42) rfl ?_); (try (refine gate_guard (by rfl) ?_; dsimp only)); refine Kd.R_lit (Kd.int .i64) _ 3 ?hg (N := 42) ?hd (xs := ([a4, a5, a6, a7] : List Int)) (inner := [.int .i64 a4, .int .i64 a5, .int .i64 a6, .int .i64 a7]) (ok := fun _ => True) (okp := fun _ => True) ?hr ?hp (fun _ hk => hk) trivial (Below.refl _ _) (Nat.le_refl _) (by simp) ?_; (case hd => rfl); (case hg => rfl); (case hr => first | (go_simp; done) | (go_simp; rfl)); (case hp => exact (Reps.one (show Kd.M (Kd.int .i64) _ _ _ a4 [.int .i64 a4] from rfl) (Reps.one (show Kd.M (Kd.int .i64) _ _ _ a5 [.int .i64 a5] from rfl) (Reps.one (show Kd.M (Kd.int .i64) _ _ _ a6 [.int .i64 a6] from rfl) (Reps.one (show Kd.M (Kd.int .i64) _ _ _ a7 [.int .i64 a7] from rfl) (Reps.none _ _)))))); intro v393 w16 ho17 hb hg_ hnew_; clear hg_ hnew_; (first | rw [← Ny392.out] at ho17 | (simp only [Int.reduceToNat] at ho17; rw [← Ny392.out] at ho17)); have n0_ := Aside0.mk (Kd.R_lower ho17 (below_size (by repeat (first | (with_reducible first | exact HB.out | apply below_alloc | apply pw_below_drewN | apply below_drew1) | exact HB.out)))); have n1_ := Aside0.mk (below_step (by repeat (first | (with_reducible first | exact HB.out | apply below_alloc | apply pw_below_drewN | apply below_drew1) | exact HB.out)) hb); clear HB; have HO394 := n0_; have HB := n1_; clear n0_ n1_; clear hb ho17; obtain ⟨Ao18, co18, eo18⟩ := Kd.R_slice HO394.out; subst eo18) | ((with_reducible refine gate_callee (f := 51) rfl ?_); refine goesL_ (some 43) rfl rfl Tryd.func51 (by kernel_rfl) rfl #[.slice A0 l0.length c0, .int .i64 a1, .slice Ao18 y392.length co18] rfl (by (try simp only [List.map_toArray, List.map_cons, List.map_nil]); first | done | rfl | (simp only [List.length_drop, List.length_take]; rfl)) ?_; (with_reducible refine (signatorylaw48_right.calls k _ _ l0 a1 _ _ y392 true _ ?side1 ?side2 ?side3 ?side4 A13.out).mono ?_); (case side1 => repeat (first | exact (Kd.C_below HR0.out HB.out) | (with_reducible refine Kd.C_alloc ?_ _) | (with_reducible refine Kd.C_drewN ?_ _) | (with_reducible refine Kd.C_drew ?_))); (case side2 => exact HC0.out); (case side3 => repeat (first | exact (Kd.R_reads' HO394.out).2.2 | (with_reducible refine Kd.C_alloc ?_ _) | (with_reducible refine Kd.C_drewN ?_ _) | (with_reducible refine Kd.C_drew ?_))); (case side4 => exact (Kd.R_reads' HO394.out).2.1); rintro e w19 ⟨rfl, hb⟩; refine ⟨_, rfl, ?_⟩; have n0_ := Aside0.mk (Kd.R_below (by (with_reducible repeat (first | apply Kd.R_alloc | apply Kd.R_drewN | apply Kd.R_drew)); exact HO394.out) hb); have n1_ := Aside0.mk (below_step (by repeat (first | (with_reducible first | exact HB.out | apply below_alloc | apply pw_below_drewN | apply below_drew1) | exact HB.out)) hb); clear HO394; clear HB; have HO394 := n0_; have HB := n1_; clear n0_ n1_; (try clear hb); (try clear hb2); (try clear hk); (try clear hi)))
          go_meet
          case rel => exact ⟨_, (true), (by first | rfl | (simp; done) | (simp [*]; done)), H', ⟨by first | omega | exact Nat.le_refl _⟩, ⟨by repeat (first | (with_reducible first | exact HB.out | apply below_alloc | apply pw_below_drewN | apply below_drew1) | exact HB.out)⟩⟩
        · rw [if_neg c15] at H
          have c15b0 : decide (a5 < a4) = false := decide_eq_false c15
          clear c15
          (first | rw [c15b0] | (simp only [i64_w, i32_w]; rw [c15b0]) | skip)
          by_cases c20 : a5 > a6
          · rw [if_pos c20] at H
            have c20b0 : decide (a6 < a5) = true := decide_eq_true c20
            clear c20
            have H' := Aside0.mk H
            clear H
            go_wp2_with (first | ((with_reducible refine gate_dst (N := 42) rfl ?_); (try (refine gate_guard (by rfl) ?_; dsimp only)); refine Kd.R_lit (Kd.int .i64) _ 3 ?hg (N := 42) ?hd (xs := ([a4, a5, a6, a7] : List Int)) (inner := [.int .i64 a4, .int .i64 a5, .int .i64 a6, .int .i64 a7]) (ok := fun _ => True) (okp := fun _ => True) ?hr ?hp (fun _ hk => hk) trivial (Below.refl _ _) (Nat.le_refl _) (by simp) ?_; (case hd => rfl); (case hg => rfl); (case hr => first | (go_simp; done) | (go_simp; rfl)); (case hp => exact (Reps.one (show Kd.M (Kd.int .i64) _ _ _ a4 [.int .i64 a4] from rfl) (Reps.one (show Kd.M (Kd.int .i64) _ _ _ a5 [.int .i64 a5] from rfl) (Reps.one (show Kd.M (Kd.int .i64) _ _ _ a6 [.int .i64 a6] from rfl) (Reps.one (show Kd.M (Kd.int .i64) _ _ _ a7 [.int .i64 a7] from rfl) (Reps.none _ _)))))); intro v393 w21 ho22 hb hg_ hnew_; clear hg_ hnew_; (first | rw [← Ny392.out] at ho22 | (simp only [Int.reduceToNat] at ho22; rw [← Ny392.out] at ho22)); have n0_ := Aside0.mk (Kd.R_lower ho22 (below_size (by repeat (first | (with_reducible first | exact HB.out | apply below_alloc | apply pw_below_drewN | apply below_drew1) | exact HB.out)))); have n1_ := Aside0.mk (below_step (by repeat (first | (with_reducible first | exact HB.out | apply below_alloc | apply pw_below_drewN | apply below_drew1) | exact HB.out)) hb); clear HB; have HO394 := n0_; have HB := n1_; clear n0_ n1_; clear hb ho22; obtain ⟨Ao23, co23, eo23⟩ := Kd.R_slice HO394.out; subst eo23) | ((with_reducible refine gate_callee (f := 51) rfl ?_); refine goesL_ (some 43) rfl rfl Tryd.func51 (by kernel_rfl) rfl #[.slice A0 l0.length c0, .int .i64 a1, .slice Ao23 y392.length co23] rfl (by (try simp only [List.map_toArray, List.map_cons, List.map_nil]); first | done | rfl | (simp only [List.length_drop, List.length_take]; rfl)) ?_; (with_reducible refine (signatorylaw48_right.calls k _ _ l0 a1 _ _ y392 true _ ?side1 ?side2 ?side3 ?side4 A13.out).mono ?_); (case side1 => repeat (first | exact (Kd.C_below HR0.out HB.out) | (with_reducible refine Kd.C_alloc ?_ _) | (with_reducible refine Kd.C_drewN ?_ _) | (with_reducible refine Kd.C_drew ?_))); (case side2 => exact HC0.out); (case side3 => repeat (first | exact (Kd.R_reads' HO394.out).2.2 | (with_reducible refine Kd.C_alloc ?_ _) | (with_reducible refine Kd.C_drewN ?_ _) | (with_reducible refine Kd.C_drew ?_))); (case side4 => exact (Kd.R_reads' HO394.out).2.1); rintro e w24 ⟨rfl, hb⟩; refine ⟨_, rfl, ?_⟩; have n0_ := Aside0.mk (Kd.R_below (by (with_reducible repeat (first | apply Kd.R_alloc | apply Kd.R_drewN | apply Kd.R_drew)); exact HO394.out) hb); have n1_ := Aside0.mk (below_step (by repeat (first | (with_reducible first | exact HB.out | apply below_alloc | apply pw_below_drewN | apply below_drew1) | exact HB.out)) hb); clear HO394; clear HB; have HO394 := n0_; have HB := n1_; clear n0_ n1_; (try clear hb); (try clear hb2); (try clear hk); (try clear hi)))
            go_meet
            case rel => exact ⟨_, (true), (by first | rfl | (simp; done) | (simp [*]; done)), H', ⟨by first | omega | exact Nat.le_refl _⟩, ⟨by repeat (first | (with_reducible first | exact HB.out | apply below_alloc | apply pw_below_drewN | apply below_drew1) | exact HB.out)⟩⟩
          · rw [if_neg c20] at H
            have c20b0 : decide (a6 < a5) = false := decide_eq_false c20
            clear c20
            have H' := Aside0.mk H
            clear H
            go_wp2_with (first | ((with_reducible refine gate_dst (N := 42) rfl ?_); (try (refine gate_guard (by rfl) ?_; dsimp only)); refine Kd.R_lit (Kd.int .i64) _ 3 ?hg (N := 42) ?hd (xs := ([a4, a5, a6, a7] : List Int)) (inner := [.int .i64 a4, .int .i64 a5, .int .i64 a6, .int .i64 a7]) (ok := fun _ => True) (okp := fun _ => True) ?hr ?hp (fun _ hk => hk) trivial (Below.refl _ _) (Nat.le_refl _) (by simp) ?_; (case hd => rfl); (case hg => rfl); (case hr => first | (go_simp; done) | (go_simp; rfl)); (case hp => exact (Reps.one (show Kd.M (Kd.int .i64) _ _ _ a4 [.int .i64 a4] from rfl) (Reps.one (show Kd.M (Kd.int .i64) _ _ _ a5 [.int .i64 a5] from rfl) (Reps.one (show Kd.M (Kd.int .i64) _ _ _ a6 [.int .i64 a6] from rfl) (Reps.one (show Kd.M (Kd.int .i64) _ _ _ a7 [.int .i64 a7] from rfl) (Reps.none _ _)))))); intro v393 w25 ho26 hb hg_ hnew_; clear hg_ hnew_; (first | rw [← Ny392.out] at ho26 | (simp only [Int.reduceToNat] at ho26; rw [← Ny392.out] at ho26)); have n0_ := Aside0.mk (Kd.R_lower ho26 (below_size (by repeat (first | (with_reducible first | exact HB.out | apply below_alloc | apply pw_below_drewN | apply below_drew1) | exact HB.out)))); have n1_ := Aside0.mk (below_step (by repeat (first | (with_reducible first | exact HB.out | apply below_alloc | apply pw_below_drewN | apply below_drew1) | exact HB.out)) hb); clear HB; have HO394 := n0_; have HB := n1_; clear n0_ n1_; clear hb ho26; obtain ⟨Ao27, co27, eo27⟩ := Kd.R_slice HO394.out; subst eo27) | ((with_reducible refine gate_callee (f := 51) rfl ?_); refine goesL_ (some 43) rfl rfl Tryd.func51 (by kernel_rfl) rfl #[.slice A0 l0.length c0, .int .i64 a1, .slice Ao27 y392.length co27] rfl (by (try simp only [List.map_toArray, List.map_cons, List.map_nil]); first | done | rfl | (simp only [List.length_drop, List.length_take]; rfl)) ?_; (with_reducible refine (signatorylaw48_right.calls k _ _ l0 a1 _ _ y392 true _ ?side1 ?side2 ?side3 ?side4 A13.out).mono ?_); (case side1 => repeat (first | exact (Kd.C_below HR0.out HB.out) | (with_reducible refine Kd.C_alloc ?_ _) | (with_reducible refine Kd.C_drewN ?_ _) | (with_reducible refine Kd.C_drew ?_))); (case side2 => exact HC0.out); (case side3 => repeat (first | exact (Kd.R_reads' HO394.out).2.2 | (with_reducible refine Kd.C_alloc ?_ _) | (with_reducible refine Kd.C_drewN ?_ _) | (with_reducible refine Kd.C_drew ?_))); (case side4 => exact (Kd.R_reads' HO394.out).2.1); rintro e w28 ⟨rfl, hb⟩; refine ⟨_, rfl, ?_⟩; have n0_ := Aside0.mk (Kd.R_below (by (with_reducible repeat (first | apply Kd.R_alloc | apply Kd.R_drewN | apply Kd.R_drew)); exact HO394.out) hb); have n1_ := Aside0.mk (below_step (by repeat (first | (with_reducible first | exact HB.out | apply below_alloc | apply pw_below_drewN | apply below_drew1) | exact HB.out)) hb); clear HO394; clear HB; have HO394 := n0_; have HB := n1_; clear n0_ n1_; (try clear hb); (try clear hb2); (try clear hk); (try clear hi)))
            go_meet
            case rel => exact ⟨_, (decide ((l2.length : Int) > 200)), (by first | rfl | (simp; done) | (simp [*]; done)), H', ⟨by first | omega | exact Nat.le_refl _⟩, ⟨by repeat (first | (with_reducible first | exact HB.out | apply below_alloc | apply pw_below_drewN | apply below_drew1) | exact HB.out)⟩⟩
      · replace c14 := Bool.eq_false_iff.mpr c14
        subst c14
        have H1 : (signatorylaw48_DevicesOld.j0 k l0 a1 l2 a3 a4 a5 a6 a7 true) = some r := by rw [if_neg (show ¬ (false = true) by decide)] at H; exact H
        clear H
        have H := H1
        clear H1
        have H' := Aside0.mk H
        clear H
        go_wp2_with (first | ((with_reducible refine gate_dst (N := 42) rfl ?_); (try (refine gate_guard (by rfl) ?_; dsimp only)); refine Kd.R_lit (Kd.int .i64) _ 3 ?hg (N := 42) ?hd (xs := ([a4, a5, a6, a7] : List Int)) (inner := [.int .i64 a4, .int .i64 a5, .int .i64 a6, .int .i64 a7]) (ok := fun _ => True) (okp := fun _ => True) ?hr ?hp (fun _ hk => hk) trivial (Below.refl _ _) (Nat.le_refl _) (by simp) ?_; (case hd => rfl); (case hg => rfl); (case hr => first | (go_simp; done) | (go_simp; rfl)); (case hp => exact (Reps.one (show Kd.M (Kd.int .i64) _ _ _ a4 [.int .i64 a4] from rfl) (Reps.one (show Kd.M (Kd.int .i64) _ _ _ a5 [.int .i64 a5] from rfl) (Reps.one (show Kd.M (Kd.int .i64) _ _ _ a6 [.int .i64 a6] from rfl) (Reps.one (show Kd.M (Kd.int .i64) _ _ _ a7 [.int .i64 a7] from rfl) (Reps.none _ _)))))); intro v393 w29 ho30 hb hg_ hnew_; clear hg_ hnew_; (first | rw [← Ny392.out] at ho30 | (simp only [Int.reduceToNat] at ho30; rw [← Ny392.out] at ho30)); have n0_ := Aside0.mk (Kd.R_lower ho30 (below_size (by repeat (first | (with_reducible first | exact HB.out | apply below_alloc | apply pw_below_drewN | apply below_drew1) | exact HB.out)))); have n1_ := Aside0.mk (below_step (by repeat (first | (with_reducible first | exact HB.out | apply below_alloc | apply pw_below_drewN | apply below_drew1) | exact HB.out)) hb); clear HB; have HO394 := n0_; have HB := n1_; clear n0_ n1_; clear hb ho30; obtain ⟨Ao31, co31, eo31⟩ := Kd.R_slice HO394.out; subst eo31) | ((with_reducible refine gate_callee (f := 51) rfl ?_); refine goesL_ (some 43) rfl rfl Tryd.func51 (by kernel_rfl) rfl #[.slice A0 l0.length c0, .int .i64 a1, .slice Ao31 y392.length co31] rfl (by (try simp only [List.map_toArray, List.map_cons, List.map_nil]); first | done | rfl | (simp only [List.length_drop, List.length_take]; rfl)) ?_; (with_reducible refine (signatorylaw48_right.calls k _ _ l0 a1 _ _ y392 false _ ?side1 ?side2 ?side3 ?side4 A13.out).mono ?_); (case side1 => repeat (first | exact (Kd.C_below HR0.out HB.out) | (with_reducible refine Kd.C_alloc ?_ _) | (with_reducible refine Kd.C_drewN ?_ _) | (with_reducible refine Kd.C_drew ?_))); (case side2 => exact HC0.out); (case side3 => repeat (first | exact (Kd.R_reads' HO394.out).2.2 | (with_reducible refine Kd.C_alloc ?_ _) | (with_reducible refine Kd.C_drewN ?_ _) | (with_reducible refine Kd.C_drew ?_))); (case side4 => exact (Kd.R_reads' HO394.out).2.1); rintro e w32 ⟨rfl, hb⟩; refine ⟨_, rfl, ?_⟩; have n0_ := Aside0.mk (Kd.R_below (by (with_reducible repeat (first | apply Kd.R_alloc | apply Kd.R_drewN | apply Kd.R_drew)); exact HO394.out) hb); have n1_ := Aside0.mk (below_step (by repeat (first | (with_reducible first | exact HB.out | apply below_alloc | apply pw_below_drewN | apply below_drew1) | exact HB.out)) hb); clear HO394; clear HB; have HO394 := n0_; have HB := n1_; clear n0_ n1_; (try clear hb); (try clear hb2); (try clear hk); (try clear hi)))
        go_meet
        case rel => exact ⟨_, (true), (by first | rfl | (simp; done) | (simp [*]; done)), H', ⟨by first | omega | exact Nat.le_refl _⟩, ⟨by repeat (first | (with_reducible first | exact HB.out | apply below_alloc | apply pw_below_drewN | apply below_drew1) | exact HB.out)⟩⟩
    case rest =>
      clear HC11
      try clear c1
      try clear c2
      try clear p2
      try clear c4
      try clear c5
      try clear c10
      try clear c13
      try clear c14
      try clear c15
      try clear c15b0
      try clear c20
      try clear c20b0
      obtain ⟨kq, x59_10, rfl, HA, HJ10, HB⟩ := hcut
      cases kq with
      | zero => exact absurd HA.out (by simp [signatorylaw48_DevicesOld.j0])
      | succ kj10 =>
        have H := HA.out
        clear HA
        simp only [signatorylaw48_DevicesOld.j0] at H
        by_cases c33 : x59_10 = true
        · subst c33
          have H1 : (some true) = some r := by rw [if_pos rfl] at H; exact H
          clear H
          have H := H1
          clear H1
          obtain rfl := Option.some.inj H
          go_wp2
          go_ret
          exact ⟨by first | rfl | (simp [errW_none, errW_some] <;> rfl) | (simp [*, errW_none, errW_some] <;> rfl), by repeat (first | (with_reducible first | exact HB.out | apply below_alloc | apply pw_below_drewN | apply below_drew1) | exact HB.out)⟩
        · replace c33 := Bool.eq_false_iff.mpr c33
          subst c33
          have H1 : ((devices_Current.f l0 a1 a4 a7).bind fun bt396 => ((devices_Current.f l0 a1 a5 a7).bind fun bt400 => ((devices_Current.f l0 a1 a6 a7).bind fun bt404 => (if bt396.2.2.2 = 0 then (if bt400.2.2.2 = 0 then (signatorylaw48_DevicesOld.j1 kj10 l0 a1 l2 a3 a6 a7 bt396.1 bt396.2.1 bt396.2.2.1 bt400.1 bt400.2.2.1 bt404.1 bt404.2.1 bt404.2.2.1 (bt404.2.2.2 != 0)) else (signatorylaw48_DevicesOld.j1 kj10 l0 a1 l2 a3 a6 a7 bt396.1 bt396.2.1 bt396.2.2.1 bt400.1 bt400.2.2.1 bt404.1 bt404.2.1 bt404.2.2.1 true)) else (signatorylaw48_DevicesOld.j1 kj10 l0 a1 l2 a3 a6 a7 bt396.1 bt396.2.1 bt396.2.2.1 bt400.1 bt400.2.2.1 bt404.1 bt404.2.1 bt404.2.2.1 true))))) = some r := by rw [if_neg (show ¬ (false = true) by decide)] at H; exact H
          clear H
          have H := H1
          clear H1
          replace H := Option.bind_eq_some_iff.mp H
          obtain ⟨⟨t396, t397, t398, t399⟩, A340, H⟩ := H
          replace H : ((devices_Current.f l0 a1 a5 a7).bind fun bt400 => ((devices_Current.f l0 a1 a6 a7).bind fun bt404 => (if t399 = 0 then (if bt400.2.2.2 = 0 then (signatorylaw48_DevicesOld.j1 kj10 l0 a1 l2 a3 a6 a7 t396 t397 t398 bt400.1 bt400.2.2.1 bt404.1 bt404.2.1 bt404.2.2.1 (bt404.2.2.2 != 0)) else (signatorylaw48_DevicesOld.j1 kj10 l0 a1 l2 a3 a6 a7 t396 t397 t398 bt400.1 bt400.2.2.1 bt404.1 bt404.2.1 bt404.2.2.1 true)) else (signatorylaw48_DevicesOld.j1 kj10 l0 a1 l2 a3 a6 a7 t396 t397 t398 bt400.1 bt400.2.2.1 bt404.1 bt404.2.1 bt404.2.2.1 true)))) = some r := H
          have A34 := Aside0.mk A340
          clear A340
          replace H := Option.bind_eq_some_iff.mp H
          obtain ⟨⟨t400, t401, t402, t403⟩, A350, H⟩ := H
          replace H : ((devices_Current.f l0 a1 a6 a7).bind fun bt404 => (if t399 = 0 then (if t403 = 0 then (signatorylaw48_DevicesOld.j1 kj10 l0 a1 l2 a3 a6 a7 t396 t397 t398 t400 t402 bt404.1 bt404.2.1 bt404.2.2.1 (bt404.2.2.2 != 0)) else (signatorylaw48_DevicesOld.j1 kj10 l0 a1 l2 a3 a6 a7 t396 t397 t398 t400 t402 bt404.1 bt404.2.1 bt404.2.2.1 true)) else (signatorylaw48_DevicesOld.j1 kj10 l0 a1 l2 a3 a6 a7 t396 t397 t398 t400 t402 bt404.1 bt404.2.1 bt404.2.2.1 true))) = some r := H
          have A35 := Aside0.mk A350
          clear A350
          replace H := Option.bind_eq_some_iff.mp H
          obtain ⟨⟨t404, t405, t406, t407⟩, A360, H⟩ := H
          replace H : (if t399 = 0 then (if t403 = 0 then (signatorylaw48_DevicesOld.j1 kj10 l0 a1 l2 a3 a6 a7 t396 t397 t398 t400 t402 t404 t405 t406 (t407 != 0)) else (signatorylaw48_DevicesOld.j1 kj10 l0 a1 l2 a3 a6 a7 t396 t397 t398 t400 t402 t404 t405 t406 true)) else (signatorylaw48_DevicesOld.j1 kj10 l0 a1 l2 a3 a6 a7 t396 t397 t398 t400 t402 t404 t405 t406 true)) = some r := H
          have A36 := Aside0.mk A360
          clear A360
          have HC37 := Aside0.mk H
          clear H
          go_upto_region 8 with (first | ((with_reducible refine gate_callee (f := 47) rfl ?_); refine goesL_ (some 65) rfl rfl Tryd.func47 (by kernel_rfl) rfl #[.slice A0 l0.length c0, .int .i64 a1, .int .i64 a4, .int .i64 a7] rfl (by (try simp only [List.map_toArray, List.map_cons, List.map_nil]); first | done | rfl | (simp only [List.length_drop, List.length_take]; rfl)) ?_; (with_reducible refine (devices_Current.calls _ _ l0 a1 a4 a7 t396 t397 t398 t399 _ ?side1 ?side2 A34.out).mono ?_); (case side1 => repeat (first | exact (Kd.C_below HR0.out HB.out) | (with_reducible refine Kd.C_alloc ?_ _) | (with_reducible refine Kd.C_drewN ?_ _) | (with_reducible refine Kd.C_drew ?_))); (case side2 => exact HC0.out); rintro e w38 ⟨rfl, hb⟩; refine ⟨_, rfl, ?_⟩; have n0_ := Aside0.mk (below_step (by repeat (first | (with_reducible first | exact HB.out | apply below_alloc | apply pw_below_drewN | apply below_drew1) | exact HB.out)) hb); clear HB; have HB := n0_; clear n0_; (try clear hb); (try clear hb2); (try clear hk); (try clear hi)) | ((with_reducible refine gate_callee (f := 47) rfl ?_); refine goesL_ (some 75) rfl rfl Tryd.func47 (by kernel_rfl) rfl #[.slice A0 l0.length c0, .int .i64 a1, .int .i64 a5, .int .i64 a7] rfl (by (try simp only [List.map_toArray, List.map_cons, List.map_nil]); first | done | rfl | (simp only [List.length_drop, List.length_take]; rfl)) ?_; (with_reducible refine (devices_Current.calls _ _ l0 a1 a5 a7 t400 t401 t402 t403 _ ?side1 ?side2 A35.out).mono ?_); (case side1 => repeat (first | exact (Kd.C_below HR0.out HB.out) | (with_reducible refine Kd.C_alloc ?_ _) | (with_reducible refine Kd.C_drewN ?_ _) | (with_reducible refine Kd.C_drew ?_))); (case side2 => exact HC0.out); rintro e w39 ⟨rfl, hb⟩; refine ⟨_, rfl, ?_⟩; have n0_ := Aside0.mk (below_step (by repeat (first | (with_reducible first | exact HB.out | apply below_alloc | apply pw_below_drewN | apply below_drew1) | exact HB.out)) hb); clear HB; have HB := n0_; clear n0_; (try clear hb); (try clear hb2); (try clear hk); (try clear hi)) | ((with_reducible refine gate_callee (f := 47) rfl ?_); refine goesL_ (some 85) rfl rfl Tryd.func47 (by kernel_rfl) rfl #[.slice A0 l0.length c0, .int .i64 a1, .int .i64 a6, .int .i64 a7] rfl (by (try simp only [List.map_toArray, List.map_cons, List.map_nil]); first | done | rfl | (simp only [List.length_drop, List.length_take]; rfl)) ?_; (with_reducible refine (devices_Current.calls _ _ l0 a1 a6 a7 t404 t405 t406 t407 _ ?side1 ?side2 A36.out).mono ?_); (case side1 => repeat (first | exact (Kd.C_below HR0.out HB.out) | (with_reducible refine Kd.C_alloc ?_ _) | (with_reducible refine Kd.C_drewN ?_ _) | (with_reducible refine Kd.C_drew ?_))); (case side2 => exact HC0.out); rintro e w40 ⟨rfl, hb⟩; refine ⟨_, rfl, ?_⟩; have n0_ := Aside0.mk (below_step (by repeat (first | (with_reducible first | exact HB.out | apply below_alloc | apply pw_below_drewN | apply below_drew1) | exact HB.out)) hb); clear HB; have HB := n0_; clear n0_; (try clear hb); (try clear hb2); (try clear hk); (try clear hi)))
          (try simp only [Act.put, List.setIfInBounds_toArray, List.set_cons_zero, List.set_cons_succ])
          go_cut [99] (fun v99 wc => ∃ (kq : Nat) (x99_36 : Bool), v99 = .bool x99_36 ∧ Aside0 (signatorylaw48_DevicesOld.j1 kq l0 a1 l2 a3 a6 a7 t396 t397 t398 t400 t402 t404 t405 t406 x99_36 = some r) ∧ Aside0 (kq ≤ kj10) ∧ Aside0 (Below w.heap.size w wc))
          case first =>
            have H := HC37.out
            clear HC37
            by_cases c41 : t399 = 0
            · rw [if_pos c41] at H
              have c41b0 : (t399 == 0) = true := beq_iff_eq.mpr c41
              have c41b1 : (t399 != 0) = false := bne_eq_false_iff_eq.mpr c41
              clear c41
              (first | rw [c41b0] | (simp only [i64_w, i32_w]; rw [c41b0]) | skip)
              by_cases c42 : t403 = 0
              · rw [if_pos c42] at H
                have c42b0 : (t403 == 0) = true := beq_iff_eq.mpr c42
                have c42b1 : (t403 != 0) = false := bne_eq_false_iff_eq.mpr c42
                clear c42
                have H' := Aside0.mk H
                clear H
                go_wp2
                go_meet
                case rel => exact ⟨_, ((t407 != 0)), (by first | rfl | (simp; done) | (simp [*]; done)), H', ⟨by have := HJ10.out; first | omega | exact Nat.le_refl _⟩, ⟨by repeat (first | (with_reducible first | exact HB.out | apply below_alloc | apply pw_below_drewN | apply below_drew1) | exact HB.out)⟩⟩
              · rw [if_neg c42] at H
                have c42b0 : (t403 == 0) = false := beq_eq_false_iff_ne.mpr c42
                have c42b1 : (t403 != 0) = true := bne_iff_ne.mpr c42
                have H' := Aside0.mk H
                clear H
                go_wp2
                go_meet
                case rel => exact ⟨_, (true), (by first | rfl | (simp; done) | (simp [*]; done)), H', ⟨by have := HJ10.out; first | omega | exact Nat.le_refl _⟩, ⟨by repeat (first | (with_reducible first | exact HB.out | apply below_alloc | apply pw_below_drewN | apply below_drew1) | exact HB.out)⟩⟩
            · rw [if_neg c41] at H
              have c41b0 : (t399 == 0) = false := beq_eq_false_iff_ne.mpr c41
              have c41b1 : (t399 != 0) = true := bne_iff_ne.mpr c41
              (first | rw [c41b0] | (simp only [i64_w, i32_w]; rw [c41b0]) | skip)
              have H' := Aside0.mk H
              clear H
              go_wp2
              go_meet
              case rel => exact ⟨_, (true), (by first | rfl | (simp; done) | (simp [*]; done)), H', ⟨by have := HJ10.out; first | omega | exact Nat.le_refl _⟩, ⟨by repeat (first | (with_reducible first | exact HB.out | apply below_alloc | apply pw_below_drewN | apply below_drew1) | exact HB.out)⟩⟩
          case rest =>
            clear HC37
            try clear c1
            try clear c2
            try clear p2
            try clear c3
            try clear c4
            try clear c5
            try clear c10
            try clear c13
            try clear c14
            try clear c15
            try clear c15b0
            try clear c20
            try clear c20b0
            try clear c33
            try clear c40
            try clear c41
            try clear c41b0
            try clear c41b1
            try clear c42
            try clear c42b0
            try clear c42b1
            try clear p2
            obtain ⟨kq, x99_36, rfl, HA, HJ36, HB⟩ := hcut
            cases kq with
            | zero => exact absurd HA.out (by simp [signatorylaw48_DevicesOld.j1])
            | succ kj36 =>
              have H := HA.out
              clear HA
              simp only [signatorylaw48_DevicesOld.j1] at H
              by_cases c43 : x99_36 = true
              · subst c43
                have H1 : (some false) = some r := by rw [if_pos rfl] at H; exact H
                clear H
                have H := H1
                clear H1
                obtain rfl := Option.some.inj H
                go_wp2
                go_ret
                exact ⟨by first | rfl | (simp [errW_none, errW_some] <;> rfl) | (simp [*, errW_none, errW_some] <;> rfl), by repeat (first | (with_reducible first | exact HB.out | apply below_alloc | apply pw_below_drewN | apply below_drew1) | exact HB.out)⟩
              · replace c43 := Bool.eq_false_iff.mpr c43
                subst c43
                have H1 : (if t398 = true then (if t402 = true then (signatorylaw48_DevicesOld.j2 kj36 l0 a1 l2 a3 a6 a7 t396 t397 t404 t405 t406 (t400 == t396)) else (signatorylaw48_DevicesOld.j2 kj36 l0 a1 l2 a3 a6 a7 t396 t397 t404 t405 t406 false)) else (signatorylaw48_DevicesOld.j2 kj36 l0 a1 l2 a3 a6 a7 t396 t397 t404 t405 t406 true)) = some r := by rw [if_neg (show ¬ (false = true) by decide)] at H; exact H
                clear H
                have H := H1
                clear H1
                have HC44 := Aside0.mk H
                clear H
                go_upto_region 10 with (fail)
                go_cut [109] (fun v109 wc => ∃ (kq : Nat) (x109_43 : Bool), v109 = .bool x109_43 ∧ Aside0 (signatorylaw48_DevicesOld.j2 kq l0 a1 l2 a3 a6 a7 t396 t397 t404 t405 t406 x109_43 = some r) ∧ Aside0 (kq ≤ kj36) ∧ Aside0 (Below w.heap.size w wc))
                case first =>
                  have H := HC44.out
                  clear HC44
                  by_cases c45 : t398 = true
                  · subst c45
                    have H1 : (if t402 = true then (signatorylaw48_DevicesOld.j2 kj36 l0 a1 l2 a3 a6 a7 t396 t397 t404 t405 t406 (t400 == t396)) else (signatorylaw48_DevicesOld.j2 kj36 l0 a1 l2 a3 a6 a7 t396 t397 t404 t405 t406 false)) = some r := by rw [if_pos rfl] at H; exact H
                    clear H
                    have H := H1
                    clear H1
                    by_cases c46 : t402 = true
                    · subst c46
                      have H1 : (signatorylaw48_DevicesOld.j2 kj36 l0 a1 l2 a3 a6 a7 t396 t397 t404 t405 t406 (t400 == t396)) = some r := by rw [if_pos rfl] at H; exact H
                      clear H
                      have H := H1
                      clear H1
                      have H' := Aside0.mk H
                      clear H
                      go_wp2
                      go_meet
                      case rel => exact ⟨_, ((t400 == t396)), (by first | rfl | (simp; done) | (simp [*]; done)), H', ⟨by have := HJ10.out; have := HJ36.out; first | omega | exact Nat.le_refl _⟩, ⟨by repeat (first | (with_reducible first | exact HB.out | apply below_alloc | apply pw_below_drewN | apply below_drew1) | exact HB.out)⟩⟩
                    · replace c46 := Bool.eq_false_iff.mpr c46
                      subst c46
                      have H1 : (signatorylaw48_DevicesOld.j2 kj36 l0 a1 l2 a3 a6 a7 t396 t397 t404 t405 t406 false) = some r := by rw [if_neg (show ¬ (false = true) by decide)] at H; exact H
                      clear H
                      have H := H1
                      clear H1
                      have H' := Aside0.mk H
                      clear H
                      go_wp2
                      go_meet
                      case rel => exact ⟨_, (false), (by first | rfl | (simp; done) | (simp [*]; done)), H', ⟨by have := HJ10.out; have := HJ36.out; first | omega | exact Nat.le_refl _⟩, ⟨by repeat (first | (with_reducible first | exact HB.out | apply below_alloc | apply pw_below_drewN | apply below_drew1) | exact HB.out)⟩⟩
                  · replace c45 := Bool.eq_false_iff.mpr c45
                    subst c45
                    have H1 : (signatorylaw48_DevicesOld.j2 kj36 l0 a1 l2 a3 a6 a7 t396 t397 t404 t405 t406 true) = some r := by rw [if_neg (show ¬ (false = true) by decide)] at H; exact H
                    clear H
                    have H := H1
                    clear H1
                    have H' := Aside0.mk H
                    clear H
                    go_wp2
                    go_meet
                    case rel => exact ⟨_, (true), (by first | rfl | (simp; done) | (simp [*]; done)), H', ⟨by have := HJ10.out; have := HJ36.out; first | omega | exact Nat.le_refl _⟩, ⟨by repeat (first | (with_reducible first | exact HB.out | apply below_alloc | apply pw_below_drewN | apply below_drew1) | exact HB.out)⟩⟩
                case rest =>
                  clear HC44
                  try clear c1
                  try clear c2
                  try clear p2
                  try clear c3
                  try clear c4
                  try clear c5
                  try clear c10
                  try clear c13
                  try clear c14
                  try clear c15
                  try clear c15b0
                  try clear c20
                  try clear c20b0
                  try clear c33
                  try clear c40
                  try clear c41
                  try clear c41b0
                  try clear c41b1
                  try clear c42
                  try clear c42b0
                  try clear c42b1
                  try clear c43
                  try clear c45
                  try clear c46
                  try clear p2
                  obtain ⟨kq, x109_43, rfl, HA, HJ43, HB⟩ := hcut
                  cases kq with
                  | zero => exact absurd HA.out (by simp [signatorylaw48_DevicesOld.j2])
                  | succ kj43 =>
                    have H := HA.out
                    clear HA
                    simp only [signatorylaw48_DevicesOld.j2] at H
                    by_cases c47 : x109_43 = true
                    · subst c47
                      have H1 : (some true) = some r := by rw [if_pos rfl] at H; exact H
                      clear H
                      have H := H1
                      clear H1
                      obtain rfl := Option.some.inj H
                      go_wp2
                      go_ret
                      exact ⟨by first | rfl | (simp [errW_none, errW_some] <;> rfl) | (simp [*, errW_none, errW_some] <;> rfl), by repeat (first | (with_reducible first | exact HB.out | apply below_alloc | apply pw_below_drewN | apply below_drew1) | exact HB.out)⟩
                    · replace c47 := Bool.eq_false_iff.mpr c47
                      subst c47
                      have H1 : (if t406 = true then (if t404 = t396 then (signatorylaw48_DevicesOld.j3 kj43 l0 a1 l2 a3 a6 a7 t397 t404 t405 t406 true) else (signatorylaw48_DevicesOld.j3 kj43 l0 a1 l2 a3 a6 a7 t397 t404 t405 t406 (t405 == t397))) else (signatorylaw48_DevicesOld.j3 kj43 l0 a1 l2 a3 a6 a7 t397 t404 t405 t406 false)) = some r := by rw [if_neg (show ¬ (false = true) by decide)] at H; exact H
                      clear H
                      have H := H1
                      clear H1
                      have HC48 := Aside0.mk H
                      clear H
                      go_upto_region 12 with (fail)
                      go_cut [120] (fun v120 wc => ∃ (kq : Nat) (x120_47 : Bool), v120 = .bool x120_47 ∧ Aside0 (signatorylaw48_DevicesOld.j3 kq l0 a1 l2 a3 a6 a7 t397 t404 t405 t406 x120_47 = some r) ∧ Aside0 (kq ≤ kj43) ∧ Aside0 (Below w.heap.size w wc))
                      case first =>
                        have H := HC48.out
                        clear HC48
                        by_cases c49 : t406 = true
                        · subst c49
                          have H1 : (if t404 = t396 then (signatorylaw48_DevicesOld.j3 kj43 l0 a1 l2 a3 a6 a7 t397 t404 t405 true true) else (signatorylaw48_DevicesOld.j3 kj43 l0 a1 l2 a3 a6 a7 t397 t404 t405 true (t405 == t397))) = some r := by rw [if_pos rfl] at H; exact H
                          clear H
                          have H := H1
                          clear H1
                          by_cases c50 : t404 = t396
                          · rw [if_pos c50] at H
                            have c50b0 : (t404 == t396) = true := beq_iff_eq.mpr c50
                            have c50b1 : (t404 != t396) = false := bne_eq_false_iff_eq.mpr c50
                            clear c50
                            (first | rw [c50b0] | (simp only [i64_w, i32_w]; rw [c50b0]) | skip)
                            have H' := Aside0.mk H
                            clear H
                            go_wp2
                            go_meet
                            case rel => exact ⟨_, (true), (by first | rfl | (simp; done) | (simp [*]; done)), H', ⟨by have := HJ10.out; have := HJ36.out; have := HJ43.out; first | omega | exact Nat.le_refl _⟩, ⟨by repeat (first | (with_reducible first | exact HB.out | apply below_alloc | apply pw_below_drewN | apply below_drew1) | exact HB.out)⟩⟩
                          · rw [if_neg c50] at H
                            have c50b0 : (t404 == t396) = false := beq_eq_false_iff_ne.mpr c50
                            have c50b1 : (t404 != t396) = true := bne_iff_ne.mpr c50
                            (first | rw [c50b0] | (simp only [i64_w, i32_w]; rw [c50b0]) | skip)
                            have H' := Aside0.mk H
                            clear H
                            go_wp2
                            go_meet
                            case rel => exact ⟨_, ((t405 == t397)), (by first | rfl | (simp; done) | (simp [*]; done)), H', ⟨by have := HJ10.out; have := HJ36.out; have := HJ43.out; first | omega | exact Nat.le_refl _⟩, ⟨by repeat (first | (with_reducible first | exact HB.out | apply below_alloc | apply pw_below_drewN | apply below_drew1) | exact HB.out)⟩⟩
                        · replace c49 := Bool.eq_false_iff.mpr c49
                          subst c49
                          have H1 : (signatorylaw48_DevicesOld.j3 kj43 l0 a1 l2 a3 a6 a7 t397 t404 t405 false false) = some r := by rw [if_neg (show ¬ (false = true) by decide)] at H; exact H
                          clear H
                          have H := H1
                          clear H1
                          have H' := Aside0.mk H
                          clear H
                          go_wp2
                          go_meet
                          case rel => exact ⟨_, (false), (by first | rfl | (simp; done) | (simp [*]; done)), H', ⟨by have := HJ10.out; have := HJ36.out; have := HJ43.out; first | omega | exact Nat.le_refl _⟩, ⟨by repeat (first | (with_reducible first | exact HB.out | apply below_alloc | apply pw_below_drewN | apply below_drew1) | exact HB.out)⟩⟩
                      case rest =>
                        clear HC48
                        try clear c1
                        try clear c2
                        try clear p2
                        try clear c3
                        try clear c4
                        try clear c5
                        try clear c10
                        try clear c13
                        try clear c14
                        try clear c15
                        try clear c15b0
                        try clear c20
                        try clear c20b0
                        try clear c33
                        try clear c40
                        try clear c41
                        try clear c41b0
                        try clear c41b1
                        try clear c42
                        try clear c42b0
                        try clear c42b1
                        try clear c43
                        try clear c45
                        try clear c46
                        try clear c47
                        try clear c49
                        try clear c50
                        try clear c50b0
                        try clear c50b1
                        try clear p2
                        obtain ⟨kq, x120_47, rfl, HA, HJ47, HB⟩ := hcut
                        cases kq with
                        | zero => exact absurd HA.out (by simp [signatorylaw48_DevicesOld.j3])
                        | succ kj47 =>
                          have H := HA.out
                          clear HA
                          simp only [signatorylaw48_DevicesOld.j3] at H
                          by_cases c51 : x120_47 = true
                          · subst c51
                            have H1 : (some false) = some r := by rw [if_pos rfl] at H; exact H
                            clear H
                            have H := H1
                            clear H1
                            obtain rfl := Option.some.inj H
                            go_wp2
                            go_ret
                            exact ⟨by first | rfl | (simp [errW_none, errW_some] <;> rfl) | (simp [*, errW_none, errW_some] <;> rfl), by repeat (first | (with_reducible first | exact HB.out | apply below_alloc | apply pw_below_drewN | apply below_drew1) | exact HB.out)⟩
                          · replace c51 := Bool.eq_false_iff.mpr c51
                            subst c51
                            have H1 : ((sign_Sign.f a3 l2).bind fun bt408 => (if bt408.2.2 = 0 then ((sign_Verify.f t397 l2 bt408.1 bt408.2.1).bind fun t412 => (signatorylaw48_DevicesOld.j4 kj47 l0 a1 l2 a6 a7 t404 t405 t406 (!t412) bt408.1 bt408.2.1)) else (signatorylaw48_DevicesOld.j4 kj47 l0 a1 l2 a6 a7 t404 t405 t406 true bt408.1 bt408.2.1))) = some r := by rw [if_neg (show ¬ (false = true) by decide)] at H; exact H
                            clear H
                            have H := H1
                            clear H1
                            replace H := Option.bind_eq_some_iff.mp H
                            obtain ⟨⟨t408, t409, t410⟩, A520, H⟩ := H
                            replace H : (if t410 = 0 then ((sign_Verify.f t397 l2 t408 t409).bind fun t412 => (signatorylaw48_DevicesOld.j4 kj47 l0 a1 l2 a6 a7 t404 t405 t406 (!t412) t408 t409)) else (signatorylaw48_DevicesOld.j4 kj47 l0 a1 l2 a6 a7 t404 t405 t406 true t408 t409)) = some r := H
                            have A52 := Aside0.mk A520
                            clear A520
                            have HC53 := Aside0.mk H
                            clear H
                            go_upto_region 15 with (first | ((with_reducible refine gate_callee (f := 54) rfl ?_); refine goesL_ (some 124) rfl rfl Tryd.func54 (by kernel_rfl) rfl #[.int .i64 a3, .slice A2 l2.length c2] rfl (by (try simp only [List.map_toArray, List.map_cons, List.map_nil]); first | done | rfl | (simp only [List.length_drop, List.length_take]; rfl)) ?_; (with_reducible refine (sign_Sign.calls (hLd := ?sideL) a3 _ _ l2 t408 t409 t410 _ ?side1 ?side2 A52.out).mono ?_); (case sideL => exact Go.Proofs.YtjbcfdgnafmbkaaDoor.Cod.Laid.below HLd.out (by repeat (first | (with_reducible first | exact HB.out | apply below_alloc | apply pw_below_drewN | apply below_drew1) | exact HB.out))); (case side1 => repeat (first | exact (Kd.C_below HR2.out HB.out) | (with_reducible refine Kd.C_alloc ?_ _) | (with_reducible refine Kd.C_drewN ?_ _) | (with_reducible refine Kd.C_drew ?_))); (case side2 => exact HC2.out); rintro e w54 ⟨rfl, hb⟩; refine ⟨_, rfl, ?_⟩; have n0_ := Aside0.mk (below_step (by repeat (first | (with_reducible first | exact HB.out | apply below_alloc | apply pw_below_drewN | apply below_drew1) | exact HB.out)) hb); clear HB; have HB := n0_; clear n0_; (try clear hb); (try clear hb2); (try clear hk); (try clear hi)) | ((with_reducible refine gate_dst (N := 29) rfl ?_); (try (refine gate_guard (by rfl) ?_; dsimp only)); refine box_event ?hg (N := 29) ?hd (cs := #[.int .i64 0, .int .i64 0]) (t := 73) ?hr ?_; (case hd => rfl); (case hg => rfl); (case hr => first | (go_simp; done) | (go_simp; rfl)); intro gb411 hg w55 hbox hb; have n0_ := Aside0.mk (below_step (by repeat (first | (with_reducible first | exact HB.out | apply below_alloc | apply pw_below_drewN | apply below_drew1) | exact HB.out)) hb); have n1_ := Aside0.mk (hbox); have n2_ := Aside0.mk ((by rw [hg]; exact (below_size (by repeat (first | (with_reducible first | exact HB.out | apply below_alloc | apply pw_below_drewN | apply below_drew1) | exact HB.out))) : w.heap.size ≤ gb411)); have n3_ := Aside0.mk ((by rw [hg]; exact (below_size (by repeat (first | (with_reducible first | exact HB.out | apply below_alloc | apply pw_below_drewN | apply below_drew1) | exact HB.out))) : w.heap.size ≤ gb411)); clear HB; have HB := n0_; have BK411 := n1_; have GW411 := n2_; have GE411 := n3_; clear n0_ n1_ n2_ n3_; clear hb hbox hg; have hcz56_0 : w55.cell? ⟨gb411, 0, none⟩ = some (.int .i64 0) := (blk_cell BK411.out 0).trans rfl; have hcz56_1 : w55.cell? ⟨gb411, 1, none⟩ = some (.int .i64 0) := (blk_cell BK411.out 1).trans rfl; have hfz56_0 := blk_frozen BK411.out 0; have hfz56_1 := blk_frozen BK411.out 1))
                            (try simp only [Act.put, List.setIfInBounds_toArray, List.set_cons_zero, List.set_cons_succ])
                            go_cut [135] (fun v135 wc => ∃ (kq : Nat) (x135_52 : Bool), v135 = .bool x135_52 ∧ Aside0 (signatorylaw48_DevicesOld.j4 kq l0 a1 l2 a6 a7 t404 t405 t406 x135_52 t408 t409 = some r) ∧ Aside0 (kq ≤ kj47) ∧ Aside0 (wc.heap[gb411]? = some (.cells #[.int .i64 t408, .int .i64 t409] 73 (0, 0))) ∧ Aside0 (Below w.heap.size w wc))
                            case first =>
                              have H := HC53.out
                              clear HC53
                              by_cases c57 : t410 = 0
                              · rw [if_pos c57] at H
                                have c57b0 : (t410 == 0) = true := beq_iff_eq.mpr c57
                                have c57b1 : (t410 != 0) = false := bne_eq_false_iff_eq.mpr c57
                                clear c57
                                (first | rw [c57b0] | (simp only [i64_w, i32_w]; rw [c57b0]) | skip)
                                replace H := Option.bind_eq_some_iff.mp H
                                obtain ⟨t412, A580, H⟩ := H
                                replace H : (signatorylaw48_DevicesOld.j4 kj47 l0 a1 l2 a6 a7 t404 t405 t406 (!t412) t408 t409) = some r := H
                                have A58 := Aside0.mk A580
                                clear A580
                                have H' := Aside0.mk H
                                clear H
                                have hcz59_0 : w55.cell? ⟨gb411, 0, none⟩ = some (.int .i64 0) := (blk_cell BK411.out 0).trans rfl
                                have hcz59_1 : w55.cell? ⟨gb411, 1, none⟩ = some (.int .i64 0) := (blk_cell BK411.out 1).trans rfl
                                have hfz59_0 := blk_frozen BK411.out 0
                                have hfz59_1 := blk_frozen BK411.out 1
                                go_wp2_with (first | (go_at_call 53; (with_reducible refine (sign_Verify.calls (hLd := ?sideL) t397 _ _ l2 t408 t409 t412 _ ?side1 ?side2 A58.out).mono ?_); (case sideL => exact Go.Proofs.YtjbcfdgnafmbkaaDoor.Cod.Laid.below HLd.out (by repeat (first | (with_reducible first | exact HB.out | apply below_alloc | apply pw_below_drewN | apply below_drew1 | refine below_set ?_ GE411.out) | exact HB.out))); (case side1 => exact Kd.C_below HR2.out (by repeat (first | (with_reducible first | exact HB.out | apply below_alloc | apply pw_below_drewN | apply below_drew1 | refine below_set ?_ GE411.out) | exact HB.out))); (case side2 => exact HC2.out); rintro e w60 ⟨rfl, hb⟩; have n0_ := Aside0.mk (blk_below (g := gb411) (o := .cells #[.int .i64 t408, .int .i64 t409] 73 (0, 0)) (by (with_reducible repeat (first | refine blk_drewN ?_ _ | refine blk_drew ?_ | refine blk_alloc ?_ _)); refine blk_put (cs := #[.int .i64 t408, .int .i64 0]) ?_ 1 _ rfl; (with_reducible repeat (first | refine blk_drewN ?_ _ | refine blk_drew ?_ | refine blk_alloc ?_ _)); refine blk_put (cs := #[.int .i64 0, .int .i64 0]) ?_ 0 _ rfl; (with_reducible repeat (first | refine blk_drewN ?_ _ | refine blk_drew ?_ | refine blk_alloc ?_ _)); exact BK411.out) hb); have n1_ := Aside0.mk (below_step (by repeat (first | (with_reducible first | exact HB.out | apply below_alloc | apply pw_below_drewN | apply below_drew1 | refine below_set ?_ GE411.out) | exact HB.out)) hb); clear BK411; clear HB; have BK411 := n0_; have HB := n1_; clear n0_ n1_; (try clear hb); (try clear hb2); (try clear hk); (try clear hi)))
                                go_meet
                                case rel => exact ⟨_, (!t412), (by first | rfl | (simp; done) | (simp [*]; done)), H', ⟨by have := HJ10.out; have := HJ36.out; have := HJ43.out; have := HJ47.out; first | omega | exact Nat.le_refl _⟩, ⟨by (with_reducible repeat (first | refine blk_drewN ?_ _ | refine blk_drew ?_ | refine blk_alloc ?_ _)); exact BK411.out⟩, ⟨by repeat (first | (with_reducible first | exact HB.out | apply below_alloc | apply pw_below_drewN | apply below_drew1 | refine below_set ?_ GE411.out) | exact HB.out)⟩⟩
                              · rw [if_neg c57] at H
                                have c57b0 : (t410 == 0) = false := beq_eq_false_iff_ne.mpr c57
                                have c57b1 : (t410 != 0) = true := bne_iff_ne.mpr c57
                                (first | rw [c57b0] | (simp only [i64_w, i32_w]; rw [c57b0]) | skip)
                                have H' := Aside0.mk H
                                clear H
                                go_wp2
                                go_meet
                                case rel => exact ⟨_, (true), (by first | rfl | (simp; done) | (simp [*]; done)), H', ⟨by have := HJ10.out; have := HJ36.out; have := HJ43.out; have := HJ47.out; first | omega | exact Nat.le_refl _⟩, ⟨by (with_reducible repeat (first | refine blk_drewN ?_ _ | refine blk_drew ?_ | refine blk_alloc ?_ _)); refine blk_put (cs := #[.int .i64 t408, .int .i64 0]) ?_ 1 _ rfl; (with_reducible repeat (first | refine blk_drewN ?_ _ | refine blk_drew ?_ | refine blk_alloc ?_ _)); refine blk_put (cs := #[.int .i64 0, .int .i64 0]) ?_ 0 _ rfl; (with_reducible repeat (first | refine blk_drewN ?_ _ | refine blk_drew ?_ | refine blk_alloc ?_ _)); exact BK411.out⟩, ⟨by repeat (first | (with_reducible first | exact HB.out | apply below_alloc | apply pw_below_drewN | apply below_drew1 | refine below_set ?_ GE411.out) | exact HB.out)⟩⟩
                            case rest =>
                              clear HC53
                              try clear c1
                              try clear c2
                              try clear p2
                              try clear c3
                              try clear c4
                              try clear c5
                              try clear c10
                              try clear c13
                              try clear c14
                              try clear c15
                              try clear c15b0
                              try clear c20
                              try clear c20b0
                              try clear c33
                              try clear c40
                              try clear c41
                              try clear c41b0
                              try clear c41b1
                              try clear c42
                              try clear c42b0
                              try clear c42b1
                              try clear c43
                              try clear c45
                              try clear c46
                              try clear c47
                              try clear c49
                              try clear c50
                              try clear c50b0
                              try clear c50b1
                              try clear c51
                              try clear c54
                              try clear c57
                              try clear c57b0
                              try clear c57b1
                              try clear hcz56_0
                              try clear hcz56_1
                              try clear hcz59_0
                              try clear hcz59_1
                              try clear hfz56_0
                              try clear hfz56_1
                              try clear hfz59_0
                              try clear hfz59_1
                              try clear p2
                              obtain ⟨kq, x135_52, rfl, HA, HJ52, BK411, HB⟩ := hcut
                              cases kq with
                              | zero => exact absurd HA.out (by simp [signatorylaw48_DevicesOld.j4])
                              | succ kj52 =>
                                have H := HA.out
                                clear HA
                                simp only [signatorylaw48_DevicesOld.j4] at H
                                by_cases c61 : x135_52 = true
                                · subst c61
                                  have H1 : (some true) = some r := by rw [if_pos rfl] at H; exact H
                                  clear H
                                  have H := H1
                                  clear H1
                                  obtain rfl := Option.some.inj H
                                  go_wp2
                                  go_ret
                                  exact ⟨by first | rfl | (simp [errW_none, errW_some] <;> rfl) | (simp [*, errW_none, errW_some] <;> rfl), by repeat (first | (with_reducible first | exact HB.out | apply below_alloc | apply pw_below_drewN | apply below_drew1 | refine below_set ?_ GE411.out) | exact HB.out)⟩
                                · replace c61 := Bool.eq_false_iff.mpr c61
                                  subst c61
                                  have H1 : ((devices_Accepts.f l0 a1 l2 t408 t409 a6 a7).bind fun bt413 => (if bt413.2.2 = 0 then (if bt413.2.1 = true then (if t406 = true then (if bt413.1 = t404 then ((sign_Verify.f t405 l2 t408 t409).bind fun t416 => (some t416)) else (some false)) else (some false)) else (some true)) else (some false))) = some r := by rw [if_neg (show ¬ (false = true) by decide)] at H; exact H
                                  clear H
                                  have H := H1
                                  clear H1
                                  replace H := Option.bind_eq_some_iff.mp H
                                  obtain ⟨⟨t413, t414, t415⟩, A620, H⟩ := H
                                  replace H : (if t415 = 0 then (if t414 = true then (if t406 = true then (if t413 = t404 then ((sign_Verify.f t405 l2 t408 t409).bind fun t416 => (some t416)) else (some false)) else (some false)) else (some true)) else (some false)) = some r := H
                                  have A62 := Aside0.mk A620
                                  clear A620
                                  by_cases c63 : t415 = 0
                                  · rw [if_pos c63] at H
                                    have c63b0 : (t415 == 0) = true := beq_iff_eq.mpr c63
                                    have c63b1 : (t415 != 0) = false := bne_eq_false_iff_eq.mpr c63
                                    clear c63
                                    by_cases c64 : t414 = true
                                    · subst c64
                                      have H1 : (if t406 = true then (if t413 = t404 then ((sign_Verify.f t405 l2 t408 t409).bind fun t416 => (some t416)) else (some false)) else (some false)) = some r := by rw [if_pos rfl] at H; exact H
                                      clear H
                                      have H := H1
                                      clear H1
                                      by_cases c65 : t406 = true
                                      · subst c65
                                        have H1 : (if t413 = t404 then ((sign_Verify.f t405 l2 t408 t409).bind fun t416 => (some t416)) else (some false)) = some r := by rw [if_pos rfl] at H; exact H
                                        clear H
                                        have H := H1
                                        clear H1
                                        by_cases c66 : t413 = t404
                                        · rw [if_pos c66] at H
                                          have c66b0 : (t413 == t404) = true := beq_iff_eq.mpr c66
                                          have c66b1 : (t413 != t404) = false := bne_eq_false_iff_eq.mpr c66
                                          clear c66
                                          replace H := Option.bind_eq_some_iff.mp H
                                          obtain ⟨t416, A670, H⟩ := H
                                          replace H : (some t416) = some r := H
                                          have A67 := Aside0.mk A670
                                          clear A670
                                          obtain rfl := Option.some.inj H
                                          have hcz68_0 : wc.cell? ⟨gb411, 0, none⟩ = some (.int .i64 t408) := (blk_cell BK411.out 0).trans rfl
                                          have hcz68_1 : wc.cell? ⟨gb411, 1, none⟩ = some (.int .i64 t409) := (blk_cell BK411.out 1).trans rfl
                                          have hfz68_0 := blk_frozen BK411.out 0
                                          have hfz68_1 := blk_frozen BK411.out 1
                                          go_wp2_with (first | ((with_reducible refine gate_callee (f := 49) rfl ?_); refine goesL_ (some 143) rfl rfl Tryd.func49 (by kernel_rfl) rfl #[.slice A0 l0.length c0, .int .i64 a1, .slice A2 l2.length c2, .agg #[.int .i64 t408, .int .i64 t409], .int .i64 a6, .int .i64 a7] rfl (by (try simp only [List.map_toArray, List.map_cons, List.map_nil]); first | done | rfl | (simp only [List.length_drop, List.length_take]; rfl)) ?_; (with_reducible refine (devices_Accepts.calls (hLd := ?sideL) _ _ l0 a1 _ _ l2 t408 t409 a6 a7 t413 true t415 _ ?side1 ?side2 ?side3 ?side4 A62.out).mono ?_); (case sideL => exact Go.Proofs.YtjbcfdgnafmbkaaDoor.Cod.Laid.below HLd.out (by repeat (first | (with_reducible first | exact HB.out | apply below_alloc | apply pw_below_drewN | apply below_drew1 | refine below_set ?_ GE411.out) | exact HB.out))); (case side1 => repeat (first | exact (Kd.C_below HR0.out HB.out) | (with_reducible refine Kd.C_alloc ?_ _) | (with_reducible refine Kd.C_drewN ?_ _) | (with_reducible refine Kd.C_drew ?_))); (case side2 => exact HC0.out); (case side3 => repeat (first | exact (Kd.C_below HR2.out HB.out) | (with_reducible refine Kd.C_alloc ?_ _) | (with_reducible refine Kd.C_drewN ?_ _) | (with_reducible refine Kd.C_drew ?_))); (case side4 => exact HC2.out); rintro e w69 ⟨rfl, hb⟩; refine ⟨_, rfl, ?_⟩; have n0_ := Aside0.mk (blk_below (g := gb411) (o := .cells #[.int .i64 t408, .int .i64 t409] 73 (0, 0)) (by (with_reducible repeat (first | refine blk_drewN ?_ _ | refine blk_drew ?_ | refine blk_alloc ?_ _)); exact BK411.out) hb); have n1_ := Aside0.mk (below_step (by repeat (first | (with_reducible first | exact HB.out | apply below_alloc | apply pw_below_drewN | apply below_drew1 | refine below_set ?_ GE411.out) | exact HB.out)) hb); clear BK411; clear HB; have BK411 := n0_; have HB := n1_; clear n0_ n1_; (try clear hb); (try clear hb2); (try clear hk); (try clear hi); have hcz70_0 : w69.cell? ⟨gb411, 0, none⟩ = some (.int .i64 t408) := (blk_cell BK411.out 0).trans rfl; have hcz70_1 : w69.cell? ⟨gb411, 1, none⟩ = some (.int .i64 t409) := (blk_cell BK411.out 1).trans rfl; have hfz70_0 := blk_frozen BK411.out 0; have hfz70_1 := blk_frozen BK411.out 1) | (go_at_call 53; (with_reducible refine (sign_Verify.calls (hLd := ?sideL) t405 _ _ l2 t408 t409 t416 _ ?side1 ?side2 A67.out).mono ?_); (case sideL => exact Go.Proofs.YtjbcfdgnafmbkaaDoor.Cod.Laid.below HLd.out (by repeat (first | (with_reducible first | exact HB.out | apply below_alloc | apply pw_below_drewN | apply below_drew1 | refine below_set ?_ GE411.out) | exact HB.out))); (case side1 => repeat (first | exact (Kd.C_below HR2.out HB.out) | (with_reducible refine Kd.C_alloc ?_ _) | (with_reducible refine Kd.C_drewN ?_ _) | (with_reducible refine Kd.C_drew ?_))); (case side2 => exact HC2.out); rintro e w71 ⟨rfl, hb⟩; have n0_ := Aside0.mk (blk_below (g := gb411) (o := .cells #[.int .i64 t408, .int .i64 t409] 73 (0, 0)) (by (with_reducible repeat (first | refine blk_drewN ?_ _ | refine blk_drew ?_ | refine blk_alloc ?_ _)); exact BK411.out) hb); have n1_ := Aside0.mk (below_step (by repeat (first | (with_reducible first | exact HB.out | apply below_alloc | apply pw_below_drewN | apply below_drew1 | refine below_set ?_ GE411.out) | exact HB.out)) hb); clear BK411; clear HB; have BK411 := n0_; have HB := n1_; clear n0_ n1_; (try clear hb); (try clear hb2); (try clear hk); (try clear hi)))
                                          go_ret
                                          exact ⟨by first | rfl | (simp [errW_none, errW_some] <;> rfl) | (simp [*, errW_none, errW_some] <;> rfl), by repeat (first | (with_reducible first | exact HB.out | apply below_alloc | apply pw_below_drewN | apply below_drew1 | refine below_set ?_ GE411.out) | exact HB.out)⟩
                                        · rw [if_neg c66] at H
                                          have c66b0 : (t413 == t404) = false := beq_eq_false_iff_ne.mpr c66
                                          have c66b1 : (t413 != t404) = true := bne_iff_ne.mpr c66
                                          obtain rfl := Option.some.inj H
                                          have hcz72_0 : wc.cell? ⟨gb411, 0, none⟩ = some (.int .i64 t408) := (blk_cell BK411.out 0).trans rfl
                                          have hcz72_1 : wc.cell? ⟨gb411, 1, none⟩ = some (.int .i64 t409) := (blk_cell BK411.out 1).trans rfl
                                          have hfz72_0 := blk_frozen BK411.out 0
                                          have hfz72_1 := blk_frozen BK411.out 1
                                          go_wp2_with (first | ((with_reducible refine gate_callee (f := 49) rfl ?_); refine goesL_ (some 143) rfl rfl Tryd.func49 (by kernel_rfl) rfl #[.slice A0 l0.length c0, .int .i64 a1, .slice A2 l2.length c2, .agg #[.int .i64 t408, .int .i64 t409], .int .i64 a6, .int .i64 a7] rfl (by (try simp only [List.map_toArray, List.map_cons, List.map_nil]); first | done | rfl | (simp only [List.length_drop, List.length_take]; rfl)) ?_; (with_reducible refine (devices_Accepts.calls (hLd := ?sideL) _ _ l0 a1 _ _ l2 t408 t409 a6 a7 t413 true t415 _ ?side1 ?side2 ?side3 ?side4 A62.out).mono ?_); (case sideL => exact Go.Proofs.YtjbcfdgnafmbkaaDoor.Cod.Laid.below HLd.out (by repeat (first | (with_reducible first | exact HB.out | apply below_alloc | apply pw_below_drewN | apply below_drew1 | refine below_set ?_ GE411.out) | exact HB.out))); (case side1 => repeat (first | exact (Kd.C_below HR0.out HB.out) | (with_reducible refine Kd.C_alloc ?_ _) | (with_reducible refine Kd.C_drewN ?_ _) | (with_reducible refine Kd.C_drew ?_))); (case side2 => exact HC0.out); (case side3 => repeat (first | exact (Kd.C_below HR2.out HB.out) | (with_reducible refine Kd.C_alloc ?_ _) | (with_reducible refine Kd.C_drewN ?_ _) | (with_reducible refine Kd.C_drew ?_))); (case side4 => exact HC2.out); rintro e w73 ⟨rfl, hb⟩; refine ⟨_, rfl, ?_⟩; have n0_ := Aside0.mk (blk_below (g := gb411) (o := .cells #[.int .i64 t408, .int .i64 t409] 73 (0, 0)) (by (with_reducible repeat (first | refine blk_drewN ?_ _ | refine blk_drew ?_ | refine blk_alloc ?_ _)); exact BK411.out) hb); have n1_ := Aside0.mk (below_step (by repeat (first | (with_reducible first | exact HB.out | apply below_alloc | apply pw_below_drewN | apply below_drew1 | refine below_set ?_ GE411.out) | exact HB.out)) hb); clear BK411; clear HB; have BK411 := n0_; have HB := n1_; clear n0_ n1_; (try clear hb); (try clear hb2); (try clear hk); (try clear hi)))
                                          go_ret
                                          exact ⟨by first | rfl | (simp [errW_none, errW_some] <;> rfl) | (simp [*, errW_none, errW_some] <;> rfl), by repeat (first | (with_reducible first | exact HB.out | apply below_alloc | apply pw_below_drewN | apply below_drew1 | refine below_set ?_ GE411.out) | exact HB.out)⟩
                                      · replace c65 := Bool.eq_false_iff.mpr c65
                                        subst c65
                                        have H1 : (some false) = some r := by rw [if_neg (show ¬ (false = true) by decide)] at H; exact H
                                        clear H
                                        have H := H1
                                        clear H1
                                        obtain rfl := Option.some.inj H
                                        have hcz74_0 : wc.cell? ⟨gb411, 0, none⟩ = some (.int .i64 t408) := (blk_cell BK411.out 0).trans rfl
                                        have hcz74_1 : wc.cell? ⟨gb411, 1, none⟩ = some (.int .i64 t409) := (blk_cell BK411.out 1).trans rfl
                                        have hfz74_0 := blk_frozen BK411.out 0
                                        have hfz74_1 := blk_frozen BK411.out 1
                                        go_wp2_with (first | ((with_reducible refine gate_callee (f := 49) rfl ?_); refine goesL_ (some 143) rfl rfl Tryd.func49 (by kernel_rfl) rfl #[.slice A0 l0.length c0, .int .i64 a1, .slice A2 l2.length c2, .agg #[.int .i64 t408, .int .i64 t409], .int .i64 a6, .int .i64 a7] rfl (by (try simp only [List.map_toArray, List.map_cons, List.map_nil]); first | done | rfl | (simp only [List.length_drop, List.length_take]; rfl)) ?_; (with_reducible refine (devices_Accepts.calls (hLd := ?sideL) _ _ l0 a1 _ _ l2 t408 t409 a6 a7 t413 true t415 _ ?side1 ?side2 ?side3 ?side4 A62.out).mono ?_); (case sideL => exact Go.Proofs.YtjbcfdgnafmbkaaDoor.Cod.Laid.below HLd.out (by repeat (first | (with_reducible first | exact HB.out | apply below_alloc | apply pw_below_drewN | apply below_drew1 | refine below_set ?_ GE411.out) | exact HB.out))); (case side1 => repeat (first | exact (Kd.C_below HR0.out HB.out) | (with_reducible refine Kd.C_alloc ?_ _) | (with_reducible refine Kd.C_drewN ?_ _) | (with_reducible refine Kd.C_drew ?_))); (case side2 => exact HC0.out); (case side3 => repeat (first | exact (Kd.C_below HR2.out HB.out) | (with_reducible refine Kd.C_alloc ?_ _) | (with_reducible refine Kd.C_drewN ?_ _) | (with_reducible refine Kd.C_drew ?_))); (case side4 => exact HC2.out); rintro e w75 ⟨rfl, hb⟩; refine ⟨_, rfl, ?_⟩; have n0_ := Aside0.mk (blk_below (g := gb411) (o := .cells #[.int .i64 t408, .int .i64 t409] 73 (0, 0)) (by (with_reducible repeat (first | refine blk_drewN ?_ _ | refine blk_drew ?_ | refine blk_alloc ?_ _)); exact BK411.out) hb); have n1_ := Aside0.mk (below_step (by repeat (first | (with_reducible first | exact HB.out | apply below_alloc | apply pw_below_drewN | apply below_drew1 | refine below_set ?_ GE411.out) | exact HB.out)) hb); clear BK411; clear HB; have BK411 := n0_; have HB := n1_; clear n0_ n1_; (try clear hb); (try clear hb2); (try clear hk); (try clear hi)))
                                        go_ret
                                        exact ⟨by first | rfl | (simp [errW_none, errW_some] <;> rfl) | (simp [*, errW_none, errW_some] <;> rfl), by repeat (first | (with_reducible first | exact HB.out | apply below_alloc | apply pw_below_drewN | apply below_drew1 | refine below_set ?_ GE411.out) | exact HB.out)⟩
                                    · replace c64 := Bool.eq_false_iff.mpr c64
                                      subst c64
                                      have H1 : (some true) = some r := by rw [if_neg (show ¬ (false = true) by decide)] at H; exact H
                                      clear H
                                      have H := H1
                                      clear H1
                                      obtain rfl := Option.some.inj H
                                      have hcz76_0 : wc.cell? ⟨gb411, 0, none⟩ = some (.int .i64 t408) := (blk_cell BK411.out 0).trans rfl
                                      have hcz76_1 : wc.cell? ⟨gb411, 1, none⟩ = some (.int .i64 t409) := (blk_cell BK411.out 1).trans rfl
                                      have hfz76_0 := blk_frozen BK411.out 0
                                      have hfz76_1 := blk_frozen BK411.out 1
                                      go_wp2_with (first | ((with_reducible refine gate_callee (f := 49) rfl ?_); refine goesL_ (some 143) rfl rfl Tryd.func49 (by kernel_rfl) rfl #[.slice A0 l0.length c0, .int .i64 a1, .slice A2 l2.length c2, .agg #[.int .i64 t408, .int .i64 t409], .int .i64 a6, .int .i64 a7] rfl (by (try simp only [List.map_toArray, List.map_cons, List.map_nil]); first | done | rfl | (simp only [List.length_drop, List.length_take]; rfl)) ?_; (with_reducible refine (devices_Accepts.calls (hLd := ?sideL) _ _ l0 a1 _ _ l2 t408 t409 a6 a7 t413 false t415 _ ?side1 ?side2 ?side3 ?side4 A62.out).mono ?_); (case sideL => exact Go.Proofs.YtjbcfdgnafmbkaaDoor.Cod.Laid.below HLd.out (by repeat (first | (with_reducible first | exact HB.out | apply below_alloc | apply pw_below_drewN | apply below_drew1 | refine below_set ?_ GE411.out) | exact HB.out))); (case side1 => repeat (first | exact (Kd.C_below HR0.out HB.out) | (with_reducible refine Kd.C_alloc ?_ _) | (with_reducible refine Kd.C_drewN ?_ _) | (with_reducible refine Kd.C_drew ?_))); (case side2 => exact HC0.out); (case side3 => repeat (first | exact (Kd.C_below HR2.out HB.out) | (with_reducible refine Kd.C_alloc ?_ _) | (with_reducible refine Kd.C_drewN ?_ _) | (with_reducible refine Kd.C_drew ?_))); (case side4 => exact HC2.out); rintro e w77 ⟨rfl, hb⟩; refine ⟨_, rfl, ?_⟩; have n0_ := Aside0.mk (blk_below (g := gb411) (o := .cells #[.int .i64 t408, .int .i64 t409] 73 (0, 0)) (by (with_reducible repeat (first | refine blk_drewN ?_ _ | refine blk_drew ?_ | refine blk_alloc ?_ _)); exact BK411.out) hb); have n1_ := Aside0.mk (below_step (by repeat (first | (with_reducible first | exact HB.out | apply below_alloc | apply pw_below_drewN | apply below_drew1 | refine below_set ?_ GE411.out) | exact HB.out)) hb); clear BK411; clear HB; have BK411 := n0_; have HB := n1_; clear n0_ n1_; (try clear hb); (try clear hb2); (try clear hk); (try clear hi)))
                                      go_ret
                                      exact ⟨by first | rfl | (simp [errW_none, errW_some] <;> rfl) | (simp [*, errW_none, errW_some] <;> rfl), by repeat (first | (with_reducible first | exact HB.out | apply below_alloc | apply pw_below_drewN | apply below_drew1 | refine below_set ?_ GE411.out) | exact HB.out)⟩
                                  · rw [if_neg c63] at H
                                    have c63b0 : (t415 == 0) = false := beq_eq_false_iff_ne.mpr c63
                                    have c63b1 : (t415 != 0) = true := bne_iff_ne.mpr c63
                                    obtain rfl := Option.some.inj H
                                    have hcz78_0 : wc.cell? ⟨gb411, 0, none⟩ = some (.int .i64 t408) := (blk_cell BK411.out 0).trans rfl
                                    have hcz78_1 : wc.cell? ⟨gb411, 1, none⟩ = some (.int .i64 t409) := (blk_cell BK411.out 1).trans rfl
                                    have hfz78_0 := blk_frozen BK411.out 0
                                    have hfz78_1 := blk_frozen BK411.out 1
                                    go_wp2_with (first | ((with_reducible refine gate_callee (f := 49) rfl ?_); refine goesL_ (some 143) rfl rfl Tryd.func49 (by kernel_rfl) rfl #[.slice A0 l0.length c0, .int .i64 a1, .slice A2 l2.length c2, .agg #[.int .i64 t408, .int .i64 t409], .int .i64 a6, .int .i64 a7] rfl (by (try simp only [List.map_toArray, List.map_cons, List.map_nil]); first | done | rfl | (simp only [List.length_drop, List.length_take]; rfl)) ?_; (with_reducible refine (devices_Accepts.calls (hLd := ?sideL) _ _ l0 a1 _ _ l2 t408 t409 a6 a7 t413 t414 t415 _ ?side1 ?side2 ?side3 ?side4 A62.out).mono ?_); (case sideL => exact Go.Proofs.YtjbcfdgnafmbkaaDoor.Cod.Laid.below HLd.out (by repeat (first | (with_reducible first | exact HB.out | apply below_alloc | apply pw_below_drewN | apply below_drew1 | refine below_set ?_ GE411.out) | exact HB.out))); (case side1 => repeat (first | exact (Kd.C_below HR0.out HB.out) | (with_reducible refine Kd.C_alloc ?_ _) | (with_reducible refine Kd.C_drewN ?_ _) | (with_reducible refine Kd.C_drew ?_))); (case side2 => exact HC0.out); (case side3 => repeat (first | exact (Kd.C_below HR2.out HB.out) | (with_reducible refine Kd.C_alloc ?_ _) | (with_reducible refine Kd.C_drewN ?_ _) | (with_reducible refine Kd.C_drew ?_))); (case side4 => exact HC2.out); rintro e w79 ⟨rfl, hb⟩; refine ⟨_, rfl, ?_⟩; have n0_ := Aside0.mk (blk_below (g := gb411) (o := .cells #[.int .i64 t408, .int .i64 t409] 73 (0, 0)) (by (with_reducible repeat (first | refine blk_drewN ?_ _ | refine blk_drew ?_ | refine blk_alloc ?_ _)); exact BK411.out) hb); have n1_ := Aside0.mk (below_step (by repeat (first | (with_reducible first | exact HB.out | apply below_alloc | apply pw_below_drewN | apply below_drew1 | refine below_set ?_ GE411.out) | exact HB.out)) hb); clear BK411; clear HB; have BK411 := n0_; have HB := n1_; clear n0_ n1_; (try clear hb); (try clear hb2); (try clear hk); (try clear hi)))
                                    go_ret
                                    exact ⟨by first | rfl | (simp [errW_none, errW_some] <;> rfl) | (simp [*, errW_none, errW_some] <;> rfl), by repeat (first | (with_reducible first | exact HB.out | apply below_alloc | apply pw_below_drewN | apply below_drew1 | refine below_set ?_ GE411.out) | exact HB.out)⟩
  · replace c10 := Bool.eq_false_iff.mpr c10
    subst c10
    have H1 : (some false) = some r := by rw [if_neg (show ¬ (false = true) by decide)] at H; exact H
    clear H
    have H := H1
    clear H1
    obtain rfl := Option.some.inj H
    go_enter Tryd.func13, Tryd.ntmps13
    go_wp2_with (first | ((with_reducible refine gate_callee (f := 40) rfl ?_); refine goesL_ (some 34) rfl rfl Tryd.func40 (by kernel_rfl) rfl #[] rfl (by (try simp only [List.map_toArray, List.map_cons, List.map_nil]); first | done | rfl | (simp only [List.length_drop, List.length_take]; rfl)) ?_; (with_reducible refine (signatorylaw48_sane.calls (hLd := ?sideL) k  false _ A9.out).mono ?_); (case sideL => exact Go.Proofs.YtjbcfdgnafmbkaaDoor.Cod.Laid.below HLd.out (by repeat (first | (with_reducible first | exact HB.out | apply below_alloc | apply pw_below_drewN | apply below_drew1) | exact HB.out))); rintro e w80 ⟨rfl, hb⟩; refine ⟨_, rfl, ?_⟩; have n0_ := Aside0.mk (below_step (by repeat (first | (with_reducible first | exact HB.out | apply below_alloc | apply pw_below_drewN | apply below_drew1) | exact HB.out)) hb); clear HB; have HB := n0_; clear n0_; (try clear hb); (try clear hb2); (try clear hk); (try clear hi)))
    go_ret
    exact ⟨by first | rfl | (simp [errW_none, errW_some] <;> rfl) | (simp [*, errW_none, errW_some] <;> rfl), by repeat (first | (with_reducible first | exact HB.out | apply below_alloc | apply pw_below_drewN | apply below_drew1) | exact HB.out)⟩
end Go.Proofs.YtjbcfdgnafmbkaaDoor.PBig
end
section
set_option linter.unusedVariables false
namespace Go.Proofs.YtjbcfdgnafmbkaaDoor.Dev
open Go.RowKit Go.Proofs.YtjbcfdgnafmbkaaDoor Go.Proofs.YtjbcfdgnafmbkaaDoorW.PrintWords Go.Proofs.YtjbcfdgnafmbkaaDoorW.PrintLast Go.Proofs.YtjbcfdgnafmbkaaDoor.PBig
theorem selB_later {p a b k : Int} {x : S65} (h : selB p a k x = true) (hab : a ≤ b) : selB p b k x = true := by
  obtain ⟨h1, h2, h3⟩ := selB_iff.1 h
  exact selB_iff.2 ⟨h1, by omega, h3⟩
theorem old_core {l : List S65} (hG : Good l) {p a b c k : Int} (hab : a ≤ b) (hbc : b ≤ c) (h1 : okD l p a k = true) (h2 : ¬ (okD l p b k = true ∧ (cur l p b k).1.f0 = (cur l p a k).1.f0)) (h3 : okD l p c k = true) :
    (cur l p c k).1.f0 ≠ (cur l p a k).1.f0 ∧ (cur l p c k).1.f4 ≠ (cur l p a k).1.f4 := by
  obtain ⟨a1, a2, a3, a4⟩ := okD_true hG h1
  obtain ⟨c1, c2, c3, c4⟩ := okD_true hG h3
  obtain ⟨b1, b2, b3, b4⟩ := cur_some hG a1 (selB_later a2 hab)
  have hxb : leD (cur l p a k).1 (cur l p b k).1 := b4 _ a1 (selB_later a2 hab)
  have hbc' : leD (cur l p b k).1 (cur l p c k).1 := c4 _ b2 (selB_later b3 hbc)
  have hne : (cur l p c k).1.f0 ≠ (cur l p a k).1.f0 := by
    intro e
    have e2 := hG.no_inj c1 a1 e
    rw [e2] at hbc'
    have e3 : (cur l p b k).1.f0 = (cur l p a k).1.f0 := by unfold leD at hxb hbc'; omega
    have e4 := hG.no_inj b2 a1 e3
    refine h2 ⟨?_, e3⟩
    unfold okD
    rw [b1, e4, a3]; rfl
  exact ⟨hne, fun e => hne (by rw [hG.key_inj c1 a1 c3 a3 e])⟩
theorem old_pure (l : List S65) (p : Int) (b : List Int) (sec a t c k : Int) : Ev (fun K => signatorylaw48_DevicesOld.f K l p b sec a t c k) true := by
  unfold signatorylaw48_DevicesOld.f
  refine Ev.bind sane_ev (ev_pos rfl (Ev.bind (law_right l p [a, t, c, k] (by simp)) ?_))
  have skip : Ev (fun K => signatorylaw48_DevicesOld.j0 K l p b sec a t c k true) true := Ev.step (fun K => by rw [signatorylaw48_DevicesOld.j0]) (ev_pos rfl (ev_id _ rfl))
  cases hr : rightL l p [a, t, c, k] with
  | false => exact ev_neg (by decide) skip
  | true =>
    obtain ⟨h1, h2, h3, h4⟩ := rightL_true hr
    refine ev_pos rfl ?_
    by_cases g1 : a > t
    · exact ev_pos g1 skip
    · refine ev_neg g1 ?_
      by_cases g2 : t > c
      · exact ev_pos g2 skip
      · refine ev_neg g2 ?_
        by_cases g3 : (b.length : Int) > 200
        · rw [decide_eq_true g3]; exact skip
        · rw [decide_eq_false g3]
          have hk := h1 k (by simp)
          have ha := argB_mk h4 (h1 a (by simp)) hk
          have ht := argB_mk h4 (h1 t (by simp)) hk
          have hc := argB_mk h4 (h1 c (by simp)) hk
          have hG := (chk_ok.1 h3).2
          refine Ev.step (fun K => by rw [signatorylaw48_DevicesOld.j0]) (ev_neg (by decide) ?_)
          rw [cur_g h3 ha, cur_g h3 ht, cur_g h3 hc]
          simp only [Option.bind_some]
          have e1 : ∀ q, (curT l p q k).2.2.2 = 0 := fun q => by unfold curT; split <;> rfl
          have e2 : ∀ q, (curT l p q k).2.2.1 = okD l p q k := fun q => by
            unfold curT
            cases okD l p q k <;> rfl
          have e3 : ∀ q, okD l p q k = true → (curT l p q k).1 = (cur l p q k).1.f0 ∧ (curT l p q k).2.1 = (cur l p q k).1.f4 := fun q hq => by
            unfold curT
            rw [if_pos hq]
            exact ⟨rfl, rfl⟩
          rw [e1, e1, e1, e2, e2, e2]
          refine ev_pos rfl (ev_pos rfl (Ev.step (fun K => by rw [signatorylaw48_DevicesOld.j1]) (ev_neg (by decide) ?_)))
          have skip2 : Ev (fun K => signatorylaw48_DevicesOld.j2 K l p b sec c k (curT l p a k).1 (curT l p a k).2.1 (curT l p c k).1 (curT l p c k).2.1 (okD l p c k) true) true := Ev.step (fun K => by rw [signatorylaw48_DevicesOld.j2]) (ev_pos rfl (ev_id _ rfl))
          have main : okD l p a k = true → ¬ (okD l p t k = true ∧ (cur l p t k).1.f0 = (cur l p a k).1.f0) → Ev (fun K => signatorylaw48_DevicesOld.j2 K l p b sec c k (curT l p a k).1 (curT l p a k).2.1 (curT l p c k).1 (curT l p c k).2.1 (okD l p c k) false) true := by
            intro oa ob
            refine Ev.step (fun K => by rw [signatorylaw48_DevicesOld.j2]) (ev_neg (by decide) ?_)
            have j3 : Ev (fun K => signatorylaw48_DevicesOld.j3 K l p b sec c k (curT l p a k).2.1 (curT l p c k).1 (curT l p c k).2.1 (okD l p c k) false) true := by
              refine Ev.step (fun K => by rw [signatorylaw48_DevicesOld.j3]) (ev_neg (by decide) ?_)
              have hbl : b.length ≤ 1048576 := by omega
              unfold sign_Sign.f sign_Verify.f
              rw [if_pos hbl]
              simp only [Option.bind_some, if_pos hbl]
              have skip4 : ∀ x y, Ev (fun K => signatorylaw48_DevicesOld.j4 K l p b c k (curT l p c k).1 (curT l p c k).2.1 (okD l p c k) true x y) true := fun x y => Ev.step (fun K => by rw [signatorylaw48_DevicesOld.j4]) (ev_pos rfl (ev_id _ rfl))
              generalize (if 1 ≤ sec ∧ sec < 1073741789 then (Cod.sgE sec b, Cod.sgS sec b, (0 : Int)) else (0, 0, 110)) = sg
              have j4 : Ev (fun K => signatorylaw48_DevicesOld.j4 K l p b c k (curT l p c k).1 (curT l p c k).2.1 (okD l p c k) false sg.1 sg.2.1) true := by
                refine Ev.step (fun K => by rw [signatorylaw48_DevicesOld.j4]) (ev_neg (by decide) ?_)
                rw [acc_g b sg.1 sg.2.1 hbl h3 hc]
                simp only [Option.bind_some]
                unfold accT
                by_cases hcc : okD l p c k = true ∧ Cod.vfB (cur l p c k).1.f4 b sg.1 sg.2.1 = true
                · rw [if_pos hcc]
                  refine ev_pos rfl (ev_pos rfl (ev_pos hcc.1 ?_))
                  rw [(e3 c hcc.1).1, (e3 c hcc.1).2]
                  refine ev_pos rfl ?_
                  unfold sign_Verify.f
                  rw [if_pos hbl, Option.bind_some, hcc.2]
                  exact ev_id _ rfl
                · rw [if_neg hcc]
                  exact ev_pos rfl (ev_neg (by decide) (ev_id _ rfl))
              by_cases hz : sg.2.2 = 0
              · refine ev_pos hz ?_
                cases Cod.vfB (curT l p a k).2.1 b sg.1 sg.2.1 with
                | true => exact j4
                | false => exact skip4 _ _
              · exact ev_neg hz (skip4 _ _)
            by_cases oc : okD l p c k = true
            · obtain ⟨n1, n2⟩ := old_core hG (by omega) (by omega) oa ob oc
              refine ev_pos oc (ev_neg ?_ ?_)
              · rw [(e3 c oc).1, (e3 a oa).1]; exact n1
              · have : ((curT l p c k).2.1 == (curT l p a k).2.1) = false := beq_eq_false_iff_ne.mpr (by rw [(e3 c oc).2, (e3 a oa).2]; exact n2)
                rw [this]
                exact j3
            · exact ev_neg oc j3
          by_cases oa : okD l p a k = true
          · refine ev_pos oa ?_
            by_cases ot : okD l p t k = true
            · refine ev_pos ot ?_
              rw [(e3 t ot).1, (e3 a oa).1]
              by_cases oe : (cur l p t k).1.f0 = (cur l p a k).1.f0
              · have := skip2
                rw [(e3 a oa).1] at this
                rw [beq_iff_eq.mpr oe]
                exact this
              · have := main oa (fun h => oe h.2)
                rw [(e3 a oa).1] at this
                rw [beq_eq_false_iff_ne.mpr oe]
                exact this
            · exact ev_neg ot (main oa (fun h => ot h.1))
          · exact ev_neg oa skip2
end Go.Proofs.YtjbcfdgnafmbkaaDoor.Dev
end
