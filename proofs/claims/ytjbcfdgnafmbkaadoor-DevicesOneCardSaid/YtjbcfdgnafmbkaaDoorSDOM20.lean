/- Lemmas, walks and printed functions for the claim. -/
import Derived.Test.YtjbcfdgnafmbkaaDoorSDOM15
import Derived.Laws.EntriesVeiled
section
set_option linter.unusedVariables false
namespace Go.Proofs.YtjbcfdgnafmbkaaDoor.Cod
open Go.RowKit Go.Proofs.YtjbcfdgnafmbkaaDoor Go.Proofs.YtjbcfdgnafmbkaaDoorW.PrintWords Go.Proofs.YtjbcfdgnafmbkaaDoor.PBig Go.Proofs.YtjbcfdgnafmbkaaDoor.PCu
theorem wrP_all (w0 : World) (pw pb : Nat) (hW : Writer w0 pw pb) : ∀ k, WrP k w0 pw
  | 0 => fun _ _ _ _ _ _ h => h.elim
  | k + 1 => by
    have IH := wrP_all w0 pw pb hW k
    intro x A c v xs w hok hC hlc hO hb hl
    obtain ⟨b1, b2, hok⟩ := hok
    obtain ⟨x0, x1, x2, x3⟩ := x
    simp only at b1 b2 hok hC hlc
    rcases hok with ⟨rfl, rfl, rfl⟩ | ⟨rfl, rfl, rfl⟩ | ⟨rfl, rfl, rfl, hch⟩
    · have e : encF (k + 1) ⟨1, x1, ByteArray.empty, []⟩ = 1 :: num (zz x1) := by rw [encF]; exact if_pos rfl
      rw [e] at hl ⊢
      refine ⟨fun _ => ?_, fun h => absurd (show (1 : Int) = 2 from h) (by decide), fun h => absurd (show (1 : Int) = 3 from h) (by decide)⟩
      exact w1_c x1 c A v xs w0.heap.size w b1 b2 hO hb.size (by omega)
    · have e : encF (k + 1) ⟨2, 0, x2, []⟩ = 2 :: (num x2.size ++ Sha.strL x2) := by rw [encF]; rw [if_neg (by decide : ¬ (2 : Int) = 1)]; exact if_pos rfl
      rw [e] at hl ⊢
      refine ⟨fun h => absurd (show (2 : Int) = 1 from h) (by decide), fun _ => ?_, fun h => absurd (show (2 : Int) = 3 from h) (by decide)⟩
      exact w2_c x2 c A v xs w0.heap.size w hO hb.size (by simp only [List.length_cons, List.length_append, Sha.strL_length] at hl; omega)
    · have e : encF (k + 1) ⟨3, 0, ByteArray.empty, x3⟩ = 3 :: (num x3.length ++ (x3.map (encF k)).flatten) := by rw [encF]; rw [if_neg (by decide : ¬ (3 : Int) = 1)]; exact if_neg (by decide : ¬ (3 : Int) = 2)
      rw [e] at hl ⊢
      refine ⟨fun h => absurd (show (3 : Int) = 1 from h) (by decide), fun h => absurd (show (3 : Int) = 2 from h) (by decide), fun _ => ?_⟩
      exact w3_c k w0 pw pb hW IH x3 hch A c v xs w hC hlc hO hb (by simp only [List.length_cons, List.length_append] at hl; omega)
def MadeWriter (w : World) (e : Ending) (w' : World) : Prop := ∃ pw pb : Nat, e = .returned (.pointer (some ⟨pb, 0, none⟩)) ∧ Writer w' pw pb ∧ Below w.heap.size w w'
set_option maxHeartbeats 1000000 in
theorem newWriter_c (w : World) : Calls Tryd.prog 99 #[] w (MadeWriter w) := by
  go_enter Tryd.func99, Tryd.ntmps99
  go_wp2
  go_ret
  refine ⟨w.heap.size + 1, w.heap.size, rfl, ⟨?_, ?_, ?_, ?_⟩, ((Below.refl _ w).alloc (Nat.le_refl _) _).alloc (by simp) _⟩ <;> simp
end Go.Proofs.YtjbcfdgnafmbkaaDoor.Cod
end
section
set_option linter.unusedVariables false
namespace Go.Proofs.YtjbcfdgnafmbkaaDoor.Cod
open Go.RowKit Go.Proofs.YtjbcfdgnafmbkaaDoor Go.Proofs.YtjbcfdgnafmbkaaDoorW.PrintWords Go.Proofs.YtjbcfdgnafmbkaaDoor.PBig Go.Proofs.YtjbcfdgnafmbkaaDoor.PCu
def Encoded (w : World) (xs : List Nat) (e : Ending) (w' : World) : Prop := ∃ v, e = .returned (.tuple #[v, .int .i64 0]) ∧ OwnB w' w.heap.size v xs ∧ Below w.heap.size w w'
theorem box_keep {wa : World} {b : Nat} {x0 x1 : Int} {x2 : ByteArray} {v : Value} (h : wa.cell? ⟨b, 0, none⟩ = some (.int .i64 x0) ∧ wa.cell? ⟨b, 1, none⟩ = some (.int .i64 x1) ∧ wa.cell? ⟨b, 2, none⟩ = some (.string x2) ∧ wa.cell? ⟨b, 3, none⟩ = some v) :
    ∀ wb : World, Below wa.heap.size wa wb → wb.cell? ⟨b, 0, none⟩ = some (.int .i64 x0) ∧ wb.cell? ⟨b, 1, none⟩ = some (.int .i64 x1) ∧ wb.cell? ⟨b, 2, none⟩ = some (.string x2) ∧ wb.cell? ⟨b, 3, none⟩ = some v := fun wb hb =>
  ⟨(hb.cell (World.block_lt_of_cell? wa _ h.1)).trans h.1, (hb.cell (World.block_lt_of_cell? wa _ h.2.1)).trans h.2.1, (hb.cell (World.block_lt_of_cell? wa _ h.2.2.1)).trans h.2.2.1, (hb.cell (World.block_lt_of_cell? wa _ h.2.2.2)).trans h.2.2.2⟩
set_option maxHeartbeats 2000000 in
set_option maxRecDepth 100000 in
theorem encode_c (k : Nat) (x : S93) (A : Option Addr) (c : Nat) (w : World) (hk : k ≤ 100) (hok : okV k x) (hC : Kd.C k93 w A x.f3.length x.f3) (hlc : x.f3.length ≤ c) (hd : dep k x ≤ 16) (hl : (encF k x).length + 40 ≤ 70368744177664) :
    Calls Tryd.prog 59 #[agg93 x A c] w (Encoded w (encF k x)) := by
  have HCK := Lib.hid (fun w' (g : Below w.heap.size w w') => check_c k x A c w' hk hok (Kd.C_below hC g) hlc hd)
  have HWR := Lib.hid (fun (w0 : World) (pw pb : Nat) (hW : Writer w0 pw pb) (v : Value) (hO : OwnB w0 w0.heap.size v []) (g : Below w.heap.size w w0) => wrP_all w0 pw pb hW k x A c v [] w0 hok (Kd.C_below hC g) hlc hO (Below.refl _ _) (by simp only [List.length_nil]; omega))
  generalize encF k x = ys at *
  have HOK : Hid (x.f0 = 1 ∨ x.f0 = 2 ∨ x.f0 = 3) := Lib.hid (by
    cases k with
    | zero => exact hok.elim
    | succ k => obtain ⟨_, _, h⟩ := hok; rcases h with h | h | h <;> simp [h.1])
  clear hC hok hd hl
  obtain ⟨x0, x1, x2, x3⟩ := x
  unfold agg93 at *
  simp only at HOK HCK HWR hlc
  go_enter Tryd.func59, Tryd.ntmps59
  go_wp2_with fail
  refine (HCK.out _ ((Below.refl _ w).alloc (Nat.le_refl _) _)).mono ?_
  rintro e w1 ⟨rfl, hb1⟩
  go_wp2
  have q0 : w1.cell? ⟨w.heap.size, 0, none⟩ = some (.int .i64 x0) := (hb1.cell (by simp)).trans (by simp)
  have q1 : w1.cell? ⟨w.heap.size, 1, none⟩ = some (.int .i64 x1) := (hb1.cell (by simp)).trans (by simp)
  have q2 : w1.cell? ⟨w.heap.size, 2, none⟩ = some (.string x2) := (hb1.cell (by simp)).trans (by simp)
  have q3 : w1.cell? ⟨w.heap.size, 3, none⟩ = some (.slice A x3.length c) := (hb1.cell (by simp)).trans (by simp)
  have hz1 : w.heap.size < w1.heap.size := by have := hb1.size; simp at this; omega
  have HB1 : Hid (Below w.heap.size w w1) := Lib.hid (((Below.refl _ w).alloc (Nat.le_refl _) _).trans (hb1.mono (by simp)))
  clear hb1 HCK
  have hb1D : ∀ w', Below (w1.drewN 1).heap.size (w1.drewN 1) w' → Below w.heap.size w w' := fun w' h => (pw_below_drewN HB1.out 1).trans (h.mono (Nat.le_of_lt (by simpa using hz1)))
  rcases HOK.out with rfl | rfl | rfl
  · have hk0 := box_keep (wa := w1.drewN 1) ⟨q0, q1, q2, q3⟩
    have HW1 := Lib.hid (fun w0 pw pb hW g => (HWR.out w0 pw pb hW (.slice none 0 0) (Kd.R_nil _ _ _ _ _) g).1 rfl)
    clear HWR
    clear HOK
    go_region_with (first | (go_at_call 99; refine (newWriter_c _).mono ?_; rintro e w' ⟨pw, pb, rfl, hW, hb⟩; obtain ⟨z0, z1, z2, z3⟩ := hk0 w' hb; have hf := hW.f1; have HW := Lib.hid hW; have HBW := Lib.hid (hb1D w' hb); clear hW hb) | (go_at_call 126; refine (HW1.out _ pw pb HW.out HBW.out).mono ?_; rintro e w5 ⟨v5, rfl, hO, hU⟩; have hbU := hU.below (xs := []) (Kd.R_nil _ _ _ _ _) (Below.refl _ _) (Nat.le_refl _); have HO5 := Lib.hid (show OwnB w5 w.heap.size v5 ys from Kd.R_lower hO HBW.out.size); have HB5 := Lib.hid (HBW.out.trans (hbU.mono HBW.out.size)); clear hO hU hbU))
    all_goals (go_wp2; go_ret2; exact ⟨_, rfl, HO5.out, HB5.out⟩)
  · have hk0 := box_keep (wa := w1.drewN 1) ⟨q0, q1, q2, q3⟩
    have HW2 := Lib.hid (fun w0 pw pb hW g => (HWR.out w0 pw pb hW (.slice none 0 0) (Kd.R_nil _ _ _ _ _) g).2.1 rfl)
    clear HWR
    clear HOK
    go_region_with (first | (go_at_call 99; refine (newWriter_c _).mono ?_; rintro e w' ⟨pw, pb, rfl, hW, hb⟩; obtain ⟨z0, z1, z2, z3⟩ := hk0 w' hb; have hf := hW.f2; have HW := Lib.hid hW; have HBW := Lib.hid (hb1D w' hb); clear hW hb) | (go_at_call 129; refine (HW2.out _ pw pb HW.out HBW.out).mono ?_; rintro e w5 ⟨v5, rfl, hO, hU⟩; have hbU := hU.below (xs := []) (Kd.R_nil _ _ _ _ _) (Below.refl _ _) (Nat.le_refl _); have HO5 := Lib.hid (show OwnB w5 w.heap.size v5 ys from Kd.R_lower hO HBW.out.size); have HB5 := Lib.hid (HBW.out.trans (hbU.mono HBW.out.size)); clear hO hU hbU))
    all_goals (go_wp2; go_ret2; exact ⟨_, rfl, HO5.out, HB5.out⟩)
  · have hk0 := box_keep (wa := w1.drewN 1) ⟨q0, q1, q2, q3⟩
    have HW3 := Lib.hid (fun w0 pw pb hW g => (HWR.out w0 pw pb hW (.slice none 0 0) (Kd.R_nil _ _ _ _ _) g).2.2 rfl)
    clear HWR
    clear HOK
    go_region_with (first | (go_at_call 99; refine (newWriter_c _).mono ?_; rintro e w' ⟨pw, pb, rfl, hW, hb⟩; obtain ⟨z0, z1, z2, z3⟩ := hk0 w' hb; have hf := hW.f3; have HW := Lib.hid hW; have HBW := Lib.hid (hb1D w' hb); clear hW hb) | (go_at_call 130; refine (HW3.out _ pw pb HW.out HBW.out).mono ?_; rintro e w5 ⟨v5, rfl, hO, hU⟩; have hbU := hU.below (xs := []) (Kd.R_nil _ _ _ _ _) (Below.refl _ _) (Nat.le_refl _); have HO5 := Lib.hid (show OwnB w5 w.heap.size v5 ys from Kd.R_lower hO HBW.out.size); have HB5 := Lib.hid (HBW.out.trans (hbU.mono HBW.out.size)); clear hO hU hbU))
    all_goals (go_wp2; go_ret2; exact ⟨_, rfl, HO5.out, HB5.out⟩)
end Go.Proofs.YtjbcfdgnafmbkaaDoor.Cod
end
