/- The contracts of the helpers of the laws on the group, and the walks of GroupLaws and GroupPowers. -/
import Derived.Test.YtjbcfdgnafmbkaaGroupFns
import Derived.Lib.Hide
import Derived.Outline
namespace Go.Proofs.Ytjbcfdgnafmbkaa.GroupWalks
open Go.RowKit Go.Proofs.Ytjbcfdgnafmbkaa Go.Proofs.Ytjbcfdgnafmbkaa.PGroup Go.Proofs.YtjbcfdgnafmbkaaW.PrintWords Go.Proofs.YtjbcfdgnafmbkaaW.PrintLast

theorem drawn_below {w w' : World} (h : Drawn0 w w') : Below w.heap.size w w' := h.below
theorem sane_c (w : World) : Calls Try.prog 15 #[] w fun e w' => e = .returned (.bool true) ∧ Below w.heap.size w w' :=
  signatorylaw10_sane.calls 2 true w sane_f
/-- The element of any number. -/
def elemI (x : Int) : Int := elI (x % 1073741789 + 1)
theorem elem_valid (x : Int) : validB (elemI x) = true := valid_el (by omega) (by omega)
theorem elem_c (x : Int) (w : World) : Calls Try.prog 22 #[.int .i64 x] w fun e w' => e = .returned (.int .i64 (elemI x)) ∧ Below w.heap.size w w' := by
  refine (signatorylaw10_element.calls 1 x (elemI x) w ?_).mono fun e w' h => ⟨h.1, h.2.below⟩
  unfold signatorylaw10_element.f
  have lo : -1073741789 < Int.tmod x 1073741789 := by
    have := Int.lt_tmod_of_pos x (b := 1073741789) (by omega); omega
  have hi : Int.tmod x 1073741789 < 1073741789 := Int.tmod_lt_of_pos x (by omega)
  have e : (Int.tmod x 1073741789) % 1073741789 = x % 1073741789 := by
    rw [Int.tmod_eq_emod]; split <;> simp
  have key : ∀ m : Int, m = x % 1073741789 + 1 → ((group_Element.f 1 m).bind fun b => some b.1) = some (elemI x) := by
    rintro m rfl
    rw [element_f 0, if_pos (by omega)]
    rfl
  split
  · refine key _ ?_
    unfold wrap64; omega
  · refine key _ ?_
    unfold wrap64; omega
theorem pow_c {a : Int} (h : validB a = true) (n : Int) (w : World) : Calls Try.prog 24 #[.int .i64 a, .int .i64 n] w fun e w' => e = .returned (.int .i64 (powI a n)) ∧ Below w.heap.size w w' := by
  refine signatorylaw10_pow.calls a n (powI a n) w ?_
  unfold signatorylaw10_pow.f
  rw [pow_f, if_pos h]; simp
theorem mul_fold {a b : Int} (ha : validB a = true) (hb : validB b = true) : signatorylaw10_mul.f 3 [a, b] = some (mulI a b) := by
  unfold signatorylaw10_mul.f
  have e1 : wrap64 (0 + 1) = 1 := by unfold wrap64; omega
  have e2 : wrap64 (1 + 1) = 2 := by unfold wrap64; omega
  have r0 : rd [a, b] 0 = a := rfl
  have r1 : rd [a, b] 1 = b := rfl
  have l2 : (([a, b] : List Int).length : Int) = 2 := rfl
  rw [l2]
  simp only [signatorylaw10_mul.l0, mul_f, r0, r1, e1, e2, Option.bind_some, valid_one, ha, hb, l2]
  simp [one_mulI ha, ha]
theorem mul_c {a b : Int} (ha : validB a = true) (hb : validB b = true) (w : World) :
    Calls Try.prog 23 #[.slice (some ⟨w.heap.size, 0, none⟩) 2 2] (w.alloc (.cells #[.int .i64 a, .int .i64 b] 3)) fun e w' => e = .returned (.int .i64 (mulI a b)) ∧ Below w.heap.size w w' := by
  have hr : ReadsOf (Value.int .i64) 0 (w.alloc (.cells #[.int .i64 a, .int .i64 b] 3)) (some ⟨w.heap.size, 0, none⟩) 2 [a, b] :=
    ⟨rfl, by omega, fun _ => ⟨_, rfl, fun j hj => by
      have : j = 0 ∨ j = 1 := by omega
      rcases this with rfl | rfl <;> simp [Addr.add]⟩⟩
  refine (signatorylaw10_mul.calls 3 (some ⟨w.heap.size, 0, none⟩) 2 [a, b] (mulI a b) _ (Kd.C_of_reads (d := (0 : Int)) (h1 := fun _ => rfl) hr) (by simp) (mul_fold ha hb)).mono fun e w' h => ⟨h.1, ?_⟩
  have := h.2.below
  simp at this
  exact ((Below.refl w.heap.size w).alloc (Nat.le_refl _) _).trans (this.mono (by omega))

/-- A call that leaves what lay in the world at the begin as it lay. -/
theorem onB {f : Nat} {args : Array Value} {v : Value} {w0 w : World} (hb : Below w0.heap.size w0 w) (h : Calls Try.prog f args w fun e w' => e = .returned v ∧ Below w.heap.size w w') :
    Calls Try.prog f args w fun e w' => e = .returned v ∧ Below w0.heap.size w0 w' :=
  h.mono fun _ _ k => ⟨k.1, hb.trans (k.2.mono hb.size)⟩
theorem validV (a : Int) (w : World) : Calls Try.prog 20 #[.int .i64 a] w fun e w' => e = .returned (.bool (validB a)) ∧ Below w.heap.size w w' :=
  (valid_any a w).mono fun e w' h => ⟨h.1, by rw [← h.2]; exact Below.refl _ _⟩
theorem onL {a b m : Int} {w0 w : World} (ha : validB a = true) (hb : validB b = true) (hm : mulI a b = m) (hB : Below w0.heap.size w0 w) :
    Calls Try.prog 23 #[.slice (some ⟨w.heap.size, 0, none⟩) 2 2] (w.alloc (.cells #[.int .i64 a, .int .i64 b] 3)) fun e w' => e = .returned (.int .i64 m) ∧ Below w0.heap.size w0 w' := by
  subst hm
  exact (mul_c ha hb w).mono fun _ _ k => ⟨k.1, hB.trans (k.2.mono hB.size)⟩
theorem onP {a n p : Int} {w0 w : World} (ha : validB a = true) (hp : powI a n = p) (hB : Below w0.heap.size w0 w) :
    Calls Try.prog 24 #[.int .i64 a, .int .i64 n] w fun e w' => e = .returned (.int .i64 p) ∧ Below w0.heap.size w0 w' := by
  subst hp
  exact onB hB (pow_c ha n w)
theorem onV {a : Int} {w0 w : World} (ha : validB a = true) (hB : Below w0.heap.size w0 w) :
    Calls Try.prog 20 #[.int .i64 a] w fun e w' => e = .returned (.bool true) ∧ Below w0.heap.size w0 w' := by
  have := onB hB (validV a w)
  rwa [ha] at this

set_option maxHeartbeats 1000000 in
theorem GroupLaws_walk (x y z : Int) (w0 : World) :
    Calls Try.prog 4 #[.int .i64 x, .int .i64 y, .int .i64 z] w0 fun e w' => e = .returned (.bool true) ∧ Below w0.heap.size w0 w' := by
  have ea := fun w => elem_c x w
  have eb := fun w => elem_c y w
  have ec := fun w => elem_c z w
  have va := elem_valid x
  have vb := elem_valid y
  have vc := elem_valid z
  generalize elemI x = a at ea va
  generalize elemI y = b at eb vb
  generalize elemI z = c at ec vc
  have vab := valid_mul va vb
  have vbc := valid_mul vb vc
  have HA := Lib.hid va
  have HB := Lib.hid vb
  have HC := Lib.hid vc
  have HAB := Lib.hid vab
  have HBC := Lib.hid vbc
  have hb0 := Lib.hid (Below.refl w0.heap.size w0)
  have EA := Lib.hid ea
  have EB := Lib.hid eb
  have EC := Lib.hid ec
  clear va vb vc vab vbc ea eb ec
  go_enter Try.func4, Try.ntmps4
  go_wp2_with fail
  refine (onB hb0.out (sane_c _)).mono ?_; rintro e w1 ⟨rfl, h1⟩; replace hb0 := Lib.hid h1; clear h1
  go_wp2_with fail
  refine (onB hb0.out (EA.out _)).mono ?_; rintro e w2 ⟨rfl, h1⟩; replace hb0 := Lib.hid h1; clear h1
  go_wp2_with fail
  refine (onB hb0.out (EB.out _)).mono ?_; rintro e w3 ⟨rfl, h1⟩; replace hb0 := Lib.hid h1; clear h1
  go_wp2_with fail
  refine (onB hb0.out (EC.out _)).mono ?_; rintro e w4 ⟨rfl, h1⟩; replace hb0 := Lib.hid h1; clear h1
  go_wp2_with fail
  refine (onL HA.out HB.out rfl hb0.out).mono ?_; rintro e w5 ⟨rfl, h1⟩; replace hb0 := Lib.hid h1; clear h1
  go_wp2_with fail
  refine (onV HA.out hb0.out).mono ?_; rintro e w6 ⟨rfl, h1⟩; replace hb0 := Lib.hid h1; clear h1
  go_wp2_with fail
  refine (onV HAB.out hb0.out).mono ?_; rintro e w7 ⟨rfl, h1⟩; replace hb0 := Lib.hid h1; clear h1
  go_wp2_with fail
  refine (onL HB.out HA.out (mulI_comm b a) hb0.out).mono ?_; rintro e w8 ⟨rfl, h1⟩; replace hb0 := Lib.hid h1; clear h1
  go_wp2_with fail
  refine (onL HAB.out HC.out rfl hb0.out).mono ?_; rintro e w9 ⟨rfl, h1⟩; replace hb0 := Lib.hid h1; clear h1
  go_wp2_with fail
  refine (onL HB.out HC.out rfl hb0.out).mono ?_; rintro e w10 ⟨rfl, h1⟩; replace hb0 := Lib.hid h1; clear h1
  go_wp2_with fail
  refine (onL HA.out HBC.out (mulI_assoc a b c).symm hb0.out).mono ?_; rintro e w11 ⟨rfl, h1⟩; replace hb0 := Lib.hid h1; clear h1
  go_wp2_with fail
  refine (onL HA.out valid_one (mulI_one HA.out) hb0.out).mono ?_; rintro e w12 ⟨rfl, h1⟩; replace hb0 := Lib.hid h1; clear h1
  go_wp2_with fail
  refine (onP HA.out rfl hb0.out).mono ?_; rintro e w13 ⟨rfl, h1⟩; replace hb0 := Lib.hid h1; clear h1
  go_wp2_with fail
  refine (onL HA.out (valid_pow HA.out _) (mul_inv HA.out) hb0.out).mono ?_; rintro e w14 ⟨rfl, h1⟩; replace hb0 := Lib.hid h1; clear h1
  go_wp2_with fail
  refine (onL HA.out HB.out rfl hb0.out).mono ?_; rintro e w15 ⟨rfl, h1⟩; replace hb0 := Lib.hid h1; clear h1
  go_wp2_with fail
  refine (onP HB.out rfl hb0.out).mono ?_; rintro e w16 ⟨rfl, h1⟩; replace hb0 := Lib.hid h1; clear h1
  go_wp2_with fail
  refine (onL HAB.out (valid_pow HB.out _) (by rw [mulI_assoc, mul_inv HB.out, mulI_one HA.out]) hb0.out).mono ?_; rintro e w17 ⟨rfl, h1⟩; replace hb0 := Lib.hid h1; clear h1
  go_wp2_with fail
  refine (onP HAB.out (mul_powI HA.out HB.out _) hb0.out).mono ?_; rintro e w18 ⟨rfl, h1⟩; replace hb0 := Lib.hid h1; clear h1
  go_wp2_with fail
  refine (onP HA.out rfl hb0.out).mono ?_; rintro e w19 ⟨rfl, h1⟩; replace hb0 := Lib.hid h1; clear h1
  go_wp2_with fail
  refine (onP HB.out rfl hb0.out).mono ?_; rintro e w20 ⟨rfl, h1⟩; replace hb0 := Lib.hid h1; clear h1
  go_wp2_with fail
  refine (onL (valid_pow HA.out _) (valid_pow HB.out _) rfl hb0.out).mono ?_; rintro e w21 ⟨rfl, h1⟩; replace hb0 := Lib.hid h1; clear h1
  go_wp2
  go_ret
  exact ⟨rfl, hb0.out⟩

theorem prod32 {i k : Int} (h1 : -2147483648 ≤ i) (h2 : i ≤ 2147483647) (h3 : -2147483648 ≤ k) (h4 : k ≤ 2147483647) : -4611686018427387904 ≤ i * k ∧ i * k ≤ 4611686018427387904 := by
  have key : ∀ a b : Int, 0 ≤ a → a ≤ 2147483648 → 0 ≤ b → b ≤ 2147483648 → 0 ≤ a * b ∧ a * b ≤ 4611686018427387904 := fun a b a0 a1 b0 b1 =>
    ⟨Int.mul_nonneg a0 b0, by
      have := Int.mul_le_mul_of_nonneg_right a1 b0
      omega⟩
  rcases Int.le_total 0 i with hi | hi <;> rcases Int.le_total 0 k with hk | hk
  · have := key i k hi (by omega) hk (by omega); omega
  · have := key i (-k) hi (by omega) (by omega) (by omega); rw [Int.mul_neg] at this; omega
  · have := key (-i) k (by omega) (by omega) hk (by omega); rw [Int.neg_mul] at this; omega
  · have := key (-i) (-k) (by omega) (by omega) (by omega) (by omega); rw [Int.neg_mul_neg] at this; omega
set_option maxHeartbeats 1000000 in
theorem GroupPowers_walk (x y i k : Int) (w0 : World) (i1 : -2147483648 ≤ i) (i2 : i ≤ 2147483647) (k1 : -2147483648 ≤ k) (k2 : k ≤ 2147483647) :
    Calls Try.prog 5 #[.int .i64 x, .int .i64 y, .int .i32 i, .int .i32 k] w0 fun e w' => e = .returned (.bool true) ∧ Below w0.heap.size w0 w' := by
  have ea := fun w => elem_c x w
  have eb := fun w => elem_c y w
  have va := elem_valid x
  have vb := elem_valid y
  generalize elemI x = a at ea va
  generalize elemI y = b at eb vb
  obtain ⟨p1, p2⟩ := prod32 i1 i2 k1 k2
  have HA := Lib.hid va
  have HB := Lib.hid vb
  have HAB := Lib.hid (valid_mul va vb)
  have hb0 := Lib.hid (Below.refl w0.heap.size w0)
  have EA := Lib.hid ea
  have EB := Lib.hid eb
  clear va vb ea eb
  go_enter Try.func5, Try.ntmps5
  go_wp2_with fail
  refine (onB hb0.out (sane_c _)).mono ?_; rintro e w1 ⟨rfl, h1⟩; replace hb0 := Lib.hid h1; clear h1
  go_wp2_with fail
  refine (onB hb0.out (EA.out _)).mono ?_; rintro e w2 ⟨rfl, h1⟩; replace hb0 := Lib.hid h1; clear h1
  go_wp2_with fail
  refine (onB hb0.out (EB.out _)).mono ?_; rintro e w3 ⟨rfl, h1⟩; replace hb0 := Lib.hid h1; clear h1
  go_wp2_with fail
  refine (onP HA.out (powI_zero a) hb0.out).mono ?_; rintro e w4 ⟨rfl, h1⟩; replace hb0 := Lib.hid h1; clear h1
  go_wp2_with fail
  refine (onP HA.out (powI_one HA.out) hb0.out).mono ?_; rintro e w5 ⟨rfl, h1⟩; replace hb0 := Lib.hid h1; clear h1
  go_wp2_with fail
  refine (onP HA.out (powI_two HA.out) hb0.out).mono ?_; rintro e w6 ⟨rfl, h1⟩; replace hb0 := Lib.hid h1; clear h1
  go_wp2_with fail
  refine (onL HA.out HA.out rfl hb0.out).mono ?_; rintro e w7 ⟨rfl, h1⟩; replace hb0 := Lib.hid h1; clear h1
  go_wp2_with fail
  refine (onP HA.out (powI_Q a) hb0.out).mono ?_; rintro e w8 ⟨rfl, h1⟩; replace hb0 := Lib.hid h1; clear h1
  go_wp2_with fail
  refine (onP HA.out (powI_congr (n := i) (by omega)) hb0.out).mono ?_; rintro e w9 ⟨rfl, h1⟩; replace hb0 := Lib.hid h1; clear h1
  go_wp2_with fail
  refine (onP HA.out rfl hb0.out).mono ?_; rintro e w10 ⟨rfl, h1⟩; replace hb0 := Lib.hid h1; clear h1
  go_wp2_with fail
  refine (onP HA.out (powI_congr (n := i) (by omega)) hb0.out).mono ?_; rintro e w11 ⟨rfl, h1⟩; replace hb0 := Lib.hid h1; clear h1
  go_wp2_with fail
  refine (onP HA.out rfl hb0.out).mono ?_; rintro e w12 ⟨rfl, h1⟩; replace hb0 := Lib.hid h1; clear h1
  go_wp2_with fail
  refine (onP HA.out rfl hb0.out).mono ?_; rintro e w13 ⟨rfl, h1⟩; replace hb0 := Lib.hid h1; clear h1
  go_wp2_with fail
  refine (onP HA.out rfl hb0.out).mono ?_; rintro e w14 ⟨rfl, h1⟩; replace hb0 := Lib.hid h1; clear h1
  go_wp2_with fail
  refine (onL (valid_pow HA.out _) (valid_pow HA.out _) (powI_add HA.out i k).symm hb0.out).mono ?_; rintro e w15 ⟨rfl, h1⟩; replace hb0 := Lib.hid h1; clear h1
  go_wp2_with fail
  refine (onP HA.out rfl hb0.out).mono ?_; rintro e w16 ⟨rfl, h1⟩; replace hb0 := Lib.hid h1; clear h1
  go_wp2_with fail
  refine (onP HA.out rfl hb0.out).mono ?_; rintro e w17 ⟨rfl, h1⟩; replace hb0 := Lib.hid h1; clear h1
  go_wp2_with fail
  refine (onP (valid_pow HA.out _) (powI_pow HA.out i k) hb0.out).mono ?_; rintro e w18 ⟨rfl, h1⟩; replace hb0 := Lib.hid h1; clear h1
  go_wp2_with fail
  refine (onP HA.out rfl hb0.out).mono ?_; rintro e w19 ⟨rfl, h1⟩; replace hb0 := Lib.hid h1; clear h1
  go_wp2_with fail
  refine (onL HA.out HB.out rfl hb0.out).mono ?_; rintro e w20 ⟨rfl, h1⟩; replace hb0 := Lib.hid h1; clear h1
  go_wp2_with fail
  refine (onP HAB.out (mul_powI HA.out HB.out _) hb0.out).mono ?_; rintro e w21 ⟨rfl, h1⟩; replace hb0 := Lib.hid h1; clear h1
  go_wp2_with fail
  refine (onP HA.out rfl hb0.out).mono ?_; rintro e w22 ⟨rfl, h1⟩; replace hb0 := Lib.hid h1; clear h1
  go_wp2_with fail
  refine (onP HB.out rfl hb0.out).mono ?_; rintro e w23 ⟨rfl, h1⟩; replace hb0 := Lib.hid h1; clear h1
  go_wp2_with fail
  refine (onL (valid_pow HA.out _) (valid_pow HB.out _) rfl hb0.out).mono ?_; rintro e w24 ⟨rfl, h1⟩; replace hb0 := Lib.hid h1; clear h1
  go_wp2
  go_ret
  exact ⟨rfl, hb0.out⟩

theorem onE1 {n : Int} {w0 w : World} (h1 : 1 ≤ n) (h2 : n ≤ 1073741789) (hB : Below w0.heap.size w0 w) :
    Calls Try.prog 25 #[.int .i64 n] w fun e w' => e = .returned (.tuple #[.int .i64 (elI n), .int .i64 0]) ∧ Below w0.heap.size w0 w' :=
  onB hB ((group_Element.calls 1 n (elI n) 0 w (by rw [element_f 0, if_pos ⟨h1, h2⟩])).mono fun _ _ k => ⟨k.1, k.2.below⟩)
theorem onE0 {n : Int} {w0 w : World} (h : ¬ (1 ≤ n ∧ n ≤ 1073741789)) (hB : Below w0.heap.size w0 w) :
    Calls Try.prog 25 #[.int .i64 n] w fun e w' => e = .returned (.tuple #[.int .i64 0, .int .i64 1]) ∧ Below w0.heap.size w0 w' :=
  onB hB ((group_Element.calls 1 n 0 1 w (by rw [element_f 0, if_neg h])).mono fun _ _ k => ⟨k.1, k.2.below⟩)
theorem onN1 {x : Int} {w0 w : World} (h : validB x = true) (hB : Below w0.heap.size w0 w) :
    Calls Try.prog 26 #[.int .i64 x] w fun e w' => e = .returned (.tuple #[.int .i64 (noI x), .int .i64 0]) ∧ Below w0.heap.size w0 w' :=
  onB hB (group_Number.calls x (noI x) 0 w (by rw [number_f, if_pos h]))
theorem onN0 {x : Int} {w0 w : World} (h : validB x = false) (hB : Below w0.heap.size w0 w) :
    Calls Try.prog 26 #[.int .i64 x] w fun e w' => e = .returned (.tuple #[.int .i64 0, .int .i64 100]) ∧ Below w0.heap.size w0 w' :=
  onB hB (group_Number.calls x 0 100 w (by rw [number_f, if_neg (by rw [h]; simp)]))
theorem onV0 {a : Int} {w0 w : World} (ha : validB a = false) (hB : Below w0.heap.size w0 w) :
    Calls Try.prog 20 #[.int .i64 a] w fun e w' => e = .returned (.bool false) ∧ Below w0.heap.size w0 w' := by
  have := onB hB (validV a w)
  rwa [ha] at this
end Go.Proofs.Ytjbcfdgnafmbkaa.GroupWalks
