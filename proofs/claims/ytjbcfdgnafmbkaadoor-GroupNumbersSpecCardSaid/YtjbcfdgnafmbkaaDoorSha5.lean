/- slices.Grow from nil, slices.Concat of two rows. -/
import Derived.Test.YtjbcfdgnafmbkaaDoorSha4
import Derived.Test.YtjbcfdgnafmbkaaDoorWZeros
set_option linter.unusedVariables false
namespace Go.Proofs.YtjbcfdgnafmbkaaDoor.Sha
open Go.RowKit Go.Proofs.YtjbcfdgnafmbkaaDoor Go.Proofs.YtjbcfdgnafmbkaaDoorW.PrintWords
theorem und22 : Tryd.prog.underlying 22 = some (.slice 5) := by kernel_rfl
theorem und3 : Tryd.prog.underlying 3 = some (.int .i64) := by kernel_rfl
theorem inf5 : (Tryd.prog.info? 5).map (fun i => (i.zero, i.size, i.bytes)) = some (some (.int .u8 0), 1, 1) := by kernel_rfl
theorem grow_c (n : Nat) (hn : n ≤ 70368744177664) (w : World) :
    Calls Tryd.prog 97 #[.slice none 0 0, .int .i64 n] w fun e w' => ∃ v, e = .returned v ∧ Kd.R (Kd.int .u8) 5 w' w.heap.size (fun _ => True) v [] ∧ Below w.heap.size w w' := by
  have t0 : decide ((n : Int) < 0) = false := decide_eq_false (by omega)
  by_cases h0 : 0 < n
  · have t1 : decide ((0 : Int) < (n : Int)) = true := decide_eq_true (by omega)
    go_enter Tryd.func97, Tryd.ntmps97
    go_wp2_with (at_builtin; refine Kd.R_append_zeros (Kd.int .u8) (w0 := w) w.heap.size rfl (.tmp 20) (.tmp 21) 22 3 5 (.int .u8 0) 1 rfl und22 und3 inf5 rfl (by decide) (by omega) (.slice none 0 0) [] 0 (n : Int) (fun _ => True) rfl rfl rfl (fun _ _ => trivial) (Kd.R_nil _ _ _ _ _) (by omega) (Below.refl _ _) (Nat.le_refl _) (by simp; omega) ?_; intro v1 w1 hR hb hg hat; obtain ⟨g, cap, rfl, hgb, hglt, hgc⟩ := Kd.R_form hR (by simp; omega); have hRR := Lib.hid hR; have hbb := Lib.hid hb; clear hR hb hg hat hgc)
    go_ret
    exact ⟨_, rfl, by simpa using Kd.R_take (m := 0) hRR.out (Nat.zero_le _), hbb.out⟩
  · have : n = 0 := by omega
    subst this
    go_enter Tryd.func97, Tryd.ntmps97
    go_wp2
    go_ret
    exact ⟨_, rfl, Kd.R_nil _ _ _ _ _, Below.refl _ _⟩
set_option maxHeartbeats 1000000 in
theorem concat_c (V n1 n2 c1 c2 : Nat) (A1 A2 : Option Addr) (xs ys : List Int) (w : World) (hV : Arr w V 22 [.slice A1 n1 c1, .slice A2 n2 c2])
    (h1 : Kd.C (Kd.int .u8) w A1 n1 xs) (h2 : Kd.C (Kd.int .u8) w A2 n2 ys) (hn1 : n1 ≤ 35184372088832) (hn2 : n2 ≤ 35184372088832) :
    Calls Tryd.prog 58 #[.slice (some ⟨V, 0, none⟩) 2 2] w fun e w' => ∃ v, e = .returned v ∧ Kd.R (Kd.int .u8) 5 w' w.heap.size (fun _ => True) v (xs ++ ys) ∧ Below w.heap.size w w' := by
  have l1 : xs.length = n1 := h1.1
  have l2 : ys.length = n2 := h2.1
  have q0 : w.cell? ⟨V, 0, none⟩ = some (.slice A1 n1 c1) := hV.cell rfl
  have q1 : w.cell? ⟨V, 1, none⟩ = some (.slice A2 n2 c2) := hV.cell rfl
  have t1 : decide ((n1 : Int) < 0) = false := decide_eq_false (by omega)
  have e2 : IntKind.i64.wrap ((n1 : Int) + n2) = ((n1 + n2 : Nat) : Int) := by rw [IntKind.wrap_i64]; omega
  have t2 : decide (((n1 + n2 : Nat) : Int) < 0) = false := decide_eq_false (by omega)
  have H1 := Lib.hid h1
  have H2 := Lib.hid h2
  have HVV := Lib.hid hV
  clear h1 h2 hV
  go_enter Tryd.func58, Tryd.ntmps58
  go_wp2
  refine wp_loop_rounds 3 ?_; rw [rounds_succ]
  go_wp2
  rw [rounds_succ]
  go_wp2
  rw [rounds_succ]
  go_wp2_with fail
  rw [show ((n1 : Int) + n2) = ((n1 + n2 : Nat) : Int) from by omega]
  refine (grow_c (n1 + n2) (by omega) w).mono ?_
  rintro e w1 ⟨v0, rfl, hR0, hb0⟩
  clear t1 e2 t2 q0 q1
  have hV1 := HVV.out.below hb0 HVV.out.lt
  have q0 : w1.cell? ⟨V, 0, none⟩ = some (.slice A1 n1 c1) := hV1.cell rfl
  have hC1 := Kd.C_below H1.out hb0
  have HR0 := Lib.hid hR0
  have HB0 := Lib.hid hb0
  have HC1 := Lib.hid hC1
  have hs1 := hb0.size
  clear hV1 hR0 hb0 hC1
  go_wp2
  refine wp_loop_rounds 3 ?_; rw [rounds_succ]
  go_wp2_with (at_builtin; refine Kd.R_append_rows (Kd.int .u8) (w0 := w) w.heap.size rfl (.tmp 31) (.tmp 32) 22 5 (.int .u8 0) 1 rfl und22 inf5 rfl (by decide) (by omega) v0 [] xs A1 n1 c1 (fun _ => True) (fun _ => False) rfl rfl HR0.out HC1.out (fun _ _ h => h) (fun _ h => h.elim) (fun _ _ => trivial) HB0.out hs1 (by simp; omega) ?_; intro v1 w2 hR1 hb1 hg1 hat1; have HR1 := Lib.hid hR1; have HB1 := Lib.hid hb1; have hs2 := hb1.size; have hV2 := HVV.out.below hb1 HVV.out.lt; have q1 := hV2.cell (j := 1) rfl; clear hR1 hb1 hg1 hat1 hV2 q0)
  rw [rounds_succ]
  have hC2 := Kd.C_below H2.out HB1.out
  have HC2 := Lib.hid hC2
  clear hC2
  go_wp2_with (at_builtin; refine Kd.R_append_rows (Kd.int .u8) (w0 := w) w.heap.size rfl (.tmp 31) (.tmp 32) 22 5 (.int .u8 0) 1 rfl und22 inf5 rfl (by decide) (by omega) v1 ([] ++ xs) ys A2 n2 c2 (fun _ => True) (fun _ => False) rfl rfl HR1.out HC2.out (fun _ _ h => h) (fun _ h => h.elim) (fun _ _ => trivial) HB1.out hs2 (by simp; omega) ?_; intro v2 w3 hR2 hb2 hg2 hat2; have HR2 := Lib.hid hR2; have HB2 := Lib.hid hb2; clear hR2 hb2 hg2 hat2 q1)
  rw [rounds_succ]
  go_wp2
  go_ret
  exact ⟨_, rfl, HR2.out, HB2.out⟩
end Go.Proofs.YtjbcfdgnafmbkaaDoor.Sha
