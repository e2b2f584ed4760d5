/- Lemmas, walks and printed functions for the claim. -/
import Derived.Test.YtjbcfdgnafmbkaaDoorSDOM30
section
namespace Go.Proofs.YtjbcfdgnafmbkaaDoor.PBig
open Go.RowKit Go.Proofs.YtjbcfdgnafmbkaaDoorW.PrintWords Go.Proofs.YtjbcfdgnafmbkaaDoorW.PrintLast Go.Proofs.YtjbcfdgnafmbkaaDoorW.PrintMore
attribute [local go_sem] max2_int min2_int max_two min_two max_three min_three max_four min_four
set_option linter.unusedVariables false
set_option linter.unusedSimpArgs false
set_option maxHeartbeats 8000000 in
set_option maxRecDepth 100000 in
theorem signatorylaw48_DevicesOne.tail10 (C : Code) (hC : C = fromR 10 (Tryd.f12.body.getD .skip)) (k kj9 kj32 : Nat) (A0 : Option Addr) (c0 : Nat) (l0 : List (S65)) (a1 a2 : Int) (A3 : Option Addr) (c3 : Nat) (l3 : List Int) (a4_0 a4_1 a5 a6 : Int) (r : Bool) (w wc : World) (gb368 : Nat) (t375 t376 : Int) (t377 : Bool) (t378 t379 t380 : Int) (t381 : Bool) (t382 t383 : Int) (t384 : Bool) (t385 : Int) (u32 u33 u34 u35 u36 u37 u38 u39 u40 u41 u42 u43 u44 u45 u46 u47 u48 u49 u50 u51 u52 u53 u54 u55 u56 u57 u58 u59 u60 u61 u62 u63 u64 u65 u66 u67 u68 u69 u70 u71 u72 u73 u74 u75 u76 u77 u78 u79 u80 u81 u82 u83 u84 u85 u86 u87 u88 u89 u90 u91 u92 u93 u94 u95 u96 u97 u98 u99 u100 u101 u102 u103 u104 u105 u106 u108 u109 u110 u111 u112 u113 u114 u115 u116 u117 u118 u119 u120 u121 u122 u123 u124 u128 u129 u130 u131 u132 u133 u134 u135 u136 u137 u138 u139 u140 u141 u142 u143 u144 u145 u146 u150 u151 u152 u153 u154 u155 u156 u157 u158 u159 u160 u161 u162 u163 u164 u165 u166 u167 u168 u169 u170 u171 u172 u173 u174 u175 u176 u177 u178 u179 u180 u181 u182 u183 u184 u185 u186 u187 u188 u189 u190 u191 u192 u193 u194 u195 u196 u197 u198 u199 u200 u201 u202 u203 u204 u205 u206 u207 u208 u209 u210 u211 u212 u213 u214 : Value) (HLd : Aside0 (Go.Proofs.YtjbcfdgnafmbkaaDoor.Sha.Laid w)) (HR0 : Aside0 (Kd.C k65 w A0 l0.length l0)) (HC0 : Aside0 (l0.length ≤ c0)) (HR3 : Aside0 (Kd.C (Kd.int .u8) w A3 l3.length l3)) (HC3 : Aside0 (l3.length ≤ c3)) (GE368 : Aside0 (w.heap.size ≤ gb368)) (BK368 : Aside0 (wc.heap[gb368]? = some (.cells #[.int .i64 a4_0, .int .i64 a4_1] 73 (0, 0)))) (HB : Aside0 (Below w.heap.size w wc)) (HJ9 : Aside0 (kj9 + 1 ≤ k)) (HJ32 : Aside0 (kj32 + 1 ≤ kj9)) (H : (if t377 = true then ((sign_Verify.f t376 l3 a4_0 a4_1).bind fun t386 => (if (t384 != t386) = true then (signatorylaw48_DevicesOne.j2 kj32 l0 a1 a5 a6 t375 t376 t377 true) else (if t384 = true then (signatorylaw48_DevicesOne.j2 kj32 l0 a1 a5 a6 t375 t376 t377 (t383 != t375)) else (signatorylaw48_DevicesOne.j2 kj32 l0 a1 a5 a6 t375 t376 t377 false)))) else (if (t384 != false) = true then (signatorylaw48_DevicesOne.j2 kj32 l0 a1 a5 a6 t375 t376 t377 true) else (if t384 = true then (signatorylaw48_DevicesOne.j2 kj32 l0 a1 a5 a6 t375 t376 t377 (t383 != t375)) else (signatorylaw48_DevicesOne.j2 kj32 l0 a1 a5 a6 t375 t376 t377 false)))) = some r) :
    Code.wp Tryd.prog C (bodyPost Tryd.prog Tryd.f12 fun e w' => e = .returned (.bool r) ∧ Below w.heap.size w w') ⟨List.toArray (.slice A0 l0.length c0 :: .int .i64 a1 :: .int .i64 a2 :: .slice A3 l3.length c3 :: .agg #[.int .i64 a4_0, .int .i64 a4_1] :: .int .i64 a5 :: .int .i64 a6 :: undef :: undef :: undef :: undef :: .pointer (some ⟨gb368, 0, none⟩) :: undef :: undef :: .bool false :: .int .i64 t375 :: .int .i64 t376 :: .bool t377 :: .int .i64 t378 :: .int .i64 t379 :: .int .i64 t380 :: .bool t381 :: .int .i64 t382 :: .int .i64 t383 :: .bool t384 :: .int .i64 t385 :: undef :: undef :: undef :: undef :: undef :: undef :: u32 :: u33 :: u34 :: u35 :: u36 :: u37 :: u38 :: u39 :: u40 :: u41 :: u42 :: u43 :: u44 :: u45 :: u46 :: u47 :: u48 :: u49 :: u50 :: u51 :: u52 :: u53 :: u54 :: u55 :: u56 :: u57 :: u58 :: u59 :: u60 :: u61 :: u62 :: u63 :: u64 :: u65 :: u66 :: u67 :: u68 :: u69 :: u70 :: u71 :: u72 :: u73 :: u74 :: u75 :: u76 :: u77 :: u78 :: u79 :: u80 :: u81 :: u82 :: u83 :: u84 :: u85 :: u86 :: u87 :: u88 :: u89 :: u90 :: u91 :: u92 :: u93 :: u94 :: u95 :: u96 :: u97 :: u98 :: u99 :: u100 :: u101 :: u102 :: u103 :: u104 :: u105 :: u106 :: .bool false :: u108 :: u109 :: u110 :: u111 :: u112 :: u113 :: u114 :: u115 :: u116 :: u117 :: u118 :: u119 :: u120 :: u121 :: u122 :: u123 :: u124 :: undef :: undef :: undef :: u128 :: u129 :: u130 :: u131 :: u132 :: u133 :: u134 :: u135 :: u136 :: u137 :: u138 :: u139 :: u140 :: u141 :: u142 :: u143 :: u144 :: u145 :: u146 :: undef :: undef :: undef :: u150 :: u151 :: u152 :: u153 :: u154 :: u155 :: u156 :: u157 :: u158 :: u159 :: u160 :: u161 :: u162 :: u163 :: u164 :: u165 :: u166 :: u167 :: u168 :: u169 :: u170 :: u171 :: u172 :: u173 :: u174 :: u175 :: u176 :: u177 :: u178 :: u179 :: u180 :: u181 :: u182 :: u183 :: u184 :: u185 :: u186 :: u187 :: u188 :: u189 :: u190 :: u191 :: u192 :: u193 :: u194 :: u195 :: u196 :: u197 :: u198 :: u199 :: u200 :: u201 :: u202 :: u203 :: u204 :: u205 :: u206 :: u207 :: u208 :: u209 :: u210 :: u211 :: u212 :: u213 :: u214 :: []), []⟩ wc := by
  subst hC
  have hu73 := Tryd.underlying73
  have hu65 := Tryd.underlying65
  conv => arg 2; whnf
  have HC45 := Aside0.mk H
  clear H
  go_step
  go_step
  go_upto_region 10 with (fail)
  go_cut [124] (fun v124 wc => ∃ (kq : Nat) (x124_44 : Bool), v124 = .bool x124_44 ∧ Aside0 (signatorylaw48_DevicesOne.j2 kq l0 a1 a5 a6 t375 t376 t377 x124_44 = some r) ∧ Aside0 (kq ≤ kj32) ∧ Aside0 (wc.heap[gb368]? = some (.cells #[.int .i64 a4_0, .int .i64 a4_1] 73 (0, 0))) ∧ Aside0 (Below w.heap.size w wc))
  case first =>
    have H := HC45.out
    clear HC45
    by_cases c46 : t377 = true
    · subst c46
      have H1 : ((sign_Verify.f t376 l3 a4_0 a4_1).bind fun t386 => (if (t384 != t386) = true then (signatorylaw48_DevicesOne.j2 kj32 l0 a1 a5 a6 t375 t376 true true) else (if t384 = true then (signatorylaw48_DevicesOne.j2 kj32 l0 a1 a5 a6 t375 t376 true (t383 != t375)) else (signatorylaw48_DevicesOne.j2 kj32 l0 a1 a5 a6 t375 t376 true false)))) = some r := by rw [if_pos rfl] at H; exact H
      clear H
      have H := H1
      clear H1
      replace H := Option.bind_eq_some_iff.mp H
      obtain ⟨t386, A470, H⟩ := H
      replace H : (if (t384 != t386) = true then (signatorylaw48_DevicesOne.j2 kj32 l0 a1 a5 a6 t375 t376 true true) else (if t384 = true then (signatorylaw48_DevicesOne.j2 kj32 l0 a1 a5 a6 t375 t376 true (t383 != t375)) else (signatorylaw48_DevicesOne.j2 kj32 l0 a1 a5 a6 t375 t376 true false))) = some r := H
      have A47 := Aside0.mk A470
      clear A470
      by_cases c48 : (t384 != t386) = true
      · rw [if_pos c48] at H
        have c48b0 : (t384 != t386) = true := c48
        (try (have c48b1 : decide (t384 = t386) = false := by simpa using c48))
        (try (have c48b2 : (t384 == t386) = false := by simpa using c48))
        (try (have c48b3 : ¬ (t384 = t386) := by simpa using c48))
        clear c48
        (first | rw [c48b0] | (simp only [i64_w, i32_w]; rw [c48b0]) | skip)
        have H' := Aside0.mk H
        clear H
        have hcz49_0 : wc.cell? ⟨gb368, 0, none⟩ = some (.int .i64 a4_0) := (blk_cell BK368.out 0).trans rfl
        have hcz49_1 : wc.cell? ⟨gb368, 1, none⟩ = some (.int .i64 a4_1) := (blk_cell BK368.out 1).trans rfl
        have hfz49_0 := blk_frozen BK368.out 0
        have hfz49_1 := blk_frozen BK368.out 1
        go_wp2_with (first | (go_at_call 53; (with_reducible refine (sign_Verify.calls (hLd := ?sideL) t376 _ _ l3 a4_0 a4_1 t386 _ ?side1 ?side2 A47.out).mono ?_); (case sideL => exact Go.Proofs.YtjbcfdgnafmbkaaDoor.Cod.Laid.below HLd.out (by repeat (first | (with_reducible first | exact HB.out | apply below_alloc | apply pw_below_drewN | apply below_drew1 | refine below_set ?_ GE368.out) | exact HB.out))); (case side1 => repeat (first | exact (Kd.C_below HR3.out HB.out) | (with_reducible refine Kd.C_alloc ?_ _) | (with_reducible refine Kd.C_drewN ?_ _) | (with_reducible refine Kd.C_drew ?_))); (case side2 => exact HC3.out); rintro e w50 ⟨rfl, hb⟩; have n0_ := Aside0.mk (blk_below (g := gb368) (o := .cells #[.int .i64 a4_0, .int .i64 a4_1] 73 (0, 0)) (by (with_reducible repeat (first | refine blk_drewN ?_ _ | refine blk_drew ?_ | refine blk_alloc ?_ _)); exact BK368.out) hb); have n1_ := Aside0.mk (below_step (by repeat (first | (with_reducible first | exact HB.out | apply below_alloc | apply pw_below_drewN | apply below_drew1 | refine below_set ?_ GE368.out) | exact HB.out)) hb); clear BK368; clear HB; have BK368 := n0_; have HB := n1_; clear n0_ n1_; (try clear hb); (try clear hb2); (try clear hk); (try clear hi)))
        go_meet
        case rel => exact ⟨_, (true), (by first | rfl | (simp; done) | (simp [*]; done)), H', ⟨by have := HJ9.out; have := HJ32.out; first | omega | exact Nat.le_refl _⟩, ⟨by (with_reducible repeat (first | refine blk_drewN ?_ _ | refine blk_drew ?_ | refine blk_alloc ?_ _)); exact BK368.out⟩, ⟨by repeat (first | (with_reducible first | exact HB.out | apply below_alloc | apply pw_below_drewN | apply below_drew1 | refine below_set ?_ GE368.out) | exact HB.out)⟩⟩
      · rw [if_neg c48] at H
        have c48b0 : (t384 != t386) = false := by simpa using c48
        (try (have c48b1 : decide (t384 = t386) = true := by simpa using c48))
        (try (have c48b2 : (t384 == t386) = true := by simpa using c48))
        clear c48
        (first | rw [c48b0] | (simp only [i64_w, i32_w]; rw [c48b0]) | skip)
        by_cases c51 : t384 = true
        · subst c51
          have H1 : (signatorylaw48_DevicesOne.j2 kj32 l0 a1 a5 a6 t375 t376 true (t383 != t375)) = some r := by rw [if_pos rfl] at H; exact H
          clear H
          have H := H1
          clear H1
          have H' := Aside0.mk H
          clear H
          have hcz52_0 : wc.cell? ⟨gb368, 0, none⟩ = some (.int .i64 a4_0) := (blk_cell BK368.out 0).trans rfl
          have hcz52_1 : wc.cell? ⟨gb368, 1, none⟩ = some (.int .i64 a4_1) := (blk_cell BK368.out 1).trans rfl
          have hfz52_0 := blk_frozen BK368.out 0
          have hfz52_1 := blk_frozen BK368.out 1
          go_wp2_with (first | (go_at_call 53; (with_reducible refine (sign_Verify.calls (hLd := ?sideL) t376 _ _ l3 a4_0 a4_1 t386 _ ?side1 ?side2 A47.out).mono ?_); (case sideL => exact Go.Proofs.YtjbcfdgnafmbkaaDoor.Cod.Laid.below HLd.out (by repeat (first | (with_reducible first | exact HB.out | apply below_alloc | apply pw_below_drewN | apply below_drew1 | refine below_set ?_ GE368.out) | exact HB.out))); (case side1 => repeat (first | exact (Kd.C_below HR3.out HB.out) | (with_reducible refine Kd.C_alloc ?_ _) | (with_reducible refine Kd.C_drewN ?_ _) | (with_reducible refine Kd.C_drew ?_))); (case side2 => exact HC3.out); rintro e w53 ⟨rfl, hb⟩; have n0_ := Aside0.mk (blk_below (g := gb368) (o := .cells #[.int .i64 a4_0, .int .i64 a4_1] 73 (0, 0)) (by (with_reducible repeat (first | refine blk_drewN ?_ _ | refine blk_drew ?_ | refine blk_alloc ?_ _)); exact BK368.out) hb); have n1_ := Aside0.mk (below_step (by repeat (first | (with_reducible first | exact HB.out | apply below_alloc | apply pw_below_drewN | apply below_drew1 | refine below_set ?_ GE368.out) | exact HB.out)) hb); clear BK368; clear HB; have BK368 := n0_; have HB := n1_; clear n0_ n1_; (try clear hb); (try clear hb2); (try clear hk); (try clear hi)))
          go_meet
          case rel => exact ⟨_, ((t383 != t375)), (by first | rfl | (simp; done) | (simp [*]; done)), H', ⟨by have := HJ9.out; have := HJ32.out; first | omega | exact Nat.le_refl _⟩, ⟨by (with_reducible repeat (first | refine blk_drewN ?_ _ | refine blk_drew ?_ | refine blk_alloc ?_ _)); exact BK368.out⟩, ⟨by repeat (first | (with_reducible first | exact HB.out | apply below_alloc | apply pw_below_drewN | apply below_drew1 | refine below_set ?_ GE368.out) | exact HB.out)⟩⟩
        · replace c51 := Bool.eq_false_iff.mpr c51
          subst c51
          have H1 : (signatorylaw48_DevicesOne.j2 kj32 l0 a1 a5 a6 t375 t376 true false) = some r := by rw [if_neg (show ¬ (false = true) by decide)] at H; exact H
          clear H
          have H := H1
          clear H1
          have H' := Aside0.mk H
          clear H
          have hcz54_0 : wc.cell? ⟨gb368, 0, none⟩ = some (.int .i64 a4_0) := (blk_cell BK368.out 0).trans rfl
          have hcz54_1 : wc.cell? ⟨gb368, 1, none⟩ = some (.int .i64 a4_1) := (blk_cell BK368.out 1).trans rfl
          have hfz54_0 := blk_frozen BK368.out 0
          have hfz54_1 := blk_frozen BK368.out 1
          go_wp2_with (first | (go_at_call 53; (with_reducible refine (sign_Verify.calls (hLd := ?sideL) t376 _ _ l3 a4_0 a4_1 t386 _ ?side1 ?side2 A47.out).mono ?_); (case sideL => exact Go.Proofs.YtjbcfdgnafmbkaaDoor.Cod.Laid.below HLd.out (by repeat (first | (with_reducible first | exact HB.out | apply below_alloc | apply pw_below_drewN | apply below_drew1 | refine below_set ?_ GE368.out) | exact HB.out))); (case side1 => repeat (first | exact (Kd.C_below HR3.out HB.out) | (with_reducible refine Kd.C_alloc ?_ _) | (with_reducible refine Kd.C_drewN ?_ _) | (with_reducible refine Kd.C_drew ?_))); (case side2 => exact HC3.out); rintro e w55 ⟨rfl, hb⟩; have n0_ := Aside0.mk (blk_below (g := gb368) (o := .cells #[.int .i64 a4_0, .int .i64 a4_1] 73 (0, 0)) (by (with_reducible repeat (first | refine blk_drewN ?_ _ | refine blk_drew ?_ | refine blk_alloc ?_ _)); exact BK368.out) hb); have n1_ := Aside0.mk (below_step (by repeat (first | (with_reducible first | exact HB.out | apply below_alloc | apply pw_below_drewN | apply below_drew1 | refine below_set ?_ GE368.out) | exact HB.out)) hb); clear BK368; clear HB; have BK368 := n0_; have HB := n1_; clear n0_ n1_; (try clear hb); (try clear hb2); (try clear hk); (try clear hi)))
          go_meet
          case rel => exact ⟨_, (false), (by first | rfl | (simp; done) | (simp [*]; done)), H', ⟨by have := HJ9.out; have := HJ32.out; first | omega | exact Nat.le_refl _⟩, ⟨by (with_reducible repeat (first | refine blk_drewN ?_ _ | refine blk_drew ?_ | refine blk_alloc ?_ _)); exact BK368.out⟩, ⟨by repeat (first | (with_reducible first | exact HB.out | apply below_alloc | apply pw_below_drewN | apply below_drew1 | refine below_set ?_ GE368.out) | exact HB.out)⟩⟩
    · replace c46 := Bool.eq_false_iff.mpr c46
      subst c46
      have H1 : (if (t384 != false) = true then (signatorylaw48_DevicesOne.j2 kj32 l0 a1 a5 a6 t375 t376 false true) else (if t384 = true then (signatorylaw48_DevicesOne.j2 kj32 l0 a1 a5 a6 t375 t376 false (t383 != t375)) else (signatorylaw48_DevicesOne.j2 kj32 l0 a1 a5 a6 t375 t376 false false))) = some r := by rw [if_neg (show ¬ (false = true) by decide)] at H; exact H
      clear H
      have H := H1
      clear H1
      by_cases c56 : (t384 != false) = true
      · rw [if_pos c56] at H
        have c56b0 : (t384 != false) = true := c56
        (try (have c56b1 : decide (t384 = false) = false := by simpa using c56))
        (try (have c56b2 : (t384 == false) = false := by simpa using c56))
        (try (have c56b3 : ¬ (t384 = false) := by simpa using c56))
        clear c56
        have H' := Aside0.mk H
        clear H
        go_wp2
        go_meet
        case rel => exact ⟨_, (true), (by first | rfl | (simp; done) | (simp [*]; done)), H', ⟨by have := HJ9.out; have := HJ32.out; first | omega | exact Nat.le_refl _⟩, ⟨by (with_reducible repeat (first | refine blk_drewN ?_ _ | refine blk_drew ?_ | refine blk_alloc ?_ _)); exact BK368.out⟩, ⟨by repeat (first | (with_reducible first | exact HB.out | apply below_alloc | apply pw_below_drewN | apply below_drew1 | refine below_set ?_ GE368.out) | exact HB.out)⟩⟩
      · rw [if_neg c56] at H
        have c56b0 : (t384 != false) = false := by simpa using c56
        (try (have c56b1 : decide (t384 = false) = true := by simpa using c56))
        (try (have c56b2 : (t384 == false) = true := by simpa using c56))
        clear c56
        by_cases c57 : t384 = true
        · subst c57
          have H1 : (signatorylaw48_DevicesOne.j2 kj32 l0 a1 a5 a6 t375 t376 false (t383 != t375)) = some r := by rw [if_pos rfl] at H; exact H
          clear H
          have H := H1
          clear H1
          have H' := Aside0.mk H
          clear H
          go_wp2
          go_meet
          case rel => exact ⟨_, ((t383 != t375)), (by first | rfl | (simp; done) | (simp [*]; done)), H', ⟨by have := HJ9.out; have := HJ32.out; first | omega | exact Nat.le_refl _⟩, ⟨by (with_reducible repeat (first | refine blk_drewN ?_ _ | refine blk_drew ?_ | refine blk_alloc ?_ _)); exact BK368.out⟩, ⟨by repeat (first | (with_reducible first | exact HB.out | apply below_alloc | apply pw_below_drewN | apply below_drew1 | refine below_set ?_ GE368.out) | exact HB.out)⟩⟩
        · replace c57 := Bool.eq_false_iff.mpr c57
          subst c57
          have H1 : (signatorylaw48_DevicesOne.j2 kj32 l0 a1 a5 a6 t375 t376 false false) = some r := by rw [if_neg (show ¬ (false = true) by decide)] at H; exact H
          clear H
          have H := H1
          clear H1
          have H' := Aside0.mk H
          clear H
          go_wp2
          go_meet
          case rel => exact ⟨_, (false), (by first | rfl | (simp; done) | (simp [*]; done)), H', ⟨by have := HJ9.out; have := HJ32.out; first | omega | exact Nat.le_refl _⟩, ⟨by (with_reducible repeat (first | refine blk_drewN ?_ _ | refine blk_drew ?_ | refine blk_alloc ?_ _)); exact BK368.out⟩, ⟨by repeat (first | (with_reducible first | exact HB.out | apply below_alloc | apply pw_below_drewN | apply below_drew1 | refine below_set ?_ GE368.out) | exact HB.out)⟩⟩
  case rest =>
    clear HC45
    try clear c1
    try clear c2
    try clear p2
    try clear c3
    try clear c4
    try clear c5
    try clear c9
    try clear c12
    try clear c14
    try clear c16
    try clear c29
    try clear c38
    try clear c38b0
    try clear c38b1
    try clear c39
    try clear c39b0
    try clear c39b1
    try clear c40
    try clear c40b0
    try clear c40b1
    try clear c41
    try clear c41b0
    try clear c41b1
    try clear c42
    try clear c43
    try clear c44
    try clear c46
    try clear c47
    try clear c48
    try clear c48b0
    try clear c48b1
    try clear c48b2
    try clear c49
    try clear c51
    try clear c56
    try clear c56b0
    try clear c56b1
    try clear c56b2
    try clear c57
    try clear hcz36_0
    try clear hcz36_1
    try clear hcz49_0
    try clear hcz49_1
    try clear hcz52_0
    try clear hcz52_1
    try clear hcz54_0
    try clear hcz54_1
    try clear hfz36_0
    try clear hfz36_1
    try clear hfz49_0
    try clear hfz49_1
    try clear hfz52_0
    try clear hfz52_1
    try clear hfz54_0
    try clear hfz54_1
    try clear p2
    obtain ⟨kq, x124_44, rfl, HA, HJ44, BK368, HB⟩ := hcut
    cases kq with
    | zero => exact absurd HA.out (by simp [signatorylaw48_DevicesOne.j2])
    | succ kj44 =>
      have H := HA.out
      clear HA
      simp only [signatorylaw48_DevicesOne.j2] at H
      by_cases c58 : x124_44 = true
      · subst c58
        have H1 : (some false) = some r := by rw [if_pos rfl] at H; exact H
        clear H
        have H := H1
        clear H1
        obtain rfl := Option.some.inj H
        go_wp2
        go_ret
        exact ⟨by first | rfl | (simp [errW_none, errW_some] <;> rfl) | (simp [*, errW_none, errW_some] <;> rfl), by repeat (first | (with_reducible first | exact HB.out | apply below_alloc | apply pw_below_drewN | apply below_drew1 | refine below_set ?_ GE368.out) | exact HB.out)⟩
      · replace c58 := Bool.eq_false_iff.mpr c58
        subst c58
        have H1 : (signatorylaw48_DevicesOne.l0 kj44 l0 a1 a5 a6 t375 t376 t377 false l0 (l0.length : Int) 0) = some r := by rw [if_neg (show ¬ (false = true) by decide)] at H; exact H
        clear H
        have H := H1
        clear H1
        rename_i K1_ h1_ K0_ h0_
        refine h0_ _ _ ?_
        go_step
        go_step
        refine h1_ _ _ ?_
        exact signatorylaw48_DevicesOne.tail12 _ (by kernel_rfl) k kj9 kj32 kj44 A0 c0 l0 a1 a2 A3 c3 l3 a4_0 a4_1 a5 a6 r w wc gb368 t375 t376 t377 t378 t379 t380 t381 t382 t383 t384 t385 _ _ _ _ _ _ _ _ _ _ _ _ _ _ _ _ _ _ _ _ _ _ _ _ _ _ _ _ _ _ _ _ _ _ _ _ _ _ _ _ _ _ _ _ _ _ _ _ _ _ _ _ _ _ _ _ _ _ _ _ _ _ _ _ _ _ _ _ _ _ _ _ _ _ _ _ _ _ _ _ _ _ _ _ _ _ _ _ _ _ _ _ _ _ _ _ _ _ _ _ _ _ _ _ _ _ _ _ _ _ _ _ _ _ _ _ _ _ _ _ _ _ _ _ _ _ _ _ _ _ _ _ _ _ _ _ _ _ _ _ _ _ _ _ _ _ _ _ _ _ _ _ _ _ _ _ _ _ _ _ _ _ _ _ _ _ _ _ _ _ _ _ _ _ _ _ HLd HR0 HC0 HR3 HC3 GE368 BK368 HB HJ9 HJ32 HJ44 H
end Go.Proofs.YtjbcfdgnafmbkaaDoor.PBig
end
