/- Lemmas, walks and printed functions for the claim. -/
import Derived.Test.YtjbcfdgnafmbkaaDoorSDOM29
section
namespace Go.Proofs.YtjbcfdgnafmbkaaDoor.PBig
open Go.RowKit Go.Proofs.YtjbcfdgnafmbkaaDoorW.PrintWords Go.Proofs.YtjbcfdgnafmbkaaDoorW.PrintLast Go.Proofs.YtjbcfdgnafmbkaaDoorW.PrintMore
attribute [local go_sem] max2_int min2_int max_two min_two max_three min_three max_four min_four
set_option linter.unusedVariables false
set_option linter.unusedSimpArgs false
set_option maxHeartbeats 8000000 in
set_option maxRecDepth 100000 in
theorem signatorylaw48_DevicesOne.tail12 (C : Code) (hC : C = fromR 12 (Tryd.f12.body.getD .skip)) (k kj9 kj32 kj44 : Nat) (A0 : Option Addr) (c0 : Nat) (l0 : List (S65)) (a1 a2 : Int) (A3 : Option Addr) (c3 : Nat) (l3 : List Int) (a4_0 a4_1 a5 a6 : Int) (r : Bool) (w wc : World) (gb368 : Nat) (t375 t376 : Int) (t377 : Bool) (t378 t379 t380 : Int) (t381 : Bool) (t382 t383 : Int) (t384 : Bool) (t385 : Int) (u32 u33 u34 u35 u36 u37 u38 u39 u40 u41 u42 u43 u44 u45 u46 u47 u48 u49 u50 u51 u52 u53 u54 u55 u56 u57 u58 u59 u60 u61 u62 u63 u64 u65 u66 u67 u68 u69 u70 u71 u72 u73 u74 u75 u76 u77 u78 u79 u80 u81 u82 u83 u84 u85 u86 u87 u88 u89 u90 u91 u92 u93 u94 u95 u96 u97 u98 u99 u100 u101 u102 u103 u104 u105 u106 u107 u108 u109 u110 u111 u112 u113 u114 u115 u116 u117 u118 u119 u120 u121 u122 u123 u128 u129 u130 u131 u132 u133 u134 u135 u136 u137 u138 u139 u140 u141 u142 u143 u144 u145 u146 u150 u151 u152 u153 u154 u155 u156 u157 u158 u159 u160 u161 u162 u163 u164 u165 u166 u167 u168 u169 u170 u171 u172 u173 u174 u175 u176 u177 u178 u179 u180 u181 u182 u183 u184 u185 u186 u187 u188 u189 u190 u191 u192 u193 u194 u195 u196 u197 u198 u199 u200 u201 u202 u203 u204 u205 u206 u207 u208 u209 u210 u211 u212 u213 u214 : Value) (HLd : Aside0 (Go.Proofs.YtjbcfdgnafmbkaaDoor.Sha.Laid w)) (HR0 : Aside0 (Kd.C k65 w A0 l0.length l0)) (HC0 : Aside0 (l0.length ≤ c0)) (HR3 : Aside0 (Kd.C (Kd.int .u8) w A3 l3.length l3)) (HC3 : Aside0 (l3.length ≤ c3)) (GE368 : Aside0 (w.heap.size ≤ gb368)) (BK368 : Aside0 (wc.heap[gb368]? = some (.cells #[.int .i64 a4_0, .int .i64 a4_1] 73 (0, 0)))) (HB : Aside0 (Below w.heap.size w wc)) (HJ9 : Aside0 (kj9 + 1 ≤ k)) (HJ32 : Aside0 (kj32 + 1 ≤ kj9)) (HJ44 : Aside0 (kj44 + 1 ≤ kj32)) (H : (signatorylaw48_DevicesOne.l0 kj44 l0 a1 a5 a6 t375 t376 t377 false l0 (l0.length : Int) 0) = some r) :
    Code.wp Tryd.prog C (bodyPost Tryd.prog Tryd.f12 fun e w' => e = .returned (.bool r) ∧ Below w.heap.size w w') ⟨List.toArray (.slice A0 l0.length c0 :: .int .i64 a1 :: .int .i64 a2 :: .slice A3 l3.length c3 :: .agg #[.int .i64 a4_0, .int .i64 a4_1] :: .int .i64 a5 :: .int .i64 a6 :: undef :: undef :: undef :: undef :: .pointer (some ⟨gb368, 0, none⟩) :: undef :: undef :: .bool false :: .int .i64 t375 :: .int .i64 t376 :: .bool t377 :: .int .i64 t378 :: .int .i64 t379 :: .int .i64 t380 :: .bool t381 :: .int .i64 t382 :: .int .i64 t383 :: .bool t384 :: .int .i64 t385 :: undef :: undef :: undef :: undef :: undef :: undef :: u32 :: u33 :: u34 :: u35 :: u36 :: u37 :: u38 :: u39 :: u40 :: u41 :: u42 :: u43 :: u44 :: u45 :: u46 :: u47 :: u48 :: u49 :: u50 :: u51 :: u52 :: u53 :: u54 :: u55 :: u56 :: u57 :: u58 :: u59 :: u60 :: u61 :: u62 :: u63 :: u64 :: u65 :: u66 :: u67 :: u68 :: u69 :: u70 :: u71 :: u72 :: u73 :: u74 :: u75 :: u76 :: u77 :: u78 :: u79 :: u80 :: u81 :: u82 :: u83 :: u84 :: u85 :: u86 :: u87 :: u88 :: u89 :: u90 :: u91 :: u92 :: u93 :: u94 :: u95 :: u96 :: u97 :: u98 :: u99 :: u100 :: u101 :: u102 :: u103 :: u104 :: u105 :: u106 :: u107 :: u108 :: u109 :: u110 :: u111 :: u112 :: u113 :: u114 :: u115 :: u116 :: u117 :: u118 :: u119 :: u120 :: u121 :: u122 :: u123 :: .bool false :: undef :: undef :: undef :: u128 :: u129 :: u130 :: u131 :: u132 :: u133 :: u134 :: u135 :: u136 :: u137 :: u138 :: u139 :: u140 :: u141 :: u142 :: u143 :: u144 :: u145 :: u146 :: undef :: undef :: undef :: u150 :: u151 :: u152 :: u153 :: u154 :: u155 :: u156 :: u157 :: u158 :: u159 :: u160 :: u161 :: u162 :: u163 :: u164 :: u165 :: u166 :: u167 :: u168 :: u169 :: u170 :: u171 :: u172 :: u173 :: u174 :: u175 :: u176 :: u177 :: u178 :: u179 :: u180 :: u181 :: u182 :: u183 :: u184 :: u185 :: u186 :: u187 :: u188 :: u189 :: u190 :: u191 :: u192 :: u193 :: u194 :: u195 :: u196 :: u197 :: u198 :: u199 :: u200 :: u201 :: u202 :: u203 :: u204 :: u205 :: u206 :: u207 :: u208 :: u209 :: u210 :: u211 :: u212 :: u213 :: u214 :: []), []⟩ wc := by
  subst hC
  have hu73 := Tryd.underlying73
  have hu65 := Tryd.underlying65
  conv => arg 2; whnf
  have H' := Aside0.mk H
  clear H
  go_wp2
  go_loopg [26, 127] kj44 (fun kq v26 v127 w' => ∃ (x26_4 : Bool) (x127_4 : Int), v26 = .bool x26_4 ∧ v127 = .int .i64 x127_4 ∧ Aside0 (signatorylaw48_DevicesOne.l0 kq l0 a1 a5 a6 t375 t376 t377 x26_4 l0 (l0.length : Int) x127_4 = some r) ∧ Aside0 (kq ≤ kj44) ∧ Aside0 (w'.heap[gb368]? = some (.cells #[.int .i64 a4_0, .int .i64 a4_1] 73 (0, 0))) ∧ Aside0 (Below w.heap.size w w'))
  case atStart => exact ⟨(false), (0), (by first | rfl | (simp; done) | (simp [*]; done)), (by first | rfl | (simp; done) | (simp [*]; done)), H', ⟨Nat.le_refl _⟩, ⟨by (with_reducible repeat (first | refine blk_drewN ?_ _ | refine blk_drew ?_ | refine blk_alloc ?_ _)); exact BK368.out⟩, ⟨by repeat (first | (with_reducible first | exact HB.out | apply below_alloc | apply pw_below_drewN | apply below_drew1 | refine below_set ?_ GE368.out) | exact HB.out)⟩⟩
  case round =>
    clear H'
    try clear c1
    try clear c2
    try clear p2
    try clear c3
    try clear c4
    try clear c5
    try clear c9
    try clear c12
    try clear c14
    try clear c16
    try clear c29
    try clear c38
    try clear c38b0
    try clear c38b1
    try clear c39
    try clear c39b0
    try clear c39b1
    try clear c40
    try clear c40b0
    try clear c40b1
    try clear c41
    try clear c41b0
    try clear c41b1
    try clear c42
    try clear c43
    try clear c44
    try clear c46
    try clear c47
    try clear c48
    try clear c48b0
    try clear c48b1
    try clear c48b2
    try clear c49
    try clear c51
    try clear c56
    try clear c56b0
    try clear c56b1
    try clear c56b2
    try clear c57
    try clear c58
    try clear hcz36_0
    try clear hcz36_1
    try clear hcz49_0
    try clear hcz49_1
    try clear hcz52_0
    try clear hcz52_1
    try clear hcz54_0
    try clear hcz54_1
    try clear hfz36_0
    try clear hfz36_1
    try clear hfz49_0
    try clear hfz49_1
    try clear hfz52_0
    try clear hfz52_1
    try clear hfz54_0
    try clear hfz54_1
    try clear p2
    obtain ⟨x26_4, x127_4, rfl, rfl, HA, HK4, BK368, HB⟩ := hrel
    cases gk with
    | zero => exact absurd HA.out (by simp [signatorylaw48_DevicesOne.l0])
    | succ k4 =>
      have H := HA.out
      clear HA
      simp only [signatorylaw48_DevicesOne.l0] at H
      by_cases c59 : x127_4 < (l0.length : Int)
      · rw [if_pos c59] at H
        have c59b0 : decide (x127_4 < (l0.length : Int)) = true := decide_eq_true c59
        clear c59
        by_cases c60 : 0 ≤ x127_4
        · rw [if_pos c60] at H
          have c60b0 : decide (0 ≤ x127_4) = true := decide_eq_true c60
          clear c60
          by_cases c61 : x127_4 < (l0.length : Int)
          · rw [if_pos c61] at H
            have c61b0 : decide (x127_4 < (l0.length : Int)) = true := decide_eq_true c61
            clear c61
            have HC62 := Aside0.mk H
            clear H
            have p387 : 0 ≤ (x127_4 : Int) := of_decide_eq_true (by first | (with_reducible assumption) | assumption)
            have q387 : x127_4 < (l0.length : Int) := of_decide_eq_true (by first | (with_reducible assumption) | assumption)
            obtain ⟨ad387, e387, hx387_0, hx387_1, hx387_2, hx387_3, hx387_4, hx387_5⟩ := at_T65 HR0.out x127_4 p387 q387
            cases e387
            replace hx387_0 := (HB.out.cell (World.block_lt_of_cell? w _ hx387_0)).trans hx387_0
            replace hx387_1 := (HB.out.cell (World.block_lt_of_cell? w _ hx387_1)).trans hx387_1
            replace hx387_2 := (HB.out.cell (World.block_lt_of_cell? w _ hx387_2)).trans hx387_2
            replace hx387_3 := (HB.out.cell (World.block_lt_of_cell? w _ hx387_3)).trans hx387_3
            replace hx387_4 := (HB.out.cell (World.block_lt_of_cell? w _ hx387_4)).trans hx387_4
            replace hx387_5 := (HB.out.cell (World.block_lt_of_cell? w _ hx387_5)).trans hx387_5
            replace p387 := eq_true p387
            replace q387 := eq_true q387
            go_upto_region 16 with (first | ((with_reducible refine gate_dst (N := 28) rfl ?_); (try (refine gate_guard (by rfl) ?_; dsimp only)); refine box_event ?hg (N := 28) ?hd (cs := #[.int .i64 0, .int .i64 0, .int .i64 0, .int .i64 0, .int .i64 0, .bool false]) (t := 65) ?hr ?_; (case hd => rfl); (case hg => rfl); (case hr => first | (go_simp; done) | (go_simp; rfl)); intro gb388 hg w63 hbox hb; have n0_ := Aside0.mk (blk_below (g := gb368) (o := .cells #[.int .i64 a4_0, .int .i64 a4_1] 73 (0, 0)) (by (with_reducible repeat (first | refine blk_drewN ?_ _ | refine blk_drew ?_ | refine blk_alloc ?_ _)); exact BK368.out) hb); have n1_ := Aside0.mk (below_step (by repeat (first | (with_reducible first | exact HB.out | apply below_alloc | apply pw_below_drewN | apply below_drew1 | refine below_set ?_ GE368.out) | exact HB.out)) hb); have n2_ := Aside0.mk (hbox); have n3_ := Aside0.mk ((by rw [hg]; exact (below_size (by repeat (first | (with_reducible first | exact HB.out | apply below_alloc | apply pw_below_drewN | apply below_drew1 | refine below_set ?_ GE368.out) | exact HB.out))) : w.heap.size ≤ gb388)); have n4_ := Aside0.mk ((by rw [hg]; exact (below_size (by repeat (first | (with_reducible first | exact HB.out | apply below_alloc | apply pw_below_drewN | apply below_drew1 | refine below_set ?_ GE368.out) | exact HB.out))) : w.heap.size ≤ gb388)); have n5_ := Aside0.mk ((by rw [hg]; exact Nat.ne_of_lt (blk_lt (g := gb368) (o := .cells #[.int .i64 a4_0, .int .i64 a4_1] 73 (0, 0)) (by (with_reducible repeat (first | refine blk_drewN ?_ _ | refine blk_drew ?_ | refine blk_alloc ?_ _)); exact BK368.out)) : gb368 ≠ gb388)); have n6_ := Aside0.mk ((by rw [hg]; exact Nat.ne_of_gt (blk_lt (g := gb368) (o := .cells #[.int .i64 a4_0, .int .i64 a4_1] 73 (0, 0)) (by (with_reducible repeat (first | refine blk_drewN ?_ _ | refine blk_drew ?_ | refine blk_alloc ?_ _)); exact BK368.out)) : gb388 ≠ gb368)); clear BK368; clear HB; have BK368 := n0_; have HB := n1_; have BK388 := n2_; have GW388 := n3_; have GE388 := n4_; have NB368_388 := n5_; have NB388_368 := n6_; clear n0_ n1_ n2_ n3_ n4_ n5_ n6_; clear hb hbox hg; have hnb64 := NB388_368.out; have hnc64 := NB368_388.out; have hcz65_0 : w63.cell? ⟨gb388, 0, none⟩ = some (.int .i64 0) := (blk_cell BK388.out 0).trans rfl; have hcz65_1 : w63.cell? ⟨gb388, 1, none⟩ = some (.int .i64 0) := (blk_cell BK388.out 1).trans rfl; have hcz65_2 : w63.cell? ⟨gb388, 2, none⟩ = some (.int .i64 0) := (blk_cell BK388.out 2).trans rfl; have hcz65_3 : w63.cell? ⟨gb388, 3, none⟩ = some (.int .i64 0) := (blk_cell BK388.out 3).trans rfl; have hcz65_4 : w63.cell? ⟨gb388, 4, none⟩ = some (.int .i64 0) := (blk_cell BK388.out 4).trans rfl; have hcz65_5 : w63.cell? ⟨gb388, 5, none⟩ = some (.bool false) := (blk_cell BK388.out 5).trans rfl; have hfz65_0 := blk_frozen BK388.out 0; have hfz65_1 := blk_frozen BK388.out 1; have hfz65_2 := blk_frozen BK388.out 2; have hfz65_3 := blk_frozen BK388.out 3; have hfz65_4 := blk_frozen BK388.out 4; have hfz65_5 := blk_frozen BK388.out 5))
            (try simp only [Act.put, List.setIfInBounds_toArray, List.set_cons_zero, List.set_cons_succ])
            go_cut [146] (fun v146 wc => ∃ (kq : Nat) (x146_61 : Bool), v146 = .bool x146_61 ∧ Aside0 (signatorylaw48_DevicesOne.j4 kq l0 a1 a5 a6 t375 t376 t377 x26_4 l0 (l0.length : Int) x127_4 x146_61 ((rd_T65 l0 x127_4).f0) ((rd_T65 l0 x127_4).f1) ((rd_T65 l0 x127_4).f2) ((rd_T65 l0 x127_4).f3) ((rd_T65 l0 x127_4).f4) ((rd_T65 l0 x127_4).f5) = some r) ∧ Aside0 (kq ≤ k4) ∧ Aside0 (wc.heap[gb368]? = some (.cells #[.int .i64 a4_0, .int .i64 a4_1] 73 (0, 0))) ∧ Aside0 (wc.heap[gb388]? = some (.cells #[.int .i64 ((rd_T65 l0 x127_4).f0), .int .i64 ((rd_T65 l0 x127_4).f1), .int .i64 ((rd_T65 l0 x127_4).f2), .int .i64 ((rd_T65 l0 x127_4).f3), .int .i64 ((rd_T65 l0 x127_4).f4), .bool ((rd_T65 l0 x127_4).f5)] 65 (0, 0))) ∧ Aside0 (Below w.heap.size w wc))
            case first =>
              have H := HC62.out
              clear HC62
              by_cases c66 : ((rd_T65 l0 x127_4).f3) = a1
              · rw [if_pos c66] at H
                have c66b0 : (((rd_T65 l0 x127_4).f3) == a1) = true := beq_iff_eq.mpr c66
                have c66b1 : (((rd_T65 l0 x127_4).f3) != a1) = false := bne_eq_false_iff_eq.mpr c66
                clear c66
                (first | rw [c66b0] | (simp only [i64_w, i32_w]; rw [c66b0]) | skip)
                by_cases c67 : ((rd_T65 l0 x127_4).f1) > a5
                · rw [if_pos c67] at H
                  have c67b0 : decide (a5 < ((rd_T65 l0 x127_4).f1)) = true := decide_eq_true c67
                  clear c67
                  have H' := Aside0.mk H
                  clear H
                  have hnb68 := NB388_368.out
                  have hnc68 := NB368_388.out
                  have hcz69_0 : w63.cell? ⟨gb388, 0, none⟩ = some (.int .i64 0) := (blk_cell BK388.out 0).trans rfl
                  have hcz69_1 : w63.cell? ⟨gb388, 1, none⟩ = some (.int .i64 0) := (blk_cell BK388.out 1).trans rfl
                  have hcz69_2 : w63.cell? ⟨gb388, 2, none⟩ = some (.int .i64 0) := (blk_cell BK388.out 2).trans rfl
                  have hcz69_3 : w63.cell? ⟨gb388, 3, none⟩ = some (.int .i64 0) := (blk_cell BK388.out 3).trans rfl
                  have hcz69_4 : w63.cell? ⟨gb388, 4, none⟩ = some (.int .i64 0) := (blk_cell BK388.out 4).trans rfl
                  have hcz69_5 : w63.cell? ⟨gb388, 5, none⟩ = some (.bool false) := (blk_cell BK388.out 5).trans rfl
                  have hfz69_0 := blk_frozen BK388.out 0
                  have hfz69_1 := blk_frozen BK388.out 1
                  have hfz69_2 := blk_frozen BK388.out 2
                  have hfz69_3 := blk_frozen BK388.out 3
                  have hfz69_4 := blk_frozen BK388.out 4
                  have hfz69_5 := blk_frozen BK388.out 5
                  go_wp2
                  go_meet
                  case rel => exact ⟨_, (true), (by first | rfl | (simp; done) | (simp [*]; done)), H', ⟨by have := HJ9.out; have := HJ32.out; have := HJ44.out; have := HK4.out; first | omega | exact Nat.le_refl _⟩, ⟨by (with_reducible repeat (first | refine blk_drewN ?_ _ | refine blk_drew ?_ | refine blk_alloc ?_ _)); refine blk_far ?_ NB368_388.out _; (with_reducible repeat (first | refine blk_drewN ?_ _ | refine blk_drew ?_ | refine blk_alloc ?_ _)); refine blk_far ?_ NB368_388.out _; (with_reducible repeat (first | refine blk_drewN ?_ _ | refine blk_drew ?_ | refine blk_alloc ?_ _)); refine blk_far ?_ NB368_388.out _; (with_reducible repeat (first | refine blk_drewN ?_ _ | refine blk_drew ?_ | refine blk_alloc ?_ _)); refine blk_far ?_ NB368_388.out _; (with_reducible repeat (first | refine blk_drewN ?_ _ | refine blk_drew ?_ | refine blk_alloc ?_ _)); refine blk_far ?_ NB368_388.out _; (with_reducible repeat (first | refine blk_drewN ?_ _ | refine blk_drew ?_ | refine blk_alloc ?_ _)); refine blk_far ?_ NB368_388.out _; (with_reducible repeat (first | refine blk_drewN ?_ _ | refine blk_drew ?_ | refine blk_alloc ?_ _)); exact BK368.out⟩, ⟨by (with_reducible repeat (first | refine blk_drewN ?_ _ | refine blk_drew ?_ | refine blk_alloc ?_ _)); refine blk_put (cs := #[.int .i64 ((rd_T65 l0 x127_4).f0), .int .i64 ((rd_T65 l0 x127_4).f1), .int .i64 ((rd_T65 l0 x127_4).f2), .int .i64 ((rd_T65 l0 x127_4).f3), .int .i64 ((rd_T65 l0 x127_4).f4), .bool false]) ?_ 5 _ rfl; (with_reducible repeat (first | refine blk_drewN ?_ _ | refine blk_drew ?_ | refine blk_alloc ?_ _)); refine blk_put (cs := #[.int .i64 ((rd_T65 l0 x127_4).f0), .int .i64 ((rd_T65 l0 x127_4).f1), .int .i64 ((rd_T65 l0 x127_4).f2), .int .i64 ((rd_T65 l0 x127_4).f3), .int .i64 0, .bool false]) ?_ 4 _ rfl; (with_reducible repeat (first | refine blk_drewN ?_ _ | refine blk_drew ?_ | refine blk_alloc ?_ _)); refine blk_put (cs := #[.int .i64 ((rd_T65 l0 x127_4).f0), .int .i64 ((rd_T65 l0 x127_4).f1), .int .i64 ((rd_T65 l0 x127_4).f2), .int .i64 0, .int .i64 0, .bool false]) ?_ 3 _ rfl; (with_reducible repeat (first | refine blk_drewN ?_ _ | refine blk_drew ?_ | refine blk_alloc ?_ _)); refine blk_put (cs := #[.int .i64 ((rd_T65 l0 x127_4).f0), .int .i64 ((rd_T65 l0 x127_4).f1), .int .i64 0, .int .i64 0, .int .i64 0, .bool false]) ?_ 2 _ rfl; (with_reducible repeat (first | refine blk_drewN ?_ _ | refine blk_drew ?_ | refine blk_alloc ?_ _)); refine blk_put (cs := #[.int .i64 ((rd_T65 l0 x127_4).f0), .int .i64 0, .int .i64 0, .int .i64 0, .int .i64 0, .bool false]) ?_ 1 _ rfl; (with_reducible repeat (first | refine blk_drewN ?_ _ | refine blk_drew ?_ | refine blk_alloc ?_ _)); refine blk_put (cs := #[.int .i64 0, .int .i64 0, .int .i64 0, .int .i64 0, .int .i64 0, .bool false]) ?_ 0 _ rfl; (with_reducible repeat (first | refine blk_drewN ?_ _ | refine blk_drew ?_ | refine blk_alloc ?_ _)); exact BK388.out⟩, ⟨by repeat (first | (with_reducible first | exact HB.out | apply below_alloc | apply pw_below_drewN | apply below_drew1 | refine below_set ?_ GE368.out | refine below_set ?_ GE388.out) | exact HB.out)⟩⟩
                · rw [if_neg c67] at H
                  have c67b0 : decide (a5 < ((rd_T65 l0 x127_4).f1)) = false := decide_eq_false c67
                  clear c67
                  have H' := Aside0.mk H
                  clear H
                  have hnb70 := NB388_368.out
                  have hnc70 := NB368_388.out
                  have hcz71_0 : w63.cell? ⟨gb388, 0, none⟩ = some (.int .i64 0) := (blk_cell BK388.out 0).trans rfl
                  have hcz71_1 : w63.cell? ⟨gb388, 1, none⟩ = some (.int .i64 0) := (blk_cell BK388.out 1).trans rfl
                  have hcz71_2 : w63.cell? ⟨gb388, 2, none⟩ = some (.int .i64 0) := (blk_cell BK388.out 2).trans rfl
                  have hcz71_3 : w63.cell? ⟨gb388, 3, none⟩ = some (.int .i64 0) := (blk_cell BK388.out 3).trans rfl
                  have hcz71_4 : w63.cell? ⟨gb388, 4, none⟩ = some (.int .i64 0) := (blk_cell BK388.out 4).trans rfl
                  have hcz71_5 : w63.cell? ⟨gb388, 5, none⟩ = some (.bool false) := (blk_cell BK388.out 5).trans rfl
                  have hfz71_0 := blk_frozen BK388.out 0
                  have hfz71_1 := blk_frozen BK388.out 1
                  have hfz71_2 := blk_frozen BK388.out 2
                  have hfz71_3 := blk_frozen BK388.out 3
                  have hfz71_4 := blk_frozen BK388.out 4
                  have hfz71_5 := blk_frozen BK388.out 5
                  go_wp2
                  go_meet
                  case rel => exact ⟨_, (decide (((rd_T65 l0 x127_4).f2) > a6)), (by first | rfl | (simp; done) | (simp [*]; done)), H', ⟨by have := HJ9.out; have := HJ32.out; have := HJ44.out; have := HK4.out; first | omega | exact Nat.le_refl _⟩, ⟨by (with_reducible repeat (first | refine blk_drewN ?_ _ | refine blk_drew ?_ | refine blk_alloc ?_ _)); refine blk_far ?_ NB368_388.out _; (with_reducible repeat (first | refine blk_drewN ?_ _ | refine blk_drew ?_ | refine blk_alloc ?_ _)); refine blk_far ?_ NB368_388.out _; (with_reducible repeat (first | refine blk_drewN ?_ _ | refine blk_drew ?_ | refine blk_alloc ?_ _)); refine blk_far ?_ NB368_388.out _; (with_reducible repeat (first | refine blk_drewN ?_ _ | refine blk_drew ?_ | refine blk_alloc ?_ _)); refine blk_far ?_ NB368_388.out _; (with_reducible repeat (first | refine blk_drewN ?_ _ | refine blk_drew ?_ | refine blk_alloc ?_ _)); refine blk_far ?_ NB368_388.out _; (with_reducible repeat (first | refine blk_drewN ?_ _ | refine blk_drew ?_ | refine blk_alloc ?_ _)); refine blk_far ?_ NB368_388.out _; (with_reducible repeat (first | refine blk_drewN ?_ _ | refine blk_drew ?_ | refine blk_alloc ?_ _)); exact BK368.out⟩, ⟨by (with_reducible repeat (first | refine blk_drewN ?_ _ | refine blk_drew ?_ | refine blk_alloc ?_ _)); refine blk_put (cs := #[.int .i64 ((rd_T65 l0 x127_4).f0), .int .i64 ((rd_T65 l0 x127_4).f1), .int .i64 ((rd_T65 l0 x127_4).f2), .int .i64 ((rd_T65 l0 x127_4).f3), .int .i64 ((rd_T65 l0 x127_4).f4), .bool false]) ?_ 5 _ rfl; (with_reducible repeat (first | refine blk_drewN ?_ _ | refine blk_drew ?_ | refine blk_alloc ?_ _)); refine blk_put (cs := #[.int .i64 ((rd_T65 l0 x127_4).f0), .int .i64 ((rd_T65 l0 x127_4).f1), .int .i64 ((rd_T65 l0 x127_4).f2), .int .i64 ((rd_T65 l0 x127_4).f3), .int .i64 0, .bool false]) ?_ 4 _ rfl; (with_reducible repeat (first | refine blk_drewN ?_ _ | refine blk_drew ?_ | refine blk_alloc ?_ _)); refine blk_put (cs := #[.int .i64 ((rd_T65 l0 x127_4).f0), .int .i64 ((rd_T65 l0 x127_4).f1), .int .i64 ((rd_T65 l0 x127_4).f2), .int .i64 0, .int .i64 0, .bool false]) ?_ 3 _ rfl; (with_reducible repeat (first | refine blk_drewN ?_ _ | refine blk_drew ?_ | refine blk_alloc ?_ _)); refine blk_put (cs := #[.int .i64 ((rd_T65 l0 x127_4).f0), .int .i64 ((rd_T65 l0 x127_4).f1), .int .i64 0, .int .i64 0, .int .i64 0, .bool false]) ?_ 2 _ rfl; (with_reducible repeat (first | refine blk_drewN ?_ _ | refine blk_drew ?_ | refine blk_alloc ?_ _)); refine blk_put (cs := #[.int .i64 ((rd_T65 l0 x127_4).f0), .int .i64 0, .int .i64 0, .int .i64 0, .int .i64 0, .bool false]) ?_ 1 _ rfl; (with_reducible repeat (first | refine blk_drewN ?_ _ | refine blk_drew ?_ | refine blk_alloc ?_ _)); refine blk_put (cs := #[.int .i64 0, .int .i64 0, .int .i64 0, .int .i64 0, .int .i64 0, .bool false]) ?_ 0 _ rfl; (with_reducible repeat (first | refine blk_drewN ?_ _ | refine blk_drew ?_ | refine blk_alloc ?_ _)); exact BK388.out⟩, ⟨by repeat (first | (with_reducible first | exact HB.out | apply below_alloc | apply pw_below_drewN | apply below_drew1 | refine below_set ?_ GE368.out | refine below_set ?_ GE388.out) | exact HB.out)⟩⟩
              · rw [if_neg c66] at H
                have c66b0 : (((rd_T65 l0 x127_4).f3) == a1) = false := beq_eq_false_iff_ne.mpr c66
                have c66b1 : (((rd_T65 l0 x127_4).f3) != a1) = true := bne_iff_ne.mpr c66
                (first | rw [c66b0] | (simp only [i64_w, i32_w]; rw [c66b0]) | skip)
                have H' := Aside0.mk H
                clear H
                have hnb72 := NB388_368.out
                have hnc72 := NB368_388.out
                have hcz73_0 : w63.cell? ⟨gb388, 0, none⟩ = some (.int .i64 0) := (blk_cell BK388.out 0).trans rfl
                have hcz73_1 : w63.cell? ⟨gb388, 1, none⟩ = some (.int .i64 0) := (blk_cell BK388.out 1).trans rfl
                have hcz73_2 : w63.cell? ⟨gb388, 2, none⟩ = some (.int .i64 0) := (blk_cell BK388.out 2).trans rfl
                have hcz73_3 : w63.cell? ⟨gb388, 3, none⟩ = some (.int .i64 0) := (blk_cell BK388.out 3).trans rfl
                have hcz73_4 : w63.cell? ⟨gb388, 4, none⟩ = some (.int .i64 0) := (blk_cell BK388.out 4).trans rfl
                have hcz73_5 : w63.cell? ⟨gb388, 5, none⟩ = some (.bool false) := (blk_cell BK388.out 5).trans rfl
                have hfz73_0 := blk_frozen BK388.out 0
                have hfz73_1 := blk_frozen BK388.out 1
                have hfz73_2 := blk_frozen BK388.out 2
                have hfz73_3 := blk_frozen BK388.out 3
                have hfz73_4 := blk_frozen BK388.out 4
                have hfz73_5 := blk_frozen BK388.out 5
                go_wp2
                go_meet
                case rel => exact ⟨_, (true), (by first | rfl | (simp; done) | (simp [*]; done)), H', ⟨by have := HJ9.out; have := HJ32.out; have := HJ44.out; have := HK4.out; first | omega | exact Nat.le_refl _⟩, ⟨by (with_reducible repeat (first | refine blk_drewN ?_ _ | refine blk_drew ?_ | refine blk_alloc ?_ _)); refine blk_far ?_ NB368_388.out _; (with_reducible repeat (first | refine blk_drewN ?_ _ | refine blk_drew ?_ | refine blk_alloc ?_ _)); refine blk_far ?_ NB368_388.out _; (with_reducible repeat (first | refine blk_drewN ?_ _ | refine blk_drew ?_ | refine blk_alloc ?_ _)); refine blk_far ?_ NB368_388.out _; (with_reducible repeat (first | refine blk_drewN ?_ _ | refine blk_drew ?_ | refine blk_alloc ?_ _)); refine blk_far ?_ NB368_388.out _; (with_reducible repeat (first | refine blk_drewN ?_ _ | refine blk_drew ?_ | refine blk_alloc ?_ _)); refine blk_far ?_ NB368_388.out _; (with_reducible repeat (first | refine blk_drewN ?_ _ | refine blk_drew ?_ | refine blk_alloc ?_ _)); refine blk_far ?_ NB368_388.out _; (with_reducible repeat (first | refine blk_drewN ?_ _ | refine blk_drew ?_ | refine blk_alloc ?_ _)); exact BK368.out⟩, ⟨by (with_reducible repeat (first | refine blk_drewN ?_ _ | refine blk_drew ?_ | refine blk_alloc ?_ _)); refine blk_put (cs := #[.int .i64 ((rd_T65 l0 x127_4).f0), .int .i64 ((rd_T65 l0 x127_4).f1), .int .i64 ((rd_T65 l0 x127_4).f2), .int .i64 ((rd_T65 l0 x127_4).f3), .int .i64 ((rd_T65 l0 x127_4).f4), .bool false]) ?_ 5 _ rfl; (with_reducible repeat (first | refine blk_drewN ?_ _ | refine blk_drew ?_ | refine blk_alloc ?_ _)); refine blk_put (cs := #[.int .i64 ((rd_T65 l0 x127_4).f0), .int .i64 ((rd_T65 l0 x127_4).f1), .int .i64 ((rd_T65 l0 x127_4).f2), .int .i64 ((rd_T65 l0 x127_4).f3), .int .i64 0, .bool false]) ?_ 4 _ rfl; (with_reducible repeat (first | refine blk_drewN ?_ _ | refine blk_drew ?_ | refine blk_alloc ?_ _)); refine blk_put (cs := #[.int .i64 ((rd_T65 l0 x127_4).f0), .int .i64 ((rd_T65 l0 x127_4).f1), .int .i64 ((rd_T65 l0 x127_4).f2), .int .i64 0, .int .i64 0, .bool false]) ?_ 3 _ rfl; (with_reducible repeat (first | refine blk_drewN ?_ _ | refine blk_drew ?_ | refine blk_alloc ?_ _)); refine blk_put (cs := #[.int .i64 ((rd_T65 l0 x127_4).f0), .int .i64 ((rd_T65 l0 x127_4).f1), .int .i64 0, .int .i64 0, .int .i64 0, .bool false]) ?_ 2 _ rfl; (with_reducible repeat (first | refine blk_drewN ?_ _ | refine blk_drew ?_ | refine blk_alloc ?_ _)); refine blk_put (cs := #[.int .i64 ((rd_T65 l0 x127_4).f0), .int .i64 0, .int .i64 0, .int .i64 0, .int .i64 0, .bool false]) ?_ 1 _ rfl; (with_reducible repeat (first | refine blk_drewN ?_ _ | refine blk_drew ?_ | refine blk_alloc ?_ _)); refine blk_put (cs := #[.int .i64 0, .int .i64 0, .int .i64 0, .int .i64 0, .int .i64 0, .bool false]) ?_ 0 _ rfl; (with_reducible repeat (first | refine blk_drewN ?_ _ | refine blk_drew ?_ | refine blk_alloc ?_ _)); exact BK388.out⟩, ⟨by repeat (first | (with_reducible first | exact HB.out | apply below_alloc | apply pw_below_drewN | apply below_drew1 | refine below_set ?_ GE368.out | refine below_set ?_ GE388.out) | exact HB.out)⟩⟩
            case rest =>
              clear HC62
              try clear c1
              try clear c2
              try clear p2
              try clear c3
              try clear p3
              try clear q3
              try clear hx3
              try clear c4
              try clear c5
              try clear c6
              try clear c7
              try clear c9
              try clear c12
              try clear c14
              try clear c16
              try clear c29
              try clear c38
              try clear c38b0
              try clear c38b1
              try clear p38
              try clear q38
              try clear hx38
              try clear c39
              try clear c39b0
              try clear c39b1
              try clear c40
              try clear c40b0
              try clear c40b1
              try clear c41
              try clear c41b0
              try clear c41b1
              try clear c42
              try clear c43
              try clear c44
              try clear c46
              try clear c47
              try clear c48
              try clear c48b0
              try clear c48b1
              try clear c48b2
              try clear c49
              try clear c51
              try clear c56
              try clear c56b0
              try clear c56b1
              try clear c56b2
              try clear c57
              try clear c58
              try clear c59
              try clear c59b0
              try clear c60
              try clear c60b0
              try clear c61
              try clear c61b0
              try clear c64
              try clear c66
              try clear c66b0
              try clear c66b1
              try clear c67
              try clear c67b0
              try clear c68
              try clear c70
              try clear c72
              try clear hcz36_0
              try clear hcz36_1
              try clear hcz49_0
              try clear hcz49_1
              try clear hcz52_0
              try clear hcz52_1
              try clear hcz54_0
              try clear hcz54_1
              try clear hcz65_0
              try clear hcz65_1
              try clear hcz65_2
              try clear hcz65_3
              try clear hcz65_4
              try clear hcz65_5
              try clear hcz69_0
              try clear hcz69_1
              try clear hcz69_2
              try clear hcz69_3
              try clear hcz69_4
              try clear hcz69_5
              try clear hcz71_0
              try clear hcz71_1
              try clear hcz71_2
              try clear hcz71_3
              try clear hcz71_4
              try clear hcz71_5
              try clear hcz73_0
              try clear hcz73_1
              try clear hcz73_2
              try clear hcz73_3
              try clear hcz73_4
              try clear hcz73_5
              try clear hfz36_0
              try clear hfz36_1
              try clear hfz49_0
              try clear hfz49_1
              try clear hfz52_0
              try clear hfz52_1
              try clear hfz54_0
              try clear hfz54_1
              try clear hfz65_0
              try clear hfz65_1
              try clear hfz65_2
              try clear hfz65_3
              try clear hfz65_4
              try clear hfz65_5
              try clear hfz69_0
              try clear hfz69_1
              try clear hfz69_2
              try clear hfz69_3
              try clear hfz69_4
              try clear hfz69_5
              try clear hfz71_0
              try clear hfz71_1
              try clear hfz71_2
              try clear hfz71_3
              try clear hfz71_4
              try clear hfz71_5
              try clear hfz73_0
              try clear hfz73_1
              try clear hfz73_2
              try clear hfz73_3
              try clear hfz73_4
              try clear hfz73_5
              try clear hx387_0
              try clear hx387_1
              try clear hx387_2
              try clear hx387_3
              try clear hx387_4
              try clear hx387_5
              try clear p2
              try clear p387
              try clear q387
              obtain ⟨kq, x146_61, rfl, HA, HJ61, BK368, BK388, HB⟩ := hcut
              cases kq with
              | zero => exact absurd HA.out (by simp [signatorylaw48_DevicesOne.j4])
              | succ kj61 =>
                have H := HA.out
                clear HA
                simp only [signatorylaw48_DevicesOne.j4] at H
                by_cases c74 : x146_61 = true
                · subst c74
                  have H1 : (signatorylaw48_DevicesOne.l0 kj61 l0 a1 a5 a6 t375 t376 t377 x26_4 l0 (l0.length : Int) (wrap64 (x127_4 + 1))) = some r := by rw [if_pos rfl] at H; exact H
                  clear H
                  have H := H1
                  clear H1
                  have H' := Aside0.mk H
                  clear H
                  go_wp2
                  go_roundg kj61
                  case measure => have := HJ9.out; have := HJ32.out; have := HJ44.out; have := HK4.out; have := HJ61.out; omega
                  case rel => exact ⟨(x26_4), (wrap64 (x127_4 + 1)), (by first | rfl | (simp; done) | (simp [*]; done)), (by first | rfl | (simp; done) | (simp [*]; done)), H', ⟨by have := HJ9.out; have := HJ32.out; have := HJ44.out; have := HK4.out; have := HJ61.out; omega⟩, ⟨by (with_reducible repeat (first | refine blk_drewN ?_ _ | refine blk_drew ?_ | refine blk_alloc ?_ _)); exact BK368.out⟩, ⟨by repeat (first | (with_reducible first | exact HB.out | apply below_alloc | apply pw_below_drewN | apply below_drew1 | refine below_set ?_ GE368.out | refine below_set ?_ GE388.out) | exact HB.out)⟩⟩
                · replace c74 := Bool.eq_false_iff.mpr c74
                  subst c74
                  have H1 : (signatorylaw48_DevicesOne.l1 kj61 l0 a1 a5 a6 t375 t376 t377 x26_4 true l0 (l0.length : Int) x127_4 l0 (l0.length : Int) 0 ((rd_T65 l0 x127_4).f0) ((rd_T65 l0 x127_4).f1) ((rd_T65 l0 x127_4).f2) ((rd_T65 l0 x127_4).f3) ((rd_T65 l0 x127_4).f4) ((rd_T65 l0 x127_4).f5)) = some r := by rw [if_neg (show ¬ (false = true) by decide)] at H; exact H
                  clear H
                  have H := H1
                  clear H1
                  have H' := Aside0.mk H
                  clear H
                  go_wp2
                  go_loopg [29, 149] kj61 (fun kq v29 v149 w' => ∃ (x29_6 : Bool) (x149_6 : Int), v29 = .bool x29_6 ∧ v149 = .int .i64 x149_6 ∧ Aside0 (signatorylaw48_DevicesOne.l1 kq l0 a1 a5 a6 t375 t376 t377 x26_4 x29_6 l0 (l0.length : Int) x127_4 l0 (l0.length : Int) x149_6 ((rd_T65 l0 x127_4).f0) ((rd_T65 l0 x127_4).f1) ((rd_T65 l0 x127_4).f2) ((rd_T65 l0 x127_4).f3) ((rd_T65 l0 x127_4).f4) ((rd_T65 l0 x127_4).f5) = some r) ∧ Aside0 (kq ≤ kj61) ∧ Aside0 (w'.heap[gb368]? = some (.cells #[.int .i64 a4_0, .int .i64 a4_1] 73 (0, 0))) ∧ Aside0 (w'.heap[gb388]? = some (.cells #[.int .i64 ((rd_T65 l0 x127_4).f0), .int .i64 ((rd_T65 l0 x127_4).f1), .int .i64 ((rd_T65 l0 x127_4).f2), .int .i64 ((rd_T65 l0 x127_4).f3), .int .i64 ((rd_T65 l0 x127_4).f4), .bool ((rd_T65 l0 x127_4).f5)] 65 (0, 0))) ∧ Aside0 (Below w.heap.size w w'))
                  case atStart => exact ⟨(true), (0), (by first | rfl | (simp; done) | (simp [*]; done)), (by first | rfl | (simp; done) | (simp [*]; done)), H', ⟨Nat.le_refl _⟩, ⟨by (with_reducible repeat (first | refine blk_drewN ?_ _ | refine blk_drew ?_ | refine blk_alloc ?_ _)); exact BK368.out⟩, ⟨by (with_reducible repeat (first | refine blk_drewN ?_ _ | refine blk_drew ?_ | refine blk_alloc ?_ _)); exact BK388.out⟩, ⟨by repeat (first | (with_reducible first | exact HB.out | apply below_alloc | apply pw_below_drewN | apply below_drew1 | refine below_set ?_ GE368.out | refine below_set ?_ GE388.out) | exact HB.out)⟩⟩
                  case round =>
                    clear H'
                    try clear c1
                    try clear c2
                    try clear p2
                    try clear c3
                    try clear p3
                    try clear q3
                    try clear hx3
                    try clear c4
                    try clear c5
                    try clear c6
                    try clear p6
                    try clear c7
                    try clear c9
                    try clear c12
                    try clear c14
                    try clear c16
                    try clear c29
                    try clear c38
                    try clear c38b0
                    try clear c38b1
                    try clear p38
                    try clear q38
                    try clear hx38
                    try clear c39
                    try clear c39b0
                    try clear c39b1
                    try clear c40
                    try clear c40b0
                    try clear c40b1
                    try clear c41
                    try clear c41b0
                    try clear c41b1
                    try clear c42
                    try clear c43
                    try clear c44
                    try clear c46
                    try clear c47
                    try clear c48
                    try clear c48b0
                    try clear c48b1
                    try clear c48b2
                    try clear c49
                    try clear c51
                    try clear c56
                    try clear c56b0
                    try clear c56b1
                    try clear c56b2
                    try clear c57
                    try clear c58
                    try clear c59
                    try clear c59b0
                    try clear c60
                    try clear c60b0
                    try clear c61
                    try clear c61b0
                    try clear c64
                    try clear p64
                    try clear c66
                    try clear c66b0
                    try clear c66b1
                    try clear c67
                    try clear c67b0
                    try clear c68
                    try clear c70
                    try clear c72
                    try clear c74
                    try clear hcz36_0
                    try clear hcz36_1
                    try clear hcz49_0
                    try clear hcz49_1
                    try clear hcz52_0
                    try clear hcz52_1
                    try clear hcz54_0
                    try clear hcz54_1
                    try clear hcz65_0
                    try clear hcz65_1
                    try clear hcz65_2
                    try clear hcz65_3
                    try clear hcz65_4
                    try clear hcz65_5
                    try clear hcz69_0
                    try clear hcz69_1
                    try clear hcz69_2
                    try clear hcz69_3
                    try clear hcz69_4
                    try clear hcz69_5
                    try clear hcz71_0
                    try clear hcz71_1
                    try clear hcz71_2
                    try clear hcz71_3
                    try clear hcz71_4
                    try clear hcz71_5
                    try clear hcz73_0
                    try clear hcz73_1
                    try clear hcz73_2
                    try clear hcz73_3
                    try clear hcz73_4
                    try clear hcz73_5
                    try clear hfz36_0
                    try clear hfz36_1
                    try clear hfz49_0
                    try clear hfz49_1
                    try clear hfz52_0
                    try clear hfz52_1
                    try clear hfz54_0
                    try clear hfz54_1
                    try clear hfz65_0
                    try clear hfz65_1
                    try clear hfz65_2
                    try clear hfz65_3
                    try clear hfz65_4
                    try clear hfz65_5
                    try clear hfz69_0
                    try clear hfz69_1
                    try clear hfz69_2
                    try clear hfz69_3
                    try clear hfz69_4
                    try clear hfz69_5
                    try clear hfz71_0
                    try clear hfz71_1
                    try clear hfz71_2
                    try clear hfz71_3
                    try clear hfz71_4
                    try clear hfz71_5
                    try clear hfz73_0
                    try clear hfz73_1
                    try clear hfz73_2
                    try clear hfz73_3
                    try clear hfz73_4
                    try clear hfz73_5
                    try clear hx387_0
                    try clear hx387_1
                    try clear hx387_2
                    try clear hx387_3
                    try clear hx387_4
                    try clear hx387_5
                    try clear p2
                    try clear p3
                    try clear p38
                    try clear p387
                    try clear q3
                    try clear q38
                    try clear q387
                    obtain ⟨x29_6, x149_6, rfl, rfl, HA, HK6, BK368, BK388, HB⟩ := hrel
                    cases gk with
                    | zero => exact absurd HA.out (by simp [signatorylaw48_DevicesOne.l1])
                    | succ k6 =>
                      have H := HA.out
                      clear HA
                      simp only [signatorylaw48_DevicesOne.l1] at H
                      by_cases c75 : x149_6 < (l0.length : Int)
                      · rw [if_pos c75] at H
                        have c75b0 : decide (x149_6 < (l0.length : Int)) = true := decide_eq_true c75
                        clear c75
                        by_cases c76 : 0 ≤ x149_6
                        · rw [if_pos c76] at H
                          have c76b0 : decide (0 ≤ x149_6) = true := decide_eq_true c76
                          clear c76
                          by_cases c77 : x149_6 < (l0.length : Int)
                          · rw [if_pos c77] at H
                            have c77b0 : decide (x149_6 < (l0.length : Int)) = true := decide_eq_true c77
                            clear c77
                            by_cases c78 : x29_6 = true
                            · subst c78
                              have H1 : (if ((rd_T65 l0 x149_6).f3) = a1 then (if ((rd_T65 l0 x149_6).f1) > a5 then (signatorylaw48_DevicesOne.l1 k6 l0 a1 a5 a6 t375 t376 t377 x26_4 true l0 (l0.length : Int) x127_4 l0 (l0.length : Int) (wrap64 (x149_6 + 1)) ((rd_T65 l0 x127_4).f0) ((rd_T65 l0 x127_4).f1) ((rd_T65 l0 x127_4).f2) ((rd_T65 l0 x127_4).f3) ((rd_T65 l0 x127_4).f4) ((rd_T65 l0 x127_4).f5)) else (if ((rd_T65 l0 x149_6).f2) > a6 then (signatorylaw48_DevicesOne.l1 k6 l0 a1 a5 a6 t375 t376 t377 x26_4 true l0 (l0.length : Int) x127_4 l0 (l0.length : Int) (wrap64 (x149_6 + 1)) ((rd_T65 l0 x127_4).f0) ((rd_T65 l0 x127_4).f1) ((rd_T65 l0 x127_4).f2) ((rd_T65 l0 x127_4).f3) ((rd_T65 l0 x127_4).f4) ((rd_T65 l0 x127_4).f5)) else (if ((rd_T65 l0 x149_6).f1) < ((rd_T65 l0 x127_4).f1) then (signatorylaw48_DevicesOne.l1 k6 l0 a1 a5 a6 t375 t376 t377 x26_4 true l0 (l0.length : Int) x127_4 l0 (l0.length : Int) (wrap64 (x149_6 + 1)) ((rd_T65 l0 x127_4).f0) ((rd_T65 l0 x127_4).f1) ((rd_T65 l0 x127_4).f2) ((rd_T65 l0 x127_4).f3) ((rd_T65 l0 x127_4).f4) ((rd_T65 l0 x127_4).f5)) else (if ((rd_T65 l0 x149_6).f1) = ((rd_T65 l0 x127_4).f1) then (signatorylaw48_DevicesOne.l1 k6 l0 a1 a5 a6 t375 t376 t377 x26_4 (decide (((rd_T65 l0 x149_6).f0) ≤ ((rd_T65 l0 x127_4).f0))) l0 (l0.length : Int) x127_4 l0 (l0.length : Int) (wrap64 (x149_6 + 1)) ((rd_T65 l0 x127_4).f0) ((rd_T65 l0 x127_4).f1) ((rd_T65 l0 x127_4).f2) ((rd_T65 l0 x127_4).f3) ((rd_T65 l0 x127_4).f4) ((rd_T65 l0 x127_4).f5)) else (signatorylaw48_DevicesOne.l1 k6 l0 a1 a5 a6 t375 t376 t377 x26_4 false l0 (l0.length : Int) x127_4 l0 (l0.length : Int) (wrap64 (x149_6 + 1)) ((rd_T65 l0 x127_4).f0) ((rd_T65 l0 x127_4).f1) ((rd_T65 l0 x127_4).f2) ((rd_T65 l0 x127_4).f3) ((rd_T65 l0 x127_4).f4) ((rd_T65 l0 x127_4).f5)))))) else (signatorylaw48_DevicesOne.l1 k6 l0 a1 a5 a6 t375 t376 t377 x26_4 true l0 (l0.length : Int) x127_4 l0 (l0.length : Int) (wrap64 (x149_6 + 1)) ((rd_T65 l0 x127_4).f0) ((rd_T65 l0 x127_4).f1) ((rd_T65 l0 x127_4).f2) ((rd_T65 l0 x127_4).f3) ((rd_T65 l0 x127_4).f4) ((rd_T65 l0 x127_4).f5))) = some r := by rw [if_pos rfl] at H; exact H
                              clear H
                              have H := H1
                              clear H1
                              by_cases c79 : ((rd_T65 l0 x149_6).f3) = a1
                              · rw [if_pos c79] at H
                                have c79b0 : (((rd_T65 l0 x149_6).f3) == a1) = true := beq_iff_eq.mpr c79
                                have c79b1 : (((rd_T65 l0 x149_6).f3) != a1) = false := bne_eq_false_iff_eq.mpr c79
                                clear c79
                                by_cases c80 : ((rd_T65 l0 x149_6).f1) > a5
                                · rw [if_pos c80] at H
                                  have c80b0 : decide (a5 < ((rd_T65 l0 x149_6).f1)) = true := decide_eq_true c80
                                  clear c80
                                  have H' := Aside0.mk H
                                  clear H
                                  have p389 : 0 ≤ (x149_6 : Int) := of_decide_eq_true (by first | (with_reducible assumption) | assumption)
                                  have q389 : x149_6 < (l0.length : Int) := of_decide_eq_true (by first | (with_reducible assumption) | assumption)
                                  obtain ⟨ad389, e389, hx389_0, hx389_1, hx389_2, hx389_3, hx389_4, hx389_5⟩ := at_T65 HR0.out x149_6 p389 q389
                                  obtain rfl : ad387 = ad389 := (by injection e389)
                                  replace hx389_0 := (HB.out.cell (World.block_lt_of_cell? w _ hx389_0)).trans hx389_0
                                  replace hx389_1 := (HB.out.cell (World.block_lt_of_cell? w _ hx389_1)).trans hx389_1
                                  replace hx389_2 := (HB.out.cell (World.block_lt_of_cell? w _ hx389_2)).trans hx389_2
                                  replace hx389_3 := (HB.out.cell (World.block_lt_of_cell? w _ hx389_3)).trans hx389_3
                                  replace hx389_4 := (HB.out.cell (World.block_lt_of_cell? w _ hx389_4)).trans hx389_4
                                  replace hx389_5 := (HB.out.cell (World.block_lt_of_cell? w _ hx389_5)).trans hx389_5
                                  replace p389 := eq_true p389
                                  replace q389 := eq_true q389
                                  go_wp2_with (first | ((with_reducible refine gate_dst (N := 31) rfl ?_); (try (refine gate_guard (by rfl) ?_; dsimp only)); refine box_event ?hg (N := 31) ?hd (cs := #[.int .i64 0, .int .i64 0, .int .i64 0, .int .i64 0, .int .i64 0, .bool false]) (t := 65) ?hr ?_; (case hd => rfl); (case hg => rfl); (case hr => first | (go_simp; done) | (go_simp; rfl)); intro gb390 hg w81 hbox hb; have n0_ := Aside0.mk (blk_below (g := gb368) (o := .cells #[.int .i64 a4_0, .int .i64 a4_1] 73 (0, 0)) (by (with_reducible repeat (first | refine blk_drewN ?_ _ | refine blk_drew ?_ | refine blk_alloc ?_ _)); exact BK368.out) hb); have n1_ := Aside0.mk (blk_below (g := gb388) (o := .cells #[.int .i64 ((rd_T65 l0 x127_4).f0), .int .i64 ((rd_T65 l0 x127_4).f1), .int .i64 ((rd_T65 l0 x127_4).f2), .int .i64 ((rd_T65 l0 x127_4).f3), .int .i64 ((rd_T65 l0 x127_4).f4), .bool ((rd_T65 l0 x127_4).f5)] 65 (0, 0)) (by (with_reducible repeat (first | refine blk_drewN ?_ _ | refine blk_drew ?_ | refine blk_alloc ?_ _)); exact BK388.out) hb); have n2_ := Aside0.mk (below_step (by repeat (first | (with_reducible first | exact HB.out | apply below_alloc | apply pw_below_drewN | apply below_drew1 | refine below_set ?_ GE368.out | refine below_set ?_ GE388.out) | exact HB.out)) hb); have n3_ := Aside0.mk (hbox); have n4_ := Aside0.mk ((by rw [hg]; exact (below_size (by repeat (first | (with_reducible first | exact HB.out | apply below_alloc | apply pw_below_drewN | apply below_drew1 | refine below_set ?_ GE368.out | refine below_set ?_ GE388.out) | exact HB.out))) : w.heap.size ≤ gb390)); have n5_ := Aside0.mk ((by rw [hg]; exact (below_size (by repeat (first | (with_reducible first | exact HB.out | apply below_alloc | apply pw_below_drewN | apply below_drew1 | refine below_set ?_ GE368.out | refine below_set ?_ GE388.out) | exact HB.out))) : w.heap.size ≤ gb390)); have n6_ := Aside0.mk ((by rw [hg]; exact Nat.ne_of_lt (blk_lt (g := gb368) (o := .cells #[.int .i64 a4_0, .int .i64 a4_1] 73 (0, 0)) (by (with_reducible repeat (first | refine blk_drewN ?_ _ | refine blk_drew ?_ | refine blk_alloc ?_ _)); exact BK368.out)) : gb368 ≠ gb390)); have n7_ := Aside0.mk ((by rw [hg]; exact Nat.ne_of_gt (blk_lt (g := gb368) (o := .cells #[.int .i64 a4_0, .int .i64 a4_1] 73 (0, 0)) (by (with_reducible repeat (first | refine blk_drewN ?_ _ | refine blk_drew ?_ | refine blk_alloc ?_ _)); exact BK368.out)) : gb390 ≠ gb368)); have n8_ := Aside0.mk ((by rw [hg]; exact Nat.ne_of_lt (blk_lt (g := gb388) (o := .cells #[.int .i64 ((rd_T65 l0 x127_4).f0), .int .i64 ((rd_T65 l0 x127_4).f1), .int .i64 ((rd_T65 l0 x127_4).f2), .int .i64 ((rd_T65 l0 x127_4).f3), .int .i64 ((rd_T65 l0 x127_4).f4), .bool ((rd_T65 l0 x127_4).f5)] 65 (0, 0)) (by (with_reducible repeat (first | refine blk_drewN ?_ _ | refine blk_drew ?_ | refine blk_alloc ?_ _)); exact BK388.out)) : gb388 ≠ gb390)); have n9_ := Aside0.mk ((by rw [hg]; exact Nat.ne_of_gt (blk_lt (g := gb388) (o := .cells #[.int .i64 ((rd_T65 l0 x127_4).f0), .int .i64 ((rd_T65 l0 x127_4).f1), .int .i64 ((rd_T65 l0 x127_4).f2), .int .i64 ((rd_T65 l0 x127_4).f3), .int .i64 ((rd_T65 l0 x127_4).f4), .bool ((rd_T65 l0 x127_4).f5)] 65 (0, 0)) (by (with_reducible repeat (first | refine blk_drewN ?_ _ | refine blk_drew ?_ | refine blk_alloc ?_ _)); exact BK388.out)) : gb390 ≠ gb388)); clear BK368; clear BK388; clear HB; have BK368 := n0_; have BK388 := n1_; have HB := n2_; have BK390 := n3_; have GW390 := n4_; have GE390 := n5_; have NB368_390 := n6_; have NB390_368 := n7_; have NB388_390 := n8_; have NB390_388 := n9_; clear n0_ n1_ n2_ n3_ n4_ n5_ n6_ n7_ n8_ n9_; clear hb hbox hg; have hnb82 := NB390_368.out; have hnc82 := NB368_390.out; have hnb83 := NB390_388.out; have hnc83 := NB388_390.out; have hcz84_0 : w81.cell? ⟨gb390, 0, none⟩ = some (.int .i64 0) := (blk_cell BK390.out 0).trans rfl; have hcz84_1 : w81.cell? ⟨gb390, 1, none⟩ = some (.int .i64 0) := (blk_cell BK390.out 1).trans rfl; have hcz84_2 : w81.cell? ⟨gb390, 2, none⟩ = some (.int .i64 0) := (blk_cell BK390.out 2).trans rfl; have hcz84_3 : w81.cell? ⟨gb390, 3, none⟩ = some (.int .i64 0) := (blk_cell BK390.out 3).trans rfl; have hcz84_4 : w81.cell? ⟨gb390, 4, none⟩ = some (.int .i64 0) := (blk_cell BK390.out 4).trans rfl; have hcz84_5 : w81.cell? ⟨gb390, 5, none⟩ = some (.bool false) := (blk_cell BK390.out 5).trans rfl; have hfz84_0 := blk_frozen BK390.out 0; have hfz84_1 := blk_frozen BK390.out 1; have hfz84_2 := blk_frozen BK390.out 2; have hfz84_3 := blk_frozen BK390.out 3; have hfz84_4 := blk_frozen BK390.out 4; have hfz84_5 := blk_frozen BK390.out 5))
                                  go_roundg k6
                                  case measure => have := HJ9.out; have := HJ32.out; have := HJ44.out; have := HK4.out; have := HJ61.out; have := HK6.out; omega
                                  case rel => exact ⟨(true), (wrap64 (x149_6 + 1)), (by first | rfl | (simp; done) | (simp [*]; done)), (by first | rfl | (simp; done) | (simp [*]; done)), H', ⟨by have := HJ9.out; have := HJ32.out; have := HJ44.out; have := HK4.out; have := HJ61.out; have := HK6.out; omega⟩, ⟨by (with_reducible repeat (first | refine blk_drewN ?_ _ | refine blk_drew ?_ | refine blk_alloc ?_ _)); refine blk_far ?_ NB368_390.out _; (with_reducible repeat (first | refine blk_drewN ?_ _ | refine blk_drew ?_ | refine blk_alloc ?_ _)); refine blk_far ?_ NB368_390.out _; (with_reducible repeat (first | refine blk_drewN ?_ _ | refine blk_drew ?_ | refine blk_alloc ?_ _)); refine blk_far ?_ NB368_390.out _; (with_reducible repeat (first | refine blk_drewN ?_ _ | refine blk_drew ?_ | refine blk_alloc ?_ _)); refine blk_far ?_ NB368_390.out _; (with_reducible repeat (first | refine blk_drewN ?_ _ | refine blk_drew ?_ | refine blk_alloc ?_ _)); refine blk_far ?_ NB368_390.out _; (with_reducible repeat (first | refine blk_drewN ?_ _ | refine blk_drew ?_ | refine blk_alloc ?_ _)); refine blk_far ?_ NB368_390.out _; (with_reducible repeat (first | refine blk_drewN ?_ _ | refine blk_drew ?_ | refine blk_alloc ?_ _)); exact BK368.out⟩, ⟨by (with_reducible repeat (first | refine blk_drewN ?_ _ | refine blk_drew ?_ | refine blk_alloc ?_ _)); refine blk_far ?_ NB388_390.out _; (with_reducible repeat (first | refine blk_drewN ?_ _ | refine blk_drew ?_ | refine blk_alloc ?_ _)); refine blk_far ?_ NB388_390.out _; (with_reducible repeat (first | refine blk_drewN ?_ _ | refine blk_drew ?_ | refine blk_alloc ?_ _)); refine blk_far ?_ NB388_390.out _; (with_reducible repeat (first | refine blk_drewN ?_ _ | refine blk_drew ?_ | refine blk_alloc ?_ _)); refine blk_far ?_ NB388_390.out _; (with_reducible repeat (first | refine blk_drewN ?_ _ | refine blk_drew ?_ | refine blk_alloc ?_ _)); refine blk_far ?_ NB388_390.out _; (with_reducible repeat (first | refine blk_drewN ?_ _ | refine blk_drew ?_ | refine blk_alloc ?_ _)); refine blk_far ?_ NB388_390.out _; (with_reducible repeat (first | refine blk_drewN ?_ _ | refine blk_drew ?_ | refine blk_alloc ?_ _)); exact BK388.out⟩, ⟨by repeat (first | (with_reducible first | exact HB.out | apply below_alloc | apply pw_below_drewN | apply below_drew1 | refine below_set ?_ GE368.out | refine below_set ?_ GE388.out | refine below_set ?_ GE390.out) | exact HB.out)⟩⟩
                                · rw [if_neg c80] at H
                                  have c80b0 : decide (a5 < ((rd_T65 l0 x149_6).f1)) = false := decide_eq_false c80
                                  clear c80
                                  by_cases c85 : ((rd_T65 l0 x149_6).f2) > a6
                                  · rw [if_pos c85] at H
                                    have c85b0 : decide (a6 < ((rd_T65 l0 x149_6).f2)) = true := decide_eq_true c85
                                    clear c85
                                    have H' := Aside0.mk H
                                    clear H
                                    have p389 : 0 ≤ (x149_6 : Int) := of_decide_eq_true (by first | (with_reducible assumption) | assumption)
                                    have q389 : x149_6 < (l0.length : Int) := of_decide_eq_true (by first | (with_reducible assumption) | assumption)
                                    obtain ⟨ad389, e389, hx389_0, hx389_1, hx389_2, hx389_3, hx389_4, hx389_5⟩ := at_T65 HR0.out x149_6 p389 q389
                                    obtain rfl : ad387 = ad389 := (by injection e389)
                                    replace hx389_0 := (HB.out.cell (World.block_lt_of_cell? w _ hx389_0)).trans hx389_0
                                    replace hx389_1 := (HB.out.cell (World.block_lt_of_cell? w _ hx389_1)).trans hx389_1
                                    replace hx389_2 := (HB.out.cell (World.block_lt_of_cell? w _ hx389_2)).trans hx389_2
                                    replace hx389_3 := (HB.out.cell (World.block_lt_of_cell? w _ hx389_3)).trans hx389_3
                                    replace hx389_4 := (HB.out.cell (World.block_lt_of_cell? w _ hx389_4)).trans hx389_4
                                    replace hx389_5 := (HB.out.cell (World.block_lt_of_cell? w _ hx389_5)).trans hx389_5
                                    replace p389 := eq_true p389
                                    replace q389 := eq_true q389
                                    go_wp2_with (first | ((with_reducible refine gate_dst (N := 31) rfl ?_); (try (refine gate_guard (by rfl) ?_; dsimp only)); refine box_event ?hg (N := 31) ?hd (cs := #[.int .i64 0, .int .i64 0, .int .i64 0, .int .i64 0, .int .i64 0, .bool false]) (t := 65) ?hr ?_; (case hd => rfl); (case hg => rfl); (case hr => first | (go_simp; done) | (go_simp; rfl)); intro gb390 hg w86 hbox hb; have n0_ := Aside0.mk (blk_below (g := gb368) (o := .cells #[.int .i64 a4_0, .int .i64 a4_1] 73 (0, 0)) (by (with_reducible repeat (first | refine blk_drewN ?_ _ | refine blk_drew ?_ | refine blk_alloc ?_ _)); exact BK368.out) hb); have n1_ := Aside0.mk (blk_below (g := gb388) (o := .cells #[.int .i64 ((rd_T65 l0 x127_4).f0), .int .i64 ((rd_T65 l0 x127_4).f1), .int .i64 ((rd_T65 l0 x127_4).f2), .int .i64 ((rd_T65 l0 x127_4).f3), .int .i64 ((rd_T65 l0 x127_4).f4), .bool ((rd_T65 l0 x127_4).f5)] 65 (0, 0)) (by (with_reducible repeat (first | refine blk_drewN ?_ _ | refine blk_drew ?_ | refine blk_alloc ?_ _)); exact BK388.out) hb); have n2_ := Aside0.mk (below_step (by repeat (first | (with_reducible first | exact HB.out | apply below_alloc | apply pw_below_drewN | apply below_drew1 | refine below_set ?_ GE368.out | refine below_set ?_ GE388.out) | exact HB.out)) hb); have n3_ := Aside0.mk (hbox); have n4_ := Aside0.mk ((by rw [hg]; exact (below_size (by repeat (first | (with_reducible first | exact HB.out | apply below_alloc | apply pw_below_drewN | apply below_drew1 | refine below_set ?_ GE368.out | refine below_set ?_ GE388.out) | exact HB.out))) : w.heap.size ≤ gb390)); have n5_ := Aside0.mk ((by rw [hg]; exact (below_size (by repeat (first | (with_reducible first | exact HB.out | apply below_alloc | apply pw_below_drewN | apply below_drew1 | refine below_set ?_ GE368.out | refine below_set ?_ GE388.out) | exact HB.out))) : w.heap.size ≤ gb390)); have n6_ := Aside0.mk ((by rw [hg]; exact Nat.ne_of_lt (blk_lt (g := gb368) (o := .cells #[.int .i64 a4_0, .int .i64 a4_1] 73 (0, 0)) (by (with_reducible repeat (first | refine blk_drewN ?_ _ | refine blk_drew ?_ | refine blk_alloc ?_ _)); exact BK368.out)) : gb368 ≠ gb390)); have n7_ := Aside0.mk ((by rw [hg]; exact Nat.ne_of_gt (blk_lt (g := gb368) (o := .cells #[.int .i64 a4_0, .int .i64 a4_1] 73 (0, 0)) (by (with_reducible repeat (first | refine blk_drewN ?_ _ | refine blk_drew ?_ | refine blk_alloc ?_ _)); exact BK368.out)) : gb390 ≠ gb368)); have n8_ := Aside0.mk ((by rw [hg]; exact Nat.ne_of_lt (blk_lt (g := gb388) (o := .cells #[.int .i64 ((rd_T65 l0 x127_4).f0), .int .i64 ((rd_T65 l0 x127_4).f1), .int .i64 ((rd_T65 l0 x127_4).f2), .int .i64 ((rd_T65 l0 x127_4).f3), .int .i64 ((rd_T65 l0 x127_4).f4), .bool ((rd_T65 l0 x127_4).f5)] 65 (0, 0)) (by (with_reducible repeat (first | refine blk_drewN ?_ _ | refine blk_drew ?_ | refine blk_alloc ?_ _)); exact BK388.out)) : gb388 ≠ gb390)); have n9_ := Aside0.mk ((by rw [hg]; exact Nat.ne_of_gt (blk_lt (g := gb388) (o := .cells #[.int .i64 ((rd_T65 l0 x127_4).f0), .int .i64 ((rd_T65 l0 x127_4).f1), .int .i64 ((rd_T65 l0 x127_4).f2), .int .i64 ((rd_T65 l0 x127_4).f3), .int .i64 ((rd_T65 l0 x127_4).f4), .bool ((rd_T65 l0 x127_4).f5)] 65 (0, 0)) (by (with_reducible repeat (first | refine blk_drewN ?_ _ | refine blk_drew ?_ | refine blk_alloc ?_ _)); exact BK388.out)) : gb390 ≠ gb388)); clear BK368; clear BK388; clear HB; have BK368 := n0_; have BK388 := n1_; have HB := n2_; have BK390 := n3_; have GW390 := n4_; have GE390 := n5_; have NB368_390 := n6_; have NB390_368 := n7_; have NB388_390 := n8_; have NB390_388 := n9_; clear n0_ n1_ n2_ n3_ n4_ n5_ n6_ n7_ n8_ n9_; clear hb hbox hg; have hnb87 := NB390_368.out; have hnc87 := NB368_390.out; have hnb88 := NB390_388.out; have hnc88 := NB388_390.out; have hcz89_0 : w86.cell? ⟨gb390, 0, none⟩ = some (.int .i64 0) := (blk_cell BK390.out 0).trans rfl; have hcz89_1 : w86.cell? ⟨gb390, 1, none⟩ = some (.int .i64 0) := (blk_cell BK390.out 1).trans rfl; have hcz89_2 : w86.cell? ⟨gb390, 2, none⟩ = some (.int .i64 0) := (blk_cell BK390.out 2).trans rfl; have hcz89_3 : w86.cell? ⟨gb390, 3, none⟩ = some (.int .i64 0) := (blk_cell BK390.out 3).trans rfl; have hcz89_4 : w86.cell? ⟨gb390, 4, none⟩ = some (.int .i64 0) := (blk_cell BK390.out 4).trans rfl; have hcz89_5 : w86.cell? ⟨gb390, 5, none⟩ = some (.bool false) := (blk_cell BK390.out 5).trans rfl; have hfz89_0 := blk_frozen BK390.out 0; have hfz89_1 := blk_frozen BK390.out 1; have hfz89_2 := blk_frozen BK390.out 2; have hfz89_3 := blk_frozen BK390.out 3; have hfz89_4 := blk_frozen BK390.out 4; have hfz89_5 := blk_frozen BK390.out 5))
                                    go_roundg k6
                                    case measure => have := HJ9.out; have := HJ32.out; have := HJ44.out; have := HK4.out; have := HJ61.out; have := HK6.out; omega
                                    case rel => exact ⟨(true), (wrap64 (x149_6 + 1)), (by first | rfl | (simp; done) | (simp [*]; done)), (by first | rfl | (simp; done) | (simp [*]; done)), H', ⟨by have := HJ9.out; have := HJ32.out; have := HJ44.out; have := HK4.out; have := HJ61.out; have := HK6.out; omega⟩, ⟨by (with_reducible repeat (first | refine blk_drewN ?_ _ | refine blk_drew ?_ | refine blk_alloc ?_ _)); refine blk_far ?_ NB368_390.out _; (with_reducible repeat (first | refine blk_drewN ?_ _ | refine blk_drew ?_ | refine blk_alloc ?_ _)); refine blk_far ?_ NB368_390.out _; (with_reducible repeat (first | refine blk_drewN ?_ _ | refine blk_drew ?_ | refine blk_alloc ?_ _)); refine blk_far ?_ NB368_390.out _; (with_reducible repeat (first | refine blk_drewN ?_ _ | refine blk_drew ?_ | refine blk_alloc ?_ _)); refine blk_far ?_ NB368_390.out _; (with_reducible repeat (first | refine blk_drewN ?_ _ | refine blk_drew ?_ | refine blk_alloc ?_ _)); refine blk_far ?_ NB368_390.out _; (with_reducible repeat (first | refine blk_drewN ?_ _ | refine blk_drew ?_ | refine blk_alloc ?_ _)); refine blk_far ?_ NB368_390.out _; (with_reducible repeat (first | refine blk_drewN ?_ _ | refine blk_drew ?_ | refine blk_alloc ?_ _)); exact BK368.out⟩, ⟨by (with_reducible repeat (first | refine blk_drewN ?_ _ | refine blk_drew ?_ | refine blk_alloc ?_ _)); refine blk_far ?_ NB388_390.out _; (with_reducible repeat (first | refine blk_drewN ?_ _ | refine blk_drew ?_ | refine blk_alloc ?_ _)); refine blk_far ?_ NB388_390.out _; (with_reducible repeat (first | refine blk_drewN ?_ _ | refine blk_drew ?_ | refine blk_alloc ?_ _)); refine blk_far ?_ NB388_390.out _; (with_reducible repeat (first | refine blk_drewN ?_ _ | refine blk_drew ?_ | refine blk_alloc ?_ _)); refine blk_far ?_ NB388_390.out _; (with_reducible repeat (first | refine blk_drewN ?_ _ | refine blk_drew ?_ | refine blk_alloc ?_ _)); refine blk_far ?_ NB388_390.out _; (with_reducible repeat (first | refine blk_drewN ?_ _ | refine blk_drew ?_ | refine blk_alloc ?_ _)); refine blk_far ?_ NB388_390.out _; (with_reducible repeat (first | refine blk_drewN ?_ _ | refine blk_drew ?_ | refine blk_alloc ?_ _)); exact BK388.out⟩, ⟨by repeat (first | (with_reducible first | exact HB.out | apply below_alloc | apply pw_below_drewN | apply below_drew1 | refine below_set ?_ GE368.out | refine below_set ?_ GE388.out | refine below_set ?_ GE390.out) | exact HB.out)⟩⟩
                                  · rw [if_neg c85] at H
                                    have c85b0 : decide (a6 < ((rd_T65 l0 x149_6).f2)) = false := decide_eq_false c85
                                    clear c85
                                    by_cases c90 : ((rd_T65 l0 x149_6).f1) < ((rd_T65 l0 x127_4).f1)
                                    · rw [if_pos c90] at H
                                      have c90b0 : decide (((rd_T65 l0 x149_6).f1) < ((rd_T65 l0 x127_4).f1)) = true := decide_eq_true c90
                                      clear c90
                                      have H' := Aside0.mk H
                                      clear H
                                      have p389 : 0 ≤ (x149_6 : Int) := of_decide_eq_true (by first | (with_reducible assumption) | assumption)
                                      have q389 : x149_6 < (l0.length : Int) := of_decide_eq_true (by first | (with_reducible assumption) | assumption)
                                      obtain ⟨ad389, e389, hx389_0, hx389_1, hx389_2, hx389_3, hx389_4, hx389_5⟩ := at_T65 HR0.out x149_6 p389 q389
                                      obtain rfl : ad387 = ad389 := (by injection e389)
                                      replace hx389_0 := (HB.out.cell (World.block_lt_of_cell? w _ hx389_0)).trans hx389_0
                                      replace hx389_1 := (HB.out.cell (World.block_lt_of_cell? w _ hx389_1)).trans hx389_1
                                      replace hx389_2 := (HB.out.cell (World.block_lt_of_cell? w _ hx389_2)).trans hx389_2
                                      replace hx389_3 := (HB.out.cell (World.block_lt_of_cell? w _ hx389_3)).trans hx389_3
                                      replace hx389_4 := (HB.out.cell (World.block_lt_of_cell? w _ hx389_4)).trans hx389_4
                                      replace hx389_5 := (HB.out.cell (World.block_lt_of_cell? w _ hx389_5)).trans hx389_5
                                      replace p389 := eq_true p389
                                      replace q389 := eq_true q389
                                      go_wp2_with (first | ((with_reducible refine gate_dst (N := 31) rfl ?_); (try (refine gate_guard (by rfl) ?_; dsimp only)); refine box_event ?hg (N := 31) ?hd (cs := #[.int .i64 0, .int .i64 0, .int .i64 0, .int .i64 0, .int .i64 0, .bool false]) (t := 65) ?hr ?_; (case hd => rfl); (case hg => rfl); (case hr => first | (go_simp; done) | (go_simp; rfl)); intro gb390 hg w91 hbox hb; have n0_ := Aside0.mk (blk_below (g := gb368) (o := .cells #[.int .i64 a4_0, .int .i64 a4_1] 73 (0, 0)) (by (with_reducible repeat (first | refine blk_drewN ?_ _ | refine blk_drew ?_ | refine blk_alloc ?_ _)); exact BK368.out) hb); have n1_ := Aside0.mk (blk_below (g := gb388) (o := .cells #[.int .i64 ((rd_T65 l0 x127_4).f0), .int .i64 ((rd_T65 l0 x127_4).f1), .int .i64 ((rd_T65 l0 x127_4).f2), .int .i64 ((rd_T65 l0 x127_4).f3), .int .i64 ((rd_T65 l0 x127_4).f4), .bool ((rd_T65 l0 x127_4).f5)] 65 (0, 0)) (by (with_reducible repeat (first | refine blk_drewN ?_ _ | refine blk_drew ?_ | refine blk_alloc ?_ _)); exact BK388.out) hb); have n2_ := Aside0.mk (below_step (by repeat (first | (with_reducible first | exact HB.out | apply below_alloc | apply pw_below_drewN | apply below_drew1 | refine below_set ?_ GE368.out | refine below_set ?_ GE388.out) | exact HB.out)) hb); have n3_ := Aside0.mk (hbox); have n4_ := Aside0.mk ((by rw [hg]; exact (below_size (by repeat (first | (with_reducible first | exact HB.out | apply below_alloc | apply pw_below_drewN | apply below_drew1 | refine below_set ?_ GE368.out | refine below_set ?_ GE388.out) | exact HB.out))) : w.heap.size ≤ gb390)); have n5_ := Aside0.mk ((by rw [hg]; exact (below_size (by repeat (first | (with_reducible first | exact HB.out | apply below_alloc | apply pw_below_drewN | apply below_drew1 | refine below_set ?_ GE368.out | refine below_set ?_ GE388.out) | exact HB.out))) : w.heap.size ≤ gb390)); have n6_ := Aside0.mk ((by rw [hg]; exact Nat.ne_of_lt (blk_lt (g := gb368) (o := .cells #[.int .i64 a4_0, .int .i64 a4_1] 73 (0, 0)) (by (with_reducible repeat (first | refine blk_drewN ?_ _ | refine blk_drew ?_ | refine blk_alloc ?_ _)); exact BK368.out)) : gb368 ≠ gb390)); have n7_ := Aside0.mk ((by rw [hg]; exact Nat.ne_of_gt (blk_lt (g := gb368) (o := .cells #[.int .i64 a4_0, .int .i64 a4_1] 73 (0, 0)) (by (with_reducible repeat (first | refine blk_drewN ?_ _ | refine blk_drew ?_ | refine blk_alloc ?_ _)); exact BK368.out)) : gb390 ≠ gb368)); have n8_ := Aside0.mk ((by rw [hg]; exact Nat.ne_of_lt (blk_lt (g := gb388) (o := .cells #[.int .i64 ((rd_T65 l0 x127_4).f0), .int .i64 ((rd_T65 l0 x127_4).f1), .int .i64 ((rd_T65 l0 x127_4).f2), .int .i64 ((rd_T65 l0 x127_4).f3), .int .i64 ((rd_T65 l0 x127_4).f4), .bool ((rd_T65 l0 x127_4).f5)] 65 (0, 0)) (by (with_reducible repeat (first | refine blk_drewN ?_ _ | refine blk_drew ?_ | refine blk_alloc ?_ _)); exact BK388.out)) : gb388 ≠ gb390)); have n9_ := Aside0.mk ((by rw [hg]; exact Nat.ne_of_gt (blk_lt (g := gb388) (o := .cells #[.int .i64 ((rd_T65 l0 x127_4).f0), .int .i64 ((rd_T65 l0 x127_4).f1), .int .i64 ((rd_T65 l0 x127_4).f2), .int .i64 ((rd_T65 l0 x127_4).f3), .int .i64 ((rd_T65 l0 x127_4).f4), .bool ((rd_T65 l0 x127_4).f5)] 65 (0, 0)) (by (with_reducible repeat (first | refine blk_drewN ?_ _ | refine blk_drew ?_ | refine blk_alloc ?_ _)); exact BK388.out)) : gb390 ≠ gb388)); clear BK368; clear BK388; clear HB; have BK368 := n0_; have BK388 := n1_; have HB := n2_; have BK390 := n3_; have GW390 := n4_; have GE390 := n5_; have NB368_390 := n6_; have NB390_368 := n7_; have NB388_390 := n8_; have NB390_388 := n9_; clear n0_ n1_ n2_ n3_ n4_ n5_ n6_ n7_ n8_ n9_; clear hb hbox hg; have hnb92 := NB390_368.out; have hnc92 := NB368_390.out; have hnb93 := NB390_388.out; have hnc93 := NB388_390.out; have hcz94_0 : w91.cell? ⟨gb390, 0, none⟩ = some (.int .i64 0) := (blk_cell BK390.out 0).trans rfl; have hcz94_1 : w91.cell? ⟨gb390, 1, none⟩ = some (.int .i64 0) := (blk_cell BK390.out 1).trans rfl; have hcz94_2 : w91.cell? ⟨gb390, 2, none⟩ = some (.int .i64 0) := (blk_cell BK390.out 2).trans rfl; have hcz94_3 : w91.cell? ⟨gb390, 3, none⟩ = some (.int .i64 0) := (blk_cell BK390.out 3).trans rfl; have hcz94_4 : w91.cell? ⟨gb390, 4, none⟩ = some (.int .i64 0) := (blk_cell BK390.out 4).trans rfl; have hcz94_5 : w91.cell? ⟨gb390, 5, none⟩ = some (.bool false) := (blk_cell BK390.out 5).trans rfl; have hfz94_0 := blk_frozen BK390.out 0; have hfz94_1 := blk_frozen BK390.out 1; have hfz94_2 := blk_frozen BK390.out 2; have hfz94_3 := blk_frozen BK390.out 3; have hfz94_4 := blk_frozen BK390.out 4; have hfz94_5 := blk_frozen BK390.out 5; have hnb95 := NB388_368.out; have hnc95 := NB368_388.out; have hcz96_0 : w91.cell? ⟨gb388, 0, none⟩ = some (.int .i64 ((rd_T65 l0 x127_4).f0)) := (blk_cell BK388.out 0).trans rfl; have hcz96_1 : w91.cell? ⟨gb388, 1, none⟩ = some (.int .i64 ((rd_T65 l0 x127_4).f1)) := (blk_cell BK388.out 1).trans rfl; have hcz96_2 : w91.cell? ⟨gb388, 2, none⟩ = some (.int .i64 ((rd_T65 l0 x127_4).f2)) := (blk_cell BK388.out 2).trans rfl; have hcz96_3 : w91.cell? ⟨gb388, 3, none⟩ = some (.int .i64 ((rd_T65 l0 x127_4).f3)) := (blk_cell BK388.out 3).trans rfl; have hcz96_4 : w91.cell? ⟨gb388, 4, none⟩ = some (.int .i64 ((rd_T65 l0 x127_4).f4)) := (blk_cell BK388.out 4).trans rfl; have hcz96_5 : w91.cell? ⟨gb388, 5, none⟩ = some (.bool ((rd_T65 l0 x127_4).f5)) := (blk_cell BK388.out 5).trans rfl; have hfz96_0 := blk_frozen BK388.out 0; have hfz96_1 := blk_frozen BK388.out 1; have hfz96_2 := blk_frozen BK388.out 2; have hfz96_3 := blk_frozen BK388.out 3; have hfz96_4 := blk_frozen BK388.out 4; have hfz96_5 := blk_frozen BK388.out 5))
                                      go_roundg k6
                                      case measure => have := HJ9.out; have := HJ32.out; have := HJ44.out; have := HK4.out; have := HJ61.out; have := HK6.out; omega
                                      case rel => exact ⟨(true), (wrap64 (x149_6 + 1)), (by first | rfl | (simp; done) | (simp [*]; done)), (by first | rfl | (simp; done) | (simp [*]; done)), H', ⟨by have := HJ9.out; have := HJ32.out; have := HJ44.out; have := HK4.out; have := HJ61.out; have := HK6.out; omega⟩, ⟨by (with_reducible repeat (first | refine blk_drewN ?_ _ | refine blk_drew ?_ | refine blk_alloc ?_ _)); refine blk_far ?_ NB368_390.out _; (with_reducible repeat (first | refine blk_drewN ?_ _ | refine blk_drew ?_ | refine blk_alloc ?_ _)); refine blk_far ?_ NB368_390.out _; (with_reducible repeat (first | refine blk_drewN ?_ _ | refine blk_drew ?_ | refine blk_alloc ?_ _)); refine blk_far ?_ NB368_390.out _; (with_reducible repeat (first | refine blk_drewN ?_ _ | refine blk_drew ?_ | refine blk_alloc ?_ _)); refine blk_far ?_ NB368_390.out _; (with_reducible repeat (first | refine blk_drewN ?_ _ | refine blk_drew ?_ | refine blk_alloc ?_ _)); refine blk_far ?_ NB368_390.out _; (with_reducible repeat (first | refine blk_drewN ?_ _ | refine blk_drew ?_ | refine blk_alloc ?_ _)); refine blk_far ?_ NB368_390.out _; (with_reducible repeat (first | refine blk_drewN ?_ _ | refine blk_drew ?_ | refine blk_alloc ?_ _)); exact BK368.out⟩, ⟨by (with_reducible repeat (first | refine blk_drewN ?_ _ | refine blk_drew ?_ | refine blk_alloc ?_ _)); refine blk_far ?_ NB388_390.out _; (with_reducible repeat (first | refine blk_drewN ?_ _ | refine blk_drew ?_ | refine blk_alloc ?_ _)); refine blk_far ?_ NB388_390.out _; (with_reducible repeat (first | refine blk_drewN ?_ _ | refine blk_drew ?_ | refine blk_alloc ?_ _)); refine blk_far ?_ NB388_390.out _; (with_reducible repeat (first | refine blk_drewN ?_ _ | refine blk_drew ?_ | refine blk_alloc ?_ _)); refine blk_far ?_ NB388_390.out _; (with_reducible repeat (first | refine blk_drewN ?_ _ | refine blk_drew ?_ | refine blk_alloc ?_ _)); refine blk_far ?_ NB388_390.out _; (with_reducible repeat (first | refine blk_drewN ?_ _ | refine blk_drew ?_ | refine blk_alloc ?_ _)); refine blk_far ?_ NB388_390.out _; (with_reducible repeat (first | refine blk_drewN ?_ _ | refine blk_drew ?_ | refine blk_alloc ?_ _)); exact BK388.out⟩, ⟨by repeat (first | (with_reducible first | exact HB.out | apply below_alloc | apply pw_below_drewN | apply below_drew1 | refine below_set ?_ GE368.out | refine below_set ?_ GE388.out | refine below_set ?_ GE390.out) | exact HB.out)⟩⟩
                                    · rw [if_neg c90] at H
                                      have c90b0 : decide (((rd_T65 l0 x149_6).f1) < ((rd_T65 l0 x127_4).f1)) = false := decide_eq_false c90
                                      clear c90
                                      by_cases c97 : ((rd_T65 l0 x149_6).f1) = ((rd_T65 l0 x127_4).f1)
                                      · rw [if_pos c97] at H
                                        have c97b0 : (((rd_T65 l0 x149_6).f1) == ((rd_T65 l0 x127_4).f1)) = true := beq_iff_eq.mpr c97
                                        have c97b1 : (((rd_T65 l0 x149_6).f1) != ((rd_T65 l0 x127_4).f1)) = false := bne_eq_false_iff_eq.mpr c97
                                        clear c97
                                        have H' := Aside0.mk H
                                        clear H
                                        have p389 : 0 ≤ (x149_6 : Int) := of_decide_eq_true (by first | (with_reducible assumption) | assumption)
                                        have q389 : x149_6 < (l0.length : Int) := of_decide_eq_true (by first | (with_reducible assumption) | assumption)
                                        obtain ⟨ad389, e389, hx389_0, hx389_1, hx389_2, hx389_3, hx389_4, hx389_5⟩ := at_T65 HR0.out x149_6 p389 q389
                                        obtain rfl : ad387 = ad389 := (by injection e389)
                                        replace hx389_0 := (HB.out.cell (World.block_lt_of_cell? w _ hx389_0)).trans hx389_0
                                        replace hx389_1 := (HB.out.cell (World.block_lt_of_cell? w _ hx389_1)).trans hx389_1
                                        replace hx389_2 := (HB.out.cell (World.block_lt_of_cell? w _ hx389_2)).trans hx389_2
                                        replace hx389_3 := (HB.out.cell (World.block_lt_of_cell? w _ hx389_3)).trans hx389_3
                                        replace hx389_4 := (HB.out.cell (World.block_lt_of_cell? w _ hx389_4)).trans hx389_4
                                        replace hx389_5 := (HB.out.cell (World.block_lt_of_cell? w _ hx389_5)).trans hx389_5
                                        replace p389 := eq_true p389
                                        replace q389 := eq_true q389
                                        go_wp2_with (first | ((with_reducible refine gate_dst (N := 31) rfl ?_); (try (refine gate_guard (by rfl) ?_; dsimp only)); refine box_event ?hg (N := 31) ?hd (cs := #[.int .i64 0, .int .i64 0, .int .i64 0, .int .i64 0, .int .i64 0, .bool false]) (t := 65) ?hr ?_; (case hd => rfl); (case hg => rfl); (case hr => first | (go_simp; done) | (go_simp; rfl)); intro gb390 hg w98 hbox hb; have n0_ := Aside0.mk (blk_below (g := gb368) (o := .cells #[.int .i64 a4_0, .int .i64 a4_1] 73 (0, 0)) (by (with_reducible repeat (first | refine blk_drewN ?_ _ | refine blk_drew ?_ | refine blk_alloc ?_ _)); exact BK368.out) hb); have n1_ := Aside0.mk (blk_below (g := gb388) (o := .cells #[.int .i64 ((rd_T65 l0 x127_4).f0), .int .i64 ((rd_T65 l0 x127_4).f1), .int .i64 ((rd_T65 l0 x127_4).f2), .int .i64 ((rd_T65 l0 x127_4).f3), .int .i64 ((rd_T65 l0 x127_4).f4), .bool ((rd_T65 l0 x127_4).f5)] 65 (0, 0)) (by (with_reducible repeat (first | refine blk_drewN ?_ _ | refine blk_drew ?_ | refine blk_alloc ?_ _)); exact BK388.out) hb); have n2_ := Aside0.mk (below_step (by repeat (first | (with_reducible first | exact HB.out | apply below_alloc | apply pw_below_drewN | apply below_drew1 | refine below_set ?_ GE368.out | refine below_set ?_ GE388.out) | exact HB.out)) hb); have n3_ := Aside0.mk (hbox); have n4_ := Aside0.mk ((by rw [hg]; exact (below_size (by repeat (first | (with_reducible first | exact HB.out | apply below_alloc | apply pw_below_drewN | apply below_drew1 | refine below_set ?_ GE368.out | refine below_set ?_ GE388.out) | exact HB.out))) : w.heap.size ≤ gb390)); have n5_ := Aside0.mk ((by rw [hg]; exact (below_size (by repeat (first | (with_reducible first | exact HB.out | apply below_alloc | apply pw_below_drewN | apply below_drew1 | refine below_set ?_ GE368.out | refine below_set ?_ GE388.out) | exact HB.out))) : w.heap.size ≤ gb390)); have n6_ := Aside0.mk ((by rw [hg]; exact Nat.ne_of_lt (blk_lt (g := gb368) (o := .cells #[.int .i64 a4_0, .int .i64 a4_1] 73 (0, 0)) (by (with_reducible repeat (first | refine blk_drewN ?_ _ | refine blk_drew ?_ | refine blk_alloc ?_ _)); exact BK368.out)) : gb368 ≠ gb390)); have n7_ := Aside0.mk ((by rw [hg]; exact Nat.ne_of_gt (blk_lt (g := gb368) (o := .cells #[.int .i64 a4_0, .int .i64 a4_1] 73 (0, 0)) (by (with_reducible repeat (first | refine blk_drewN ?_ _ | refine blk_drew ?_ | refine blk_alloc ?_ _)); exact BK368.out)) : gb390 ≠ gb368)); have n8_ := Aside0.mk ((by rw [hg]; exact Nat.ne_of_lt (blk_lt (g := gb388) (o := .cells #[.int .i64 ((rd_T65 l0 x127_4).f0), .int .i64 ((rd_T65 l0 x127_4).f1), .int .i64 ((rd_T65 l0 x127_4).f2), .int .i64 ((rd_T65 l0 x127_4).f3), .int .i64 ((rd_T65 l0 x127_4).f4), .bool ((rd_T65 l0 x127_4).f5)] 65 (0, 0)) (by (with_reducible repeat (first | refine blk_drewN ?_ _ | refine blk_drew ?_ | refine blk_alloc ?_ _)); exact BK388.out)) : gb388 ≠ gb390)); have n9_ := Aside0.mk ((by rw [hg]; exact Nat.ne_of_gt (blk_lt (g := gb388) (o := .cells #[.int .i64 ((rd_T65 l0 x127_4).f0), .int .i64 ((rd_T65 l0 x127_4).f1), .int .i64 ((rd_T65 l0 x127_4).f2), .int .i64 ((rd_T65 l0 x127_4).f3), .int .i64 ((rd_T65 l0 x127_4).f4), .bool ((rd_T65 l0 x127_4).f5)] 65 (0, 0)) (by (with_reducible repeat (first | refine blk_drewN ?_ _ | refine blk_drew ?_ | refine blk_alloc ?_ _)); exact BK388.out)) : gb390 ≠ gb388)); clear BK368; clear BK388; clear HB; have BK368 := n0_; have BK388 := n1_; have HB := n2_; have BK390 := n3_; have GW390 := n4_; have GE390 := n5_; have NB368_390 := n6_; have NB390_368 := n7_; have NB388_390 := n8_; have NB390_388 := n9_; clear n0_ n1_ n2_ n3_ n4_ n5_ n6_ n7_ n8_ n9_; clear hb hbox hg; have hnb99 := NB390_368.out; have hnc99 := NB368_390.out; have hnb100 := NB390_388.out; have hnc100 := NB388_390.out; have hcz101_0 : w98.cell? ⟨gb390, 0, none⟩ = some (.int .i64 0) := (blk_cell BK390.out 0).trans rfl; have hcz101_1 : w98.cell? ⟨gb390, 1, none⟩ = some (.int .i64 0) := (blk_cell BK390.out 1).trans rfl; have hcz101_2 : w98.cell? ⟨gb390, 2, none⟩ = some (.int .i64 0) := (blk_cell BK390.out 2).trans rfl; have hcz101_3 : w98.cell? ⟨gb390, 3, none⟩ = some (.int .i64 0) := (blk_cell BK390.out 3).trans rfl; have hcz101_4 : w98.cell? ⟨gb390, 4, none⟩ = some (.int .i64 0) := (blk_cell BK390.out 4).trans rfl; have hcz101_5 : w98.cell? ⟨gb390, 5, none⟩ = some (.bool false) := (blk_cell BK390.out 5).trans rfl; have hfz101_0 := blk_frozen BK390.out 0; have hfz101_1 := blk_frozen BK390.out 1; have hfz101_2 := blk_frozen BK390.out 2; have hfz101_3 := blk_frozen BK390.out 3; have hfz101_4 := blk_frozen BK390.out 4; have hfz101_5 := blk_frozen BK390.out 5; have hnb102 := NB388_368.out; have hnc102 := NB368_388.out; have hcz103_0 : w98.cell? ⟨gb388, 0, none⟩ = some (.int .i64 ((rd_T65 l0 x127_4).f0)) := (blk_cell BK388.out 0).trans rfl; have hcz103_1 : w98.cell? ⟨gb388, 1, none⟩ = some (.int .i64 ((rd_T65 l0 x127_4).f1)) := (blk_cell BK388.out 1).trans rfl; have hcz103_2 : w98.cell? ⟨gb388, 2, none⟩ = some (.int .i64 ((rd_T65 l0 x127_4).f2)) := (blk_cell BK388.out 2).trans rfl; have hcz103_3 : w98.cell? ⟨gb388, 3, none⟩ = some (.int .i64 ((rd_T65 l0 x127_4).f3)) := (blk_cell BK388.out 3).trans rfl; have hcz103_4 : w98.cell? ⟨gb388, 4, none⟩ = some (.int .i64 ((rd_T65 l0 x127_4).f4)) := (blk_cell BK388.out 4).trans rfl; have hcz103_5 : w98.cell? ⟨gb388, 5, none⟩ = some (.bool ((rd_T65 l0 x127_4).f5)) := (blk_cell BK388.out 5).trans rfl; have hfz103_0 := blk_frozen BK388.out 0; have hfz103_1 := blk_frozen BK388.out 1; have hfz103_2 := blk_frozen BK388.out 2; have hfz103_3 := blk_frozen BK388.out 3; have hfz103_4 := blk_frozen BK388.out 4; have hfz103_5 := blk_frozen BK388.out 5))
                                        go_roundg k6
                                        case measure => have := HJ9.out; have := HJ32.out; have := HJ44.out; have := HK4.out; have := HJ61.out; have := HK6.out; omega
                                        case rel => exact ⟨(decide (((rd_T65 l0 x149_6).f0) ≤ ((rd_T65 l0 x127_4).f0))), (wrap64 (x149_6 + 1)), (by first | rfl | (simp; done) | (simp [*]; done)), (by first | rfl | (simp; done) | (simp [*]; done)), H', ⟨by have := HJ9.out; have := HJ32.out; have := HJ44.out; have := HK4.out; have := HJ61.out; have := HK6.out; omega⟩, ⟨by (with_reducible repeat (first | refine blk_drewN ?_ _ | refine blk_drew ?_ | refine blk_alloc ?_ _)); refine blk_far ?_ NB368_390.out _; (with_reducible repeat (first | refine blk_drewN ?_ _ | refine blk_drew ?_ | refine blk_alloc ?_ _)); refine blk_far ?_ NB368_390.out _; (with_reducible repeat (first | refine blk_drewN ?_ _ | refine blk_drew ?_ | refine blk_alloc ?_ _)); refine blk_far ?_ NB368_390.out _; (with_reducible repeat (first | refine blk_drewN ?_ _ | refine blk_drew ?_ | refine blk_alloc ?_ _)); refine blk_far ?_ NB368_390.out _; (with_reducible repeat (first | refine blk_drewN ?_ _ | refine blk_drew ?_ | refine blk_alloc ?_ _)); refine blk_far ?_ NB368_390.out _; (with_reducible repeat (first | refine blk_drewN ?_ _ | refine blk_drew ?_ | refine blk_alloc ?_ _)); refine blk_far ?_ NB368_390.out _; (with_reducible repeat (first | refine blk_drewN ?_ _ | refine blk_drew ?_ | refine blk_alloc ?_ _)); exact BK368.out⟩, ⟨by (with_reducible repeat (first | refine blk_drewN ?_ _ | refine blk_drew ?_ | refine blk_alloc ?_ _)); refine blk_far ?_ NB388_390.out _; (with_reducible repeat (first | refine blk_drewN ?_ _ | refine blk_drew ?_ | refine blk_alloc ?_ _)); refine blk_far ?_ NB388_390.out _; (with_reducible repeat (first | refine blk_drewN ?_ _ | refine blk_drew ?_ | refine blk_alloc ?_ _)); refine blk_far ?_ NB388_390.out _; (with_reducible repeat (first | refine blk_drewN ?_ _ | refine blk_drew ?_ | refine blk_alloc ?_ _)); refine blk_far ?_ NB388_390.out _; (with_reducible repeat (first | refine blk_drewN ?_ _ | refine blk_drew ?_ | refine blk_alloc ?_ _)); refine blk_far ?_ NB388_390.out _; (with_reducible repeat (first | refine blk_drewN ?_ _ | refine blk_drew ?_ | refine blk_alloc ?_ _)); refine blk_far ?_ NB388_390.out _; (with_reducible repeat (first | refine blk_drewN ?_ _ | refine blk_drew ?_ | refine blk_alloc ?_ _)); exact BK388.out⟩, ⟨by repeat (first | (with_reducible first | exact HB.out | apply below_alloc | apply pw_below_drewN | apply below_drew1 | refine below_set ?_ GE368.out | refine below_set ?_ GE388.out | refine below_set ?_ GE390.out) | exact HB.out)⟩⟩
                                      · rw [if_neg c97] at H
                                        have c97b0 : (((rd_T65 l0 x149_6).f1) == ((rd_T65 l0 x127_4).f1)) = false := beq_eq_false_iff_ne.mpr c97
                                        have c97b1 : (((rd_T65 l0 x149_6).f1) != ((rd_T65 l0 x127_4).f1)) = true := bne_iff_ne.mpr c97
                                        have H' := Aside0.mk H
                                        clear H
                                        have p389 : 0 ≤ (x149_6 : Int) := of_decide_eq_true (by first | (with_reducible assumption) | assumption)
                                        have q389 : x149_6 < (l0.length : Int) := of_decide_eq_true (by first | (with_reducible assumption) | assumption)
                                        obtain ⟨ad389, e389, hx389_0, hx389_1, hx389_2, hx389_3, hx389_4, hx389_5⟩ := at_T65 HR0.out x149_6 p389 q389
                                        obtain rfl : ad387 = ad389 := (by injection e389)
                                        replace hx389_0 := (HB.out.cell (World.block_lt_of_cell? w _ hx389_0)).trans hx389_0
                                        replace hx389_1 := (HB.out.cell (World.block_lt_of_cell? w _ hx389_1)).trans hx389_1
                                        replace hx389_2 := (HB.out.cell (World.block_lt_of_cell? w _ hx389_2)).trans hx389_2
                                        replace hx389_3 := (HB.out.cell (World.block_lt_of_cell? w _ hx389_3)).trans hx389_3
                                        replace hx389_4 := (HB.out.cell (World.block_lt_of_cell? w _ hx389_4)).trans hx389_4
                                        replace hx389_5 := (HB.out.cell (World.block_lt_of_cell? w _ hx389_5)).trans hx389_5
                                        replace p389 := eq_true p389
                                        replace q389 := eq_true q389
                                        go_wp2_with (first | ((with_reducible refine gate_dst (N := 31) rfl ?_); (try (refine gate_guard (by rfl) ?_; dsimp only)); refine box_event ?hg (N := 31) ?hd (cs := #[.int .i64 0, .int .i64 0, .int .i64 0, .int .i64 0, .int .i64 0, .bool false]) (t := 65) ?hr ?_; (case hd => rfl); (case hg => rfl); (case hr => first | (go_simp; done) | (go_simp; rfl)); intro gb390 hg w104 hbox hb; have n0_ := Aside0.mk (blk_below (g := gb368) (o := .cells #[.int .i64 a4_0, .int .i64 a4_1] 73 (0, 0)) (by (with_reducible repeat (first | refine blk_drewN ?_ _ | refine blk_drew ?_ | refine blk_alloc ?_ _)); exact BK368.out) hb); have n1_ := Aside0.mk (blk_below (g := gb388) (o := .cells #[.int .i64 ((rd_T65 l0 x127_4).f0), .int .i64 ((rd_T65 l0 x127_4).f1), .int .i64 ((rd_T65 l0 x127_4).f2), .int .i64 ((rd_T65 l0 x127_4).f3), .int .i64 ((rd_T65 l0 x127_4).f4), .bool ((rd_T65 l0 x127_4).f5)] 65 (0, 0)) (by (with_reducible repeat (first | refine blk_drewN ?_ _ | refine blk_drew ?_ | refine blk_alloc ?_ _)); exact BK388.out) hb); have n2_ := Aside0.mk (below_step (by repeat (first | (with_reducible first | exact HB.out | apply below_alloc | apply pw_below_drewN | apply below_drew1 | refine below_set ?_ GE368.out | refine below_set ?_ GE388.out) | exact HB.out)) hb); have n3_ := Aside0.mk (hbox); have n4_ := Aside0.mk ((by rw [hg]; exact (below_size (by repeat (first | (with_reducible first | exact HB.out | apply below_alloc | apply pw_below_drewN | apply below_drew1 | refine below_set ?_ GE368.out | refine below_set ?_ GE388.out) | exact HB.out))) : w.heap.size ≤ gb390)); have n5_ := Aside0.mk ((by rw [hg]; exact (below_size (by repeat (first | (with_reducible first | exact HB.out | apply below_alloc | apply pw_below_drewN | apply below_drew1 | refine below_set ?_ GE368.out | refine below_set ?_ GE388.out) | exact HB.out))) : w.heap.size ≤ gb390)); have n6_ := Aside0.mk ((by rw [hg]; exact Nat.ne_of_lt (blk_lt (g := gb368) (o := .cells #[.int .i64 a4_0, .int .i64 a4_1] 73 (0, 0)) (by (with_reducible repeat (first | refine blk_drewN ?_ _ | refine blk_drew ?_ | refine blk_alloc ?_ _)); exact BK368.out)) : gb368 ≠ gb390)); have n7_ := Aside0.mk ((by rw [hg]; exact Nat.ne_of_gt (blk_lt (g := gb368) (o := .cells #[.int .i64 a4_0, .int .i64 a4_1] 73 (0, 0)) (by (with_reducible repeat (first | refine blk_drewN ?_ _ | refine blk_drew ?_ | refine blk_alloc ?_ _)); exact BK368.out)) : gb390 ≠ gb368)); have n8_ := Aside0.mk ((by rw [hg]; exact Nat.ne_of_lt (blk_lt (g := gb388) (o := .cells #[.int .i64 ((rd_T65 l0 x127_4).f0), .int .i64 ((rd_T65 l0 x127_4).f1), .int .i64 ((rd_T65 l0 x127_4).f2), .int .i64 ((rd_T65 l0 x127_4).f3), .int .i64 ((rd_T65 l0 x127_4).f4), .bool ((rd_T65 l0 x127_4).f5)] 65 (0, 0)) (by (with_reducible repeat (first | refine blk_drewN ?_ _ | refine blk_drew ?_ | refine blk_alloc ?_ _)); exact BK388.out)) : gb388 ≠ gb390)); have n9_ := Aside0.mk ((by rw [hg]; exact Nat.ne_of_gt (blk_lt (g := gb388) (o := .cells #[.int .i64 ((rd_T65 l0 x127_4).f0), .int .i64 ((rd_T65 l0 x127_4).f1), .int .i64 ((rd_T65 l0 x127_4).f2), .int .i64 ((rd_T65 l0 x127_4).f3), .int .i64 ((rd_T65 l0 x127_4).f4), .bool ((rd_T65 l0 x127_4).f5)] 65 (0, 0)) (by (with_reducible repeat (first | refine blk_drewN ?_ _ | refine blk_drew ?_ | refine blk_alloc ?_ _)); exact BK388.out)) : gb390 ≠ gb388)); clear BK368; clear BK388; clear HB; have BK368 := n0_; have BK388 := n1_; have HB := n2_; have BK390 := n3_; have GW390 := n4_; have GE390 := n5_; have NB368_390 := n6_; have NB390_368 := n7_; have NB388_390 := n8_; have NB390_388 := n9_; clear n0_ n1_ n2_ n3_ n4_ n5_ n6_ n7_ n8_ n9_; clear hb hbox hg; have hnb105 := NB390_368.out; have hnc105 := NB368_390.out; have hnb106 := NB390_388.out; have hnc106 := NB388_390.out; have hcz107_0 : w104.cell? ⟨gb390, 0, none⟩ = some (.int .i64 0) := (blk_cell BK390.out 0).trans rfl; have hcz107_1 : w104.cell? ⟨gb390, 1, none⟩ = some (.int .i64 0) := (blk_cell BK390.out 1).trans rfl; have hcz107_2 : w104.cell? ⟨gb390, 2, none⟩ = some (.int .i64 0) := (blk_cell BK390.out 2).trans rfl; have hcz107_3 : w104.cell? ⟨gb390, 3, none⟩ = some (.int .i64 0) := (blk_cell BK390.out 3).trans rfl; have hcz107_4 : w104.cell? ⟨gb390, 4, none⟩ = some (.int .i64 0) := (blk_cell BK390.out 4).trans rfl; have hcz107_5 : w104.cell? ⟨gb390, 5, none⟩ = some (.bool false) := (blk_cell BK390.out 5).trans rfl; have hfz107_0 := blk_frozen BK390.out 0; have hfz107_1 := blk_frozen BK390.out 1; have hfz107_2 := blk_frozen BK390.out 2; have hfz107_3 := blk_frozen BK390.out 3; have hfz107_4 := blk_frozen BK390.out 4; have hfz107_5 := blk_frozen BK390.out 5; have hnb108 := NB388_368.out; have hnc108 := NB368_388.out; have hcz109_0 : w104.cell? ⟨gb388, 0, none⟩ = some (.int .i64 ((rd_T65 l0 x127_4).f0)) := (blk_cell BK388.out 0).trans rfl; have hcz109_1 : w104.cell? ⟨gb388, 1, none⟩ = some (.int .i64 ((rd_T65 l0 x127_4).f1)) := (blk_cell BK388.out 1).trans rfl; have hcz109_2 : w104.cell? ⟨gb388, 2, none⟩ = some (.int .i64 ((rd_T65 l0 x127_4).f2)) := (blk_cell BK388.out 2).trans rfl; have hcz109_3 : w104.cell? ⟨gb388, 3, none⟩ = some (.int .i64 ((rd_T65 l0 x127_4).f3)) := (blk_cell BK388.out 3).trans rfl; have hcz109_4 : w104.cell? ⟨gb388, 4, none⟩ = some (.int .i64 ((rd_T65 l0 x127_4).f4)) := (blk_cell BK388.out 4).trans rfl; have hcz109_5 : w104.cell? ⟨gb388, 5, none⟩ = some (.bool ((rd_T65 l0 x127_4).f5)) := (blk_cell BK388.out 5).trans rfl; have hfz109_0 := blk_frozen BK388.out 0; have hfz109_1 := blk_frozen BK388.out 1; have hfz109_2 := blk_frozen BK388.out 2; have hfz109_3 := blk_frozen BK388.out 3; have hfz109_4 := blk_frozen BK388.out 4; have hfz109_5 := blk_frozen BK388.out 5))
                                        go_roundg k6
                                        case measure => have := HJ9.out; have := HJ32.out; have := HJ44.out; have := HK4.out; have := HJ61.out; have := HK6.out; omega
                                        case rel => exact ⟨(false), (wrap64 (x149_6 + 1)), (by first | rfl | (simp; done) | (simp [*]; done)), (by first | rfl | (simp; done) | (simp [*]; done)), H', ⟨by have := HJ9.out; have := HJ32.out; have := HJ44.out; have := HK4.out; have := HJ61.out; have := HK6.out; omega⟩, ⟨by (with_reducible repeat (first | refine blk_drewN ?_ _ | refine blk_drew ?_ | refine blk_alloc ?_ _)); refine blk_far ?_ NB368_390.out _; (with_reducible repeat (first | refine blk_drewN ?_ _ | refine blk_drew ?_ | refine blk_alloc ?_ _)); refine blk_far ?_ NB368_390.out _; (with_reducible repeat (first | refine blk_drewN ?_ _ | refine blk_drew ?_ | refine blk_alloc ?_ _)); refine blk_far ?_ NB368_390.out _; (with_reducible repeat (first | refine blk_drewN ?_ _ | refine blk_drew ?_ | refine blk_alloc ?_ _)); refine blk_far ?_ NB368_390.out _; (with_reducible repeat (first | refine blk_drewN ?_ _ | refine blk_drew ?_ | refine blk_alloc ?_ _)); refine blk_far ?_ NB368_390.out _; (with_reducible repeat (first | refine blk_drewN ?_ _ | refine blk_drew ?_ | refine blk_alloc ?_ _)); refine blk_far ?_ NB368_390.out _; (with_reducible repeat (first | refine blk_drewN ?_ _ | refine blk_drew ?_ | refine blk_alloc ?_ _)); exact BK368.out⟩, ⟨by (with_reducible repeat (first | refine blk_drewN ?_ _ | refine blk_drew ?_ | refine blk_alloc ?_ _)); refine blk_far ?_ NB388_390.out _; (with_reducible repeat (first | refine blk_drewN ?_ _ | refine blk_drew ?_ | refine blk_alloc ?_ _)); refine blk_far ?_ NB388_390.out _; (with_reducible repeat (first | refine blk_drewN ?_ _ | refine blk_drew ?_ | refine blk_alloc ?_ _)); refine blk_far ?_ NB388_390.out _; (with_reducible repeat (first | refine blk_drewN ?_ _ | refine blk_drew ?_ | refine blk_alloc ?_ _)); refine blk_far ?_ NB388_390.out _; (with_reducible repeat (first | refine blk_drewN ?_ _ | refine blk_drew ?_ | refine blk_alloc ?_ _)); refine blk_far ?_ NB388_390.out _; (with_reducible repeat (first | refine blk_drewN ?_ _ | refine blk_drew ?_ | refine blk_alloc ?_ _)); refine blk_far ?_ NB388_390.out _; (with_reducible repeat (first | refine blk_drewN ?_ _ | refine blk_drew ?_ | refine blk_alloc ?_ _)); exact BK388.out⟩, ⟨by repeat (first | (with_reducible first | exact HB.out | apply below_alloc | apply pw_below_drewN | apply below_drew1 | refine below_set ?_ GE368.out | refine below_set ?_ GE388.out | refine below_set ?_ GE390.out) | exact HB.out)⟩⟩
                              · rw [if_neg c79] at H
                                have c79b0 : (((rd_T65 l0 x149_6).f3) == a1) = false := beq_eq_false_iff_ne.mpr c79
                                have c79b1 : (((rd_T65 l0 x149_6).f3) != a1) = true := bne_iff_ne.mpr c79
                                have H' := Aside0.mk H
                                clear H
                                have p389 : 0 ≤ (x149_6 : Int) := of_decide_eq_true (by first | (with_reducible assumption) | assumption)
                                have q389 : x149_6 < (l0.length : Int) := of_decide_eq_true (by first | (with_reducible assumption) | assumption)
                                obtain ⟨ad389, e389, hx389_0, hx389_1, hx389_2, hx389_3, hx389_4, hx389_5⟩ := at_T65 HR0.out x149_6 p389 q389
                                obtain rfl : ad387 = ad389 := (by injection e389)
                                replace hx389_0 := (HB.out.cell (World.block_lt_of_cell? w _ hx389_0)).trans hx389_0
                                replace hx389_1 := (HB.out.cell (World.block_lt_of_cell? w _ hx389_1)).trans hx389_1
                                replace hx389_2 := (HB.out.cell (World.block_lt_of_cell? w _ hx389_2)).trans hx389_2
                                replace hx389_3 := (HB.out.cell (World.block_lt_of_cell? w _ hx389_3)).trans hx389_3
                                replace hx389_4 := (HB.out.cell (World.block_lt_of_cell? w _ hx389_4)).trans hx389_4
                                replace hx389_5 := (HB.out.cell (World.block_lt_of_cell? w _ hx389_5)).trans hx389_5
                                replace p389 := eq_true p389
                                replace q389 := eq_true q389
                                go_wp2_with (first | ((with_reducible refine gate_dst (N := 31) rfl ?_); (try (refine gate_guard (by rfl) ?_; dsimp only)); refine box_event ?hg (N := 31) ?hd (cs := #[.int .i64 0, .int .i64 0, .int .i64 0, .int .i64 0, .int .i64 0, .bool false]) (t := 65) ?hr ?_; (case hd => rfl); (case hg => rfl); (case hr => first | (go_simp; done) | (go_simp; rfl)); intro gb390 hg w110 hbox hb; have n0_ := Aside0.mk (blk_below (g := gb368) (o := .cells #[.int .i64 a4_0, .int .i64 a4_1] 73 (0, 0)) (by (with_reducible repeat (first | refine blk_drewN ?_ _ | refine blk_drew ?_ | refine blk_alloc ?_ _)); exact BK368.out) hb); have n1_ := Aside0.mk (blk_below (g := gb388) (o := .cells #[.int .i64 ((rd_T65 l0 x127_4).f0), .int .i64 ((rd_T65 l0 x127_4).f1), .int .i64 ((rd_T65 l0 x127_4).f2), .int .i64 ((rd_T65 l0 x127_4).f3), .int .i64 ((rd_T65 l0 x127_4).f4), .bool ((rd_T65 l0 x127_4).f5)] 65 (0, 0)) (by (with_reducible repeat (first | refine blk_drewN ?_ _ | refine blk_drew ?_ | refine blk_alloc ?_ _)); exact BK388.out) hb); have n2_ := Aside0.mk (below_step (by repeat (first | (with_reducible first | exact HB.out | apply below_alloc | apply pw_below_drewN | apply below_drew1 | refine below_set ?_ GE368.out | refine below_set ?_ GE388.out) | exact HB.out)) hb); have n3_ := Aside0.mk (hbox); have n4_ := Aside0.mk ((by rw [hg]; exact (below_size (by repeat (first | (with_reducible first | exact HB.out | apply below_alloc | apply pw_below_drewN | apply below_drew1 | refine below_set ?_ GE368.out | refine below_set ?_ GE388.out) | exact HB.out))) : w.heap.size ≤ gb390)); have n5_ := Aside0.mk ((by rw [hg]; exact (below_size (by repeat (first | (with_reducible first | exact HB.out | apply below_alloc | apply pw_below_drewN | apply below_drew1 | refine below_set ?_ GE368.out | refine below_set ?_ GE388.out) | exact HB.out))) : w.heap.size ≤ gb390)); have n6_ := Aside0.mk ((by rw [hg]; exact Nat.ne_of_lt (blk_lt (g := gb368) (o := .cells #[.int .i64 a4_0, .int .i64 a4_1] 73 (0, 0)) (by (with_reducible repeat (first | refine blk_drewN ?_ _ | refine blk_drew ?_ | refine blk_alloc ?_ _)); exact BK368.out)) : gb368 ≠ gb390)); have n7_ := Aside0.mk ((by rw [hg]; exact Nat.ne_of_gt (blk_lt (g := gb368) (o := .cells #[.int .i64 a4_0, .int .i64 a4_1] 73 (0, 0)) (by (with_reducible repeat (first | refine blk_drewN ?_ _ | refine blk_drew ?_ | refine blk_alloc ?_ _)); exact BK368.out)) : gb390 ≠ gb368)); have n8_ := Aside0.mk ((by rw [hg]; exact Nat.ne_of_lt (blk_lt (g := gb388) (o := .cells #[.int .i64 ((rd_T65 l0 x127_4).f0), .int .i64 ((rd_T65 l0 x127_4).f1), .int .i64 ((rd_T65 l0 x127_4).f2), .int .i64 ((rd_T65 l0 x127_4).f3), .int .i64 ((rd_T65 l0 x127_4).f4), .bool ((rd_T65 l0 x127_4).f5)] 65 (0, 0)) (by (with_reducible repeat (first | refine blk_drewN ?_ _ | refine blk_drew ?_ | refine blk_alloc ?_ _)); exact BK388.out)) : gb388 ≠ gb390)); have n9_ := Aside0.mk ((by rw [hg]; exact Nat.ne_of_gt (blk_lt (g := gb388) (o := .cells #[.int .i64 ((rd_T65 l0 x127_4).f0), .int .i64 ((rd_T65 l0 x127_4).f1), .int .i64 ((rd_T65 l0 x127_4).f2), .int .i64 ((rd_T65 l0 x127_4).f3), .int .i64 ((rd_T65 l0 x127_4).f4), .bool ((rd_T65 l0 x127_4).f5)] 65 (0, 0)) (by (with_reducible repeat (first | refine blk_drewN ?_ _ | refine blk_drew ?_ | refine blk_alloc ?_ _)); exact BK388.out)) : gb390 ≠ gb388)); clear BK368; clear BK388; clear HB; have BK368 := n0_; have BK388 := n1_; have HB := n2_; have BK390 := n3_; have GW390 := n4_; have GE390 := n5_; have NB368_390 := n6_; have NB390_368 := n7_; have NB388_390 := n8_; have NB390_388 := n9_; clear n0_ n1_ n2_ n3_ n4_ n5_ n6_ n7_ n8_ n9_; clear hb hbox hg; have hnb111 := NB390_368.out; have hnc111 := NB368_390.out; have hnb112 := NB390_388.out; have hnc112 := NB388_390.out; have hcz113_0 : w110.cell? ⟨gb390, 0, none⟩ = some (.int .i64 0) := (blk_cell BK390.out 0).trans rfl; have hcz113_1 : w110.cell? ⟨gb390, 1, none⟩ = some (.int .i64 0) := (blk_cell BK390.out 1).trans rfl; have hcz113_2 : w110.cell? ⟨gb390, 2, none⟩ = some (.int .i64 0) := (blk_cell BK390.out 2).trans rfl; have hcz113_3 : w110.cell? ⟨gb390, 3, none⟩ = some (.int .i64 0) := (blk_cell BK390.out 3).trans rfl; have hcz113_4 : w110.cell? ⟨gb390, 4, none⟩ = some (.int .i64 0) := (blk_cell BK390.out 4).trans rfl; have hcz113_5 : w110.cell? ⟨gb390, 5, none⟩ = some (.bool false) := (blk_cell BK390.out 5).trans rfl; have hfz113_0 := blk_frozen BK390.out 0; have hfz113_1 := blk_frozen BK390.out 1; have hfz113_2 := blk_frozen BK390.out 2; have hfz113_3 := blk_frozen BK390.out 3; have hfz113_4 := blk_frozen BK390.out 4; have hfz113_5 := blk_frozen BK390.out 5))
                                go_roundg k6
                                case measure => have := HJ9.out; have := HJ32.out; have := HJ44.out; have := HK4.out; have := HJ61.out; have := HK6.out; omega
                                case rel => exact ⟨(true), (wrap64 (x149_6 + 1)), (by first | rfl | (simp; done) | (simp [*]; done)), (by first | rfl | (simp; done) | (simp [*]; done)), H', ⟨by have := HJ9.out; have := HJ32.out; have := HJ44.out; have := HK4.out; have := HJ61.out; have := HK6.out; omega⟩, ⟨by (with_reducible repeat (first | refine blk_drewN ?_ _ | refine blk_drew ?_ | refine blk_alloc ?_ _)); refine blk_far ?_ NB368_390.out _; (with_reducible repeat (first | refine blk_drewN ?_ _ | refine blk_drew ?_ | refine blk_alloc ?_ _)); refine blk_far ?_ NB368_390.out _; (with_reducible repeat (first | refine blk_drewN ?_ _ | refine blk_drew ?_ | refine blk_alloc ?_ _)); refine blk_far ?_ NB368_390.out _; (with_reducible repeat (first | refine blk_drewN ?_ _ | refine blk_drew ?_ | refine blk_alloc ?_ _)); refine blk_far ?_ NB368_390.out _; (with_reducible repeat (first | refine blk_drewN ?_ _ | refine blk_drew ?_ | refine blk_alloc ?_ _)); refine blk_far ?_ NB368_390.out _; (with_reducible repeat (first | refine blk_drewN ?_ _ | refine blk_drew ?_ | refine blk_alloc ?_ _)); refine blk_far ?_ NB368_390.out _; (with_reducible repeat (first | refine blk_drewN ?_ _ | refine blk_drew ?_ | refine blk_alloc ?_ _)); exact BK368.out⟩, ⟨by (with_reducible repeat (first | refine blk_drewN ?_ _ | refine blk_drew ?_ | refine blk_alloc ?_ _)); refine blk_far ?_ NB388_390.out _; (with_reducible repeat (first | refine blk_drewN ?_ _ | refine blk_drew ?_ | refine blk_alloc ?_ _)); refine blk_far ?_ NB388_390.out _; (with_reducible repeat (first | refine blk_drewN ?_ _ | refine blk_drew ?_ | refine blk_alloc ?_ _)); refine blk_far ?_ NB388_390.out _; (with_reducible repeat (first | refine blk_drewN ?_ _ | refine blk_drew ?_ | refine blk_alloc ?_ _)); refine blk_far ?_ NB388_390.out _; (with_reducible repeat (first | refine blk_drewN ?_ _ | refine blk_drew ?_ | refine blk_alloc ?_ _)); refine blk_far ?_ NB388_390.out _; (with_reducible repeat (first | refine blk_drewN ?_ _ | refine blk_drew ?_ | refine blk_alloc ?_ _)); refine blk_far ?_ NB388_390.out _; (with_reducible repeat (first | refine blk_drewN ?_ _ | refine blk_drew ?_ | refine blk_alloc ?_ _)); exact BK388.out⟩, ⟨by repeat (first | (with_reducible first | exact HB.out | apply below_alloc | apply pw_below_drewN | apply below_drew1 | refine below_set ?_ GE368.out | refine below_set ?_ GE388.out | refine below_set ?_ GE390.out) | exact HB.out)⟩⟩
                            · replace c78 := Bool.eq_false_iff.mpr c78
                              subst c78
                              have H1 : (signatorylaw48_DevicesOne.l1 k6 l0 a1 a5 a6 t375 t376 t377 x26_4 false l0 (l0.length : Int) x127_4 l0 (l0.length : Int) (wrap64 (x149_6 + 1)) ((rd_T65 l0 x127_4).f0) ((rd_T65 l0 x127_4).f1) ((rd_T65 l0 x127_4).f2) ((rd_T65 l0 x127_4).f3) ((rd_T65 l0 x127_4).f4) ((rd_T65 l0 x127_4).f5)) = some r := by rw [if_neg (show ¬ (false = true) by decide)] at H; exact H
                              clear H
                              have H := H1
                              clear H1
                              have H' := Aside0.mk H
                              clear H
                              have p389 : 0 ≤ (x149_6 : Int) := of_decide_eq_true (by first | (with_reducible assumption) | assumption)
                              have q389 : x149_6 < (l0.length : Int) := of_decide_eq_true (by first | (with_reducible assumption) | assumption)
                              obtain ⟨ad389, e389, hx389_0, hx389_1, hx389_2, hx389_3, hx389_4, hx389_5⟩ := at_T65 HR0.out x149_6 p389 q389
                              obtain rfl : ad387 = ad389 := (by injection e389)
                              replace hx389_0 := (HB.out.cell (World.block_lt_of_cell? w _ hx389_0)).trans hx389_0
                              replace hx389_1 := (HB.out.cell (World.block_lt_of_cell? w _ hx389_1)).trans hx389_1
                              replace hx389_2 := (HB.out.cell (World.block_lt_of_cell? w _ hx389_2)).trans hx389_2
                              replace hx389_3 := (HB.out.cell (World.block_lt_of_cell? w _ hx389_3)).trans hx389_3
                              replace hx389_4 := (HB.out.cell (World.block_lt_of_cell? w _ hx389_4)).trans hx389_4
                              replace hx389_5 := (HB.out.cell (World.block_lt_of_cell? w _ hx389_5)).trans hx389_5
                              replace p389 := eq_true p389
                              replace q389 := eq_true q389
                              go_wp2_with (first | ((with_reducible refine gate_dst (N := 31) rfl ?_); (try (refine gate_guard (by rfl) ?_; dsimp only)); refine box_event ?hg (N := 31) ?hd (cs := #[.int .i64 0, .int .i64 0, .int .i64 0, .int .i64 0, .int .i64 0, .bool false]) (t := 65) ?hr ?_; (case hd => rfl); (case hg => rfl); (case hr => first | (go_simp; done) | (go_simp; rfl)); intro gb390 hg w114 hbox hb; have n0_ := Aside0.mk (blk_below (g := gb368) (o := .cells #[.int .i64 a4_0, .int .i64 a4_1] 73 (0, 0)) (by (with_reducible repeat (first | refine blk_drewN ?_ _ | refine blk_drew ?_ | refine blk_alloc ?_ _)); exact BK368.out) hb); have n1_ := Aside0.mk (blk_below (g := gb388) (o := .cells #[.int .i64 ((rd_T65 l0 x127_4).f0), .int .i64 ((rd_T65 l0 x127_4).f1), .int .i64 ((rd_T65 l0 x127_4).f2), .int .i64 ((rd_T65 l0 x127_4).f3), .int .i64 ((rd_T65 l0 x127_4).f4), .bool ((rd_T65 l0 x127_4).f5)] 65 (0, 0)) (by (with_reducible repeat (first | refine blk_drewN ?_ _ | refine blk_drew ?_ | refine blk_alloc ?_ _)); exact BK388.out) hb); have n2_ := Aside0.mk (below_step (by repeat (first | (with_reducible first | exact HB.out | apply below_alloc | apply pw_below_drewN | apply below_drew1 | refine below_set ?_ GE368.out | refine below_set ?_ GE388.out) | exact HB.out)) hb); have n3_ := Aside0.mk (hbox); have n4_ := Aside0.mk ((by rw [hg]; exact (below_size (by repeat (first | (with_reducible first | exact HB.out | apply below_alloc | apply pw_below_drewN | apply below_drew1 | refine below_set ?_ GE368.out | refine below_set ?_ GE388.out) | exact HB.out))) : w.heap.size ≤ gb390)); have n5_ := Aside0.mk ((by rw [hg]; exact (below_size (by repeat (first | (with_reducible first | exact HB.out | apply below_alloc | apply pw_below_drewN | apply below_drew1 | refine below_set ?_ GE368.out | refine below_set ?_ GE388.out) | exact HB.out))) : w.heap.size ≤ gb390)); have n6_ := Aside0.mk ((by rw [hg]; exact Nat.ne_of_lt (blk_lt (g := gb368) (o := .cells #[.int .i64 a4_0, .int .i64 a4_1] 73 (0, 0)) (by (with_reducible repeat (first | refine blk_drewN ?_ _ | refine blk_drew ?_ | refine blk_alloc ?_ _)); exact BK368.out)) : gb368 ≠ gb390)); have n7_ := Aside0.mk ((by rw [hg]; exact Nat.ne_of_gt (blk_lt (g := gb368) (o := .cells #[.int .i64 a4_0, .int .i64 a4_1] 73 (0, 0)) (by (with_reducible repeat (first | refine blk_drewN ?_ _ | refine blk_drew ?_ | refine blk_alloc ?_ _)); exact BK368.out)) : gb390 ≠ gb368)); have n8_ := Aside0.mk ((by rw [hg]; exact Nat.ne_of_lt (blk_lt (g := gb388) (o := .cells #[.int .i64 ((rd_T65 l0 x127_4).f0), .int .i64 ((rd_T65 l0 x127_4).f1), .int .i64 ((rd_T65 l0 x127_4).f2), .int .i64 ((rd_T65 l0 x127_4).f3), .int .i64 ((rd_T65 l0 x127_4).f4), .bool ((rd_T65 l0 x127_4).f5)] 65 (0, 0)) (by (with_reducible repeat (first | refine blk_drewN ?_ _ | refine blk_drew ?_ | refine blk_alloc ?_ _)); exact BK388.out)) : gb388 ≠ gb390)); have n9_ := Aside0.mk ((by rw [hg]; exact Nat.ne_of_gt (blk_lt (g := gb388) (o := .cells #[.int .i64 ((rd_T65 l0 x127_4).f0), .int .i64 ((rd_T65 l0 x127_4).f1), .int .i64 ((rd_T65 l0 x127_4).f2), .int .i64 ((rd_T65 l0 x127_4).f3), .int .i64 ((rd_T65 l0 x127_4).f4), .bool ((rd_T65 l0 x127_4).f5)] 65 (0, 0)) (by (with_reducible repeat (first | refine blk_drewN ?_ _ | refine blk_drew ?_ | refine blk_alloc ?_ _)); exact BK388.out)) : gb390 ≠ gb388)); clear BK368; clear BK388; clear HB; have BK368 := n0_; have BK388 := n1_; have HB := n2_; have BK390 := n3_; have GW390 := n4_; have GE390 := n5_; have NB368_390 := n6_; have NB390_368 := n7_; have NB388_390 := n8_; have NB390_388 := n9_; clear n0_ n1_ n2_ n3_ n4_ n5_ n6_ n7_ n8_ n9_; clear hb hbox hg; have hnb115 := NB390_368.out; have hnc115 := NB368_390.out; have hnb116 := NB390_388.out; have hnc116 := NB388_390.out; have hcz117_0 : w114.cell? ⟨gb390, 0, none⟩ = some (.int .i64 0) := (blk_cell BK390.out 0).trans rfl; have hcz117_1 : w114.cell? ⟨gb390, 1, none⟩ = some (.int .i64 0) := (blk_cell BK390.out 1).trans rfl; have hcz117_2 : w114.cell? ⟨gb390, 2, none⟩ = some (.int .i64 0) := (blk_cell BK390.out 2).trans rfl; have hcz117_3 : w114.cell? ⟨gb390, 3, none⟩ = some (.int .i64 0) := (blk_cell BK390.out 3).trans rfl; have hcz117_4 : w114.cell? ⟨gb390, 4, none⟩ = some (.int .i64 0) := (blk_cell BK390.out 4).trans rfl; have hcz117_5 : w114.cell? ⟨gb390, 5, none⟩ = some (.bool false) := (blk_cell BK390.out 5).trans rfl; have hfz117_0 := blk_frozen BK390.out 0; have hfz117_1 := blk_frozen BK390.out 1; have hfz117_2 := blk_frozen BK390.out 2; have hfz117_3 := blk_frozen BK390.out 3; have hfz117_4 := blk_frozen BK390.out 4; have hfz117_5 := blk_frozen BK390.out 5))
                              go_roundg k6
                              case measure => have := HJ9.out; have := HJ32.out; have := HJ44.out; have := HK4.out; have := HJ61.out; have := HK6.out; omega
                              case rel => exact ⟨(false), (wrap64 (x149_6 + 1)), (by first | rfl | (simp; done) | (simp [*]; done)), (by first | rfl | (simp; done) | (simp [*]; done)), H', ⟨by have := HJ9.out; have := HJ32.out; have := HJ44.out; have := HK4.out; have := HJ61.out; have := HK6.out; omega⟩, ⟨by (with_reducible repeat (first | refine blk_drewN ?_ _ | refine blk_drew ?_ | refine blk_alloc ?_ _)); refine blk_far ?_ NB368_390.out _; (with_reducible repeat (first | refine blk_drewN ?_ _ | refine blk_drew ?_ | refine blk_alloc ?_ _)); refine blk_far ?_ NB368_390.out _; (with_reducible repeat (first | refine blk_drewN ?_ _ | refine blk_drew ?_ | refine blk_alloc ?_ _)); refine blk_far ?_ NB368_390.out _; (with_reducible repeat (first | refine blk_drewN ?_ _ | refine blk_drew ?_ | refine blk_alloc ?_ _)); refine blk_far ?_ NB368_390.out _; (with_reducible repeat (first | refine blk_drewN ?_ _ | refine blk_drew ?_ | refine blk_alloc ?_ _)); refine blk_far ?_ NB368_390.out _; (with_reducible repeat (first | refine blk_drewN ?_ _ | refine blk_drew ?_ | refine blk_alloc ?_ _)); refine blk_far ?_ NB368_390.out _; (with_reducible repeat (first | refine blk_drewN ?_ _ | refine blk_drew ?_ | refine blk_alloc ?_ _)); exact BK368.out⟩, ⟨by (with_reducible repeat (first | refine blk_drewN ?_ _ | refine blk_drew ?_ | refine blk_alloc ?_ _)); refine blk_far ?_ NB388_390.out _; (with_reducible repeat (first | refine blk_drewN ?_ _ | refine blk_drew ?_ | refine blk_alloc ?_ _)); refine blk_far ?_ NB388_390.out _; (with_reducible repeat (first | refine blk_drewN ?_ _ | refine blk_drew ?_ | refine blk_alloc ?_ _)); refine blk_far ?_ NB388_390.out _; (with_reducible repeat (first | refine blk_drewN ?_ _ | refine blk_drew ?_ | refine blk_alloc ?_ _)); refine blk_far ?_ NB388_390.out _; (with_reducible repeat (first | refine blk_drewN ?_ _ | refine blk_drew ?_ | refine blk_alloc ?_ _)); refine blk_far ?_ NB388_390.out _; (with_reducible repeat (first | refine blk_drewN ?_ _ | refine blk_drew ?_ | refine blk_alloc ?_ _)); refine blk_far ?_ NB388_390.out _; (with_reducible repeat (first | refine blk_drewN ?_ _ | refine blk_drew ?_ | refine blk_alloc ?_ _)); exact BK388.out⟩, ⟨by repeat (first | (with_reducible first | exact HB.out | apply below_alloc | apply pw_below_drewN | apply below_drew1 | refine below_set ?_ GE368.out | refine below_set ?_ GE388.out | refine below_set ?_ GE390.out) | exact HB.out)⟩⟩
                          · rw [if_neg c77] at H
                            exact absurd H (by simp)
                        · rw [if_neg c76] at H
                          exact absurd H (by simp)
                      · rw [if_neg c75] at H
                        have c75b0 : decide (x149_6 < (l0.length : Int)) = false := decide_eq_false c75
                        clear c75
                        by_cases c118 : x29_6 = true
                        · subst c118
                          have H1 : (if ((rd_T65 l0 x127_4).f5) = true then (signatorylaw48_DevicesOne.l0 k6 l0 a1 a5 a6 t375 t376 t377 (!((rd_T65 l0 x127_4).f5)) l0 (l0.length : Int) (wrap64 (x127_4 + 1))) else (if ((rd_T65 l0 x127_4).f0) = t375 then (if ((rd_T65 l0 x127_4).f4) = t376 then (signatorylaw48_DevicesOne.l0 k6 l0 a1 a5 a6 t375 t376 t377 (!((rd_T65 l0 x127_4).f5)) l0 (l0.length : Int) (wrap64 (x127_4 + 1))) else (some false)) else (some false))) = some r := by rw [if_pos rfl] at H; exact H
                          clear H
                          have H := H1
                          clear H1
                          by_cases c119 : ((rd_T65 l0 x127_4).f5) = true
                          · rw [if_pos c119] at H
                            have c119b0 : ((rd_T65 l0 x127_4).f5) = true := c119
                            clear c119
                            have H' := Aside0.mk H
                            clear H
                            have hnb120 := NB388_368.out
                            have hnc120 := NB368_388.out
                            have hcz121_0 : wr.cell? ⟨gb388, 0, none⟩ = some (.int .i64 ((rd_T65 l0 x127_4).f0)) := (blk_cell BK388.out 0).trans rfl
                            have hcz121_1 : wr.cell? ⟨gb388, 1, none⟩ = some (.int .i64 ((rd_T65 l0 x127_4).f1)) := (blk_cell BK388.out 1).trans rfl
                            have hcz121_2 : wr.cell? ⟨gb388, 2, none⟩ = some (.int .i64 ((rd_T65 l0 x127_4).f2)) := (blk_cell BK388.out 2).trans rfl
                            have hcz121_3 : wr.cell? ⟨gb388, 3, none⟩ = some (.int .i64 ((rd_T65 l0 x127_4).f3)) := (blk_cell BK388.out 3).trans rfl
                            have hcz121_4 : wr.cell? ⟨gb388, 4, none⟩ = some (.int .i64 ((rd_T65 l0 x127_4).f4)) := (blk_cell BK388.out 4).trans rfl
                            have hcz121_5 : wr.cell? ⟨gb388, 5, none⟩ = some (.bool ((rd_T65 l0 x127_4).f5)) := (blk_cell BK388.out 5).trans rfl
                            have hfz121_0 := blk_frozen BK388.out 0
                            have hfz121_1 := blk_frozen BK388.out 1
                            have hfz121_2 := blk_frozen BK388.out 2
                            have hfz121_3 := blk_frozen BK388.out 3
                            have hfz121_4 := blk_frozen BK388.out 4
                            have hfz121_5 := blk_frozen BK388.out 5
                            go_wp2
                            go_roundg k6
                            case measure => have := HJ9.out; have := HJ32.out; have := HJ44.out; have := HK4.out; have := HJ61.out; have := HK6.out; omega
                            case rel => exact ⟨(!((rd_T65 l0 x127_4).f5)), (wrap64 (x127_4 + 1)), (by first | rfl | (simp; done) | (simp [*]; done)), (by first | rfl | (simp; done) | (simp [*]; done)), H', ⟨by have := HJ9.out; have := HJ32.out; have := HJ44.out; have := HK4.out; have := HJ61.out; have := HK6.out; omega⟩, ⟨by (with_reducible repeat (first | refine blk_drewN ?_ _ | refine blk_drew ?_ | refine blk_alloc ?_ _)); exact BK368.out⟩, ⟨by repeat (first | (with_reducible first | exact HB.out | apply below_alloc | apply pw_below_drewN | apply below_drew1 | refine below_set ?_ GE368.out | refine below_set ?_ GE388.out) | exact HB.out)⟩⟩
                          · rw [if_neg c119] at H
                            have c119b0 : ((rd_T65 l0 x127_4).f5) = false := by simpa using c119
                            clear c119
                            by_cases c122 : ((rd_T65 l0 x127_4).f0) = t375
                            · rw [if_pos c122] at H
                              have c122b0 : (((rd_T65 l0 x127_4).f0) == t375) = true := beq_iff_eq.mpr c122
                              have c122b1 : (((rd_T65 l0 x127_4).f0) != t375) = false := bne_eq_false_iff_eq.mpr c122
                              clear c122
                              by_cases c123 : ((rd_T65 l0 x127_4).f4) = t376
                              · rw [if_pos c123] at H
                                have c123b0 : (((rd_T65 l0 x127_4).f4) == t376) = true := beq_iff_eq.mpr c123
                                have c123b1 : (((rd_T65 l0 x127_4).f4) != t376) = false := bne_eq_false_iff_eq.mpr c123
                                clear c123
                                have H' := Aside0.mk H
                                clear H
                                have hnb124 := NB388_368.out
                                have hnc124 := NB368_388.out
                                have hcz125_0 : wr.cell? ⟨gb388, 0, none⟩ = some (.int .i64 ((rd_T65 l0 x127_4).f0)) := (blk_cell BK388.out 0).trans rfl
                                have hcz125_1 : wr.cell? ⟨gb388, 1, none⟩ = some (.int .i64 ((rd_T65 l0 x127_4).f1)) := (blk_cell BK388.out 1).trans rfl
                                have hcz125_2 : wr.cell? ⟨gb388, 2, none⟩ = some (.int .i64 ((rd_T65 l0 x127_4).f2)) := (blk_cell BK388.out 2).trans rfl
                                have hcz125_3 : wr.cell? ⟨gb388, 3, none⟩ = some (.int .i64 ((rd_T65 l0 x127_4).f3)) := (blk_cell BK388.out 3).trans rfl
                                have hcz125_4 : wr.cell? ⟨gb388, 4, none⟩ = some (.int .i64 ((rd_T65 l0 x127_4).f4)) := (blk_cell BK388.out 4).trans rfl
                                have hcz125_5 : wr.cell? ⟨gb388, 5, none⟩ = some (.bool ((rd_T65 l0 x127_4).f5)) := (blk_cell BK388.out 5).trans rfl
                                have hfz125_0 := blk_frozen BK388.out 0
                                have hfz125_1 := blk_frozen BK388.out 1
                                have hfz125_2 := blk_frozen BK388.out 2
                                have hfz125_3 := blk_frozen BK388.out 3
                                have hfz125_4 := blk_frozen BK388.out 4
                                have hfz125_5 := blk_frozen BK388.out 5
                                go_wp2
                                go_roundg k6
                                case measure => have := HJ9.out; have := HJ32.out; have := HJ44.out; have := HK4.out; have := HJ61.out; have := HK6.out; omega
                                case rel => exact ⟨(!((rd_T65 l0 x127_4).f5)), (wrap64 (x127_4 + 1)), (by first | rfl | (simp; done) | (simp [*]; done)), (by first | rfl | (simp; done) | (simp [*]; done)), H', ⟨by have := HJ9.out; have := HJ32.out; have := HJ44.out; have := HK4.out; have := HJ61.out; have := HK6.out; omega⟩, ⟨by (with_reducible repeat (first | refine blk_drewN ?_ _ | refine blk_drew ?_ | refine blk_alloc ?_ _)); exact BK368.out⟩, ⟨by repeat (first | (with_reducible first | exact HB.out | apply below_alloc | apply pw_below_drewN | apply below_drew1 | refine below_set ?_ GE368.out | refine below_set ?_ GE388.out) | exact HB.out)⟩⟩
                              · rw [if_neg c123] at H
                                have c123b0 : (((rd_T65 l0 x127_4).f4) == t376) = false := beq_eq_false_iff_ne.mpr c123
                                have c123b1 : (((rd_T65 l0 x127_4).f4) != t376) = true := bne_iff_ne.mpr c123
                                obtain rfl := Option.some.inj H
                                have hnb126 := NB388_368.out
                                have hnc126 := NB368_388.out
                                have hcz127_0 : wr.cell? ⟨gb388, 0, none⟩ = some (.int .i64 ((rd_T65 l0 x127_4).f0)) := (blk_cell BK388.out 0).trans rfl
                                have hcz127_1 : wr.cell? ⟨gb388, 1, none⟩ = some (.int .i64 ((rd_T65 l0 x127_4).f1)) := (blk_cell BK388.out 1).trans rfl
                                have hcz127_2 : wr.cell? ⟨gb388, 2, none⟩ = some (.int .i64 ((rd_T65 l0 x127_4).f2)) := (blk_cell BK388.out 2).trans rfl
                                have hcz127_3 : wr.cell? ⟨gb388, 3, none⟩ = some (.int .i64 ((rd_T65 l0 x127_4).f3)) := (blk_cell BK388.out 3).trans rfl
                                have hcz127_4 : wr.cell? ⟨gb388, 4, none⟩ = some (.int .i64 ((rd_T65 l0 x127_4).f4)) := (blk_cell BK388.out 4).trans rfl
                                have hcz127_5 : wr.cell? ⟨gb388, 5, none⟩ = some (.bool ((rd_T65 l0 x127_4).f5)) := (blk_cell BK388.out 5).trans rfl
                                have hfz127_0 := blk_frozen BK388.out 0
                                have hfz127_1 := blk_frozen BK388.out 1
                                have hfz127_2 := blk_frozen BK388.out 2
                                have hfz127_3 := blk_frozen BK388.out 3
                                have hfz127_4 := blk_frozen BK388.out 4
                                have hfz127_5 := blk_frozen BK388.out 5
                                go_wp2
                                go_ret
                                exact ⟨by first | rfl | (simp [errW_none, errW_some] <;> rfl) | (simp [*, errW_none, errW_some] <;> rfl), by repeat (first | (with_reducible first | exact HB.out | apply below_alloc | apply pw_below_drewN | apply below_drew1 | refine below_set ?_ GE368.out | refine below_set ?_ GE388.out) | exact HB.out)⟩
                            · rw [if_neg c122] at H
                              have c122b0 : (((rd_T65 l0 x127_4).f0) == t375) = false := beq_eq_false_iff_ne.mpr c122
                              have c122b1 : (((rd_T65 l0 x127_4).f0) != t375) = true := bne_iff_ne.mpr c122
                              obtain rfl := Option.some.inj H
                              have hnb128 := NB388_368.out
                              have hnc128 := NB368_388.out
                              have hcz129_0 : wr.cell? ⟨gb388, 0, none⟩ = some (.int .i64 ((rd_T65 l0 x127_4).f0)) := (blk_cell BK388.out 0).trans rfl
                              have hcz129_1 : wr.cell? ⟨gb388, 1, none⟩ = some (.int .i64 ((rd_T65 l0 x127_4).f1)) := (blk_cell BK388.out 1).trans rfl
                              have hcz129_2 : wr.cell? ⟨gb388, 2, none⟩ = some (.int .i64 ((rd_T65 l0 x127_4).f2)) := (blk_cell BK388.out 2).trans rfl
                              have hcz129_3 : wr.cell? ⟨gb388, 3, none⟩ = some (.int .i64 ((rd_T65 l0 x127_4).f3)) := (blk_cell BK388.out 3).trans rfl
                              have hcz129_4 : wr.cell? ⟨gb388, 4, none⟩ = some (.int .i64 ((rd_T65 l0 x127_4).f4)) := (blk_cell BK388.out 4).trans rfl
                              have hcz129_5 : wr.cell? ⟨gb388, 5, none⟩ = some (.bool ((rd_T65 l0 x127_4).f5)) := (blk_cell BK388.out 5).trans rfl
                              have hfz129_0 := blk_frozen BK388.out 0
                              have hfz129_1 := blk_frozen BK388.out 1
                              have hfz129_2 := blk_frozen BK388.out 2
                              have hfz129_3 := blk_frozen BK388.out 3
                              have hfz129_4 := blk_frozen BK388.out 4
                              have hfz129_5 := blk_frozen BK388.out 5
                              go_wp2
                              go_ret
                              exact ⟨by first | rfl | (simp [errW_none, errW_some] <;> rfl) | (simp [*, errW_none, errW_some] <;> rfl), by repeat (first | (with_reducible first | exact HB.out | apply below_alloc | apply pw_below_drewN | apply below_drew1 | refine below_set ?_ GE368.out | refine below_set ?_ GE388.out) | exact HB.out)⟩
                        · replace c118 := Bool.eq_false_iff.mpr c118
                          subst c118
                          have H1 : (signatorylaw48_DevicesOne.l0 k6 l0 a1 a5 a6 t375 t376 t377 x26_4 l0 (l0.length : Int) (wrap64 (x127_4 + 1))) = some r := by rw [if_neg (show ¬ (false = true) by decide)] at H; exact H
                          clear H
                          have H := H1
                          clear H1
                          have H' := Aside0.mk H
                          clear H
                          go_wp2
                          go_roundg k6
                          case measure => have := HJ9.out; have := HJ32.out; have := HJ44.out; have := HK4.out; have := HJ61.out; have := HK6.out; omega
                          case rel => exact ⟨(x26_4), (wrap64 (x127_4 + 1)), (by first | rfl | (simp; done) | (simp [*]; done)), (by first | rfl | (simp; done) | (simp [*]; done)), H', ⟨by have := HJ9.out; have := HJ32.out; have := HJ44.out; have := HK4.out; have := HJ61.out; have := HK6.out; omega⟩, ⟨by (with_reducible repeat (first | refine blk_drewN ?_ _ | refine blk_drew ?_ | refine blk_alloc ?_ _)); exact BK368.out⟩, ⟨by repeat (first | (with_reducible first | exact HB.out | apply below_alloc | apply pw_below_drewN | apply below_drew1 | refine below_set ?_ GE368.out | refine below_set ?_ GE388.out) | exact HB.out)⟩⟩
          · rw [if_neg c61] at H
            exact absurd H (by simp)
        · rw [if_neg c60] at H
          exact absurd H (by simp)
      · rw [if_neg c59] at H
        have c59b0 : decide (x127_4 < (l0.length : Int)) = false := decide_eq_false c59
        clear c59
        obtain rfl := Option.some.inj H
        go_wp2
        go_ret
        exact ⟨by first | rfl | (simp [errW_none, errW_some] <;> rfl) | (simp [*, errW_none, errW_some] <;> rfl), by repeat (first | (with_reducible first | exact HB.out | apply below_alloc | apply pw_below_drewN | apply below_drew1 | refine below_set ?_ GE368.out) | exact HB.out)⟩
end Go.Proofs.YtjbcfdgnafmbkaaDoor.PBig
end
