/- Lemmas, walks and printed functions for the claim. -/
import Derived.Test.YtjbcfdgnafmbkaaDoorSDOM31
section
namespace Go.Proofs.YtjbcfdgnafmbkaaDoor.PBig
open Go.RowKit Go.Proofs.YtjbcfdgnafmbkaaDoorW.PrintWords Go.Proofs.YtjbcfdgnafmbkaaDoorW.PrintLast Go.Proofs.YtjbcfdgnafmbkaaDoorW.PrintMore
attribute [local go_sem] max2_int min2_int max_two min_two max_three min_three max_four min_four
set_option linter.unusedVariables false
set_option linter.unusedSimpArgs false
set_option maxHeartbeats 8000000 in
set_option maxRecDepth 100000 in
theorem signatorylaw48_DevicesOne.calls (k : Nat) (A0 : Option Addr) (c0 : Nat) (l0 : List (S65)) (a1 : Int) (a2 : Int) (A3 : Option Addr) (c3 : Nat) (l3 : List Int) (a4_0 : Int) (a4_1 : Int) (a5 : Int) (a6 : Int) (r : Bool) (w : World) (hLd : Go.Proofs.YtjbcfdgnafmbkaaDoor.Sha.Laid w) (hr0 : Kd.C k65 w A0 l0.length l0) (hc0 : l0.length ≤ c0) (hr3 : Kd.C (Kd.int .u8) w A3 l3.length l3) (hc3 : l3.length ≤ c3) (h : signatorylaw48_DevicesOne.f k l0 a1 a2 l3 a4_0 a4_1 a5 a6 = some r) :
    Calls Tryd.prog 12 #[.slice A0 l0.length c0, .int .i64 a1, .int .i64 a2, .slice A3 l3.length c3, .agg #[.int .i64 a4_0, .int .i64 a4_1], .int .i64 a5, .int .i64 a6] w fun e w' => e = .returned (.bool r) ∧ Below w.heap.size w w' := by
  have HLd := Aside0.mk hLd
  clear hLd
  have hu73 := Tryd.underlying73
  have hu65 := Tryd.underlying65
  have HR0 := Aside0.mk hr0
  have HC0 := Aside0.mk hc0
  clear hr0 hc0
  have HR3 := Aside0.mk hr3
  have HC3 := Aside0.mk hc3
  clear hr3 hc3
  have HB := Aside0.mk (Below.refl w.heap.size w)
  have H : ((signatorylaw48_sane.f k).bind fun t369 => (if t369 = true then ((signatorylaw48_right.f k l0 a1 (([a5, a6] : List Int))).bind fun t373 => (if t373 = true then ((signatoryref48_Person.f a2).bind fun t374 => (if t374 = true then (signatorylaw48_DevicesOne.j0 k l0 a1 a2 l3 a5 a6 (decide ((l3.length : Int) > 200)) a4_0 a4_1) else (signatorylaw48_DevicesOne.j0 k l0 a1 a2 l3 a5 a6 true a4_0 a4_1))) else (signatorylaw48_DevicesOne.j0 k l0 a1 a2 l3 a5 a6 true a4_0 a4_1))) else (some false))) = some r := h
  clear h
  replace H := Option.bind_eq_some_iff.mp H
  obtain ⟨t369, A80, H⟩ := H
  replace H : (if t369 = true then ((signatorylaw48_right.f k l0 a1 (([a5, a6] : List Int))).bind fun t373 => (if t373 = true then ((signatoryref48_Person.f a2).bind fun t374 => (if t374 = true then (signatorylaw48_DevicesOne.j0 k l0 a1 a2 l3 a5 a6 (decide ((l3.length : Int) > 200)) a4_0 a4_1) else (signatorylaw48_DevicesOne.j0 k l0 a1 a2 l3 a5 a6 true a4_0 a4_1))) else (signatorylaw48_DevicesOne.j0 k l0 a1 a2 l3 a5 a6 true a4_0 a4_1))) else (some false)) = some r := H
  have A8 := Aside0.mk A80
  clear A80
  by_cases c9 : t369 = true
  · subst c9
    have H1 : ((signatorylaw48_right.f k l0 a1 (([a5, a6] : List Int))).bind fun t373 => (if t373 = true then ((signatoryref48_Person.f a2).bind fun t374 => (if t374 = true then (signatorylaw48_DevicesOne.j0 k l0 a1 a2 l3 a5 a6 (decide ((l3.length : Int) > 200)) a4_0 a4_1) else (signatorylaw48_DevicesOne.j0 k l0 a1 a2 l3 a5 a6 true a4_0 a4_1))) else (signatorylaw48_DevicesOne.j0 k l0 a1 a2 l3 a5 a6 true a4_0 a4_1))) = some r := by rw [if_pos rfl] at H; exact H
    clear H
    have H := H1
    clear H1
    have HC10 := Aside0.mk H
    clear H
    go_enter Tryd.func12, Tryd.ntmps12
    go_upto_region 3 with (first | ((with_reducible refine gate_dst (N := 11) rfl ?_); (try (refine gate_guard (by rfl) ?_; dsimp only)); refine box_event ?hg (N := 11) ?hd (cs := #[.int .i64 a4_0, .int .i64 a4_1]) (t := 73) ?hr ?_; (case hd => rfl); (case hg => rfl); (case hr => first | (go_simp; done) | (go_simp; rfl)); intro gb368 hg w11 hbox hb; have n0_ := Aside0.mk (below_step (by repeat (first | (with_reducible first | exact HB.out | apply below_alloc | apply pw_below_drewN | apply below_drew1) | exact HB.out)) hb); have n1_ := Aside0.mk (hbox); have n2_ := Aside0.mk ((by rw [hg]; exact (below_size (by repeat (first | (with_reducible first | exact HB.out | apply below_alloc | apply pw_below_drewN | apply below_drew1) | exact HB.out))) : w.heap.size ≤ gb368)); have n3_ := Aside0.mk ((by rw [hg]; exact (below_size (by repeat (first | (with_reducible first | exact HB.out | apply below_alloc | apply pw_below_drewN | apply below_drew1) | exact HB.out))) : w.heap.size ≤ gb368)); clear HB; have HB := n0_; have BK368 := n1_; have GW368 := n2_; have GE368 := n3_; clear n0_ n1_ n2_ n3_; clear hb hbox hg) | ((with_reducible refine gate_callee (f := 40) rfl ?_); refine goesL_ (some 32) rfl rfl Tryd.func40 (by kernel_rfl) rfl #[] rfl (by (try simp only [List.map_toArray, List.map_cons, List.map_nil]); first | done | rfl | (simp only [List.length_drop, List.length_take]; rfl)) ?_; (with_reducible refine (signatorylaw48_sane.calls (hLd := ?sideL) k  true _ A8.out).mono ?_); (case sideL => exact Go.Proofs.YtjbcfdgnafmbkaaDoor.Cod.Laid.below HLd.out (by repeat (first | (with_reducible first | exact HB.out | apply below_alloc | apply pw_below_drewN | apply below_drew1 | refine below_set ?_ GE368.out) | exact HB.out))); rintro e w12 ⟨rfl, hb⟩; refine ⟨_, rfl, ?_⟩; have n0_ := Aside0.mk (blk_below (g := gb368) (o := .cells #[.int .i64 a4_0, .int .i64 a4_1] 73 (0, 0)) (by (with_reducible repeat (first | refine blk_drewN ?_ _ | refine blk_drew ?_ | refine blk_alloc ?_ _)); exact BK368.out) hb); have n1_ := Aside0.mk (below_step (by repeat (first | (with_reducible first | exact HB.out | apply below_alloc | apply pw_below_drewN | apply below_drew1 | refine below_set ?_ GE368.out) | exact HB.out)) hb); clear BK368; clear HB; have BK368 := n0_; have HB := n1_; clear n0_ n1_; (try clear hb); (try clear hb2); (try clear hk); (try clear hi)))
    (try simp only [Act.put, List.setIfInBounds_toArray, List.set_cons_zero, List.set_cons_succ])
    go_cut [50] (fun v50 wc => ∃ (kq : Nat) (x50_9 : Bool), v50 = .bool x50_9 ∧ Aside0 (signatorylaw48_DevicesOne.j0 kq l0 a1 a2 l3 a5 a6 x50_9 a4_0 a4_1 = some r) ∧ Aside0 (kq ≤ k) ∧ Aside0 (wc.heap[gb368]? = some (.cells #[.int .i64 a4_0, .int .i64 a4_1] 73 (0, 0))) ∧ Aside0 (Below w.heap.size w wc))
    case first =>
      have H := HC10.out
      clear HC10
      obtain ⟨y370, hy370⟩ : ∃ y_ : List Int, y_ = (([a5, a6] : List Int)) := ⟨_, rfl⟩
      replace H : ((signatorylaw48_right.f k l0 a1 y370).bind fun t373 => (if t373 = true then ((signatoryref48_Person.f a2).bind fun t374 => (if t374 = true then (signatorylaw48_DevicesOne.j0 k l0 a1 a2 l3 a5 a6 (decide ((l3.length : Int) > 200)) a4_0 a4_1) else (signatorylaw48_DevicesOne.j0 k l0 a1 a2 l3 a5 a6 true a4_0 a4_1))) else (signatorylaw48_DevicesOne.j0 k l0 a1 a2 l3 a5 a6 true a4_0 a4_1))) = some r := by first | (rw [hy370]; with_reducible exact H) | (have H2_ := (Option.bind_some _ _).symm.trans H; rw [hy370]; with_reducible exact H2_) | (have H2_ := (Option.bind_some _ _).symm.trans H; with_reducible exact H2_) | with_reducible exact H | (rw [hy370]; exact H) | exact H
      have Ny370 := Aside0.mk hy370
      clear hy370
      replace H := Option.bind_eq_some_iff.mp H
      obtain ⟨t373, A130, H⟩ := H
      replace H : (if t373 = true then ((signatoryref48_Person.f a2).bind fun t374 => (if t374 = true then (signatorylaw48_DevicesOne.j0 k l0 a1 a2 l3 a5 a6 (decide ((l3.length : Int) > 200)) a4_0 a4_1) else (signatorylaw48_DevicesOne.j0 k l0 a1 a2 l3 a5 a6 true a4_0 a4_1))) else (signatorylaw48_DevicesOne.j0 k l0 a1 a2 l3 a5 a6 true a4_0 a4_1)) = some r := H
      have A13 := Aside0.mk A130
      clear A130
      by_cases c14 : t373 = true
      · subst c14
        have H1 : ((signatoryref48_Person.f a2).bind fun t374 => (if t374 = true then (signatorylaw48_DevicesOne.j0 k l0 a1 a2 l3 a5 a6 (decide ((l3.length : Int) > 200)) a4_0 a4_1) else (signatorylaw48_DevicesOne.j0 k l0 a1 a2 l3 a5 a6 true a4_0 a4_1))) = some r := by rw [if_pos rfl] at H; exact H
        clear H
        have H := H1
        clear H1
        replace H := Option.bind_eq_some_iff.mp H
        obtain ⟨t374, A150, H⟩ := H
        replace H : (if t374 = true then (signatorylaw48_DevicesOne.j0 k l0 a1 a2 l3 a5 a6 (decide ((l3.length : Int) > 200)) a4_0 a4_1) else (signatorylaw48_DevicesOne.j0 k l0 a1 a2 l3 a5 a6 true a4_0 a4_1)) = some r := H
        have A15 := Aside0.mk A150
        clear A150
        by_cases c16 : t374 = true
        · subst c16
          have H1 : (signatorylaw48_DevicesOne.j0 k l0 a1 a2 l3 a5 a6 (decide ((l3.length : Int) > 200)) a4_0 a4_1) = some r := by rw [if_pos rfl] at H; exact H
          clear H
          have H := H1
          clear H1
          have H' := Aside0.mk H
          clear H
          go_wp2_with (first | ((with_reducible refine gate_dst (N := 38) rfl ?_); (try (refine gate_guard (by rfl) ?_; dsimp only)); refine Kd.R_lit (Kd.int .i64) _ 3 ?hg (N := 38) ?hd (xs := ([a5, a6] : List Int)) (inner := [.int .i64 a5, .int .i64 a6]) (ok := fun _ => True) (okp := fun _ => True) ?hr ?hp (fun _ hk => hk) trivial (Below.refl _ _) (Nat.le_refl _) (by simp) ?_; (case hd => rfl); (case hg => rfl); (case hr => first | (go_simp; done) | (go_simp; rfl)); (case hp => exact (Reps.one (show Kd.M (Kd.int .i64) _ _ _ a5 [.int .i64 a5] from rfl) (Reps.one (show Kd.M (Kd.int .i64) _ _ _ a6 [.int .i64 a6] from rfl) (Reps.none _ _)))); intro v371 w17 ho18 hb hg_ hnew_; clear hg_ hnew_; (first | rw [← Ny370.out] at ho18 | (simp only [Int.reduceToNat] at ho18; rw [← Ny370.out] at ho18)); have n0_ := Aside0.mk (Kd.R_lower ho18 (below_size (by repeat (first | (with_reducible first | exact HB.out | apply below_alloc | apply pw_below_drewN | apply below_drew1 | refine below_set ?_ GE368.out) | exact HB.out)))); have n1_ := Aside0.mk (blk_below (g := gb368) (o := .cells #[.int .i64 a4_0, .int .i64 a4_1] 73 (0, 0)) (by (with_reducible repeat (first | refine blk_drewN ?_ _ | refine blk_drew ?_ | refine blk_alloc ?_ _)); exact BK368.out) hb); have n2_ := Aside0.mk (below_step (by repeat (first | (with_reducible first | exact HB.out | apply below_alloc | apply pw_below_drewN | apply below_drew1 | refine below_set ?_ GE368.out) | exact HB.out)) hb); clear BK368; clear HB; have HO372 := n0_; have BK368 := n1_; have HB := n2_; clear n0_ n1_ n2_; clear hb ho18; obtain ⟨Ao19, co19, eo19⟩ := Kd.R_slice HO372.out; subst eo19) | ((with_reducible refine gate_callee (f := 51) rfl ?_); refine goesL_ (some 39) rfl rfl Tryd.func51 (by kernel_rfl) rfl #[.slice A0 l0.length c0, .int .i64 a1, .slice Ao19 y370.length co19] rfl (by (try simp only [List.map_toArray, List.map_cons, List.map_nil]); first | done | rfl | (simp only [List.length_drop, List.length_take]; rfl)) ?_; (with_reducible refine (signatorylaw48_right.calls k _ _ l0 a1 _ _ y370 true _ ?side1 ?side2 ?side3 ?side4 A13.out).mono ?_); (case side1 => repeat (first | exact (Kd.C_below HR0.out HB.out) | (with_reducible refine Kd.C_alloc ?_ _) | (with_reducible refine Kd.C_drewN ?_ _) | (with_reducible refine Kd.C_drew ?_))); (case side2 => exact HC0.out); (case side3 => repeat (first | exact (Kd.R_reads' HO372.out).2.2 | (with_reducible refine Kd.C_alloc ?_ _) | (with_reducible refine Kd.C_drewN ?_ _) | (with_reducible refine Kd.C_drew ?_))); (case side4 => exact (Kd.R_reads' HO372.out).2.1); rintro e w20 ⟨rfl, hb⟩; refine ⟨_, rfl, ?_⟩; have n0_ := Aside0.mk (Kd.R_below (by (with_reducible repeat (first | apply Kd.R_alloc | apply Kd.R_drewN | apply Kd.R_drew)); exact HO372.out) hb); have n1_ := Aside0.mk (blk_below (g := gb368) (o := .cells #[.int .i64 a4_0, .int .i64 a4_1] 73 (0, 0)) (by (with_reducible repeat (first | refine blk_drewN ?_ _ | refine blk_drew ?_ | refine blk_alloc ?_ _)); exact BK368.out) hb); have n2_ := Aside0.mk (below_step (by repeat (first | (with_reducible first | exact HB.out | apply below_alloc | apply pw_below_drewN | apply below_drew1 | refine below_set ?_ GE368.out) | exact HB.out)) hb); clear HO372; clear BK368; clear HB; have HO372 := n0_; have BK368 := n1_; have HB := n2_; clear n0_ n1_ n2_; (try clear hb); (try clear hb2); (try clear hk); (try clear hi)) | (go_at_call 52; (with_reducible refine (signatoryref48_Person.calls a2 true _ A15.out).mono ?_); rintro e w' ⟨rfl, ⟨nd, rfl⟩⟩))
          go_meet
          case rel => exact ⟨_, (decide ((l3.length : Int) > 200)), (by first | rfl | (simp; done) | (simp [*]; done)), H', ⟨by first | omega | exact Nat.le_refl _⟩, ⟨by (with_reducible repeat (first | refine blk_drewN ?_ _ | refine blk_drew ?_ | refine blk_alloc ?_ _)); exact BK368.out⟩, ⟨by repeat (first | (with_reducible first | exact HB.out | apply below_alloc | apply pw_below_drewN | apply below_drew1 | refine below_set ?_ GE368.out) | exact HB.out)⟩⟩
        · replace c16 := Bool.eq_false_iff.mpr c16
          subst c16
          have H1 : (signatorylaw48_DevicesOne.j0 k l0 a1 a2 l3 a5 a6 true a4_0 a4_1) = some r := by rw [if_neg (show ¬ (false = true) by decide)] at H; exact H
          clear H
          have H := H1
          clear H1
          have H' := Aside0.mk H
          clear H
          go_wp2_with (first | ((with_reducible refine gate_dst (N := 38) rfl ?_); (try (refine gate_guard (by rfl) ?_; dsimp only)); refine Kd.R_lit (Kd.int .i64) _ 3 ?hg (N := 38) ?hd (xs := ([a5, a6] : List Int)) (inner := [.int .i64 a5, .int .i64 a6]) (ok := fun _ => True) (okp := fun _ => True) ?hr ?hp (fun _ hk => hk) trivial (Below.refl _ _) (Nat.le_refl _) (by simp) ?_; (case hd => rfl); (case hg => rfl); (case hr => first | (go_simp; done) | (go_simp; rfl)); (case hp => exact (Reps.one (show Kd.M (Kd.int .i64) _ _ _ a5 [.int .i64 a5] from rfl) (Reps.one (show Kd.M (Kd.int .i64) _ _ _ a6 [.int .i64 a6] from rfl) (Reps.none _ _)))); intro v371 w21 ho22 hb hg_ hnew_; clear hg_ hnew_; (first | rw [← Ny370.out] at ho22 | (simp only [Int.reduceToNat] at ho22; rw [← Ny370.out] at ho22)); have n0_ := Aside0.mk (Kd.R_lower ho22 (below_size (by repeat (first | (with_reducible first | exact HB.out | apply below_alloc | apply pw_below_drewN | apply below_drew1 | refine below_set ?_ GE368.out) | exact HB.out)))); have n1_ := Aside0.mk (blk_below (g := gb368) (o := .cells #[.int .i64 a4_0, .int .i64 a4_1] 73 (0, 0)) (by (with_reducible repeat (first | refine blk_drewN ?_ _ | refine blk_drew ?_ | refine blk_alloc ?_ _)); exact BK368.out) hb); have n2_ := Aside0.mk (below_step (by repeat (first | (with_reducible first | exact HB.out | apply below_alloc | apply pw_below_drewN | apply below_drew1 | refine below_set ?_ GE368.out) | exact HB.out)) hb); clear BK368; clear HB; have HO372 := n0_; have BK368 := n1_; have HB := n2_; clear n0_ n1_ n2_; clear hb ho22; obtain ⟨Ao23, co23, eo23⟩ := Kd.R_slice HO372.out; subst eo23) | ((with_reducible refine gate_callee (f := 51) rfl ?_); refine goesL_ (some 39) rfl rfl Tryd.func51 (by kernel_rfl) rfl #[.slice A0 l0.length c0, .int .i64 a1, .slice Ao23 y370.length co23] rfl (by (try simp only [List.map_toArray, List.map_cons, List.map_nil]); first | done | rfl | (simp only [List.length_drop, List.length_take]; rfl)) ?_; (with_reducible refine (signatorylaw48_right.calls k _ _ l0 a1 _ _ y370 true _ ?side1 ?side2 ?side3 ?side4 A13.out).mono ?_); (case side1 => repeat (first | exact (Kd.C_below HR0.out HB.out) | (with_reducible refine Kd.C_alloc ?_ _) | (with_reducible refine Kd.C_drewN ?_ _) | (with_reducible refine Kd.C_drew ?_))); (case side2 => exact HC0.out); (case side3 => repeat (first | exact (Kd.R_reads' HO372.out).2.2 | (with_reducible refine Kd.C_alloc ?_ _) | (with_reducible refine Kd.C_drewN ?_ _) | (with_reducible refine Kd.C_drew ?_))); (case side4 => exact (Kd.R_reads' HO372.out).2.1); rintro e w24 ⟨rfl, hb⟩; refine ⟨_, rfl, ?_⟩; have n0_ := Aside0.mk (Kd.R_below (by (with_reducible repeat (first | apply Kd.R_alloc | apply Kd.R_drewN | apply Kd.R_drew)); exact HO372.out) hb); have n1_ := Aside0.mk (blk_below (g := gb368) (o := .cells #[.int .i64 a4_0, .int .i64 a4_1] 73 (0, 0)) (by (with_reducible repeat (first | refine blk_drewN ?_ _ | refine blk_drew ?_ | refine blk_alloc ?_ _)); exact BK368.out) hb); have n2_ := Aside0.mk (below_step (by repeat (first | (with_reducible first | exact HB.out | apply below_alloc | apply pw_below_drewN | apply below_drew1 | refine below_set ?_ GE368.out) | exact HB.out)) hb); clear HO372; clear BK368; clear HB; have HO372 := n0_; have BK368 := n1_; have HB := n2_; clear n0_ n1_ n2_; (try clear hb); (try clear hb2); (try clear hk); (try clear hi)) | (go_at_call 52; (with_reducible refine (signatoryref48_Person.calls a2 false _ A15.out).mono ?_); rintro e w' ⟨rfl, ⟨nd, rfl⟩⟩))
          go_meet
          case rel => exact ⟨_, (true), (by first | rfl | (simp; done) | (simp [*]; done)), H', ⟨by first | omega | exact Nat.le_refl _⟩, ⟨by (with_reducible repeat (first | refine blk_drewN ?_ _ | refine blk_drew ?_ | refine blk_alloc ?_ _)); exact BK368.out⟩, ⟨by repeat (first | (with_reducible first | exact HB.out | apply below_alloc | apply pw_below_drewN | apply below_drew1 | refine below_set ?_ GE368.out) | exact HB.out)⟩⟩
      · replace c14 := Bool.eq_false_iff.mpr c14
        subst c14
        have H1 : (signatorylaw48_DevicesOne.j0 k l0 a1 a2 l3 a5 a6 true a4_0 a4_1) = some r := by rw [if_neg (show ¬ (false = true) by decide)] at H; exact H
        clear H
        have H := H1
        clear H1
        have H' := Aside0.mk H
        clear H
        go_wp2_with (first | ((with_reducible refine gate_dst (N := 38) rfl ?_); (try (refine gate_guard (by rfl) ?_; dsimp only)); refine Kd.R_lit (Kd.int .i64) _ 3 ?hg (N := 38) ?hd (xs := ([a5, a6] : List Int)) (inner := [.int .i64 a5, .int .i64 a6]) (ok := fun _ => True) (okp := fun _ => True) ?hr ?hp (fun _ hk => hk) trivial (Below.refl _ _) (Nat.le_refl _) (by simp) ?_; (case hd => rfl); (case hg => rfl); (case hr => first | (go_simp; done) | (go_simp; rfl)); (case hp => exact (Reps.one (show Kd.M (Kd.int .i64) _ _ _ a5 [.int .i64 a5] from rfl) (Reps.one (show Kd.M (Kd.int .i64) _ _ _ a6 [.int .i64 a6] from rfl) (Reps.none _ _)))); intro v371 w25 ho26 hb hg_ hnew_; clear hg_ hnew_; (first | rw [← Ny370.out] at ho26 | (simp only [Int.reduceToNat] at ho26; rw [← Ny370.out] at ho26)); have n0_ := Aside0.mk (Kd.R_lower ho26 (below_size (by repeat (first | (with_reducible first | exact HB.out | apply below_alloc | apply pw_below_drewN | apply below_drew1 | refine below_set ?_ GE368.out) | exact HB.out)))); have n1_ := Aside0.mk (blk_below (g := gb368) (o := .cells #[.int .i64 a4_0, .int .i64 a4_1] 73 (0, 0)) (by (with_reducible repeat (first | refine blk_drewN ?_ _ | refine blk_drew ?_ | refine blk_alloc ?_ _)); exact BK368.out) hb); have n2_ := Aside0.mk (below_step (by repeat (first | (with_reducible first | exact HB.out | apply below_alloc | apply pw_below_drewN | apply below_drew1 | refine below_set ?_ GE368.out) | exact HB.out)) hb); clear BK368; clear HB; have HO372 := n0_; have BK368 := n1_; have HB := n2_; clear n0_ n1_ n2_; clear hb ho26; obtain ⟨Ao27, co27, eo27⟩ := Kd.R_slice HO372.out; subst eo27) | ((with_reducible refine gate_callee (f := 51) rfl ?_); refine goesL_ (some 39) rfl rfl Tryd.func51 (by kernel_rfl) rfl #[.slice A0 l0.length c0, .int .i64 a1, .slice Ao27 y370.length co27] rfl (by (try simp only [List.map_toArray, List.map_cons, List.map_nil]); first | done | rfl | (simp only [List.length_drop, List.length_take]; rfl)) ?_; (with_reducible refine (signatorylaw48_right.calls k _ _ l0 a1 _ _ y370 false _ ?side1 ?side2 ?side3 ?side4 A13.out).mono ?_); (case side1 => repeat (first | exact (Kd.C_below HR0.out HB.out) | (with_reducible refine Kd.C_alloc ?_ _) | (with_reducible refine Kd.C_drewN ?_ _) | (with_reducible refine Kd.C_drew ?_))); (case side2 => exact HC0.out); (case side3 => repeat (first | exact (Kd.R_reads' HO372.out).2.2 | (with_reducible refine Kd.C_alloc ?_ _) | (with_reducible refine Kd.C_drewN ?_ _) | (with_reducible refine Kd.C_drew ?_))); (case side4 => exact (Kd.R_reads' HO372.out).2.1); rintro e w28 ⟨rfl, hb⟩; refine ⟨_, rfl, ?_⟩; have n0_ := Aside0.mk (Kd.R_below (by (with_reducible repeat (first | apply Kd.R_alloc | apply Kd.R_drewN | apply Kd.R_drew)); exact HO372.out) hb); have n1_ := Aside0.mk (blk_below (g := gb368) (o := .cells #[.int .i64 a4_0, .int .i64 a4_1] 73 (0, 0)) (by (with_reducible repeat (first | refine blk_drewN ?_ _ | refine blk_drew ?_ | refine blk_alloc ?_ _)); exact BK368.out) hb); have n2_ := Aside0.mk (below_step (by repeat (first | (with_reducible first | exact HB.out | apply below_alloc | apply pw_below_drewN | apply below_drew1 | refine below_set ?_ GE368.out) | exact HB.out)) hb); clear HO372; clear BK368; clear HB; have HO372 := n0_; have BK368 := n1_; have HB := n2_; clear n0_ n1_ n2_; (try clear hb); (try clear hb2); (try clear hk); (try clear hi)))
        go_meet
        case rel => exact ⟨_, (true), (by first | rfl | (simp; done) | (simp [*]; done)), H', ⟨by first | omega | exact Nat.le_refl _⟩, ⟨by (with_reducible repeat (first | refine blk_drewN ?_ _ | refine blk_drew ?_ | refine blk_alloc ?_ _)); exact BK368.out⟩, ⟨by repeat (first | (with_reducible first | exact HB.out | apply below_alloc | apply pw_below_drewN | apply below_drew1 | refine below_set ?_ GE368.out) | exact HB.out)⟩⟩
    case rest =>
      clear HC10
      try clear c1
      try clear p2
      try clear c3
      try clear c4
      try clear c5
      try clear c9
      try clear c12
      try clear c14
      try clear c16
      obtain ⟨kq, x50_9, rfl, HA, HJ9, BK368, HB⟩ := hcut
      cases kq with
      | zero => exact absurd HA.out (by simp [signatorylaw48_DevicesOne.j0])
      | succ kj9 =>
        have H := HA.out
        clear HA
        simp only [signatorylaw48_DevicesOne.j0] at H
        by_cases c29 : x50_9 = true
        · subst c29
          have H1 : (some true) = some r := by rw [if_pos rfl] at H; exact H
          clear H
          have H := H1
          clear H1
          obtain rfl := Option.some.inj H
          go_wp2
          go_ret
          exact ⟨by first | rfl | (simp [errW_none, errW_some] <;> rfl) | (simp [*, errW_none, errW_some] <;> rfl), by repeat (first | (with_reducible first | exact HB.out | apply below_alloc | apply pw_below_drewN | apply below_drew1 | refine below_set ?_ GE368.out) | exact HB.out)⟩
        · replace c29 := Bool.eq_false_iff.mpr c29
          subst c29
          have H1 : ((devices_Current.f l0 a1 a5 a6).bind fun bt375 => ((devices_Current.f l0 a2 a5 a6).bind fun bt379 => ((devices_Accepts.f l0 a1 l3 a4_0 a4_1 a5 a6).bind fun bt383 => (if bt375.2.2.2 = 0 then (if bt379.2.2.2 = 0 then (if bt383.2.2 = 0 then (if a1 = a2 then (signatorylaw48_DevicesOne.j1 kj9 l0 a1 l3 a5 a6 bt375.1 bt375.2.1 bt375.2.2.1 bt383.1 bt383.2.1 false a4_0 a4_1) else (if bt375.2.2.1 = true then (if bt379.2.2.1 = true then (signatorylaw48_DevicesOne.j1 kj9 l0 a1 l3 a5 a6 bt375.1 bt375.2.1 bt375.2.2.1 bt383.1 bt383.2.1 (bt375.1 == bt379.1) a4_0 a4_1) else (signatorylaw48_DevicesOne.j1 kj9 l0 a1 l3 a5 a6 bt375.1 bt375.2.1 bt375.2.2.1 bt383.1 bt383.2.1 false a4_0 a4_1)) else (signatorylaw48_DevicesOne.j1 kj9 l0 a1 l3 a5 a6 bt375.1 bt375.2.1 bt375.2.2.1 bt383.1 bt383.2.1 false a4_0 a4_1))) else (signatorylaw48_DevicesOne.j1 kj9 l0 a1 l3 a5 a6 bt375.1 bt375.2.1 bt375.2.2.1 bt383.1 bt383.2.1 true a4_0 a4_1)) else (signatorylaw48_DevicesOne.j1 kj9 l0 a1 l3 a5 a6 bt375.1 bt375.2.1 bt375.2.2.1 bt383.1 bt383.2.1 true a4_0 a4_1)) else (signatorylaw48_DevicesOne.j1 kj9 l0 a1 l3 a5 a6 bt375.1 bt375.2.1 bt375.2.2.1 bt383.1 bt383.2.1 true a4_0 a4_1))))) = some r := by rw [if_neg (show ¬ (false = true) by decide)] at H; exact H
          clear H
          have H := H1
          clear H1
          replace H := Option.bind_eq_some_iff.mp H
          obtain ⟨⟨t375, t376, t377, t378⟩, A300, H⟩ := H
          replace H : ((devices_Current.f l0 a2 a5 a6).bind fun bt379 => ((devices_Accepts.f l0 a1 l3 a4_0 a4_1 a5 a6).bind fun bt383 => (if t378 = 0 then (if bt379.2.2.2 = 0 then (if bt383.2.2 = 0 then (if a1 = a2 then (signatorylaw48_DevicesOne.j1 kj9 l0 a1 l3 a5 a6 t375 t376 t377 bt383.1 bt383.2.1 false a4_0 a4_1) else (if t377 = true then (if bt379.2.2.1 = true then (signatorylaw48_DevicesOne.j1 kj9 l0 a1 l3 a5 a6 t375 t376 t377 bt383.1 bt383.2.1 (t375 == bt379.1) a4_0 a4_1) else (signatorylaw48_DevicesOne.j1 kj9 l0 a1 l3 a5 a6 t375 t376 t377 bt383.1 bt383.2.1 false a4_0 a4_1)) else (signatorylaw48_DevicesOne.j1 kj9 l0 a1 l3 a5 a6 t375 t376 t377 bt383.1 bt383.2.1 false a4_0 a4_1))) else (signatorylaw48_DevicesOne.j1 kj9 l0 a1 l3 a5 a6 t375 t376 t377 bt383.1 bt383.2.1 true a4_0 a4_1)) else (signatorylaw48_DevicesOne.j1 kj9 l0 a1 l3 a5 a6 t375 t376 t377 bt383.1 bt383.2.1 true a4_0 a4_1)) else (signatorylaw48_DevicesOne.j1 kj9 l0 a1 l3 a5 a6 t375 t376 t377 bt383.1 bt383.2.1 true a4_0 a4_1)))) = some r := H
          have A30 := Aside0.mk A300
          clear A300
          replace H := Option.bind_eq_some_iff.mp H
          obtain ⟨⟨t379, t380, t381, t382⟩, A310, H⟩ := H
          replace H : ((devices_Accepts.f l0 a1 l3 a4_0 a4_1 a5 a6).bind fun bt383 => (if t378 = 0 then (if t382 = 0 then (if bt383.2.2 = 0 then (if a1 = a2 then (signatorylaw48_DevicesOne.j1 kj9 l0 a1 l3 a5 a6 t375 t376 t377 bt383.1 bt383.2.1 false a4_0 a4_1) else (if t377 = true then (if t381 = true then (signatorylaw48_DevicesOne.j1 kj9 l0 a1 l3 a5 a6 t375 t376 t377 bt383.1 bt383.2.1 (t375 == t379) a4_0 a4_1) else (signatorylaw48_DevicesOne.j1 kj9 l0 a1 l3 a5 a6 t375 t376 t377 bt383.1 bt383.2.1 false a4_0 a4_1)) else (signatorylaw48_DevicesOne.j1 kj9 l0 a1 l3 a5 a6 t375 t376 t377 bt383.1 bt383.2.1 false a4_0 a4_1))) else (signatorylaw48_DevicesOne.j1 kj9 l0 a1 l3 a5 a6 t375 t376 t377 bt383.1 bt383.2.1 true a4_0 a4_1)) else (signatorylaw48_DevicesOne.j1 kj9 l0 a1 l3 a5 a6 t375 t376 t377 bt383.1 bt383.2.1 true a4_0 a4_1)) else (signatorylaw48_DevicesOne.j1 kj9 l0 a1 l3 a5 a6 t375 t376 t377 bt383.1 bt383.2.1 true a4_0 a4_1))) = some r := H
          have A31 := Aside0.mk A310
          clear A310
          replace H := Option.bind_eq_some_iff.mp H
          obtain ⟨⟨t383, t384, t385⟩, A320, H⟩ := H
          replace H : (if t378 = 0 then (if t382 = 0 then (if t385 = 0 then (if a1 = a2 then (signatorylaw48_DevicesOne.j1 kj9 l0 a1 l3 a5 a6 t375 t376 t377 t383 t384 false a4_0 a4_1) else (if t377 = true then (if t381 = true then (signatorylaw48_DevicesOne.j1 kj9 l0 a1 l3 a5 a6 t375 t376 t377 t383 t384 (t375 == t379) a4_0 a4_1) else (signatorylaw48_DevicesOne.j1 kj9 l0 a1 l3 a5 a6 t375 t376 t377 t383 t384 false a4_0 a4_1)) else (signatorylaw48_DevicesOne.j1 kj9 l0 a1 l3 a5 a6 t375 t376 t377 t383 t384 false a4_0 a4_1))) else (signatorylaw48_DevicesOne.j1 kj9 l0 a1 l3 a5 a6 t375 t376 t377 t383 t384 true a4_0 a4_1)) else (signatorylaw48_DevicesOne.j1 kj9 l0 a1 l3 a5 a6 t375 t376 t377 t383 t384 true a4_0 a4_1)) else (signatorylaw48_DevicesOne.j1 kj9 l0 a1 l3 a5 a6 t375 t376 t377 t383 t384 true a4_0 a4_1)) = some r := H
          have A32 := Aside0.mk A320
          clear A320
          have HC33 := Aside0.mk H
          clear H
          go_upto_region 8 with (first | ((with_reducible refine gate_callee (f := 47) rfl ?_); refine goesL_ (some 56) rfl rfl Tryd.func47 (by kernel_rfl) rfl #[.slice A0 l0.length c0, .int .i64 a1, .int .i64 a5, .int .i64 a6] rfl (by (try simp only [List.map_toArray, List.map_cons, List.map_nil]); first | done | rfl | (simp only [List.length_drop, List.length_take]; rfl)) ?_; (with_reducible refine (devices_Current.calls _ _ l0 a1 a5 a6 t375 t376 t377 t378 _ ?side1 ?side2 A30.out).mono ?_); (case side1 => repeat (first | exact (Kd.C_below HR0.out HB.out) | (with_reducible refine Kd.C_alloc ?_ _) | (with_reducible refine Kd.C_drewN ?_ _) | (with_reducible refine Kd.C_drew ?_))); (case side2 => exact HC0.out); rintro e w34 ⟨rfl, hb⟩; refine ⟨_, rfl, ?_⟩; have n0_ := Aside0.mk (blk_below (g := gb368) (o := .cells #[.int .i64 a4_0, .int .i64 a4_1] 73 (0, 0)) (by (with_reducible repeat (first | refine blk_drewN ?_ _ | refine blk_drew ?_ | refine blk_alloc ?_ _)); exact BK368.out) hb); have n1_ := Aside0.mk (below_step (by repeat (first | (with_reducible first | exact HB.out | apply below_alloc | apply pw_below_drewN | apply below_drew1 | refine below_set ?_ GE368.out) | exact HB.out)) hb); clear BK368; clear HB; have BK368 := n0_; have HB := n1_; clear n0_ n1_; (try clear hb); (try clear hb2); (try clear hk); (try clear hi)) | ((with_reducible refine gate_callee (f := 47) rfl ?_); refine goesL_ (some 66) rfl rfl Tryd.func47 (by kernel_rfl) rfl #[.slice A0 l0.length c0, .int .i64 a2, .int .i64 a5, .int .i64 a6] rfl (by (try simp only [List.map_toArray, List.map_cons, List.map_nil]); first | done | rfl | (simp only [List.length_drop, List.length_take]; rfl)) ?_; (with_reducible refine (devices_Current.calls _ _ l0 a2 a5 a6 t379 t380 t381 t382 _ ?side1 ?side2 A31.out).mono ?_); (case side1 => repeat (first | exact (Kd.C_below HR0.out HB.out) | (with_reducible refine Kd.C_alloc ?_ _) | (with_reducible refine Kd.C_drewN ?_ _) | (with_reducible refine Kd.C_drew ?_))); (case side2 => exact HC0.out); rintro e w35 ⟨rfl, hb⟩; refine ⟨_, rfl, ?_⟩; have n0_ := Aside0.mk (blk_below (g := gb368) (o := .cells #[.int .i64 a4_0, .int .i64 a4_1] 73 (0, 0)) (by (with_reducible repeat (first | refine blk_drewN ?_ _ | refine blk_drew ?_ | refine blk_alloc ?_ _)); exact BK368.out) hb); have n1_ := Aside0.mk (below_step (by repeat (first | (with_reducible first | exact HB.out | apply below_alloc | apply pw_below_drewN | apply below_drew1 | refine below_set ?_ GE368.out) | exact HB.out)) hb); clear BK368; clear HB; have BK368 := n0_; have HB := n1_; clear n0_ n1_; (try clear hb); (try clear hb2); (try clear hk); (try clear hi); have hcz36_0 : w35.cell? ⟨gb368, 0, none⟩ = some (.int .i64 a4_0) := (blk_cell BK368.out 0).trans rfl; have hcz36_1 : w35.cell? ⟨gb368, 1, none⟩ = some (.int .i64 a4_1) := (blk_cell BK368.out 1).trans rfl; have hfz36_0 := blk_frozen BK368.out 0; have hfz36_1 := blk_frozen BK368.out 1) | ((with_reducible refine gate_callee (f := 49) rfl ?_); refine goesL_ (some 78) rfl rfl Tryd.func49 (by kernel_rfl) rfl #[.slice A0 l0.length c0, .int .i64 a1, .slice A3 l3.length c3, .agg #[.int .i64 a4_0, .int .i64 a4_1], .int .i64 a5, .int .i64 a6] rfl (by (try simp only [List.map_toArray, List.map_cons, List.map_nil]); first | done | rfl | (simp only [List.length_drop, List.length_take]; rfl)) ?_; (with_reducible refine (devices_Accepts.calls (hLd := ?sideL) _ _ l0 a1 _ _ l3 a4_0 a4_1 a5 a6 t383 t384 t385 _ ?side1 ?side2 ?side3 ?side4 A32.out).mono ?_); (case sideL => exact Go.Proofs.YtjbcfdgnafmbkaaDoor.Cod.Laid.below HLd.out (by repeat (first | (with_reducible first | exact HB.out | apply below_alloc | apply pw_below_drewN | apply below_drew1 | refine below_set ?_ GE368.out) | exact HB.out))); (case side1 => repeat (first | exact (Kd.C_below HR0.out HB.out) | (with_reducible refine Kd.C_alloc ?_ _) | (with_reducible refine Kd.C_drewN ?_ _) | (with_reducible refine Kd.C_drew ?_))); (case side2 => exact HC0.out); (case side3 => repeat (first | exact (Kd.C_below HR3.out HB.out) | (with_reducible refine Kd.C_alloc ?_ _) | (with_reducible refine Kd.C_drewN ?_ _) | (with_reducible refine Kd.C_drew ?_))); (case side4 => exact HC3.out); rintro e w37 ⟨rfl, hb⟩; refine ⟨_, rfl, ?_⟩; have n0_ := Aside0.mk (blk_below (g := gb368) (o := .cells #[.int .i64 a4_0, .int .i64 a4_1] 73 (0, 0)) (by (with_reducible repeat (first | refine blk_drewN ?_ _ | refine blk_drew ?_ | refine blk_alloc ?_ _)); exact BK368.out) hb); have n1_ := Aside0.mk (below_step (by repeat (first | (with_reducible first | exact HB.out | apply below_alloc | apply pw_below_drewN | apply below_drew1 | refine below_set ?_ GE368.out) | exact HB.out)) hb); clear BK368; clear HB; have BK368 := n0_; have HB := n1_; clear n0_ n1_; (try clear hb); (try clear hb2); (try clear hk); (try clear hi)))
          (try simp only [Act.put, List.setIfInBounds_toArray, List.set_cons_zero, List.set_cons_succ])
          go_cut [107] (fun v107 wc => ∃ (kq : Nat) (x107_32 : Bool), v107 = .bool x107_32 ∧ Aside0 (signatorylaw48_DevicesOne.j1 kq l0 a1 l3 a5 a6 t375 t376 t377 t383 t384 x107_32 a4_0 a4_1 = some r) ∧ Aside0 (kq ≤ kj9) ∧ Aside0 (wc.heap[gb368]? = some (.cells #[.int .i64 a4_0, .int .i64 a4_1] 73 (0, 0))) ∧ Aside0 (Below w.heap.size w wc))
          case first =>
            have H := HC33.out
            clear HC33
            by_cases c38 : t378 = 0
            · rw [if_pos c38] at H
              have c38b0 : (t378 == 0) = true := beq_iff_eq.mpr c38
              have c38b1 : (t378 != 0) = false := bne_eq_false_iff_eq.mpr c38
              clear c38
              (first | rw [c38b0] | (simp only [i64_w, i32_w]; rw [c38b0]) | skip)
              by_cases c39 : t382 = 0
              · rw [if_pos c39] at H
                have c39b0 : (t382 == 0) = true := beq_iff_eq.mpr c39
                have c39b1 : (t382 != 0) = false := bne_eq_false_iff_eq.mpr c39
                clear c39
                by_cases c40 : t385 = 0
                · rw [if_pos c40] at H
                  have c40b0 : (t385 == 0) = true := beq_iff_eq.mpr c40
                  have c40b1 : (t385 != 0) = false := bne_eq_false_iff_eq.mpr c40
                  clear c40
                  by_cases c41 : a1 = a2
                  · rw [if_pos c41] at H
                    have c41b0 : (a1 == a2) = true := beq_iff_eq.mpr c41
                    have c41b1 : (a1 != a2) = false := bne_eq_false_iff_eq.mpr c41
                    clear c41
                    have H' := Aside0.mk H
                    clear H
                    go_wp2
                    go_meet
                    case rel => exact ⟨_, (false), (by first | rfl | (simp; done) | (simp [*]; done)), H', ⟨by have := HJ9.out; first | omega | exact Nat.le_refl _⟩, ⟨by (with_reducible repeat (first | refine blk_drewN ?_ _ | refine blk_drew ?_ | refine blk_alloc ?_ _)); exact BK368.out⟩, ⟨by repeat (first | (with_reducible first | exact HB.out | apply below_alloc | apply pw_below_drewN | apply below_drew1 | refine below_set ?_ GE368.out) | exact HB.out)⟩⟩
                  · rw [if_neg c41] at H
                    have c41b0 : (a1 == a2) = false := beq_eq_false_iff_ne.mpr c41
                    have c41b1 : (a1 != a2) = true := bne_iff_ne.mpr c41
                    by_cases c42 : t377 = true
                    · subst c42
                      have H1 : (if t381 = true then (signatorylaw48_DevicesOne.j1 kj9 l0 a1 l3 a5 a6 t375 t376 true t383 t384 (t375 == t379) a4_0 a4_1) else (signatorylaw48_DevicesOne.j1 kj9 l0 a1 l3 a5 a6 t375 t376 true t383 t384 false a4_0 a4_1)) = some r := by rw [if_pos rfl] at H; exact H
                      clear H
                      have H := H1
                      clear H1
                      by_cases c43 : t381 = true
                      · subst c43
                        have H1 : (signatorylaw48_DevicesOne.j1 kj9 l0 a1 l3 a5 a6 t375 t376 true t383 t384 (t375 == t379) a4_0 a4_1) = some r := by rw [if_pos rfl] at H; exact H
                        clear H
                        have H := H1
                        clear H1
                        have H' := Aside0.mk H
                        clear H
                        go_wp2
                        go_meet
                        case rel => exact ⟨_, ((t375 == t379)), (by first | rfl | (simp; done) | (simp [*]; done)), H', ⟨by have := HJ9.out; first | omega | exact Nat.le_refl _⟩, ⟨by (with_reducible repeat (first | refine blk_drewN ?_ _ | refine blk_drew ?_ | refine blk_alloc ?_ _)); exact BK368.out⟩, ⟨by repeat (first | (with_reducible first | exact HB.out | apply below_alloc | apply pw_below_drewN | apply below_drew1 | refine below_set ?_ GE368.out) | exact HB.out)⟩⟩
                      · replace c43 := Bool.eq_false_iff.mpr c43
                        subst c43
                        have H1 : (signatorylaw48_DevicesOne.j1 kj9 l0 a1 l3 a5 a6 t375 t376 true t383 t384 false a4_0 a4_1) = some r := by rw [if_neg (show ¬ (false = true) by decide)] at H; exact H
                        clear H
                        have H := H1
                        clear H1
                        have H' := Aside0.mk H
                        clear H
                        go_wp2
                        go_meet
                        case rel => exact ⟨_, (false), (by first | rfl | (simp; done) | (simp [*]; done)), H', ⟨by have := HJ9.out; first | omega | exact Nat.le_refl _⟩, ⟨by (with_reducible repeat (first | refine blk_drewN ?_ _ | refine blk_drew ?_ | refine blk_alloc ?_ _)); exact BK368.out⟩, ⟨by repeat (first | (with_reducible first | exact HB.out | apply below_alloc | apply pw_below_drewN | apply below_drew1 | refine below_set ?_ GE368.out) | exact HB.out)⟩⟩
                    · replace c42 := Bool.eq_false_iff.mpr c42
                      subst c42
                      have H1 : (signatorylaw48_DevicesOne.j1 kj9 l0 a1 l3 a5 a6 t375 t376 false t383 t384 false a4_0 a4_1) = some r := by rw [if_neg (show ¬ (false = true) by decide)] at H; exact H
                      clear H
                      have H := H1
                      clear H1
                      have H' := Aside0.mk H
                      clear H
                      go_wp2
                      go_meet
                      case rel => exact ⟨_, (false), (by first | rfl | (simp; done) | (simp [*]; done)), H', ⟨by have := HJ9.out; first | omega | exact Nat.le_refl _⟩, ⟨by (with_reducible repeat (first | refine blk_drewN ?_ _ | refine blk_drew ?_ | refine blk_alloc ?_ _)); exact BK368.out⟩, ⟨by repeat (first | (with_reducible first | exact HB.out | apply below_alloc | apply pw_below_drewN | apply below_drew1 | refine below_set ?_ GE368.out) | exact HB.out)⟩⟩
                · rw [if_neg c40] at H
                  have c40b0 : (t385 == 0) = false := beq_eq_false_iff_ne.mpr c40
                  have c40b1 : (t385 != 0) = true := bne_iff_ne.mpr c40
                  have H' := Aside0.mk H
                  clear H
                  go_wp2
                  go_meet
                  case rel => exact ⟨_, (true), (by first | rfl | (simp; done) | (simp [*]; done)), H', ⟨by have := HJ9.out; first | omega | exact Nat.le_refl _⟩, ⟨by (with_reducible repeat (first | refine blk_drewN ?_ _ | refine blk_drew ?_ | refine blk_alloc ?_ _)); exact BK368.out⟩, ⟨by repeat (first | (with_reducible first | exact HB.out | apply below_alloc | apply pw_below_drewN | apply below_drew1 | refine below_set ?_ GE368.out) | exact HB.out)⟩⟩
              · rw [if_neg c39] at H
                have c39b0 : (t382 == 0) = false := beq_eq_false_iff_ne.mpr c39
                have c39b1 : (t382 != 0) = true := bne_iff_ne.mpr c39
                have H' := Aside0.mk H
                clear H
                go_wp2
                go_meet
                case rel => exact ⟨_, (true), (by first | rfl | (simp; done) | (simp [*]; done)), H', ⟨by have := HJ9.out; first | omega | exact Nat.le_refl _⟩, ⟨by (with_reducible repeat (first | refine blk_drewN ?_ _ | refine blk_drew ?_ | refine blk_alloc ?_ _)); exact BK368.out⟩, ⟨by repeat (first | (with_reducible first | exact HB.out | apply below_alloc | apply pw_below_drewN | apply below_drew1 | refine below_set ?_ GE368.out) | exact HB.out)⟩⟩
            · rw [if_neg c38] at H
              have c38b0 : (t378 == 0) = false := beq_eq_false_iff_ne.mpr c38
              have c38b1 : (t378 != 0) = true := bne_iff_ne.mpr c38
              (first | rw [c38b0] | (simp only [i64_w, i32_w]; rw [c38b0]) | skip)
              have H' := Aside0.mk H
              clear H
              go_wp2
              go_meet
              case rel => exact ⟨_, (true), (by first | rfl | (simp; done) | (simp [*]; done)), H', ⟨by have := HJ9.out; first | omega | exact Nat.le_refl _⟩, ⟨by (with_reducible repeat (first | refine blk_drewN ?_ _ | refine blk_drew ?_ | refine blk_alloc ?_ _)); exact BK368.out⟩, ⟨by repeat (first | (with_reducible first | exact HB.out | apply below_alloc | apply pw_below_drewN | apply below_drew1 | refine below_set ?_ GE368.out) | exact HB.out)⟩⟩
          case rest =>
            clear HC33
            try clear c1
            try clear c2
            try clear p2
            try clear c3
            try clear c4
            try clear c5
            try clear c9
            try clear c12
            try clear c14
            try clear c16
            try clear c29
            try clear c38
            try clear c38b0
            try clear c38b1
            try clear c39
            try clear c39b0
            try clear c39b1
            try clear c40
            try clear c40b0
            try clear c40b1
            try clear c41
            try clear c41b0
            try clear c41b1
            try clear c42
            try clear c43
            try clear hcz36_0
            try clear hcz36_1
            try clear hfz36_0
            try clear hfz36_1
            try clear p2
            obtain ⟨kq, x107_32, rfl, HA, HJ32, BK368, HB⟩ := hcut
            cases kq with
            | zero => exact absurd HA.out (by simp [signatorylaw48_DevicesOne.j1])
            | succ kj32 =>
              have H := HA.out
              clear HA
              simp only [signatorylaw48_DevicesOne.j1] at H
              by_cases c44 : x107_32 = true
              · subst c44
                have H1 : (some false) = some r := by rw [if_pos rfl] at H; exact H
                clear H
                have H := H1
                clear H1
                obtain rfl := Option.some.inj H
                go_wp2
                go_ret
                exact ⟨by first | rfl | (simp [errW_none, errW_some] <;> rfl) | (simp [*, errW_none, errW_some] <;> rfl), by repeat (first | (with_reducible first | exact HB.out | apply below_alloc | apply pw_below_drewN | apply below_drew1 | refine below_set ?_ GE368.out) | exact HB.out)⟩
              · replace c44 := Bool.eq_false_iff.mpr c44
                subst c44
                have H1 : (if t377 = true then ((sign_Verify.f t376 l3 a4_0 a4_1).bind fun t386 => (if (t384 != t386) = true then (signatorylaw48_DevicesOne.j2 kj32 l0 a1 a5 a6 t375 t376 t377 true) else (if t384 = true then (signatorylaw48_DevicesOne.j2 kj32 l0 a1 a5 a6 t375 t376 t377 (t383 != t375)) else (signatorylaw48_DevicesOne.j2 kj32 l0 a1 a5 a6 t375 t376 t377 false)))) else (if (t384 != false) = true then (signatorylaw48_DevicesOne.j2 kj32 l0 a1 a5 a6 t375 t376 t377 true) else (if t384 = true then (signatorylaw48_DevicesOne.j2 kj32 l0 a1 a5 a6 t375 t376 t377 (t383 != t375)) else (signatorylaw48_DevicesOne.j2 kj32 l0 a1 a5 a6 t375 t376 t377 false)))) = some r := by rw [if_neg (show ¬ (false = true) by decide)] at H; exact H
                clear H
                have H := H1
                clear H1
                rename_i K1_ h1_ K0_ h0_
                refine h0_ _ _ ?_
                go_step
                go_step
                refine h1_ _ _ ?_
                exact signatorylaw48_DevicesOne.tail10 _ (by kernel_rfl) k kj9 kj32 A0 c0 l0 a1 a2 A3 c3 l3 a4_0 a4_1 a5 a6 r w wc gb368 t375 t376 t377 t378 t379 t380 t381 t382 t383 t384 t385 _ _ _ _ _ _ _ _ _ _ _ _ _ _ _ _ _ _ _ _ _ _ _ _ _ _ _ _ _ _ _ _ _ _ _ _ _ _ _ _ _ _ _ _ _ _ _ _ _ _ _ _ _ _ _ _ _ _ _ _ _ _ _ _ _ _ _ _ _ _ _ _ _ _ _ _ _ _ _ _ _ _ _ _ _ _ _ _ _ _ _ _ _ _ _ _ _ _ _ _ _ _ _ _ _ _ _ _ _ _ _ _ _ _ _ _ _ _ _ _ _ _ _ _ _ _ _ _ _ _ _ _ _ _ _ _ _ _ _ _ _ _ _ _ _ _ _ _ _ _ _ _ _ _ _ _ _ _ _ _ _ _ _ _ _ _ _ _ _ _ _ _ _ _ _ _ HLd HR0 HC0 HR3 HC3 GE368 BK368 HB HJ9 HJ32 H
  · replace c9 := Bool.eq_false_iff.mpr c9
    subst c9
    have H1 : (some false) = some r := by rw [if_neg (show ¬ (false = true) by decide)] at H; exact H
    clear H
    have H := H1
    clear H1
    obtain rfl := Option.some.inj H
    go_enter Tryd.func12, Tryd.ntmps12
    go_wp2_with (first | ((with_reducible refine gate_dst (N := 11) rfl ?_); (try (refine gate_guard (by rfl) ?_; dsimp only)); refine box_event ?hg (N := 11) ?hd (cs := #[.int .i64 a4_0, .int .i64 a4_1]) (t := 73) ?hr ?_; (case hd => rfl); (case hg => rfl); (case hr => first | (go_simp; done) | (go_simp; rfl)); intro gb368 hg w130 hbox hb; have n0_ := Aside0.mk (below_step (by repeat (first | (with_reducible first | exact HB.out | apply below_alloc | apply pw_below_drewN | apply below_drew1) | exact HB.out)) hb); have n1_ := Aside0.mk (hbox); have n2_ := Aside0.mk ((by rw [hg]; exact (below_size (by repeat (first | (with_reducible first | exact HB.out | apply below_alloc | apply pw_below_drewN | apply below_drew1) | exact HB.out))) : w.heap.size ≤ gb368)); have n3_ := Aside0.mk ((by rw [hg]; exact (below_size (by repeat (first | (with_reducible first | exact HB.out | apply below_alloc | apply pw_below_drewN | apply below_drew1) | exact HB.out))) : w.heap.size ≤ gb368)); clear HB; have HB := n0_; have BK368 := n1_; have GW368 := n2_; have GE368 := n3_; clear n0_ n1_ n2_ n3_; clear hb hbox hg) | ((with_reducible refine gate_callee (f := 40) rfl ?_); refine goesL_ (some 32) rfl rfl Tryd.func40 (by kernel_rfl) rfl #[] rfl (by (try simp only [List.map_toArray, List.map_cons, List.map_nil]); first | done | rfl | (simp only [List.length_drop, List.length_take]; rfl)) ?_; (with_reducible refine (signatorylaw48_sane.calls (hLd := ?sideL) k  false _ A8.out).mono ?_); (case sideL => exact Go.Proofs.YtjbcfdgnafmbkaaDoor.Cod.Laid.below HLd.out (by repeat (first | (with_reducible first | exact HB.out | apply below_alloc | apply pw_below_drewN | apply below_drew1 | refine below_set ?_ GE368.out) | exact HB.out))); rintro e w131 ⟨rfl, hb⟩; refine ⟨_, rfl, ?_⟩; have n0_ := Aside0.mk (blk_below (g := gb368) (o := .cells #[.int .i64 a4_0, .int .i64 a4_1] 73 (0, 0)) (by (with_reducible repeat (first | refine blk_drewN ?_ _ | refine blk_drew ?_ | refine blk_alloc ?_ _)); exact BK368.out) hb); have n1_ := Aside0.mk (below_step (by repeat (first | (with_reducible first | exact HB.out | apply below_alloc | apply pw_below_drewN | apply below_drew1 | refine below_set ?_ GE368.out) | exact HB.out)) hb); clear BK368; clear HB; have BK368 := n0_; have HB := n1_; clear n0_ n1_; (try clear hb); (try clear hb2); (try clear hk); (try clear hi)))
    go_ret
    exact ⟨by first | rfl | (simp [errW_none, errW_some] <;> rfl) | (simp [*, errW_none, errW_some] <;> rfl), by repeat (first | (with_reducible first | exact HB.out | apply below_alloc | apply pw_below_drewN | apply below_drew1 | refine below_set ?_ GE368.out) | exact HB.out)⟩
end Go.Proofs.YtjbcfdgnafmbkaaDoor.PBig
end
