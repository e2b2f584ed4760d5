/- Lemmas, walks and printed functions for the claim. -/
import Derived.Test.YtjbcfdgnafmbkaaDoorSDOM2
import Derived.Test.YtjbcfdgnafmbkaaDoorSDOM7
import Derived.Test.YtjbcfdgnafmbkaaDoorSDOM8
import Derived.Test.YtjbcfdgnafmbkaaDoorSDOM14
import Derived.Test.YtjbcfdgnafmbkaaDoorSDOM15
import Derived.LoopIn
import Derived.LoopNIn
import Derived.OwnWalkIn
import Derived.RangeFuncBound
import Derived.RangeFuncCalls
import Derived.RangeFuncLeaves
import Derived.RangeFuncNested
import Derived.Shelf.Abstract
import Derived.Shelf.RegionOpen
import Derived.TacticsInMore
import Derived.WalkArith
section
set_option linter.unusedVariables false
namespace Go.Proofs.YtjbcfdgnafmbkaaDoor.Dev
open Go.RowKit Go.Proofs.YtjbcfdgnafmbkaaDoor Go.Proofs.YtjbcfdgnafmbkaaDoorW.PrintWords Go.Proofs.YtjbcfdgnafmbkaaDoor.PBig
theorem spot_none {w : World} {ad : Addr} {v : Value} (h : w.cell? ad = some v) : ad.spot = none := by
  unfold World.cell? at h
  cases hsp : ad.spot with
  | none => rfl
  | some k => rw [hsp] at h; split at h <;> simp at h
theorem add_none (b o j : Nat) : (⟨b, o, none⟩ : Addr).add j = ⟨b, o + j, none⟩ := by unfold Addr.add; split <;> simp_all
def inB (n most : Int) : Bool := decide (0 ≤ n) && decide (n ≤ most)
def rightD (x : S65) : Bool := inB x.f0 1048576 && inB x.f1 1099511627775 && inB x.f2 1099511627775 && inB x.f3 63 && (if x.f5 = true then x.f4 == 0 else validB x.f4 && x.f4 != 1)
def usedB (l : List S65) (k : Int) : Bool := l.any (fun y => decide (y.f4 = k) && !y.f5)
def chkG : Int → List S65 → List S65 → Bool
  | _, _, [] => true
  | last, seen, x :: r => rightD x && decide (last < x.f0) && !(usedB seen x.f4) && chkG x.f0 (seen ++ [x]) r
def chk (l : List S65) : Int := if (l.length : Int) > 1024 then 2 else if chkG (-1) [] l = true then 0 else 480
theorem within_f (a b : Int) : PDr.devices_within.f a b = some (inB a b) := by
  unfold PDr.devices_within.f inB
  by_cases h : a ≥ 0
  · rw [if_pos h, decide_eq_true h, Bool.true_and]
  · rw [if_neg h, decide_eq_false (p := 0 ≤ a) h, Bool.false_and]
theorem right_f (x : S65) : PDr.devices_right.f 1 x.f0 x.f1 x.f2 x.f3 x.f4 x.f5 = some (rightD x) := by
  unfold PDr.devices_right.f rightD
  simp only [within_f, Option.bind_some, PDr.devices_right.j0]
  unfold group_Valid.f
  cases inB x.f0 1048576 <;> cases inB x.f1 1099511627775 <;> cases inB x.f2 1099511627775 <;> cases inB x.f3 63 <;> cases x.f5 <;> cases validB x.f4 <;> simp
theorem right_c (x : S65) (w : World) : Calls Tryd.prog 79 #[.agg #[.int .i64 x.f0, .int .i64 x.f1, .int .i64 x.f2, .int .i64 x.f3, .int .i64 x.f4, .bool x.f5]] w fun e w' => e = .returned (.bool (rightD x)) ∧ Below w.heap.size w w' :=
  PDr.devices_right.calls 1 x.f0 x.f1 x.f2 x.f3 x.f4 x.f5 (rightD x) w (right_f x)
theorem el65 {w : World} {A : Option Addr} {xs : List S65} (h : Kd.C k65 w A xs.length xs) (hp : 0 < xs.length) :
    ∃ b o, A = some ⟨b, o, none⟩ ∧ ∀ i, i < xs.length → w.cell? ⟨b, o + i * 6, none⟩ = some (.int .i64 (xs.getD i z65).f0) ∧ w.cell? ⟨b, o + i * 6 + 1, none⟩ = some (.int .i64 (xs.getD i z65).f1) ∧
      w.cell? ⟨b, o + i * 6 + 2, none⟩ = some (.int .i64 (xs.getD i z65).f2) ∧ w.cell? ⟨b, o + i * 6 + 3, none⟩ = some (.int .i64 (xs.getD i z65).f3) ∧ w.cell? ⟨b, o + i * 6 + 4, none⟩ = some (.int .i64 (xs.getD i z65).f4) ∧ w.cell? ⟨b, o + i * 6 + 5, none⟩ = some (.bool (xs.getD i z65).f5) := by
  obtain ⟨ad, hA, hc⟩ := h.2.2 hp
  have hs : ad.spot = none := by
    obtain ⟨cs, _, hK, hcell⟩ := hc 0 _ (List.getElem?_eq_getElem hp)
    obtain rfl := k65_open hK
    have := hcell 0 _ rfl
    rw [Nat.zero_mul, Nat.add_zero, show ad.add 0 = ad from rfl] at this
    exact spot_none this
  obtain ⟨b, o, s⟩ := ad
  cases hs
  refine ⟨b, o, hA, fun i hi => ?_⟩
  obtain ⟨cs, _, hK, hcell⟩ := hc i _ (List.getElem?_eq_getElem hi)
  rw [show xs.getD i z65 = xs[i] from by rw [List.getD_eq_getElem?_getD, List.getElem?_eq_getElem hi]; rfl]
  obtain rfl := k65_open hK
  have hsz : k65.sz = 6 := rfl
  rw [hsz] at hcell
  have e0 := hcell 0 _ rfl
  have e1 := hcell 1 _ rfl
  have e2 := hcell 2 _ rfl
  have e3 := hcell 3 _ rfl
  have e4 := hcell 4 _ rfl
  have e5 := hcell 5 _ rfl
  rw [add_none] at e0 e1 e2 e3 e4 e5
  exact ⟨e0, e1, e2, e3, e4, e5⟩
theorem usedB_snoc (l : List S65) (x : S65) (k : Int) : usedB (l ++ [x]) k = (usedB l k || (decide (x.f4 = k) && !x.f5)) := by simp [usedB]
theorem getD_take_drop (l : List S65) (i : Nat) (h : i < l.length) : l.drop i = l.getD i z65 :: l.drop (i + 1) := by
  rw [List.getD_eq_getElem?_getD, List.getElem?_eq_getElem h, Option.getD_some, List.drop_eq_getElem_cons h]
theorem take_snoc65 (l : List S65) (i : Nat) (h : i < l.length) : l.take (i + 1) = l.take i ++ [l.getD i z65] := by
  rw [List.take_succ_eq_append_getElem h, List.getD_eq_getElem?_getD, List.getElem?_eq_getElem h]; rfl
theorem rightD_key {x : S65} (h : rightD x = true) : 0 ≤ x.f4 ∧ x.f4 < 2147483579 := by
  unfold rightD at h
  simp only [Bool.and_eq_true] at h
  have h := h.2
  split at h
  · have := eq_of_beq h; omega
  · rw [Bool.and_eq_true] at h
    have := validB_true h.1
    omega
theorem rightD_no {x : S65} (h : rightD x = true) : 0 ≤ x.f0 ∧ x.f0 ≤ 1048576 := by
  unfold rightD inB at h
  simp only [Bool.and_eq_true, decide_eq_true_eq] at h
  exact h.1.1.1.1
attribute [local go_sem] run_makeMap
set_option maxHeartbeats 2000000 in
set_option maxRecDepth 100000 in
theorem check_c (l : List S65) (A : Option Addr) (c : Nat) (w : World) (hC : Kd.C k65 w A l.length l) :
    Calls Tryd.prog 44 #[.slice A l.length c] w fun e w' => e = .returned (.int .i64 (chk l)) ∧ Below w.heap.size w w' := by
  unfold chk
  have HC := Lib.hid hC
  clear hC
  by_cases hbig : (l.length : Int) > 1024
  · rw [if_pos hbig]
    have t0 : decide ((1024 : Int) < (l.length : Int)) = true := decide_eq_true (by omega)
    go_enter Tryd.func44, Tryd.ntmps44
    go_wp2_with fail
    go_ret
    exact ⟨rfl, Below.refl _ w⟩
  · rw [if_neg hbig]
    have t0 : decide ((1024 : Int) < (l.length : Int)) = false := decide_eq_false (by omega)
    obtain ⟨R, hR⟩ : ∃ R, (if chkG (-1) [] l = true then (0 : Int) else 480) = R := ⟨_, rfl⟩
    rw [hR]
    have HR := Lib.hid hR
    clear hR
    go_enter Tryd.func44, Tryd.ntmps44
    go_wp2_with fail
    generalize hW1 : w.alloc _ = W1
    have HB1 := Lib.hid (show Below w.heap.size w W1 by rw [← hW1]; exact below_alloc (Below.refl _ w) _)
    have BM1 := Lib.hid (show Bm.BM W1 w.heap.size 0 (usedB (l.take 0)) by rw [← hW1]; exact Bm.BM.made w)
    clear hW1
    go_loopw [4, 13] (fun v4 v13 wr => ∃ (i : Nat) (last : Int), i ≤ l.length ∧ v13 = .int .i64 i ∧ v4 = .int .i64 last ∧ Hid (Below w.heap.size w wr) ∧ Hid (Bm.BM wr w.heap.size i (usedB (l.take i))) ∧ Hid (chkG (-1) [] l = chkG last (l.take i) (l.drop i))) (fun _ v13 _ => l.length - (intOf v13).toNat)
    case atStart => exact ⟨0, -1, by omega, rfl, rfl, HB1, BM1, Lib.hid (by simp)⟩
    case round =>
      obtain ⟨i, last, hil, rfl, rfl, HBr, HM, HG⟩ := hrel
      by_cases hlt : i < l.length
      · obtain ⟨b, o, rfl, hel⟩ := el65 (Kd.C_below HC.out HBr.out) (by omega)
        obtain ⟨q0, q1, q2, q3, q4, q5⟩ := hel i hlt
        have HG2 := Lib.hid (getD_take_drop l i hlt)
        have HT2 := Lib.hid (take_snoc65 l i hlt)
        clear hel
        generalize l.getD i z65 = x at *
        obtain ⟨x0, x1, x2, x3, x4, x5⟩ := x
        simp only at q0 q1 q2 q3 q4 q5
        have hrc := fun W => right_c ⟨x0, x1, x2, x3, x4, x5⟩ W
        have hky := @rightD_key ⟨x0, x1, x2, x3, x4, x5⟩
        obtain ⟨rb, hrb⟩ : ∃ rb, rightD ⟨x0, x1, x2, x3, x4, x5⟩ = rb := ⟨_, rfl⟩
        obtain ⟨ub, hub⟩ : ∃ ub, usedB (l.take i) x4 = ub := ⟨_, rfl⟩
        have HG3 : Hid (chkG (-1) [] l = (rb && decide (last < x0) && !ub && chkG x0 (l.take (i + 1)) (l.drop (i + 1)))) := Lib.hid (by rw [HG.out, HG2.out, chkG, hrb, hub, HT2.out])
        rw [hrb] at hrc hky
        have HRC := Lib.hid hrc
        have HKY := Lib.hid hky
        clear hrc hky hrb HG HG2
        simp only at HRC HKY
        go_wp2_with fail
        refine (HRC.out _).mono ?_
        rintro e w2 ⟨rfl, hb⟩
        have HB2 := Lib.hid (below_step (below_alloc HBr.out _) hb)
        have HM2 := Lib.hid ((HM.out.below (below_alloc (Below.refl _ wr) _)).below hb)
        have BK2 := Lib.hid (blk_below (blk_new wr _) hb)
        have hlk := fun h : (Bm.kl x4).wf = true => HM2.out.lookup 51 Tryd.underlying51 x4 h
        rw [hub] at hlk
        have hs0 : w2.cell? ⟨wr.heap.size, 0, none⟩ = some (.int .i64 x0) := (blk_cell BK2.out 0).trans rfl
        have hs4 : w2.cell? ⟨wr.heap.size, 4, none⟩ = some (.int .i64 x4) := (blk_cell BK2.out 4).trans rfl
        have hs5 : w2.cell? ⟨wr.heap.size, 5, none⟩ = some (.bool x5) := (blk_cell BK2.out 5).trans rfl
        clear hb
        cases rb with
        | false =>
          have HGf : Hid (chkG (-1) [] l = false) := Lib.hid (by rw [HG3.out]; simp)
          clear hlk
          go_wp2_with fail
          go_ret
          exact ⟨by rw [← HR.out, HGf.out]; rfl, HB2.out⟩
        | true =>
          have hk : 0 ≤ x4 ∧ x4 < 2147483579 := HKY.out rfl
          have hwf : (Bm.kl x4).wf = true := WalkArith.wf_i64 (by omega)
          have hlk := hlk hwf
          by_cases h0 : x0 ≤ last
          · have t1 : decide (x0 ≤ last) = true := decide_eq_true h0
            have HGf : Hid (chkG (-1) [] l = false) := Lib.hid (by rw [HG3.out, decide_eq_false (p := last < x0) (by omega)]; simp)
            clear hlk
            go_wp2_with fail
            go_ret
            exact ⟨by rw [← HR.out, HGf.out]; rfl, HB2.out⟩
          · have t1 : decide (x0 ≤ last) = false := decide_eq_false h0
            cases ub with
            | true =>
              have HGf : Hid (chkG (-1) [] l = false) := Lib.hid (by rw [HG3.out]; simp)
              go_wp2_with fail
              go_ret
              exact ⟨by rw [← HR.out, HGf.out]; rfl, HB2.out⟩
            | false =>
              have HGt : Hid (chkG (-1) [] l = chkG x0 (l.take (i + 1)) (l.drop (i + 1))) := Lib.hid (by rw [HG3.out, decide_eq_true (p := last < x0) (by omega)]; simp)
              go_wp2_with fail
              refine wp_region_quiet_tail 9 (by kernel_rfl) (by kernel_rfl) ?_
              simp only [List.take_succ_cons, List.take_zero, List.drop_succ_cons, List.drop_zero]
              repeat (go_big_quiet_step (fail))
              refine wpQuiet_nil ?_
              intro m
              go_wp2_with (at_mapUpdate; refine Bm.put_in (w := w2.drewN m) (b := w.heap.size) (n := i) (U := usedB (l.take i)) HM2.out rfl _ _ _ 51 rfl Tryd.underlying51 (by have h9 : i ≤ 1024 := (by omega); simp only [maxLen]; omega) x4 hwf (!x5) rfl rfl rfl ?_; intro w3 hM3 hg3; have HM3 := Lib.hid hM3; have HB3 := Lib.hid ((pw_below_drewN HB2.out m).grown hg3 (pw_below_drewN HB2.out m).size (fun k hk => by cases hk; exact Nat.le_refl _)); clear hM3 hg3)
              refine ⟨⟨i + 1, x0, by omega, by go_num, rfl, HB3, Lib.hid ?_, HGt⟩, by simp [intOf]; omega⟩
              have e : (fun j => if j = x4 then !x5 else usedB (l.take i) j) = usedB (l.take (i + 1)) := funext fun j => by
                rw [HT2.out, usedB_snoc]
                by_cases ej : j = x4
                · subst ej; rw [if_pos rfl, hub]; simp
                · rw [if_neg ej, decide_eq_false (p := x4 = j) (fun h => ej h.symm)]; simp
              rw [← e]
              exact HM3.out
      · have e : i = l.length := by omega
        subst e
        have HG2 : Hid (chkG (-1) [] l = true) := Lib.hid (by rw [HG.out, List.drop_length, chkG])
        go_wp2_with fail
        go_ret
        exact ⟨by rw [← HR.out, HG2.out]; rfl, HBr.out⟩
end Go.Proofs.YtjbcfdgnafmbkaaDoor.Dev
namespace Go.Proofs.YtjbcfdgnafmbkaaDoor.PBig
open Go.RowKit Go.Proofs.YtjbcfdgnafmbkaaDoor Go.Proofs.YtjbcfdgnafmbkaaDoorW.PrintWords
def devices_Check.f (l0 : List S65) : Option Int := some (Dev.chk l0)
theorem devices_Check.calls (A0 : Option Addr) (c0 : Nat) (l0 : List S65) (r : Int) (w : World) (hr0 : Kd.C k65 w A0 l0.length l0) (hc0 : l0.length ≤ c0) (h : devices_Check.f l0 = some r) :
    Calls Tryd.prog 44 #[.slice A0 l0.length c0] w fun e w' => e = .returned (.int .i64 r) ∧ Below w.heap.size w w' := by
  obtain rfl := Option.some.inj h
  exact Dev.check_c l0 A0 c0 w hr0
end Go.Proofs.YtjbcfdgnafmbkaaDoor.PBig
end
section
set_option linter.unusedVariables false
namespace Go.Proofs.YtjbcfdgnafmbkaaDoor.Dev
open Go.RowKit Go.Shelf Go.Proofs.YtjbcfdgnafmbkaaDoor Go.Proofs.YtjbcfdgnafmbkaaDoorW.PrintWords Go.Proofs.YtjbcfdgnafmbkaaDoor.PBig
attribute [local go_sem] Oper.semAt_some
def selB (p t k : Int) (x : S65) : Bool := decide (x.f3 = p) && decide (x.f1 ≤ t) && decide (x.f2 ≤ k)
def encD (x : S65) : Array Value := #[.agg #[.int .i64 x.f0, .int .i64 x.f1, .int .i64 x.f2, .int .i64 x.f3, .int .i64 x.f4, .bool x.f5]]
theorem of_c (A : Option Addr) (nn c : Nat) (p t k : Int) (w : World) : Calls Tryd.prog 116 #[.slice A nn c, .int .i64 p, .int .i64 t, .int .i64 k] w fun e w' =>
    e = .returned (.func (.func 135) #[] #[.pointer (some ⟨w.heap.size, 0, none⟩), .pointer (some ⟨w.heap.size + 1, 0, none⟩), .pointer (some ⟨w.heap.size + 1 + 1, 0, none⟩), .pointer (some ⟨w.heap.size + 1 + 1 + 1, 0, none⟩)]) ∧
    w' = (((w.alloc (.cells #[.slice A nn c] 63)).alloc (.cells #[.int .i64 p] 3)).alloc (.cells #[.int .i64 t] 3)).alloc (.cells #[.int .i64 k] 3) := by
  go_enter Tryd.func116, Tryd.ntmps116
  go_wp2
  go_ret
  exact ⟨rfl, rfl⟩
set_option maxRecDepth 100000 in
set_option maxHeartbeats 2000000 in
theorem of1_in (F : Fence) (n : Nat) (h7 : F.fn 135) (hro : F.round = none) (hn : 1 ≤ n) (b0 b1 b2 b3 : Nat) (A : Option Addr) (c : Nat) (l : List S65) (p t k : Int) (w : World) (hC : Kd.C k65 w A l.length l)
    (q0 : w.cell? ⟨b0, 0, none⟩ = some (.slice A l.length c)) (q1 : w.cell? ⟨b1, 0, none⟩ = some (.int .i64 p)) (q2 : w.cell? ⟨b2, 0, none⟩ = some (.int .i64 t)) (q3 : w.cell? ⟨b3, 0, none⟩ = some (.int .i64 k)) :
    SeqStopsK F n Tryd.prog 135 #[.pointer (some ⟨b0, 0, none⟩), .pointer (some ⟨b1, 0, none⟩), .pointer (some ⟨b2, 0, none⟩), .pointer (some ⟨b3, 0, none⟩)] encD (Below w.heap.size) (fun xs => xs = l.filter (selB p t k)) (fun _ => True) l.length w := by
  intro lp J Jx W hW hJ hJx hY h0
  have HC := Lib.hid hC
  have hln : l.length ≤ 9223372036854775807 := hC.2.1
  have HJ := Lib.hid hJ
  have HY := Lib.hid hY
  have Q := Lib.hid (And.intro q0 (And.intro q1 (And.intro q2 q3)))
  clear hC hJ hY q0 q1 q2 q3
  have c0 : W.cell? ⟨b0, 0, none⟩ = some (.slice A l.length c) := (hW.cell (World.block_lt_of_cell? w _ Q.out.1)).trans Q.out.1
  refine callsIn_of_wp Tryd.func135 rfl h7 ?_ hro
  simp only [Tryd.ntmps135, List.size_toArray, List.length_cons, List.length_nil, Nat.reduceAdd, Nat.reduceSub, Array.replicate_succ, Array.replicate_zero, List.push_toArray, List.append_toArray, List.nil_append, List.cons_append]
  gi_wp2
  gi_loopw [10] (fun v10 wr => ∃ i : Nat, i ≤ l.length ∧ v10 = .int .i64 i ∧ Hid (Below w.heap.size w wr) ∧ Hid (J ((l.take i).filter (selB p t k)) wr)) (fun v10 _ => l.length - (intOf v10).toNat)
  case atStart => exact ⟨0, by omega, rfl, Lib.hid hW, Lib.hid (by rw [List.take_zero]; exact h0)⟩
  case round =>
    obtain ⟨i, hil, rfl, HB, HJr⟩ := hrel
    by_cases hlt : i < l.length
    · obtain ⟨b, o, rfl, hel⟩ := el65 (Kd.C_below HC.out HB.out) (by omega)
      obtain ⟨x0q, x1q, x2q, x3q, x4q, x5q⟩ := hel i hlt
      have c1 : wr.cell? ⟨b1, 0, none⟩ = some (.int .i64 p) := (HB.out.cell (World.block_lt_of_cell? w _ Q.out.2.1)).trans Q.out.2.1
      have c2 : wr.cell? ⟨b2, 0, none⟩ = some (.int .i64 t) := (HB.out.cell (World.block_lt_of_cell? w _ Q.out.2.2.1)).trans Q.out.2.2.1
      have c3 : wr.cell? ⟨b3, 0, none⟩ = some (.int .i64 k) := (HB.out.cell (World.block_lt_of_cell? w _ Q.out.2.2.2)).trans Q.out.2.2.2
      have HT := Lib.hid (take_snoc65 l i hlt)
      have HLe := Lib.hid (show ((l.take i).filter (selB p t k)).length < l.length from Nat.lt_of_le_of_lt (List.length_filter_le _ _) (by rw [List.length_take]; omega))
      clear hel
      generalize l.getD i z65 = x at *
      obtain ⟨x0, x1, x2, x3, x4, x5⟩ := x
      simp only at x0q x1q x2q x3q x4q x5q
      have hW2 : Hid (Below w.heap.size w (wr.alloc (.cells #[.int .i64 x0, .int .i64 x1, .int .i64 x2, .int .i64 x3, .int .i64 x4, .bool x5] 65))) := Lib.hid (below_alloc HB.out _)
      have hJ2 : Hid (J ((l.take i).filter (selB p t k)) (wr.alloc (.cells #[.int .i64 x0, .int .i64 x1, .int .i64 x2, .int .i64 x3, .int .i64 x4, .bool x5] 65))) := Lib.hid (HJ.out _ _ _ none HJr.out (World.grownBy_alloc wr _ none) (by simp))
      have hc1 : (wr.alloc (.cells #[.int .i64 x0, .int .i64 x1, .int .i64 x2, .int .i64 x3, .int .i64 x4, .bool x5] 65)).cell? ⟨b1, 0, none⟩ = some (.int .i64 p) := ((below_alloc (Below.refl _ wr) _).cell (World.block_lt_of_cell? wr _ c1)).trans c1
      have hc2 : (wr.alloc (.cells #[.int .i64 x0, .int .i64 x1, .int .i64 x2, .int .i64 x3, .int .i64 x4, .bool x5] 65)).cell? ⟨b2, 0, none⟩ = some (.int .i64 t) := ((below_alloc (Below.refl _ wr) _).cell (World.block_lt_of_cell? wr _ c2)).trans c2
      have hc3 : (wr.alloc (.cells #[.int .i64 x0, .int .i64 x1, .int .i64 x2, .int .i64 x3, .int .i64 x4, .bool x5] 65)).cell? ⟨b3, 0, none⟩ = some (.int .i64 k) := ((below_alloc (Below.refl _ wr) _).cell (World.block_lt_of_cell? wr _ c3)).trans c3
      obtain ⟨fn, tmps, assign, body, hy, hR⟩ := HY.out _ ⟨x0, x1, x2, x3, x4, x5⟩ _ hJ2.out HLe.out
      dsimp only [encD] at hy
      by_cases h3 : x3 = p
      · have e3 : (x3 == p) = true := beq_iff_eq.mpr h3
        have H3 := Lib.hid h3
        clear h3
        by_cases h1 : x1 ≤ t
        · have e1 : decide (x1 ≤ t) = true := decide_eq_true h1
          have H1 := Lib.hid h1
          clear h1
          by_cases h2 : x2 ≤ k
          · have e2 : decide (x2 ≤ k) = true := decide_eq_true h2
            have H2 := Lib.hid h2
            clear h2
            gi_wp2
            refine hR.mono ?_
            rintro e W3 (⟨rfl, hJ3, hk3⟩ | ⟨rfl, hJx3⟩)
            · have HB3 := Lib.hid (hW2.out.trans hk3)
              clear hy hR hk3
              gi_wp2
              go_roundw
              case rel => exact ⟨i + 1, by omega, by go_num, HB3, Lib.hid (by rw [HT.out, List.filter_append, List.filter_cons_of_pos (by have := H1.out; have := H2.out; have := H3.out; simp [selB]; omega), List.filter_nil]; exact hJ3)⟩
              case measure => simp [intOf]; omega
            · clear hy hR
              gi_wp2
              refine bodyPost_ret (results_none rfl _ _ _) rfl ?_
              exact ⟨⟨_, rfl⟩, .inr ⟨_, trivial, hJx3⟩⟩
          · have e2 : decide (x2 ≤ k) = false := decide_eq_false h2
            have H2 := Lib.hid h2
            clear h2 hy hR
            gi_wp2
            refine ⟨fun _ h => (by cases h), ?_⟩
            gi_wp2
            go_roundw
            case rel => exact ⟨i + 1, by omega, by go_num, hW2, Lib.hid (by rw [HT.out, List.filter_append, List.filter_cons_of_neg (by have := H2.out; simp [selB]; omega), List.filter_nil, List.append_nil]; exact hJ2.out)⟩
            case measure => simp [intOf]; omega
        · have e1 : decide (x1 ≤ t) = false := decide_eq_false h1
          have H1 := Lib.hid h1
          clear h1 hy hR
          gi_wp2
          refine ⟨fun _ h => (by cases h), ?_⟩
          gi_wp2
          go_roundw
          case rel => exact ⟨i + 1, by omega, by go_num, hW2, Lib.hid (by rw [HT.out, List.filter_append, List.filter_cons_of_neg (by have := H1.out; simp [selB]; intro a1 a2; omega), List.filter_nil, List.append_nil]; exact hJ2.out)⟩
          case measure => simp [intOf]; omega
      · have e3 : (x3 == p) = false := beq_eq_false_iff_ne.mpr h3
        have H3 := Lib.hid h3
        clear h3 hy hR
        gi_wp2
        refine ⟨fun _ h => (by cases h), ?_⟩
        gi_wp2
        go_roundw
        case rel => exact ⟨i + 1, by omega, by go_num, hW2, Lib.hid (by rw [HT.out, List.filter_append, List.filter_cons_of_neg (by have := H3.out; simp [selB, this]), List.filter_nil, List.append_nil]; exact hJ2.out)⟩
        case measure => simp [intOf]; omega
    · obtain rfl : i = l.length := by omega
      rw [List.take_length] at HJr
      gi_wp2
      go_end0
      exact ⟨⟨_, rfl⟩, .inl ⟨_, rfl, HJr.out⟩⟩
end Go.Proofs.YtjbcfdgnafmbkaaDoor.Dev
end
section
set_option linter.unusedVariables false
namespace Go.Proofs.YtjbcfdgnafmbkaaDoor.Dev
open Go.RowKit Go.Shelf Go.Proofs.YtjbcfdgnafmbkaaDoor Go.Proofs.YtjbcfdgnafmbkaaDoorW.PrintWords Go.Proofs.YtjbcfdgnafmbkaaDoor.PBig
attribute [local go_sem] Oper.semAt_some
def stepD (a : S65 × Bool) (y : S65) : S65 × Bool := if a.2 = false ∨ a.1.f1 ≤ y.f1 then (y, true) else a
def bestD (l : List S65) : S65 × Bool := l.foldl stepD (z65, false)
theorem bestD_snoc (l : List S65) (x : S65) : bestD (l ++ [x]) = stepD (bestD l) x := by simp [bestD]
def cmpI (a b : Int) : Int := if a < b then -1 else if a > b then 1 else 0
theorem cmpI_yes {a b : Int} (h : a ≤ b) : decide (cmpI a b ≤ 0) = true := decide_eq_true (by unfold cmpI; split <;> (try split) <;> omega)
theorem cmpI_no {a b : Int} (h : ¬ a ≤ b) : decide (cmpI a b ≤ 0) = false := decide_eq_false (by unfold cmpI; rw [if_neg (by omega), if_pos (by omega)]; decide)
theorem cmp_c (x y : S65) (w : World) : Calls Tryd.prog 117 #[.agg #[.int .i64 x.f0, .int .i64 x.f1, .int .i64 x.f2, .int .i64 x.f3, .int .i64 x.f4, .bool x.f5], .agg #[.int .i64 y.f0, .int .i64 y.f1, .int .i64 y.f2, .int .i64 y.f3, .int .i64 y.f4, .bool y.f5]] w fun e w' => e = .returned (.int .i64 (cmpI x.f1 y.f1)) ∧ Below w.heap.size w w' :=
  PDx.devices_current_1.calls x.f0 x.f1 x.f2 x.f3 x.f4 x.f5 y.f0 y.f1 y.f2 y.f3 y.f4 y.f5 (cmpI x.f1 y.f1) w (by
    unfold PDx.devices_current_1.f PDx.cmp_Compare_int.f PDx.cmp_isNaN_int.f cmpI
    by_cases h1 : x.f1 < y.f1 <;> by_cases h2 : x.f1 > y.f1 <;> simp [h1, h2])
def vD (x : S65) : Value := .agg #[.int .i64 x.f0, .int .i64 x.f1, .int .i64 x.f2, .int .i64 x.f3, .int .i64 x.f4, .bool x.f5]
def cellsD (x : S65) : Array Value := #[.int .i64 x.f0, .int .i64 x.f1, .int .i64 x.f2, .int .i64 x.f3, .int .i64 x.f4, .bool x.f5]
theorem keepsFrom_below {B : Nat} {W W' : World} (hb : Below W.heap.size W W') : KeepsFrom B W W' := ⟨hb.size, fun k o _ hk _ => (hb.block k (Array.getElem?_eq_some_iff.1 hk).1).trans hk⟩
structure Held (g : Nat) (b : S65 × Bool) (W : World) : Prop where
  o : W.heap[g]? = some (.cells #[.func (.func 117) #[] #[]] 165 (0, 0))
  x : W.heap[g + 1]? = some (.cells (cellsD b.1) 65 (0, 0))
  k : W.heap[g + 1 + 1]? = some (.cells #[.bool b.2] 4 (0, 0))
theorem Held.kept {g : Nat} {b : S65 × Bool} {A B : World} {row : Option Nat} (h : Held g b A) (hg : A.grownBy B row) (hr : ∀ r, row = some r → g + 1 + 1 < r) : Held g b B :=
  ⟨(hg.block g (blk_lt h.o) (fun e => by have := hr g e.symm; omega)).trans h.o, (hg.block _ (blk_lt h.x) (fun e => by have := hr _ e.symm; omega)).trans h.x, (hg.block _ (blk_lt h.k) (fun e => by have := hr _ e.symm; omega)).trans h.k⟩
theorem Held.below {g : Nat} {b : S65 × Bool} {A B : World} (h : Held g b A) (hb : Below A.heap.size A B) : Held g b B := ⟨blk_below h.o hb, blk_below h.x hb, blk_below h.k hb⟩
def putD (V : World) (g : Nat) (y : S65) (ok : Bool) : World :=
  ((((((V.setCell ⟨g + 1, 0, none⟩ (.int .i64 y.f0)).setCell ⟨g + 1, 1, none⟩ (.int .i64 y.f1)).setCell ⟨g + 1, 2, none⟩ (.int .i64 y.f2)).setCell ⟨g + 1, 3, none⟩ (.int .i64 y.f3)).setCell ⟨g + 1, 4, none⟩ (.int .i64 y.f4)).setCell ⟨g + 1, 5, none⟩ (.bool y.f5)).setCell ⟨g + 1 + 1, 0, none⟩ (.bool ok)
theorem putD_others (V : World) (g : Nat) (y : S65) (ok : Bool) : KeepsOthers V (putD V g y ok) :=
  (((((((KeepsOthers.setCell V _ _).trans (KeepsOthers.setCell _ _ _)).trans (KeepsOthers.setCell _ _ _)).trans (KeepsOthers.setCell _ _ _)).trans (KeepsOthers.setCell _ _ _)).trans (KeepsOthers.setCell _ _ _)).trans (KeepsOthers.setCell _ _ _))
theorem putD_below {n : Nat} {w0 V : World} (h : Below n w0 V) (g : Nat) (hn : n ≤ g) (y : S65) (ok : Bool) : Below n w0 (putD V g y ok) :=
  ((((((h.setCell (p := ⟨g + 1, 0, none⟩) (by simp; omega) _).setCell (p := ⟨g + 1, 1, none⟩) (by simp; omega) _).setCell (p := ⟨g + 1, 2, none⟩) (by simp; omega) _).setCell (p := ⟨g + 1, 3, none⟩) (by simp; omega) _).setCell (p := ⟨g + 1, 4, none⟩) (by simp; omega) _).setCell (p := ⟨g + 1, 5, none⟩) (by simp; omega) _).setCell (p := ⟨g + 1 + 1, 0, none⟩) (by simp; omega) _
theorem putD_held {V : World} {g : Nat} {b : S65 × Bool} (h : Held g b V) (y : S65) (ok : Bool) : Held g (y, ok) (putD V g y ok) := by
  refine ⟨?_, ?_, ?_⟩
  · exact blk_far (blk_far (blk_far (blk_far (blk_far (blk_far (blk_far h.o (by first | (simp; done) | (simp; omega)) _) (by first | (simp; done) | (simp; omega)) _) (by first | (simp; done) | (simp; omega)) _) (by first | (simp; done) | (simp; omega)) _) (by first | (simp; done) | (simp; omega)) _) (by first | (simp; done) | (simp; omega)) _) (by first | (simp; done) | (simp; omega)) _
  · exact blk_far (blk_set (blk_set (blk_set (blk_set (blk_set (blk_set h.x 0 _) 1 _) 2 _) 3 _) 4 _) 5 _) (by simp) _
  · exact blk_set (blk_far (blk_far (blk_far (blk_far (blk_far (blk_far h.k (by simp) _) (by simp) _) (by simp) _) (by simp) _) (by simp) _) (by simp) _) 0 _
def chainD (W : World) (g : Nat) (m0 m1 m2 m3 m4 : Int) (m5 ok : Bool) : World :=
  (((((((W.setCell ⟨g + 1, 0, none⟩ (.int .i64 m0)).setCell ⟨g + 1, 1, none⟩ (.int .i64 m1)).setCell ⟨g + 1, 2, none⟩ (.int .i64 m2)).setCell ⟨g + 1, 3, none⟩ (.int .i64 m3)).setCell ⟨g + 1, 4, none⟩ (.int .i64 m4)).setCell ⟨g + 1, 5, none⟩ (.bool m5)).setCell ⟨g + 1 + 1, 0, none⟩ (.bool ok)).drew
theorem chain_fin {w W : World} {b : S65 × Bool} {g D : Nat} {m0 m1 m2 m3 m4 : Int} {m5 ok : Bool} (h1 : Held g b W) (h2 : Below g w W) (hg : g = w.heap.size) (hD : g + 1 + 1 < D) (hDf : W.heap[D]? = some (.deferred (some []))) :
    (Instr.takeDeferred D).run Tryd.prog (chainD W g m0 m1 m2 m3 m4 m5 ok) = .ok [] ((chainD W g m0 m1 m2 m3 m4 m5 ok).putObj D (.deferred none)) ∧
    ((chainD W g m0 m1 m2 m3 m4 m5 ok).putObj D (.deferred none)).heap[g + 1]? = some (.cells #[.int .i64 m0, .int .i64 m1, .int .i64 m2, .int .i64 m3, .int .i64 m4, .bool m5] 65 (0, 0)) ∧ ((chainD W g m0 m1 m2 m3 m4 m5 ok).putObj D (.deferred none)).heap[g + 1 + 1]? = some (.cells #[.bool ok] 4 (0, 0)) ∧ Below g w ((chainD W g m0 m1 m2 m3 m4 m5 ok).putObj D (.deferred none)) := by
  have e : chainD W g m0 m1 m2 m3 m4 m5 ok = (putD W g ⟨m0, m1, m2, m3, m4, m5⟩ ok).drew := by unfold chainD putD; rfl
  rw [e]
  have hDf0 := (putD_others W g ⟨m0, m1, m2, m3, m4, m5⟩ ok).same D _ hDf rfl
  have hH := putD_held h1 ⟨m0, m1, m2, m3, m4, m5⟩ ok
  have hB' := putD_below h2 g (Nat.le_refl _) ⟨m0, m1, m2, m3, m4, m5⟩ ok
  clear e
  generalize putD W g ⟨m0, m1, m2, m3, m4, m5⟩ ok = V at *
  have hDf' : V.drew.heap[D]? = some (.deferred (some [])) := hDf0
  refine ⟨run_takeDeferred hDf', (World.putObj_heap_other (by omega)).trans hH.x, (World.putObj_heap_other (by omega)).trans hH.k, ?_⟩
  subst hg
  exact (below_drew1 hB').trans (belowK_b (w := w) (Nat.le_refl _) _ D _ _ (by omega) hDf' rfl rfl)
theorem great_end {w W : World} {b : S65 × Bool} {g D : Nat} {m0 m1 m2 m3 m4 : Int} {m5 ok : Bool} {Q : Ending → World → Prop} {t0 t1 t2 t3 t6 t7 t8 t9 t10 t11 t12 t13 t14 t15 t16 t17 t18 t19 t20 : Value} (h1 : Held g b W) (h2 : Below g w W) (hg : g = w.heap.size) (hD : g + 1 + 1 < D) (hDf : W.heap[D]? = some (.deferred (some [])))
    (hQ : ∀ W', Below g w W' → Q (.returned (.tuple #[.agg #[.int .i64 m0, .int .i64 m1, .int .i64 m2, .int .i64 m3, .int .i64 m4, .bool m5], .bool ok])) W') :
    bodyPostM Fence.wide 3 Tryd.prog Tryd.f115 Q Exit.ret { tmps := #[t0, t1, t2, t3, .pointer (some ⟨g + 1, 0, none⟩), .pointer (some ⟨g + 1 + 1, 0, none⟩), t6, t7, t8, t9, t10, t11, t12, t13, t14, t15, t16, t17, t18, t19, t20], defers := [{ target := Target.collected D, args := #[] }] }
      ((((((((W.setCell ⟨g + 1, 0, none⟩ (.int .i64 m0)).setCell ⟨g + 1, 1, none⟩ (.int .i64 m1)).setCell ⟨g + 1, 2, none⟩ (.int .i64 m2)).setCell ⟨g + 1, 3, none⟩ (.int .i64 m3)).setCell ⟨g + 1, 4, none⟩ (.int .i64 m4)).setCell ⟨g + 1, 5, none⟩ (.bool m5)).setCell ⟨g + 1 + 1, 0, none⟩ (.bool ok)).drew) := by
  have FIN := chain_fin (m0 := m0) (m1 := m1) (m2 := m2) (m3 := m3) (m4 := m4) (m5 := m5) (ok := ok) h1 h2 hg hD hDf
  unfold chainD at FIN
  refine ⟨by simp, .inl ⟨_, _, rfl, FIN.1, ?_⟩⟩
  obtain ⟨_, f2, f3, f4⟩ := FIN
  generalize World.putObj _ _ _ = Wf at f2 f3 f4 ⊢
  have x0 : Wf.cell? ⟨g + 1, 0, none⟩ = some (.int .i64 m0) := (blk_cell f2 0).trans rfl
  have x1 : Wf.cell? ⟨g + 1, 1, none⟩ = some (.int .i64 m1) := (blk_cell f2 1).trans rfl
  have x2 : Wf.cell? ⟨g + 1, 2, none⟩ = some (.int .i64 m2) := (blk_cell f2 2).trans rfl
  have x3 : Wf.cell? ⟨g + 1, 3, none⟩ = some (.int .i64 m3) := (blk_cell f2 3).trans rfl
  have x4 : Wf.cell? ⟨g + 1, 4, none⟩ = some (.int .i64 m4) := (blk_cell f2 4).trans rfl
  have x5 : Wf.cell? ⟨g + 1, 5, none⟩ = some (.bool m5) := (blk_cell f2 5).trans rfl
  have x6 : Wf.cell? ⟨g + 1 + 1, 0, none⟩ = some (.bool ok) := (blk_cell f3 0).trans rfl
  exact ⟨_, by simp [results, Tryd.results115, go_sem, x0, x1, x2, x3, x4, x5, x6], hQ Wf f4⟩
set_option maxHeartbeats 4000000 in
set_option maxRecDepth 100000 in
theorem greatest_c (lb : Array Value) (xs : List S65) (N : Nat) (w : World) (hs : SeqStopsK Fence.wide 2 Tryd.prog 135 lb encD (Below w.heap.size) (fun ys => ys = xs) (fun _ => True) N w) :
    Calls Tryd.prog 115 #[.func (.func 135) #[] lb, .func (.func 117) #[] #[]] w fun e w' => e = .returned (.tuple #[vD (bestD xs).1, .bool (bestD xs).2]) ∧ Below w.heap.size w w' := by
  refine (callsIn_wide (n := 3)).1 ?_
  refine callsIn_of_wp_marks Tryd.func115 rfl trivial ?_ rfl
  simp only [Tryd.ntmps115, List.size_toArray, List.length_cons, List.length_nil, Nat.reduceAdd, Nat.reduceSub, Array.replicate_succ, Array.replicate_zero, List.push_toArray, List.append_toArray, List.nil_append, List.cons_append]
  gi_wp2
  generalize hW0 : World.alloc _ _ = W0
  have HH : Held w.heap.size (bestD []) W0 := by
    rw [← hW0]
    refine ⟨blk_alloc (blk_alloc (blk_new w _) _) _, blk_alloc (by have := blk_new (w.alloc (.cells #[.func (.func 117) #[] #[]] 165)) (.cells #[.int .i64 0, .int .i64 0, .int .i64 0, .int .i64 0, .int .i64 0, .bool false] 65); rw [World.size_alloc] at this; exact this) _, ?_⟩
    have := blk_new ((w.alloc (.cells #[.func (.func 117) #[] #[]] 165)).alloc (.cells #[.int .i64 0, .int .i64 0, .int .i64 0, .int .i64 0, .int .i64 0, .bool false] 65)) (.cells #[.bool false] 4)
    rw [World.size_alloc, World.size_alloc] at this
    exact this
  have hb : Below w.heap.size w W0 := by rw [← hW0]; exact below_alloc (below_alloc (below_alloc (Below.refl _ w) _) _) _
  have hsz : W0.heap.size = w.heap.size + 1 + 1 + 1 := by rw [← hW0]; simp
  clear hW0
  have HS := Lib.hid hsz
  clear hsz
  refine wpIn_rangeFunc_ownH rfl (by omega) (gf := 135) (lb := lb) rfl trivial (enters_of Tryd.func135 (by kernel_rfl) rfl) hs belowK_t (belowK_b (by have := HS.out; omega)) hb (fun _ => rfl)
    (fun pre W => Held w.heap.size (bestD pre) W ∧ Below w.heap.size w W) (fun _ _ _ => False) ?hI (fun _ _ _ _ _ h _ _ => h) ⟨HH, hb⟩
    (fun y a' W => ∃ Bx, w.heap.size + 1 + 1 < Bx ∧ W.heap[Bx]? = some (.cells (cellsD y) 65 (0, 0)) ∧ a' = { tmps := #[.func (.func 135) #[] lb, .func (.func 117) #[] #[], undef, .pointer (some ⟨w.heap.size, 0, none⟩), .pointer (some ⟨w.heap.size + 1, 0, none⟩), .pointer (some ⟨w.heap.size + 1 + 1, 0, none⟩), .pointer (some ⟨Bx, 0, none⟩), .func (.func 135) #[] lb, vD y, undef, undef, undef, undef, undef, undef, undef, undef, undef, undef, undef, undef], defers := [] })
    ?hAx ?assign ?body ?done ?stop
  case hI =>
    rintro s A B row ⟨h1, h2⟩ hg hr
    have := HS.out
    exact ⟨h1.kept hg (fun r e => by have := (hr r e).1; omega), h2.grown hg h2.size (fun r e => by have := (hr r e).1; omega)⟩
  case hAx =>
    rintro y a' _ A B row ⟨Bx, hB, hx, rfl⟩ hg hr
    refine ⟨Bx, hB, (hg.block Bx (blk_lt hx) (fun e => ?_)).trans hx, rfl⟩
    obtain ⟨_, o, ho, hc⟩ := hr Bx e.symm
    rw [hx] at ho; cases ho; cases hc
  case assign =>
    rintro lp pre y W K ⟨h1, h2⟩ hK
    have hK2 := hK { tmps := #[.func (.func 135) #[] lb, .func (.func 117) #[] #[], undef, .pointer (some ⟨w.heap.size, 0, none⟩), .pointer (some ⟨w.heap.size + 1, 0, none⟩), .pointer (some ⟨w.heap.size + 1 + 1, 0, none⟩), .pointer (some ⟨W.heap.size, 0, none⟩), .func (.func 135) #[] lb, vD y, undef, undef, undef, undef, undef, undef, undef, undef, undef, undef, undef, undef], defers := [] } (W.alloc (.cells (cellsD y) 65)) ((KeepsOthers.alloc _ _).from _) ((Below.refl _ W).alloc h2.size _) ⟨h1.kept (World.grownBy_alloc W _ none) (by simp), below_alloc h2 _⟩ ⟨W.heap.size, blk_lt h1.k, blk_new W _, rfl⟩
    clear hK
    dsimp only [encD]
    unfold vD cellsD at hK2
    gi_wp2
    exact hK2
  case body =>
    rintro lp pre y a' W hlp ⟨r, hr⟩ ⟨h1, h2⟩ ⟨Bx, hBx, hx, rfl⟩ hlen
    have HP := Lib.hid (bestD_snoc pre y)
    generalize bestD pre = bb at h1 HP
    obtain ⟨m, ok⟩ := bb
    obtain ⟨m0, m1, m2, m3, m4, m5⟩ := m
    obtain ⟨y0, y1, y2, y3, y4, y5⟩ := y
    have H1 := Lib.hid h1
    have H2 := Lib.hid h2
    have HX := Lib.hid hx
    have ho := h1.o
    have hxx := h1.x
    have hk := h1.k
    unfold cellsD at hxx hx
    simp only at hxx hx hk
    clear h1 h2
    have s0 : W.cell? ⟨w.heap.size, 0, none⟩ = some (.func (.func 117) #[] #[]) := (blk_cell ho 0).trans rfl
    have k0 : W.cell? ⟨w.heap.size + 1 + 1, 0, none⟩ = some (.bool ok) := (blk_cell hk 0).trans rfl
    have kf := blk_frozen hk 0
    have x0 : W.cell? ⟨w.heap.size + 1, 0, none⟩ = some (.int .i64 m0) := (blk_cell hxx 0).trans rfl
    have x1 : W.cell? ⟨w.heap.size + 1, 1, none⟩ = some (.int .i64 m1) := (blk_cell hxx 1).trans rfl
    have x2 : W.cell? ⟨w.heap.size + 1, 2, none⟩ = some (.int .i64 m2) := (blk_cell hxx 2).trans rfl
    have x3 : W.cell? ⟨w.heap.size + 1, 3, none⟩ = some (.int .i64 m3) := (blk_cell hxx 3).trans rfl
    have x4 : W.cell? ⟨w.heap.size + 1, 4, none⟩ = some (.int .i64 m4) := (blk_cell hxx 4).trans rfl
    have x5 : W.cell? ⟨w.heap.size + 1, 5, none⟩ = some (.bool m5) := (blk_cell hxx 5).trans rfl
    have z0 : W.cell? ⟨Bx, 0, none⟩ = some (.int .i64 y0) := (blk_cell hx 0).trans rfl
    have z1 : W.cell? ⟨Bx, 1, none⟩ = some (.int .i64 y1) := (blk_cell hx 1).trans rfl
    have z2 : W.cell? ⟨Bx, 2, none⟩ = some (.int .i64 y2) := (blk_cell hx 2).trans rfl
    have z3 : W.cell? ⟨Bx, 3, none⟩ = some (.int .i64 y3) := (blk_cell hx 3).trans rfl
    have z4 : W.cell? ⟨Bx, 4, none⟩ = some (.int .i64 y4) := (blk_cell hx 4).trans rfl
    have z5 : W.cell? ⟨Bx, 5, none⟩ = some (.bool y5) := (blk_cell hx 5).trans rfl
    cases ok with
    | false =>
      have xf := fun i => blk_frozen hxx i
      gi_wp2
      refine ⟨fun _ h => (by cases h), ?_⟩
      gi_wp2
      refine ⟨(putD_others W w.heap.size ⟨y0, y1, y2, y3, y4, y5⟩ true).from _, putD_below (Below.refl _ W) w.heap.size (Nat.le_refl _) ⟨y0, y1, y2, y3, y4, y5⟩ true, ?_, putD_below H2.out w.heap.size (Nat.le_refl _) ⟨y0, y1, y2, y3, y4, y5⟩ true⟩
      rw [HP.out]
      exact putD_held H1.out ⟨y0, y1, y2, y3, y4, y5⟩ true
    | true =>
      by_cases hle : m1 ≤ y1
      · have e1 : decide (cmpI m1 y1 ≤ 0) = true := cmpI_yes hle
        have HC := Lib.hid (cmp_c ⟨m0, m1, m2, m3, m4, m5⟩ ⟨y0, y1, y2, y3, y4, y5⟩ W)
        have HL := Lib.hid hle
        clear hle
        simp only at HC
        gi_wp2_with fail
        refine ⟨trivial, ?_⟩
        refine (CallsIn.inRound lp (callsIn_wide.2 HC.out)).mono ?_
        rintro e W2 ⟨rfl, hb2⟩
        have HB2 := Lib.hid hb2
        have H12 := Lib.hid (H1.out.below hb2)
        have hxx2 : W2.heap[w.heap.size + 1]? = some (.cells #[.int .i64 m0, .int .i64 m1, .int .i64 m2, .int .i64 m3, .int .i64 m4, .bool m5] 65 (0, 0)) := blk_below hxx hb2
        have hx2 : W2.heap[Bx]? = some (.cells #[.int .i64 y0, .int .i64 y1, .int .i64 y2, .int .i64 y3, .int .i64 y4, .bool y5] 65 (0, 0)) := blk_below hx hb2
        have hk2 : W2.heap[w.heap.size + 1 + 1]? = some (.cells #[.bool true] 4 (0, 0)) := blk_below hk hb2
        have HKF := Lib.hid (keepsFrom_below (B := W0.heap.size) hb2)
        have HBl := Lib.hid (hb2.mono H2.out.size)
        clear hb2 hxx hx hk s0 k0 kf x0 x1 x2 x3 x4 x5 z0 z1 z2 z3 z4 z5 ho
        have z0 : W2.cell? ⟨Bx, 0, none⟩ = some (.int .i64 y0) := (blk_cell hx2 0).trans rfl
        have z1 : W2.cell? ⟨Bx, 1, none⟩ = some (.int .i64 y1) := (blk_cell hx2 1).trans rfl
        have z2 : W2.cell? ⟨Bx, 2, none⟩ = some (.int .i64 y2) := (blk_cell hx2 2).trans rfl
        have z3 : W2.cell? ⟨Bx, 3, none⟩ = some (.int .i64 y3) := (blk_cell hx2 3).trans rfl
        have z4 : W2.cell? ⟨Bx, 4, none⟩ = some (.int .i64 y4) := (blk_cell hx2 4).trans rfl
        have z5 : W2.cell? ⟨Bx, 5, none⟩ = some (.bool y5) := (blk_cell hx2 5).trans rfl
        have x0 : W2.cell? ⟨w.heap.size + 1, 0, none⟩ = some (.int .i64 m0) := (blk_cell hxx2 0).trans rfl
        have x1 : W2.cell? ⟨w.heap.size + 1, 1, none⟩ = some (.int .i64 m1) := (blk_cell hxx2 1).trans rfl
        have x2 : W2.cell? ⟨w.heap.size + 1, 2, none⟩ = some (.int .i64 m2) := (blk_cell hxx2 2).trans rfl
        have x3 : W2.cell? ⟨w.heap.size + 1, 3, none⟩ = some (.int .i64 m3) := (blk_cell hxx2 3).trans rfl
        have x4 : W2.cell? ⟨w.heap.size + 1, 4, none⟩ = some (.int .i64 m4) := (blk_cell hxx2 4).trans rfl
        have x5 : W2.cell? ⟨w.heap.size + 1, 5, none⟩ = some (.bool m5) := (blk_cell hxx2 5).trans rfl
        have k0 : W2.cell? ⟨w.heap.size + 1 + 1, 0, none⟩ = some (.bool true) := (blk_cell hk2 0).trans rfl
        have kf := blk_frozen hk2 0
        have xf := fun i => blk_frozen hxx2 i
        clear hxx2 hx2 hk2
        gi_wp2
        refine ⟨HKF.out.trans ((putD_others W2 w.heap.size ⟨y0, y1, y2, y3, y4, y5⟩ true).from _), putD_below HBl.out w.heap.size (Nat.le_refl _) ⟨y0, y1, y2, y3, y4, y5⟩ true, ?_, putD_below (H2.out.trans HBl.out) w.heap.size (Nat.le_refl _) ⟨y0, y1, y2, y3, y4, y5⟩ true⟩
        rw [HP.out, stepD, if_pos (Or.inr HL.out)]
        exact putD_held H12.out ⟨y0, y1, y2, y3, y4, y5⟩ true
      · have e1 : decide (cmpI m1 y1 ≤ 0) = false := cmpI_no hle
        have HC := Lib.hid (cmp_c ⟨m0, m1, m2, m3, m4, m5⟩ ⟨y0, y1, y2, y3, y4, y5⟩ W)
        have HL := Lib.hid hle
        clear hle
        simp only at HC
        gi_wp2_with fail
        refine ⟨trivial, ?_⟩
        refine (CallsIn.inRound lp (callsIn_wide.2 HC.out)).mono ?_
        rintro e W2 ⟨rfl, hb2⟩
        have HB2 := Lib.hid hb2
        have H12 := Lib.hid (H1.out.below hb2)
        have hxx2 : W2.heap[w.heap.size + 1]? = some (.cells #[.int .i64 m0, .int .i64 m1, .int .i64 m2, .int .i64 m3, .int .i64 m4, .bool m5] 65 (0, 0)) := blk_below hxx hb2
        have hx2 : W2.heap[Bx]? = some (.cells #[.int .i64 y0, .int .i64 y1, .int .i64 y2, .int .i64 y3, .int .i64 y4, .bool y5] 65 (0, 0)) := blk_below hx hb2
        have hk2 : W2.heap[w.heap.size + 1 + 1]? = some (.cells #[.bool true] 4 (0, 0)) := blk_below hk hb2
        have HKF := Lib.hid (keepsFrom_below (B := W0.heap.size) hb2)
        have HBl := Lib.hid (hb2.mono H2.out.size)
        clear hb2 hxx hx hk s0 k0 kf x0 x1 x2 x3 x4 x5 z0 z1 z2 z3 z4 z5 ho
        have z0 : W2.cell? ⟨Bx, 0, none⟩ = some (.int .i64 y0) := (blk_cell hx2 0).trans rfl
        have z1 : W2.cell? ⟨Bx, 1, none⟩ = some (.int .i64 y1) := (blk_cell hx2 1).trans rfl
        have z2 : W2.cell? ⟨Bx, 2, none⟩ = some (.int .i64 y2) := (blk_cell hx2 2).trans rfl
        have z3 : W2.cell? ⟨Bx, 3, none⟩ = some (.int .i64 y3) := (blk_cell hx2 3).trans rfl
        have z4 : W2.cell? ⟨Bx, 4, none⟩ = some (.int .i64 y4) := (blk_cell hx2 4).trans rfl
        have z5 : W2.cell? ⟨Bx, 5, none⟩ = some (.bool y5) := (blk_cell hx2 5).trans rfl
        have x0 : W2.cell? ⟨w.heap.size + 1, 0, none⟩ = some (.int .i64 m0) := (blk_cell hxx2 0).trans rfl
        have x1 : W2.cell? ⟨w.heap.size + 1, 1, none⟩ = some (.int .i64 m1) := (blk_cell hxx2 1).trans rfl
        have x2 : W2.cell? ⟨w.heap.size + 1, 2, none⟩ = some (.int .i64 m2) := (blk_cell hxx2 2).trans rfl
        have x3 : W2.cell? ⟨w.heap.size + 1, 3, none⟩ = some (.int .i64 m3) := (blk_cell hxx2 3).trans rfl
        have x4 : W2.cell? ⟨w.heap.size + 1, 4, none⟩ = some (.int .i64 m4) := (blk_cell hxx2 4).trans rfl
        have x5 : W2.cell? ⟨w.heap.size + 1, 5, none⟩ = some (.bool m5) := (blk_cell hxx2 5).trans rfl
        have k0 : W2.cell? ⟨w.heap.size + 1 + 1, 0, none⟩ = some (.bool true) := (blk_cell hk2 0).trans rfl
        have kf := blk_frozen hk2 0
        have xf := fun i => blk_frozen hxx2 i
        clear hxx2 hx2 hk2
        gi_wp2
        refine ⟨HKF.out, HBl.out, ?_, H2.out.trans HBl.out⟩
        rw [HP.out, stepD, if_neg (by simp; exact HL.out)]
        exact H12.out
  case done =>
    rintro D ys W hD rfl ⟨h1, h2⟩ hDf
    obtain ⟨bb, hbb⟩ : ∃ bb, bestD ys = bb := ⟨_, rfl⟩
    rw [hbb] at h1
    obtain ⟨m, ok⟩ := bb
    obtain ⟨m0, m1, m2, m3, m4, m5⟩ := m
    have H1 := Lib.hid h1
    have H2 := Lib.hid h2
    have hxx := h1.x
    have hk := h1.k
    unfold cellsD at hxx
    simp only at hxx hk
    clear h1 h2
    have k0 : W.cell? ⟨w.heap.size + 1 + 1, 0, none⟩ = some (.bool ok) := (blk_cell hk 0).trans rfl
    have kf := blk_frozen hk 0
    have x0 : W.cell? ⟨w.heap.size + 1, 0, none⟩ = some (.int .i64 m0) := (blk_cell hxx 0).trans rfl
    have x1 : W.cell? ⟨w.heap.size + 1, 1, none⟩ = some (.int .i64 m1) := (blk_cell hxx 1).trans rfl
    have x2 : W.cell? ⟨w.heap.size + 1, 2, none⟩ = some (.int .i64 m2) := (blk_cell hxx 2).trans rfl
    have x3 : W.cell? ⟨w.heap.size + 1, 3, none⟩ = some (.int .i64 m3) := (blk_cell hxx 3).trans rfl
    have x4 : W.cell? ⟨w.heap.size + 1, 4, none⟩ = some (.int .i64 m4) := (blk_cell hxx 4).trans rfl
    have x5 : W.cell? ⟨w.heap.size + 1, 5, none⟩ = some (.bool m5) := (blk_cell hxx 5).trans rfl
    have xf := fun i => blk_frozen hxx i
    clear hxx hk
    have hmo : Tryd.prog.follows .mixedOrders = true := by kernel_rfl
    gi_wp2
    have HDf := Lib.hid hDf
    have HQ := Lib.hid hbb
    clear hDf hbb
    gi_region_with_o (fail)
    all_goals gi_wp2
    all_goals refine great_end H1.out H2.out rfl (by have := HS.out; omega) HDf.out ?_
    all_goals intro W' hb'
    all_goals refine ⟨?_, hb'⟩
    all_goals rw [HQ.out]
    all_goals rfl
  case stop =>
    rintro D c pre W _ _ h _
    exact h.elim
end Go.Proofs.YtjbcfdgnafmbkaaDoor.Dev
end
section
set_option linter.unusedVariables false
namespace Go.Proofs.YtjbcfdgnafmbkaaDoor.Dev
open Go.RowKit Go.Shelf Go.Proofs.YtjbcfdgnafmbkaaDoor Go.Proofs.YtjbcfdgnafmbkaaDoorW.PrintWords Go.Proofs.YtjbcfdgnafmbkaaDoor.PBig
theorem within_c (a b : Int) (w : World) : Calls Tryd.prog 112 #[.int .i64 a, .int .i64 b] w fun e w' => e = .returned (.bool (inB a b)) ∧ ∃ m, w' = w.drewN m :=
  (PDr.devices_within.calls a b (inB a b) w (within_f a b)).mono fun e w' ⟨h, k⟩ => ⟨h, k.out⟩
def argB (p t k : Int) : Bool := inB p 63 && inB t 1099511627775 && inB k 1099511627775
def cur (l : List S65) (p t k : Int) : S65 × Bool := bestD (l.filter (selB p t k))
set_option maxHeartbeats 1000000 in
theorem current_err (l : List S65) (A : Option Addr) (c : Nat) (p t k : Int) (w : World) (hC : Kd.C k65 w A l.length l) (he : chk l ≠ 0) :
    Calls Tryd.prog 84 #[.slice A l.length c, .int .i64 p, .int .i64 t, .int .i64 k] w fun e w' => e = .returned (.tuple #[vD z65, .bool false, .int .i64 (chk l)]) ∧ Below w.heap.size w w' := by
  have HC := Lib.hid (fun W (hb : Below w.heap.size w W) => check_c l A c W (Kd.C_below hC hb))
  generalize chk l = ck at *
  have t1 : (ck == 0) = false := beq_eq_false_iff_ne.mpr he
  have t2 : (ck != 0) = true := bne_iff_ne.mpr he
  clear hC he
  unfold vD z65
  go_enter Tryd.func84, Tryd.ntmps84
  go_wp2_with fail
  refine (HC.out _ (below_alloc (Below.refl _ w) _)).mono ?_
  rintro e w1 ⟨rfl, hb1⟩
  have BK := blk_below (blk_new w _) hb1
  have HB := Lib.hid (below_step (below_alloc (Below.refl _ w) _) hb1)
  have x0 : w1.cell? ⟨w.heap.size, 0, none⟩ = some (.int .i64 0) := (blk_cell BK 0).trans rfl
  have x1 : w1.cell? ⟨w.heap.size, 1, none⟩ = some (.int .i64 0) := (blk_cell BK 1).trans rfl
  have x2 : w1.cell? ⟨w.heap.size, 2, none⟩ = some (.int .i64 0) := (blk_cell BK 2).trans rfl
  have x3 : w1.cell? ⟨w.heap.size, 3, none⟩ = some (.int .i64 0) := (blk_cell BK 3).trans rfl
  have x4 : w1.cell? ⟨w.heap.size, 4, none⟩ = some (.int .i64 0) := (blk_cell BK 4).trans rfl
  have x5 : w1.cell? ⟨w.heap.size, 5, none⟩ = some (.bool false) := (blk_cell BK 5).trans rfl
  have xf := fun i => blk_frozen BK i
  clear hb1
  go_wp2
  refine bodyPost_ret (results_ctt rfl _ _ w.heap.size 65 #[.int .i64 0, .int .i64 0, .int .i64 0, .int .i64 0, .int .i64 0, .bool false] (0, 0) _ rfl (blk_set (blk_set (blk_set (blk_set (blk_set (blk_set BK 0 _) 1 _) 2 _) 3 _) 4 _) 5 _) Tryd.underlying65 rfl (by kernel_rfl)) rfl ?_
  exact ⟨rfl, below_set (below_set (below_set (below_set (below_set (below_set HB.out (Nat.le_refl _)) (Nat.le_refl _)) (Nat.le_refl _)) (Nat.le_refl _)) (Nat.le_refl _)) (Nat.le_refl _)⟩
set_option maxHeartbeats 2000000 in
theorem current_arg (l : List S65) (A : Option Addr) (c : Nat) (p t k : Int) (w : World) (hC : Kd.C k65 w A l.length l) (he : chk l = 0) (ha : argB p t k = false) :
    Calls Tryd.prog 84 #[.slice A l.length c, .int .i64 p, .int .i64 t, .int .i64 k] w fun e w' => e = .returned (.tuple #[vD z65, .bool false, .int .i64 1]) ∧ Below w.heap.size w w' := by
  have HC := Lib.hid (fun W (hb : Below w.heap.size w W) => check_c l A c W (Kd.C_below hC hb))
  rw [he] at HC
  have W1 := Lib.hid (fun W => within_c p 63 W)
  have W2 := Lib.hid (fun W => within_c t 1099511627775 W)
  have W3 := Lib.hid (fun W => within_c k 1099511627775 W)
  unfold argB at ha
  clear hC he
  unfold vD z65
  generalize inB p 63 = ba at *
  generalize inB t 1099511627775 = bb at *
  generalize inB k 1099511627775 = bc at *
  go_enter Tryd.func84, Tryd.ntmps84
  go_wp2_with fail
  refine (HC.out _ (below_alloc (Below.refl _ w) _)).mono ?_
  rintro e w1 ⟨rfl, hb1⟩
  have HB := Lib.hid (below_step (below_alloc (Below.refl _ w) _) hb1)
  have BK := blk_below (blk_new w _) hb1
  have x0 : w1.cell? ⟨w.heap.size, 0, none⟩ = some (.int .i64 0) := (blk_cell BK 0).trans rfl
  have x1 : w1.cell? ⟨w.heap.size, 1, none⟩ = some (.int .i64 0) := (blk_cell BK 1).trans rfl
  have x2 : w1.cell? ⟨w.heap.size, 2, none⟩ = some (.int .i64 0) := (blk_cell BK 2).trans rfl
  have x3 : w1.cell? ⟨w.heap.size, 3, none⟩ = some (.int .i64 0) := (blk_cell BK 3).trans rfl
  have x4 : w1.cell? ⟨w.heap.size, 4, none⟩ = some (.int .i64 0) := (blk_cell BK 4).trans rfl
  have x5 : w1.cell? ⟨w.heap.size, 5, none⟩ = some (.bool false) := (blk_cell BK 5).trans rfl
  have xf := fun i => blk_frozen BK i
  clear hb1
  cases ba <;> cases bb <;> cases bc <;> first | (exact absurd ha (by decide)) | skip
  all_goals clear ha
  all_goals go_wp2_with (go_at_call 112; (first | with_reducible refine (W1.out _).mono ?_ | with_reducible refine (W2.out _).mono ?_ | with_reducible refine (W3.out _).mono ?_); rintro e1 w9 ⟨rfl, m, rfl⟩)
  all_goals refine bodyPost_ret (results_ctt rfl _ _ w.heap.size 65 #[.int .i64 0, .int .i64 0, .int .i64 0, .int .i64 0, .int .i64 0, .bool false] (0, 0) _ rfl (by first | exact (blk_set (blk_set (blk_set (blk_set (blk_set (blk_set (blk_drewN BK _) 0 _) 1 _) 2 _) 3 _) 4 _) 5 _) | exact (blk_set (blk_set (blk_set (blk_set (blk_set (blk_set (blk_drewN (blk_drewN BK _) _) 0 _) 1 _) 2 _) 3 _) 4 _) 5 _) | exact (blk_set (blk_set (blk_set (blk_set (blk_set (blk_set (blk_drewN (blk_drewN (blk_drewN BK _) _) _) 0 _) 1 _) 2 _) 3 _) 4 _) 5 _) | exact (blk_set (blk_set (blk_set (blk_set (blk_set (blk_set BK 0 _) 1 _) 2 _) 3 _) 4 _) 5 _)) Tryd.underlying65 rfl (by kernel_rfl)) rfl ?_
  all_goals exact ⟨rfl, by with_reducible first | exact below_set (below_set (below_set (below_set (below_set (below_set (pw_below_drewN HB.out _) (Nat.le_refl _)) (Nat.le_refl _)) (Nat.le_refl _)) (Nat.le_refl _)) (Nat.le_refl _)) (Nat.le_refl _) | exact below_set (below_set (below_set (below_set (below_set (below_set (pw_below_drewN (pw_below_drewN HB.out _) _) (Nat.le_refl _)) (Nat.le_refl _)) (Nat.le_refl _)) (Nat.le_refl _)) (Nat.le_refl _)) (Nat.le_refl _) | exact below_set (below_set (below_set (below_set (below_set (below_set (pw_below_drewN (pw_below_drewN (pw_below_drewN HB.out _) _) _) (Nat.le_refl _)) (Nat.le_refl _)) (Nat.le_refl _)) (Nat.le_refl _)) (Nat.le_refl _)) (Nat.le_refl _) | exact below_set (below_set (below_set (below_set (below_set (below_set HB.out (Nat.le_refl _)) (Nat.le_refl _)) (Nat.le_refl _)) (Nat.le_refl _)) (Nat.le_refl _)) (Nat.le_refl _)⟩
theorem blk6 {V : World} {g t : Nat} {a0 a1 a2 a3 a4 a5 u0 u1 u2 u3 u4 u5 : Value} (h : V.heap[g]? = some (.cells #[a0, a1, a2, a3, a4, a5] t (0, 0))) :
    ((((((V.setCell ⟨g, 0, none⟩ u0).setCell ⟨g, 1, none⟩ u1).setCell ⟨g, 2, none⟩ u2).setCell ⟨g, 3, none⟩ u3).setCell ⟨g, 4, none⟩ u4).setCell ⟨g, 5, none⟩ u5).heap[g]? = some (.cells #[u0, u1, u2, u3, u4, u5] t (0, 0)) :=
  blk_set (blk_set (blk_set (blk_set (blk_set (blk_set h 0 u0) 1 u1) 2 u2) 3 u3) 4 u4) 5 u5
theorem bel6 {w V : World} {g : Nat} {u0 u1 u2 u3 u4 u5 : Value} (h : Below w.heap.size w V) (hg : w.heap.size ≤ g) :
    Below w.heap.size w ((((((V.setCell ⟨g, 0, none⟩ u0).setCell ⟨g, 1, none⟩ u1).setCell ⟨g, 2, none⟩ u2).setCell ⟨g, 3, none⟩ u3).setCell ⟨g, 4, none⟩ u4).setCell ⟨g, 5, none⟩ u5) :=
  below_set (below_set (below_set (below_set (below_set (below_set h hg) hg) hg) hg) hg) hg
set_option maxHeartbeats 2000000 in
theorem current_ok (l : List S65) (A : Option Addr) (c : Nat) (p t k : Int) (w : World) (hC : Kd.C k65 w A l.length l) (he : chk l = 0) (ha : argB p t k = true) :
    Calls Tryd.prog 84 #[.slice A l.length c, .int .i64 p, .int .i64 t, .int .i64 k] w fun e w' => e = .returned (.tuple #[vD (cur l p t k).1, .bool ((cur l p t k).2 && !(cur l p t k).1.f5), .int .i64 0]) ∧ Below w.heap.size w w' := by
  have HC := Lib.hid (fun W (hb : Below w.heap.size w W) => check_c l A c W (Kd.C_below hC hb))
  rw [he] at HC
  have W1 := Lib.hid (fun W => within_c p 63 W)
  have W2 := Lib.hid (fun W => within_c t 1099511627775 W)
  have W3 := Lib.hid (fun W => within_c k 1099511627775 W)
  unfold argB at ha
  simp only [Bool.and_eq_true] at ha
  rw [ha.1.1] at W1
  rw [ha.1.2] at W2
  rw [ha.2] at W3
  have HKC := Lib.hid hC
  obtain ⟨bb, hbb⟩ : ∃ bb, bestD (l.filter (selB p t k)) = bb := ⟨_, rfl⟩
  have HG := Lib.hid (fun lb W hs => greatest_c lb (l.filter (selB p t k)) l.length W hs)
  unfold cur
  rw [hbb] at HG ⊢
  clear hC he ha hbb
  obtain ⟨⟨m0, m1, m2, m3, m4, m5⟩, ok⟩ := bb
  unfold vD at HG ⊢
  simp only at HG ⊢
  go_enter Tryd.func84, Tryd.ntmps84
  go_wp2_with fail
  refine (HC.out _ (below_alloc (Below.refl _ w) _)).mono ?_
  rintro e w1 ⟨rfl, hb1⟩
  have HB := Lib.hid (below_step (below_alloc (Below.refl _ w) _) hb1)
  have BK := blk_below (blk_new w _) hb1
  have x0 : w1.cell? ⟨w.heap.size, 0, none⟩ = some (.int .i64 0) := (blk_cell BK 0).trans rfl
  have x1 : w1.cell? ⟨w.heap.size, 1, none⟩ = some (.int .i64 0) := (blk_cell BK 1).trans rfl
  have x2 : w1.cell? ⟨w.heap.size, 2, none⟩ = some (.int .i64 0) := (blk_cell BK 2).trans rfl
  have x3 : w1.cell? ⟨w.heap.size, 3, none⟩ = some (.int .i64 0) := (blk_cell BK 3).trans rfl
  have x4 : w1.cell? ⟨w.heap.size, 4, none⟩ = some (.int .i64 0) := (blk_cell BK 4).trans rfl
  have x5 : w1.cell? ⟨w.heap.size, 5, none⟩ = some (.bool false) := (blk_cell BK 5).trans rfl
  have xf := fun i => blk_frozen BK i
  clear hb1
  go_upto_region 6 with (go_at_call 112; (first | with_reducible refine (W1.out _).mono ?_ | with_reducible refine (W2.out _).mono ?_ | with_reducible refine (W3.out _).mono ?_); rintro e1 w9 ⟨rfl, m, rfl⟩)
  generalize hV : World.drewN _ _ = V
  have HBV := Lib.hid (show Below w.heap.size w V by rw [← hV]; exact pw_below_drewN HB.out _)
  have BKV := Lib.hid (show V.heap[w.heap.size]? = some (.cells #[.int .i64 0, .int .i64 0, .int .i64 0, .int .i64 0, .int .i64 0, .bool false] 65 (0, 0)) by rw [← hV]; exact blk_drewN BK _)
  clear hV BK HB x0 x1 x2 x3 x4 x5 xf HC W1 W2 W3
  go_wp2_with fail
  refine (of_c A l.length c p t k V).mono ?_
  rintro e V4 ⟨rfl, hV4⟩
  have r0 : V4.heap[V.heap.size]? = some (.cells #[.slice A l.length c] 63 (0, 0)) := by rw [hV4]; exact blk_alloc (blk_alloc (blk_alloc (blk_new V _) _) _) _
  have r1 : V4.heap[V.heap.size + 1]? = some (.cells #[.int .i64 p] 3 (0, 0)) := by
    rw [hV4]
    have h := blk_new (V.alloc (.cells #[.slice A l.length c] 63)) (.cells #[.int .i64 p] 3)
    rw [World.size_alloc] at h
    exact blk_alloc (blk_alloc h _) _
  have r2 : V4.heap[V.heap.size + 1 + 1]? = some (.cells #[.int .i64 t] 3 (0, 0)) := by
    rw [hV4]
    have h := blk_new ((V.alloc (.cells #[.slice A l.length c] 63)).alloc (.cells #[.int .i64 p] 3)) (.cells #[.int .i64 t] 3)
    rw [World.size_alloc, World.size_alloc] at h
    exact blk_alloc h _
  have r3 : V4.heap[V.heap.size + 1 + 1 + 1]? = some (.cells #[.int .i64 k] 3 (0, 0)) := by
    rw [hV4]
    have h := blk_new (((V.alloc (.cells #[.slice A l.length c] 63)).alloc (.cells #[.int .i64 p] 3)).alloc (.cells #[.int .i64 t] 3)) (.cells #[.int .i64 k] 3)
    rw [World.size_alloc, World.size_alloc, World.size_alloc] at h
    exact h
  have q0 : V4.cell? ⟨V.heap.size, 0, none⟩ = some (.slice A l.length c) := (blk_cell r0 0).trans rfl
  have q1 : V4.cell? ⟨V.heap.size + 1, 0, none⟩ = some (.int .i64 p) := (blk_cell r1 0).trans rfl
  have q2 : V4.cell? ⟨V.heap.size + 1 + 1, 0, none⟩ = some (.int .i64 t) := (blk_cell r2 0).trans rfl
  have q3 : V4.cell? ⟨V.heap.size + 1 + 1 + 1, 0, none⟩ = some (.int .i64 k) := (blk_cell r3 0).trans rfl
  clear r0 r1 r2 r3
  have hb4 : Below V.heap.size V V4 := by rw [hV4]; exact below_alloc (below_alloc (below_alloc (below_alloc (Below.refl _ V) _) _) _) _
  have HB4 := Lib.hid (below_step HBV.out hb4)
  have BK4 := Lib.hid (blk_below BKV.out hb4)
  have HG2 := Lib.hid (HG.out _ V4 (of1_in Fence.wide 2 trivial rfl (by omega) _ _ _ _ A c l p t k V4 (Kd.C_below HKC.out HB4.out) q0 q1 q2 q3))
  clear q0 q1 q2 q3 hb4 hV4 HG HBV BKV
  go_wp2_with fail
  refine HG2.out.mono ?_
  rintro e V5 ⟨rfl, hb5⟩
  have HB5 := Lib.hid (below_step HB4.out hb5)
  have BK := blk_below BK4.out hb5
  have xf := fun i => blk_frozen BK i
  have x0 : V5.cell? ⟨w.heap.size, 0, none⟩ = some (.int .i64 0) := (blk_cell BK 0).trans rfl
  have x1 : V5.cell? ⟨w.heap.size, 1, none⟩ = some (.int .i64 0) := (blk_cell BK 1).trans rfl
  have x2 : V5.cell? ⟨w.heap.size, 2, none⟩ = some (.int .i64 0) := (blk_cell BK 2).trans rfl
  have x3 : V5.cell? ⟨w.heap.size, 3, none⟩ = some (.int .i64 0) := (blk_cell BK 3).trans rfl
  have x4 : V5.cell? ⟨w.heap.size, 4, none⟩ = some (.int .i64 0) := (blk_cell BK 4).trans rfl
  have x5 : V5.cell? ⟨w.heap.size, 5, none⟩ = some (.bool false) := (blk_cell BK 5).trans rfl
  clear hb5
  cases ok
  all_goals go_wp2_with fail
  all_goals refine bodyPost_ret (results_ctt rfl _ _ w.heap.size 65 #[.int .i64 m0, .int .i64 m1, .int .i64 m2, .int .i64 m3, .int .i64 m4, .bool m5] (0, 0) _ rfl (blk6 (blk6 BK)) Tryd.underlying65 rfl (by kernel_rfl)) rfl ?_
  all_goals refine ⟨?_, bel6 (bel6 HB5.out (Nat.le_refl _)) (Nat.le_refl _)⟩
  all_goals first | rfl | simp
end Go.Proofs.YtjbcfdgnafmbkaaDoor.Dev
namespace Go.Proofs.YtjbcfdgnafmbkaaDoor.PBig
open Go.RowKit Go.Proofs.YtjbcfdgnafmbkaaDoor Go.Proofs.YtjbcfdgnafmbkaaDoorW.PrintWords
def devices_current.v (l : List S65) (p t k : Int) : S65 × Bool × Int :=
  if Dev.chk l ≠ 0 then (z65, false, Dev.chk l) else if Dev.argB p t k = true then ((Dev.cur l p t k).1, (Dev.cur l p t k).2 && !(Dev.cur l p t k).1.f5, 0) else (z65, false, 1)
def devices_current.f (l0 : List S65) (a1 a2 a3 : Int) : Option (Int × Int × Int × Int × Int × Bool × Bool × Int) :=
  some ((devices_current.v l0 a1 a2 a3).1.f0, (devices_current.v l0 a1 a2 a3).1.f1, (devices_current.v l0 a1 a2 a3).1.f2, (devices_current.v l0 a1 a2 a3).1.f3, (devices_current.v l0 a1 a2 a3).1.f4, (devices_current.v l0 a1 a2 a3).1.f5, (devices_current.v l0 a1 a2 a3).2.1, (devices_current.v l0 a1 a2 a3).2.2)
theorem devices_current.calls (A0 : Option Addr) (c0 : Nat) (l0 : List S65) (a1 a2 a3 : Int) (r1 r2 r3 r4 r5 : Int) (r6 r7 : Bool) (r8 : Int) (w : World) (hr0 : Kd.C k65 w A0 l0.length l0) (hc0 : l0.length ≤ c0) (h : devices_current.f l0 a1 a2 a3 = some (r1, r2, r3, r4, r5, r6, r7, r8)) :
    Calls Tryd.prog 84 #[.slice A0 l0.length c0, .int .i64 a1, .int .i64 a2, .int .i64 a3] w fun e w' => e = .returned (.tuple #[.agg #[.int .i64 r1, .int .i64 r2, .int .i64 r3, .int .i64 r4, .int .i64 r5, .bool r6], .bool r7, .int .i64 r8]) ∧ Below w.heap.size w w' := by
  have h := Option.some.inj h
  simp only [Prod.mk.injEq] at h
  obtain ⟨rfl, rfl, rfl, rfl, rfl, rfl, rfl, rfl⟩ := h
  unfold devices_current.v
  by_cases he : Dev.chk l0 = 0
  · rw [if_neg (fun h => h he)]
    by_cases ha : Dev.argB a1 a2 a3 = true
    · rw [if_pos ha]; exact Dev.current_ok l0 A0 c0 a1 a2 a3 w hr0 he ha
    · rw [if_neg ha]; exact Dev.current_arg l0 A0 c0 a1 a2 a3 w hr0 he (by simpa using ha)
  · rw [if_pos he]; exact Dev.current_err l0 A0 c0 a1 a2 a3 w hr0 he
end Go.Proofs.YtjbcfdgnafmbkaaDoor.PBig
end
section
set_option linter.unusedVariables false
namespace Go.Proofs.YtjbcfdgnafmbkaaDoor.Dev
open Go.Proofs.YtjbcfdgnafmbkaaDoor.PBig
structure Good (l : List S65) : Prop where
  r : ∀ x ∈ l, rightD x = true
  n : l.Pairwise (fun a b => a.f0 < b.f0)
  k : l.Pairwise (fun a b => ¬ (a.f4 = b.f4 ∧ a.f5 = false))
theorem usedB_iff (l : List S65) (k : Int) : usedB l k = true ↔ ∃ y ∈ l, y.f4 = k ∧ y.f5 = false := by
  unfold usedB
  rw [List.any_eq_true]
  constructor
  · rintro ⟨y, h, e⟩
    simp only [Bool.and_eq_true, decide_eq_true_eq, Bool.not_eq_true'] at e
    exact ⟨y, h, e⟩
  · rintro ⟨y, h, e⟩
    exact ⟨y, h, by simp only [Bool.and_eq_true, decide_eq_true_eq, Bool.not_eq_true']; exact e⟩
theorem chkG_iff : ∀ (l : List S65) (last : Int) (seen : List S65), chkG last seen l = true ↔
    (∀ x ∈ l, rightD x = true) ∧ (∀ x ∈ l, last < x.f0) ∧ l.Pairwise (fun a b => a.f0 < b.f0) ∧ l.Pairwise (fun a b => ¬ (a.f4 = b.f4 ∧ a.f5 = false)) ∧ ∀ y ∈ seen, ∀ x ∈ l, ¬ (y.f4 = x.f4 ∧ y.f5 = false)
  | [], last, seen => by simp [chkG]
  | x :: r, last, seen => by
    rw [chkG, Bool.and_eq_true, Bool.and_eq_true, Bool.and_eq_true, chkG_iff r x.f0 (seen ++ [x]), decide_eq_true_eq, Bool.not_eq_true', ← Bool.not_eq_true, usedB_iff]
    constructor
    · rintro ⟨⟨⟨h1, h2⟩, h3⟩, h4, h5, h6, h7, h8⟩
      refine ⟨?_, ?_, ?_, ?_, ?_⟩
      · intro y hy; rcases List.mem_cons.1 hy with rfl | hy
        · exact h1
        · exact h4 y hy
      · intro y hy; rcases List.mem_cons.1 hy with rfl | hy
        · exact h2
        · exact Int.lt_trans h2 (h5 y hy)
      · exact List.Pairwise.cons h5 h6
      · exact List.Pairwise.cons (fun y hy => h8 x (by simp) y hy) h7
      · intro y hy z hz
        rcases List.mem_cons.1 hz with rfl | hz
        · exact fun e => h3 ⟨y, hy, e⟩
        · exact h8 y (by simp [hy]) z hz
    · rintro ⟨h1, h2, h3, h4, h5⟩
      obtain ⟨h3a, h3b⟩ := List.pairwise_cons.1 h3
      obtain ⟨h4a, h4b⟩ := List.pairwise_cons.1 h4
      refine ⟨⟨⟨h1 x (by simp), h2 x (by simp)⟩, ?_⟩, fun y hy => h1 y (by simp [hy]), h3a, h3b, h4b, ?_⟩
      · rintro ⟨y, hy, e⟩; exact h5 y hy x (by simp) e
      · intro y hy z hz
        rcases List.mem_append.1 hy with hy | hy
        · exact h5 y hy z (by simp [hz])
        · obtain rfl : y = x := by simpa using hy
          exact h4a z hz
theorem chk_ok {l : List S65} : chk l = 0 ↔ l.length ≤ 1024 ∧ Good l := by
  unfold chk
  constructor
  · intro h
    split at h
    · exact absurd h (by decide)
    · rename_i hl
      split at h
      · rename_i hc
        obtain ⟨h1, _, h3, h4, _⟩ := (chkG_iff _ _ _).1 hc
        exact ⟨by omega, h1, h3, h4⟩
      · exact absurd h (by decide)
  · rintro ⟨hl, h⟩
    rw [if_neg (by omega), if_pos ((chkG_iff _ _ _).2 ⟨h.r, fun x hx => by have := rightD_no (h.r x hx); omega, h.n, h.k, by simp⟩)]
theorem Good.sub {l m : List S65} (h : Good l) (hs : List.Sublist m l) : Good m := ⟨fun x hx => h.r x (hs.subset hx), h.n.sublist hs, h.k.sublist hs⟩
theorem chk_filter {l : List S65} (h : chk l = 0) (p : S65 → Bool) : chk (l.filter p) = 0 :=
  chk_ok.2 ⟨Nat.le_trans (List.length_filter_le _ _) (chk_ok.1 h).1, (chk_ok.1 h).2.sub List.filter_sublist⟩
theorem Good.no_inj {l : List S65} (h : Good l) {x y : S65} (hx : x ∈ l) (hy : y ∈ l) (e : x.f0 = y.f0) : x = y := by
  obtain ⟨i, hi, rfl⟩ := List.mem_iff_getElem.1 hx
  obtain ⟨j, hj, rfl⟩ := List.mem_iff_getElem.1 hy
  have hp := List.pairwise_iff_getElem.1 h.n
  rcases Nat.lt_trichotomy i j with c | c | c
  · have := hp i j hi hj c; omega
  · subst c; rfl
  · have := hp j i hj hi c; omega
theorem Good.key_inj {l : List S65} (h : Good l) {x y : S65} (hx : x ∈ l) (hy : y ∈ l) (gx : x.f5 = false) (gy : y.f5 = false) (e : x.f4 = y.f4) : x = y := by
  obtain ⟨i, hi, rfl⟩ := List.mem_iff_getElem.1 hx
  obtain ⟨j, hj, rfl⟩ := List.mem_iff_getElem.1 hy
  have hp := List.pairwise_iff_getElem.1 h.k
  rcases Nat.lt_trichotomy i j with c | c | c
  · exact absurd ⟨e, gx⟩ (hp i j hi hj c)
  · subst c; rfl
  · exact absurd ⟨e.symm, gy⟩ (hp j i hj hi c)
def leD (y x : S65) : Prop := y.f1 < x.f1 ∨ (y.f1 = x.f1 ∧ y.f0 ≤ x.f0)
theorem leD.refl (x : S65) : leD x x := .inr ⟨rfl, Int.le_refl _⟩
theorem leD.trans {a b c : S65} (h : leD a b) (k : leD b c) : leD a c := by unfold leD at *; omega
def BestI (pre : List S65) (s : S65 × Bool) : Prop := (pre = [] ∧ s = (z65, false)) ∨ (s.2 = true ∧ s.1 ∈ pre ∧ ∀ y ∈ pre, leD y s.1)
theorem best_inv : ∀ (l pre : List S65) (s : S65 × Bool), BestI pre s → (pre ++ l).Pairwise (fun a b => a.f0 < b.f0) → BestI (pre ++ l) (l.foldl stepD s)
  | [], pre, s, h, _ => by rw [List.append_nil]; exact h
  | x :: r, pre, s, h, hp => by
    rw [show pre ++ x :: r = (pre ++ [x]) ++ r by simp, List.foldl_cons]
    refine best_inv r (pre ++ [x]) (stepD s x) ?_ (by rw [show (pre ++ [x]) ++ r = pre ++ x :: r by simp]; exact hp)
    have hlt : ∀ y ∈ pre, y.f0 < x.f0 := fun y hy => (List.pairwise_append.1 hp).2.2 y hy x (by simp)
    right
    rcases h with ⟨rfl, rfl⟩ | ⟨h1, h2, h3⟩
    · exact ⟨rfl, by simp [stepD], by simp [stepD]; exact leD.refl _⟩
    · unfold stepD
      split
      · rename_i hc
        have hc : s.1.f1 ≤ x.f1 := hc.elim (fun hc => absurd (h1.symm.trans hc) (by decide)) id
        refine ⟨rfl, by simp, fun y hy => ?_⟩
        rcases List.mem_append.1 hy with hy | hy
        · have a := hlt y hy
          have b := h3 y hy
          unfold leD at *; simp only; omega
        · obtain rfl : y = x := by simpa using hy
          exact leD.refl _
      · rename_i hc
        refine ⟨h1, by simp [h2], fun y hy => ?_⟩
        rcases List.mem_append.1 hy with hy | hy
        · exact h3 y hy
        · obtain rfl : y = x := by simpa using hy
          have : ¬ s.1.f1 ≤ y.f1 := fun h => hc (.inr h)
          unfold leD; omega
theorem best_some {l : List S65} (hp : l.Pairwise (fun a b => a.f0 < b.f0)) (hl : l ≠ []) : (bestD l).2 = true ∧ (bestD l).1 ∈ l ∧ ∀ y ∈ l, leD y (bestD l).1 := by
  have h := best_inv l [] (z65, false) (.inl ⟨rfl, rfl⟩) (by simpa using hp)
  rw [List.nil_append] at h
  rcases h with ⟨h, _⟩ | h
  · exact absurd h hl
  · exact h
theorem selB_iff {p t k : Int} {x : S65} : selB p t k x = true ↔ x.f3 = p ∧ x.f1 ≤ t ∧ x.f2 ≤ k := by
  unfold selB
  simp only [Bool.and_eq_true, decide_eq_true_eq, and_assoc]
theorem cur_some {l : List S65} (h : Good l) {p t k : Int} {x : S65} (hx : x ∈ l) (hs : selB p t k x = true) :
    (cur l p t k).2 = true ∧ (cur l p t k).1 ∈ l ∧ selB p t k (cur l p t k).1 = true ∧ ∀ y ∈ l, selB p t k y = true → leD y (cur l p t k).1 := by
  unfold cur
  obtain ⟨h1, h2, h3⟩ := best_some ((h.sub (List.filter_sublist (p := selB p t k))).n) (l := l.filter (selB p t k)) (fun e => by have := List.mem_filter.2 ⟨hx, hs⟩; rw [e] at this; cases this)
  exact ⟨h1, (List.mem_filter.1 h2).1, (List.mem_filter.1 h2).2, fun y hy e => h3 y (List.mem_filter.2 ⟨hy, e⟩)⟩
theorem cur_none {l : List S65} {p t k : Int} (hn : ∀ x ∈ l, selB p t k x = false) : cur l p t k = (z65, false) := by
  unfold cur
  rw [List.filter_eq_nil_iff.2 (fun x hx => by rw [hn x hx]; decide)]
  rfl
theorem cur_or {l : List S65} (h : Good l) (p t k : Int) : cur l p t k = (z65, false) ∨
    ((cur l p t k).2 = true ∧ (cur l p t k).1 ∈ l ∧ selB p t k (cur l p t k).1 = true ∧ ∀ y ∈ l, selB p t k y = true → leD y (cur l p t k).1) := by
  by_cases hx : ∃ x ∈ l, selB p t k x = true
  · obtain ⟨x, hx, hs⟩ := hx
    exact .inr (cur_some h hx hs)
  · exact .inl (cur_none (fun x hx' => by
      cases e : selB p t k x with
      | false => rfl
      | true => exact absurd ⟨x, hx', e⟩ hx))
end Go.Proofs.YtjbcfdgnafmbkaaDoor.Dev
end
section
set_option linter.unusedVariables false
namespace Go.Proofs.YtjbcfdgnafmbkaaDoor.Dev
open Go.RowKit Go.Proofs.YtjbcfdgnafmbkaaDoor Go.Proofs.YtjbcfdgnafmbkaaDoorW.PrintWords Go.Proofs.YtjbcfdgnafmbkaaDoor.PBig
def BoxD (W : World) (B : Nat) (x : S65) : Prop := W.heap[B]? = some (.cells #[.int .i64 x.f0, .int .i64 x.f1, .int .i64 x.f2, .int .i64 x.f3, .int .i64 x.f4, .bool x.f5] 65 (0, 0))
def againB (x y : S65) : Bool := !x.f5 && (y.f4 == x.f4)
theorem add2_c (x y : S65) (B : Nat) (W : World) (h : BoxD W B x) : Calls Tryd.prog 78 #[.agg #[.int .i64 y.f0, .int .i64 y.f1, .int .i64 y.f2, .int .i64 y.f3, .int .i64 y.f4, .bool y.f5], .pointer (some ⟨B, 0, none⟩)] W fun e w' => e = .returned (.bool (againB x y)) ∧ Below W.heap.size W w' := by
  have h4 : ∀ ob, (W.alloc ob).cell? ⟨B, 4, none⟩ = some (.int .i64 x.f4) := fun ob => (blk_cell (blk_alloc h ob) 4).trans rfl
  have h5 : ∀ ob, (W.alloc ob).cell? ⟨B, 5, none⟩ = some (.bool x.f5) := fun ob => (blk_cell (blk_alloc h ob) 5).trans rfl
  unfold againB
  obtain ⟨x0, x1, x2, x3, x4, x5⟩ := x
  simp only at h4 h5 ⊢
  clear h
  cases x5
  all_goals go_enter Tryd.func78, Tryd.ntmps78
  all_goals go_wp2
  all_goals go_ret
  all_goals exact ⟨by first | rfl | simp, below_alloc (Below.refl _ W) _⟩
theorem BoxD.below {A W : World} {B : Nat} {x : S65} (h : BoxD A B x) (hb : Below A.heap.size A W) : BoxD W B x := blk_below h hb
set_option maxHeartbeats 1000000 in
theorem index_c (l : List S65) (A : Option Addr) (c : Nat) (x : S65) (B : Nat) (w : World) (hC : Kd.C k65 w A l.length l) (hx : BoxD w B x) :
    Calls Tryd.prog 111 #[.slice A l.length c, .func (.func 78) #[] #[.pointer (some ⟨B, 0, none⟩)]] w fun e w' => (∃ v : Int, e = .returned (.int .i64 v) ∧ decide (0 ≤ v) = l.any (againB x)) ∧ Below w.heap.size w w' := by
  have HC := Lib.hid hC
  have hln : l.length ≤ 9223372036854775807 := hC.2.1
  have HX := Lib.hid hx
  clear hC hx
  go_enter Tryd.func111, Tryd.ntmps111
  go_wp2
  go_loopw [8] (fun v8 wr => ∃ i : Nat, i ≤ l.length ∧ v8 = .int .i64 i ∧ Hid (Below w.heap.size w wr) ∧ Hid ((l.take i).any (againB x) = false)) (fun v8 _ => l.length - (intOf v8).toNat)
  case atStart => exact ⟨0, by omega, rfl, Lib.hid (Below.refl _ w), Lib.hid (by simp)⟩
  case round =>
    obtain ⟨i, hil, rfl, HB, HA⟩ := hrel
    by_cases hlt : i < l.length
    · obtain ⟨b, o, rfl, hel⟩ := el65 (Kd.C_below HC.out HB.out) (by omega)
      obtain ⟨q0, q1, q2, q3, q4, q5⟩ := hel i hlt
      have HT := Lib.hid (take_snoc65 l i hlt)
      have HM := Lib.hid (show l.getD i z65 ∈ l by rw [List.getD_eq_getElem?_getD, List.getElem?_eq_getElem hlt]; exact List.getElem_mem hlt)
      clear hel
      generalize l.getD i z65 = y at *
      obtain ⟨rb, hrb⟩ : ∃ rb, againB x y = rb := ⟨_, rfl⟩
      have HCl := Lib.hid (add2_c x y B wr (HX.out.below HB.out))
      rw [hrb] at HCl
      have HR := Lib.hid hrb
      clear hrb
      obtain ⟨y0, y1, y2, y3, y4, y5⟩ := y
      simp only at q0 q1 q2 q3 q4 q5 HCl
      cases rb with
      | false =>
        go_wp2_with (go_at_call 78; refine HCl.out.mono ?_; rintro e w2 ⟨rfl, hb⟩; have HB2 := Lib.hid (below_step HB.out hb); clear hb)
        go_roundw
        case rel => exact ⟨i + 1, by omega, by go_num, HB2, Lib.hid (by rw [HT.out, List.any_append, HA.out]; simp [HR.out])⟩
        case measure => simp [intOf]; omega
      | true =>
        go_wp2_with (go_at_call 78; refine HCl.out.mono ?_; rintro e w2 ⟨rfl, hb⟩; have HB2 := Lib.hid (below_step HB.out hb); clear hb)
        go_ret
        exact ⟨⟨_, rfl, by rw [List.any_eq_true.2 ⟨_, HM.out, HR.out⟩]; simp⟩, HB2.out⟩
    · obtain rfl : i = l.length := by omega
      rw [List.take_length] at HA
      go_wp2
      go_ret
      exact ⟨⟨-1, rfl, by rw [HA.out]; decide⟩, HB.out⟩
theorem contains_c (l : List S65) (A : Option Addr) (c : Nat) (x : S65) (B : Nat) (w : World) (hC : Kd.C k65 w A l.length l) (hx : BoxD w B x) :
    Calls Tryd.prog 77 #[.slice A l.length c, .func (.func 78) #[] #[.pointer (some ⟨B, 0, none⟩)]] w fun e w' => e = .returned (.bool (l.any (againB x))) ∧ Below w.heap.size w w' := by
  have HI := Lib.hid (index_c l A c x B w hC hx)
  generalize l.any (againB x) = r at *
  clear hC hx
  go_enter Tryd.func77, Tryd.ntmps77
  go_wp2_with (go_at_call 111; refine HI.out.mono ?_; rintro e w2 ⟨⟨v, rfl, hv⟩, hb⟩; have HB2 := Lib.hid hb; clear hb)
  go_ret
  exact ⟨by first | rfl | simp [hv], HB2.out⟩
end Go.Proofs.YtjbcfdgnafmbkaaDoor.Dev
end
section
set_option linter.unusedVariables false
namespace Go.Proofs.YtjbcfdgnafmbkaaDoor.Dev
open Go.RowKit Go.Proofs.YtjbcfdgnafmbkaaDoor Go.Proofs.YtjbcfdgnafmbkaaDoorW.PrintWords Go.Proofs.YtjbcfdgnafmbkaaDoor.PBig
theorem add1_c (x : S65) (n : Int) (w : World) : Calls Tryd.prog 75 #[.agg #[.int .i64 x.f0, .int .i64 x.f1, .int .i64 x.f2, .int .i64 x.f3, .int .i64 x.f4, .bool x.f5], .int .i64 n] w fun e w' => e = .returned (.int .i64 (cmpI x.f0 n)) ∧ Below w.heap.size w w' :=
  PDx.devices_Add_1.calls x.f0 x.f1 x.f2 x.f3 x.f4 x.f5 n (cmpI x.f0 n) w (by
    unfold PDx.devices_Add_1.f PDx.cmp_Compare_int.f PDx.cmp_isNaN_int.f cmpI
    by_cases h1 : x.f0 < n <;> by_cases h2 : x.f0 > n <;> simp [h1, h2])
theorem cmpI_lt {a b : Int} (h : a < b) : decide (cmpI a b < 0) = true := decide_eq_true (by unfold cmpI; rw [if_pos h]; decide)
theorem cmpI_ge {a b : Int} (h : ¬ a < b) : decide (cmpI a b < 0) = false := decide_eq_false (by unfold cmpI; rw [if_neg h]; split <;> decide)
theorem cmpI_eq {a b : Int} (h : b ≤ a) : (cmpI a b == 0) = decide (a = b) := by
  unfold cmpI
  by_cases e : a = b
  · subst e; simp
  · rw [if_neg (by omega), if_pos (by omega), decide_eq_false e]; rfl
set_option maxHeartbeats 1000000 in
theorem bs_c (l : List S65) (A : Option Addr) (c : Nat) (no : Int) (w : World) (hC : Kd.C k65 w A l.length l) (hl : l.length ≤ 1024) (hs : ∀ i j, i < j → j < l.length → (l.getD i z65).f0 < (l.getD j z65).f0) :
    Calls Tryd.prog 74 #[.slice A l.length c, .int .i64 no, .func (.func 75) #[] #[]] w fun e w' => (∃ (at_ : Nat) (fd : Bool), e = .returned (.tuple #[.int .i64 at_, .bool fd]) ∧ at_ ≤ l.length ∧ (∀ i, i < at_ → (l.getD i z65).f0 < no) ∧ (∀ i, at_ ≤ i → i < l.length → no ≤ (l.getD i z65).f0) ∧ fd = (decide (at_ < l.length) && decide ((l.getD at_ z65).f0 = no))) ∧ Below w.heap.size w w' := by
  have HC := Lib.hid hC
  have HS := Lib.hid hs
  clear hC hs
  go_enter Tryd.func74, Tryd.ntmps74
  go_wp2
  go_loopw [9, 10] (fun v9 v10 wr => ∃ lo hi : Nat, lo ≤ hi ∧ hi ≤ l.length ∧ v9 = .int .i64 lo ∧ v10 = .int .i64 hi ∧ Hid (Below w.heap.size w wr) ∧ Hid (∀ i, i < lo → (l.getD i z65).f0 < no) ∧ Hid (∀ i, hi ≤ i → i < l.length → no ≤ (l.getD i z65).f0)) (fun v9 v10 _ => (intOf v10).toNat - (intOf v9).toNat)
  case atStart => exact ⟨0, l.length, by omega, by omega, rfl, rfl, Lib.hid (Below.refl _ w), Lib.hid (fun i h => absurd h (by omega)), Lib.hid (fun i h1 h2 => absurd h1 (by omega))⟩
  case round =>
    obtain ⟨lo, hi, hlh, hhl, rfl, rfl, HB, HL, HH⟩ := hrel
    by_cases hlt : lo < hi
    · obtain ⟨b, o, rfl, hel⟩ := el65 (Kd.C_below HC.out HB.out) (by omega)
      obtain ⟨q0, q1, q2, q3, q4, q5⟩ := hel ((lo + hi) / 2) (by omega)
      clear hel
      have HX := Lib.hid (add1_c (l.getD ((lo + hi) / 2) z65) no wr)
      generalize hy : l.getD ((lo + hi) / 2) z65 = y at *
      obtain ⟨y0, y1, y2, y3, y4, y5⟩ := y
      simp only at q0 q1 q2 q3 q4 q5 HX
      have HY := Lib.hid hy
      clear hy
      have HB0 := Lib.hid HB.out
      by_cases hc : y0 < no
      · have t1 : decide (cmpI y0 no < 0) = true := cmpI_lt hc
        have HCc := Lib.hid hc
        clear hc
        go_wp2_with (go_at_call 75; refine HX.out.mono ?_; rintro e w2 ⟨rfl, hb⟩; have HB2 := Lib.hid (below_step HB0.out hb); clear hb)
        go_roundw
        case rel => exact ⟨(lo + hi) / 2 + 1, hi, by omega, by omega, by go_num, rfl, HB2, Lib.hid (fun i hi' => by
          rcases Nat.lt_or_ge i ((lo + hi) / 2) with h | h
          · have := HS.out i ((lo + hi) / 2) h (by omega); rw [HY.out] at this; have := HCc.out; simp at *; omega
          · obtain rfl : i = (lo + hi) / 2 := by omega
            rw [HY.out]; exact HCc.out), HH⟩
        case measure => simp [intOf]; omega
      · have t1 : decide (cmpI y0 no < 0) = false := cmpI_ge hc
        have HCc := Lib.hid hc
        clear hc
        go_wp2_with (go_at_call 75; refine HX.out.mono ?_; rintro e w2 ⟨rfl, hb⟩; have HB2 := Lib.hid (below_step HB0.out hb); clear hb)
        go_roundw
        case rel => exact ⟨lo, (lo + hi) / 2, by omega, by omega, rfl, by go_num, HB2, HL, Lib.hid (fun i h1 h2 => by
          rcases Nat.lt_or_ge ((lo + hi) / 2) i with h | h
          · have := HS.out ((lo + hi) / 2) i h h2; rw [HY.out] at this; have := HCc.out; simp at *; omega
          · obtain rfl : i = (lo + hi) / 2 := by omega
            rw [HY.out]; have := HCc.out; simp at *; omega)⟩
        case measure => simp [intOf]; omega
    · obtain rfl : lo = hi := by omega
      by_cases hn : lo < l.length
      · obtain ⟨b, o, rfl, hel⟩ := el65 (Kd.C_below HC.out HB.out) (by omega)
        obtain ⟨q0, q1, q2, q3, q4, q5⟩ := hel lo hn
        clear hel
        have HX := Lib.hid (add1_c (l.getD lo z65) no wr)
        generalize hy : l.getD lo z65 = y at *
        obtain ⟨y0, y1, y2, y3, y4, y5⟩ := y
        simp only at q0 q1 q2 q3 q4 q5 HX
        have HY := Lib.hid hy
        clear hy
        have hge := HH.out lo (Nat.le_refl _) hn
        rw [HY.out] at hge
        have HGE := Lib.hid hge
        clear hge
        go_wp2_with (go_at_call 75; refine HX.out.mono ?_; rintro e w2 ⟨rfl, hb⟩; have HB2 := Lib.hid (below_step HB.out hb); clear hb)
        go_ret2
        refine ⟨⟨lo, _, rfl, hhl, HL.out, HH.out, ?_⟩, HB2.out⟩
        rw [HY.out, decide_eq_true hn, Bool.true_and]
        exact cmpI_eq HGE.out
      · go_wp2
        go_ret2
        exact ⟨⟨lo, _, rfl, hhl, HL.out, HH.out, by rw [decide_eq_false hn]; rfl⟩, HB.out⟩
end Go.Proofs.YtjbcfdgnafmbkaaDoor.Dev
end
