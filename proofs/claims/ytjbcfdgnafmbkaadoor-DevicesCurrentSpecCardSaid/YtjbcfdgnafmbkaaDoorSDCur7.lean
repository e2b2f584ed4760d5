/- Lemmas, walks and printed functions for the claim. -/
import Derived.Test.YtjbcfdgnafmbkaaDoorSDCur0
import Derived.Test.YtjbcfdgnafmbkaaDoorSDCur1
import Derived.Test.YtjbcfdgnafmbkaaDoorSDCur2
import Derived.Test.YtjbcfdgnafmbkaaDoorSDCur6
import Derived.ArgAppend
import Derived.Below
import Derived.BigQuiet
import Derived.Deep.AppendLies
import Derived.Deep.CutBlock
import Derived.Deep.DeepCutAuto
import Derived.Deep.Draws
import Derived.Deep.LoopGhost
import Derived.Deep.OwnRows
import Derived.Deep.QuietTactic
import Derived.Deep.RegionHeld3
import Derived.KernelRfl
import Derived.Laws.BitsLemmas
import Derived.Laws.BytesArg
import Derived.Laws.IdiomCopy
import Derived.Laws.MakeOwn
import Derived.Laws.OwnMore
import Derived.Laws.Rows
import Derived.Laws.Slices
import Derived.Lib.AppendStr
import Derived.Lib.ConvBytes
import Derived.Maps.AppendAt
import Derived.OrdersHeld
import Derived.OwnWalk
import Derived.RowKit
import Derived.RowKit3
import Derived.Tactics
import Derived.Test.YtjbcfdgnafmbkaaDoorProg
import Derived.WalkKit
import Derived.WideLaws
section
set_option linter.unusedVariables false
namespace Go.Proofs.YtjbcfdgnafmbkaaDoor
open Go.RowKit Go.Proofs.YtjbcfdgnafmbkaaDoorW.PrintWords
def group_Valid.f (a0 : Int) : Option Bool:=some (validB a0)
def group_Pow.f (a0 a1 : Int) : Option (Int × Int):=some (if validB a0=true then (powI a0 a1,0) else (0,100))
theorem valid_lo (x : Int) (w : World) (h : x < 1) : Calls Tryd.prog 38 #[.int .i64 x] w fun e w'=>e=.returned (.bool false) ∧ w=w':=by
  have hd : decide (x < 1)=true:=by simpa using h
  go_enter Tryd.func38,Tryd.ntmps38
  go_wp2
  go_step3
  go_wp2
  rw [Exit.noGoto_ret]
  go_ret
  exact ⟨rfl,rfl⟩
theorem valid_hi (x : Int) (w : World) (h1 : 1 ≤ x) (h : 2147483579 ≤ x) : Calls Tryd.prog 38 #[.int .i64 x] w fun e w'=>e=.returned (.bool false) ∧ w=w':=by
  have hd : decide (x < 1)=false:=by simp;omega
  have hd2 : decide (2147483579 ≤ x)=true:=by simpa using h
  go_enter Tryd.func38,Tryd.ntmps38
  go_wp2
  go_step3
  go_wp2
  rw [Exit.noGoto_ret]
  go_ret
  exact ⟨rfl,rfl⟩
theorem valid_any (x : Int) (w : World) : Calls Tryd.prog 38 #[.int .i64 x] w fun e w'=>e=.returned (.bool (validB x)) ∧ w=w':=by
  by_cases h1 : x < 1
  · have : validB x=false:=by unfold validB;rw [decide_eq_false (by omega)];rfl
    rw [this];exact valid_lo x w h1
  · by_cases h2 : 2147483579 ≤ x
    · have : validB x=false:=by unfold validB;rw [decide_eq_false (p:=x < _) (by omega),Bool.and_false];rfl
      rw [this];exact valid_hi x w (by omega) h2
    · obtain ⟨n,rfl⟩:=Int.eq_ofNat_of_zero_le (show 0 ≤ x by omega)
      have : validB n=Num.J n 2147483579:=by unfold validB;rw [decide_eq_true (by omega),decide_eq_true (by omega)];simp
      rw [this];exact valid_in n w (by omega) (by omega)
theorem group_Valid.calls (a0 : Int) (r : Bool) (w : World) (h : group_Valid.f a0=some r) :
    Calls Tryd.prog 38 #[.int .i64 a0] w fun e w'=>e=.returned (.bool r) ∧ Drawn0 w w':=by
  obtain rfl:=Option.some.inj h
  exact (valid_any a0 w).mono fun e w' h=>⟨h.1,by rw [← h.2];exact Drawn0.refl _⟩
set_option maxHeartbeats 400000 in
theorem pow_no (a n : Int) (w : World) (hv : validB a=false) :
    Calls Tryd.prog 35 #[.int .i64 a,.int .i64 n] w fun e w'=>e=.returned (.tuple #[.int .i64 0,.int .i64 100]) ∧ Below w.heap.size w w':=by
  have HV:=Lib.hid hv
  clear hv
  go_enter Tryd.func35,Tryd.ntmps35
  go_wp2_with (go_at_call 38;refine (valid_any _ _).mono ?_;rintro e w' ⟨rfl,rfl⟩;rw [HV.out])
  have hc : ((w.alloc (.cells #[.int .i64 0] 3))).cell? ⟨w.heap.size,0,none⟩=some (.int .i64 0):=by simp
  refine bodyPost_ret (v:=.tuple #[.int .i64 0,.int .i64 100]) (by simp [results,Tryd.results35,go_sem]) rfl ⟨rfl,?_⟩
  exact (Below.refl _ _).alloc (Nat.le_refl _) _
theorem group_Pow.calls (a0 a1 : Int) (r1 r2 : Int) (w : World) (h : group_Pow.f a0 a1=some (r1,r2)) :
    Calls Tryd.prog 35 #[.int .i64 a0,.int .i64 a1] w fun e w'=>e=.returned (.tuple #[.int .i64 r1,.int .i64 r2]) ∧ Below w.heap.size w w':=by
  have h:=Option.some.inj h
  by_cases hv : validB a0=true
  · rw [if_pos hv] at h
    cases h
    obtain ⟨h1,h2,h3⟩:=validB_true hv
    exact pow_in a0 a1 w h1 h2 h3
  · rw [if_neg hv] at h
    cases h
    exact pow_no a0 a1 w (by simpa using hv)
end Go.Proofs.YtjbcfdgnafmbkaaDoor
end
section
namespace Go.Proofs.YtjbcfdgnafmbkaaDoor.PDr
open Go.RowKit Go.Proofs.YtjbcfdgnafmbkaaDoorW.PrintWords Go.Proofs.YtjbcfdgnafmbkaaDoorW.PrintLast Go.Proofs.YtjbcfdgnafmbkaaDoorW.PrintMore
attribute [local go_sem] max2_int min2_int max_two min_two max_three min_three max_four min_four
set_option linter.unusedVariables false
set_option linter.unusedSimpArgs false
def devices_within.f (a0 : Int) (a1 : Int) : Option (Bool):=if a0 ≥ 0 then (some (decide (a0 ≤ a1))) else (some false)
set_option maxHeartbeats 8000000 in
set_option maxRecDepth 100000 in
theorem devices_within.calls (a0 : Int) (a1 : Int) (r : Bool) (w : World) (h : devices_within.f a0 a1=some r) :
  Calls Tryd.prog 112 #[.int .i64 a0,.int .i64 a1] w fun e w'=>e=.returned (.bool r) ∧ Drawn0 w w':=by
 have H : (if a0 ≥ 0 then (some (decide (a0 ≤ a1))) else (some false))=some r:=h
 clear h
 by_cases c3 : a0 ≥ 0
 ·rw [if_pos c3] at H
  have c3b0 : decide (0 ≤ a0)=true:=decide_eq_true c3
  clear c3
  obtain rfl:=Option.some.inj H
  go_enter Tryd.func112,Tryd.ntmps112
  go_wp2
  go_ret
  exact ⟨by first | rfl | (simp;done) | (simp [*];done),by repeat (first | exact Drawn0.refl _ | apply Drawn0.step)⟩
 ·rw [if_neg c3] at H
  have c3b0 : decide (0 ≤ a0)=false:=decide_eq_false c3
  clear c3
  obtain rfl:=Option.some.inj H
  go_enter Tryd.func112,Tryd.ntmps112
  go_wp2
  go_ret
  exact ⟨by first | rfl | (simp;done) | (simp [*];done),by repeat (first | exact Drawn0.refl _ | apply Drawn0.step)⟩
def devices_right.j0 : Nat → Bool → Int → Int → Int → Int → Int → Bool → Option (Bool)
 | 0,_,_,_,_,_,_,_=>none
 | k + 1,x24,x102000,x102001,x102002,x102003,x102004,x102005=>if x24=true then (some false) else (if x102005=true then (some (x102004 == 0)) else ((group_Valid.f x102004).bind fun t106=>(if t106=true then (some (x102004 != 1)) else (some false))))
def devices_right.f (k : Nat) (a0_0 : Int) (a0_1 : Int) (a0_2 : Int) (a0_3 : Int) (a0_4 : Int) (a0_5 : Bool) : Option (Bool):=(devices_within.f a0_0 1048576).bind fun t102=>(if t102=true then ((devices_within.f a0_1 1099511627775).bind fun t103=>(if t103=true then ((devices_within.f a0_2 1099511627775).bind fun t104=>(if t104=true then ((devices_within.f a0_3 63).bind fun t105=>(devices_right.j0 k (!t105) a0_0 a0_1 a0_2 a0_3 a0_4 a0_5)) else (devices_right.j0 k true a0_0 a0_1 a0_2 a0_3 a0_4 a0_5))) else (devices_right.j0 k true a0_0 a0_1 a0_2 a0_3 a0_4 a0_5))) else (devices_right.j0 k true a0_0 a0_1 a0_2 a0_3 a0_4 a0_5))
theorem devices_right.mono_l : ∀ k,(∀ y0 y1 y2 y3 y4 y5 y6,LeO (devices_right.j0 k y0 y1 y2 y3 y4 y5 y6) (devices_right.j0 (k + 1) y0 y1 y2 y3 y4 y5 y6))
 | 0=>fun _ _ _ _ _ _ _ r h=>by simp [devices_right.j0] at h
 | k + 1=>by
  have ih0:=devices_right.mono_l k
  ·intro y0 y1 y2 y3 y4 y5 y6
   unfold devices_right.j0
   repeat' first
   | (with_reducible exact ih0 _ _ _ _ _ _ _)
   | (with_reducible exact LeO.refl _)
   | (with_reducible exact LeO.none _)
   | (with_reducible refine LeO.ite ?_ ?_)
   | (with_reducible refine LeO.bind ?_ (fun _=>?_))
   | exact ih0 _ _ _ _ _ _ _
   | exact LeO.none _
   | refine LeO.ite ?_ ?_
   | refine LeO.bind ?_ (fun _=>?_)
theorem devices_right.mono : ∀ a0 a1 a2 a3 a4 a5 k,LeO (devices_right.f k a0 a1 a2 a3 a4 a5) (devices_right.f (k + 1) a0 a1 a2 a3 a4 a5):=by
 intro a0 a1 a2 a3 a4 a5 k
 have ih0:=devices_right.mono_l k
 unfold devices_right.f
 repeat' first
   | (with_reducible exact ih0 _ _ _ _ _ _ _)
   | (with_reducible exact LeO.refl _)
   | (with_reducible exact LeO.none _)
   | (with_reducible refine LeO.ite ?_ ?_)
   | (with_reducible refine LeO.bind ?_ (fun _=>?_))
   | exact ih0 _ _ _ _ _ _ _
   | exact LeO.none _
   | refine LeO.ite ?_ ?_
   | refine LeO.bind ?_ (fun _=>?_)
set_option maxHeartbeats 8000000 in
set_option maxRecDepth 100000 in
theorem devices_right.calls (k : Nat) (a0_0 : Int) (a0_1 : Int) (a0_2 : Int) (a0_3 : Int) (a0_4 : Int) (a0_5 : Bool) (r : Bool) (w : World) (h : devices_right.f k a0_0 a0_1 a0_2 a0_3 a0_4 a0_5=some r) :
  Calls Tryd.prog 79 #[.agg #[.int .i64 a0_0,.int .i64 a0_1,.int .i64 a0_2,.int .i64 a0_3,.int .i64 a0_4,.bool a0_5]] w fun e w'=>e=.returned (.bool r) ∧ Below w.heap.size w w':=by
 have hu65:=Tryd.underlying65
 have HB:=Aside0.mk (Below.refl w.heap.size w)
 have H : ((devices_within.f a0_0 1048576).bind fun t102=>(if t102=true then ((devices_within.f a0_1 1099511627775).bind fun t103=>(if t103=true then ((devices_within.f a0_2 1099511627775).bind fun t104=>(if t104=true then ((devices_within.f a0_3 63).bind fun t105=>(devices_right.j0 k (!t105) a0_0 a0_1 a0_2 a0_3 a0_4 a0_5)) else (devices_right.j0 k true a0_0 a0_1 a0_2 a0_3 a0_4 a0_5))) else (devices_right.j0 k true a0_0 a0_1 a0_2 a0_3 a0_4 a0_5))) else (devices_right.j0 k true a0_0 a0_1 a0_2 a0_3 a0_4 a0_5)))=some r:=h
 clear h
 have HC2:=Aside0.mk H
 clear H
 go_enter Tryd.func79,Tryd.ntmps79
 go_upto_region 1 with (first | ((with_reducible refine gate_dst (N:=1) rfl ?_);refine box_event ?hg (N:=1) ?hd (cs:=#[.int .i64 a0_0,.int .i64 a0_1,.int .i64 a0_2,.int .i64 a0_3,.int .i64 a0_4,.bool a0_5]) (t:=65) ?hr ?_;(case hd=>rfl);(case hg=>rfl);(case hr=>first | (go_simp;done) | (go_simp;rfl));intro gb101 hg w3 hbox hb;have n0_:=Aside0.mk (below_step (by repeat (first | (with_reducible first | exact HB.out | apply below_alloc | apply pw_below_drewN | apply below_drew1) | exact HB.out)) hb);have n1_:=Aside0.mk (hbox);have n2_:=Aside0.mk ((by rw [hg];exact (below_size (by repeat (first | (with_reducible first | exact HB.out | apply below_alloc | apply pw_below_drewN | apply below_drew1) | exact HB.out))) : w.heap.size ≤ gb101));have n3_:=Aside0.mk ((by rw [hg];exact (below_size (by repeat (first | (with_reducible first | exact HB.out | apply below_alloc | apply pw_below_drewN | apply below_drew1) | exact HB.out))) : w.heap.size ≤ gb101));clear HB;have HB:=n0_;have BK101:=n1_;have GW101:=n2_;have GE101:=n3_;clear n0_ n1_ n2_ n3_;clear hb hbox hg))
 (try simp only [Act.put,List.setIfInBounds_toArray,List.set_cons_zero,List.set_cons_succ])
 go_cut [24] (fun v24 wc=>∃ (kq : Nat) (x24_1 : Bool),v24=.bool x24_1 ∧ Aside0 (devices_right.j0 kq x24_1 a0_0 a0_1 a0_2 a0_3 a0_4 a0_5=some r) ∧ Aside0 (kq ≤ k) ∧ Aside0 (wc.heap[gb101]?=some (.cells #[.int .i64 a0_0,.int .i64 a0_1,.int .i64 a0_2,.int .i64 a0_3,.int .i64 a0_4,.bool a0_5] 65 (0,0))) ∧ Aside0 (Below w.heap.size w wc))
 case first =>
  have H:=HC2.out
  clear HC2
  replace H:=Option.bind_eq_some_iff.mp H
  obtain ⟨t102,A40,H⟩:=H
  replace H : (if t102=true then ((devices_within.f a0_1 1099511627775).bind fun t103=>(if t103=true then ((devices_within.f a0_2 1099511627775).bind fun t104=>(if t104=true then ((devices_within.f a0_3 63).bind fun t105=>(devices_right.j0 k (!t105) a0_0 a0_1 a0_2 a0_3 a0_4 a0_5)) else (devices_right.j0 k true a0_0 a0_1 a0_2 a0_3 a0_4 a0_5))) else (devices_right.j0 k true a0_0 a0_1 a0_2 a0_3 a0_4 a0_5))) else (devices_right.j0 k true a0_0 a0_1 a0_2 a0_3 a0_4 a0_5))=some r:=H
  have A4:=Aside0.mk A40
  clear A40
  by_cases c5 : t102=true
  ·subst c5
   have H1 : ((devices_within.f a0_1 1099511627775).bind fun t103=>(if t103=true then ((devices_within.f a0_2 1099511627775).bind fun t104=>(if t104=true then ((devices_within.f a0_3 63).bind fun t105=>(devices_right.j0 k (!t105) a0_0 a0_1 a0_2 a0_3 a0_4 a0_5)) else (devices_right.j0 k true a0_0 a0_1 a0_2 a0_3 a0_4 a0_5))) else (devices_right.j0 k true a0_0 a0_1 a0_2 a0_3 a0_4 a0_5)))=some r:=by rw [if_pos rfl] at H;exact H
   clear H
   have H:=H1
   clear H1
   replace H:=Option.bind_eq_some_iff.mp H
   obtain ⟨t103,A60,H⟩:=H
   replace H : (if t103=true then ((devices_within.f a0_2 1099511627775).bind fun t104=>(if t104=true then ((devices_within.f a0_3 63).bind fun t105=>(devices_right.j0 k (!t105) a0_0 a0_1 a0_2 a0_3 a0_4 a0_5)) else (devices_right.j0 k true a0_0 a0_1 a0_2 a0_3 a0_4 a0_5))) else (devices_right.j0 k true a0_0 a0_1 a0_2 a0_3 a0_4 a0_5))=some r:=H
   have A6:=Aside0.mk A60
   clear A60
   by_cases c7 : t103=true
   ·subst c7
    have H1 : ((devices_within.f a0_2 1099511627775).bind fun t104=>(if t104=true then ((devices_within.f a0_3 63).bind fun t105=>(devices_right.j0 k (!t105) a0_0 a0_1 a0_2 a0_3 a0_4 a0_5)) else (devices_right.j0 k true a0_0 a0_1 a0_2 a0_3 a0_4 a0_5)))=some r:=by rw [if_pos rfl] at H;exact H
    clear H
    have H:=H1
    clear H1
    replace H:=Option.bind_eq_some_iff.mp H
    obtain ⟨t104,A80,H⟩:=H
    replace H : (if t104=true then ((devices_within.f a0_3 63).bind fun t105=>(devices_right.j0 k (!t105) a0_0 a0_1 a0_2 a0_3 a0_4 a0_5)) else (devices_right.j0 k true a0_0 a0_1 a0_2 a0_3 a0_4 a0_5))=some r:=H
    have A8:=Aside0.mk A80
    clear A80
    by_cases c9 : t104=true
    ·subst c9
     have H1 : ((devices_within.f a0_3 63).bind fun t105=>(devices_right.j0 k (!t105) a0_0 a0_1 a0_2 a0_3 a0_4 a0_5))=some r:=by rw [if_pos rfl] at H;exact H
     clear H
     have H:=H1
     clear H1
     replace H:=Option.bind_eq_some_iff.mp H
     obtain ⟨t105,A100,H⟩:=H
     replace H : (devices_right.j0 k (!t105) a0_0 a0_1 a0_2 a0_3 a0_4 a0_5)=some r:=H
     have A10:=Aside0.mk A100
     clear A100
     have H':=Aside0.mk H
     clear H
     have hcz11_0 : w3.cell? ⟨gb101,0,none⟩=some (.int .i64 a0_0):=(blk_cell BK101.out 0).trans rfl
     have hcz11_1 : w3.cell? ⟨gb101,1,none⟩=some (.int .i64 a0_1):=(blk_cell BK101.out 1).trans rfl
     have hcz11_2 : w3.cell? ⟨gb101,2,none⟩=some (.int .i64 a0_2):=(blk_cell BK101.out 2).trans rfl
     have hcz11_3 : w3.cell? ⟨gb101,3,none⟩=some (.int .i64 a0_3):=(blk_cell BK101.out 3).trans rfl
     have hcz11_4 : w3.cell? ⟨gb101,4,none⟩=some (.int .i64 a0_4):=(blk_cell BK101.out 4).trans rfl
     have hcz11_5 : w3.cell? ⟨gb101,5,none⟩=some (.bool a0_5):=(blk_cell BK101.out 5).trans rfl
     have hfz11_0:=blk_frozen BK101.out 0
     have hfz11_1:=blk_frozen BK101.out 1
     have hfz11_2:=blk_frozen BK101.out 2
     have hfz11_3:=blk_frozen BK101.out 3
     have hfz11_4:=blk_frozen BK101.out 4
     have hfz11_5:=blk_frozen BK101.out 5
     go_wp2_with (first | ((with_reducible refine gate_callee (f:=112) rfl ?_);refine goesL_ (some 5) rfl rfl Tryd.func112 (by kernel_rfl) rfl #[.int .i64 a0_0,.int .i64 1048576] rfl (by (try simp only [List.map_toArray,List.map_cons,List.map_nil]);first | done | rfl | (simp only [List.length_drop,List.length_take];rfl)) ?_;(with_reducible refine (devices_within.calls a0_0 1048576 true _ A4.out).mono ?_);rintro e w' ⟨rfl,⟨nd,rfl⟩⟩;refine ⟨_,rfl,?_⟩) | (go_at_call 112;(with_reducible refine (devices_within.calls a0_1 1099511627775 true _ A6.out).mono ?_);rintro e w' ⟨rfl,⟨nd,rfl⟩⟩) | (go_at_call 112;(with_reducible refine (devices_within.calls a0_2 1099511627775 true _ A8.out).mono ?_);rintro e w' ⟨rfl,⟨nd,rfl⟩⟩) | (go_at_call 112;(with_reducible refine (devices_within.calls a0_3 63 t105 _ A10.out).mono ?_);rintro e w' ⟨rfl,⟨nd,rfl⟩⟩))
     go_meet
     case rel=>exact ⟨_,(!t105),(by first | rfl | (simp;done) | (simp [*];done)),H',⟨by first | omega | exact Nat.le_refl _⟩,⟨by (with_reducible repeat (first | refine blk_drewN ?_ _ | refine blk_drew ?_ | refine blk_alloc ?_ _));exact BK101.out⟩,⟨by repeat (first | (with_reducible first | exact HB.out | apply below_alloc | apply pw_below_drewN | apply below_drew1 | refine below_set ?_ GE101.out) | exact HB.out)⟩⟩
    ·replace c9:=Bool.eq_false_iff.mpr c9
     subst c9
     have H1 : (devices_right.j0 k true a0_0 a0_1 a0_2 a0_3 a0_4 a0_5)=some r:=by rw [if_neg (show ¬ (false=true) by decide)] at H;exact H
     clear H
     have H:=H1
     clear H1
     have H':=Aside0.mk H
     clear H
     have hcz12_0 : w3.cell? ⟨gb101,0,none⟩=some (.int .i64 a0_0):=(blk_cell BK101.out 0).trans rfl
     have hcz12_1 : w3.cell? ⟨gb101,1,none⟩=some (.int .i64 a0_1):=(blk_cell BK101.out 1).trans rfl
     have hcz12_2 : w3.cell? ⟨gb101,2,none⟩=some (.int .i64 a0_2):=(blk_cell BK101.out 2).trans rfl
     have hcz12_3 : w3.cell? ⟨gb101,3,none⟩=some (.int .i64 a0_3):=(blk_cell BK101.out 3).trans rfl
     have hcz12_4 : w3.cell? ⟨gb101,4,none⟩=some (.int .i64 a0_4):=(blk_cell BK101.out 4).trans rfl
     have hcz12_5 : w3.cell? ⟨gb101,5,none⟩=some (.bool a0_5):=(blk_cell BK101.out 5).trans rfl
     have hfz12_0:=blk_frozen BK101.out 0
     have hfz12_1:=blk_frozen BK101.out 1
     have hfz12_2:=blk_frozen BK101.out 2
     have hfz12_3:=blk_frozen BK101.out 3
     have hfz12_4:=blk_frozen BK101.out 4
     have hfz12_5:=blk_frozen BK101.out 5
     go_wp2_with (first | ((with_reducible refine gate_callee (f:=112) rfl ?_);refine goesL_ (some 5) rfl rfl Tryd.func112 (by kernel_rfl) rfl #[.int .i64 a0_0,.int .i64 1048576] rfl (by (try simp only [List.map_toArray,List.map_cons,List.map_nil]);first | done | rfl | (simp only [List.length_drop,List.length_take];rfl)) ?_;(with_reducible refine (devices_within.calls a0_0 1048576 true _ A4.out).mono ?_);rintro e w' ⟨rfl,⟨nd,rfl⟩⟩;refine ⟨_,rfl,?_⟩) | (go_at_call 112;(with_reducible refine (devices_within.calls a0_1 1099511627775 true _ A6.out).mono ?_);rintro e w' ⟨rfl,⟨nd,rfl⟩⟩) | (go_at_call 112;(with_reducible refine (devices_within.calls a0_2 1099511627775 false _ A8.out).mono ?_);rintro e w' ⟨rfl,⟨nd,rfl⟩⟩))
     go_meet
     case rel=>exact ⟨_,(true),(by first | rfl | (simp;done) | (simp [*];done)),H',⟨by first | omega | exact Nat.le_refl _⟩,⟨by (with_reducible repeat (first | refine blk_drewN ?_ _ | refine blk_drew ?_ | refine blk_alloc ?_ _));exact BK101.out⟩,⟨by repeat (first | (with_reducible first | exact HB.out | apply below_alloc | apply pw_below_drewN | apply below_drew1 | refine below_set ?_ GE101.out) | exact HB.out)⟩⟩
   ·replace c7:=Bool.eq_false_iff.mpr c7
    subst c7
    have H1 : (devices_right.j0 k true a0_0 a0_1 a0_2 a0_3 a0_4 a0_5)=some r:=by rw [if_neg (show ¬ (false=true) by decide)] at H;exact H
    clear H
    have H:=H1
    clear H1
    have H':=Aside0.mk H
    clear H
    have hcz13_0 : w3.cell? ⟨gb101,0,none⟩=some (.int .i64 a0_0):=(blk_cell BK101.out 0).trans rfl
    have hcz13_1 : w3.cell? ⟨gb101,1,none⟩=some (.int .i64 a0_1):=(blk_cell BK101.out 1).trans rfl
    have hcz13_2 : w3.cell? ⟨gb101,2,none⟩=some (.int .i64 a0_2):=(blk_cell BK101.out 2).trans rfl
    have hcz13_3 : w3.cell? ⟨gb101,3,none⟩=some (.int .i64 a0_3):=(blk_cell BK101.out 3).trans rfl
    have hcz13_4 : w3.cell? ⟨gb101,4,none⟩=some (.int .i64 a0_4):=(blk_cell BK101.out 4).trans rfl
    have hcz13_5 : w3.cell? ⟨gb101,5,none⟩=some (.bool a0_5):=(blk_cell BK101.out 5).trans rfl
    have hfz13_0:=blk_frozen BK101.out 0
    have hfz13_1:=blk_frozen BK101.out 1
    have hfz13_2:=blk_frozen BK101.out 2
    have hfz13_3:=blk_frozen BK101.out 3
    have hfz13_4:=blk_frozen BK101.out 4
    have hfz13_5:=blk_frozen BK101.out 5
    go_wp2_with (first | ((with_reducible refine gate_callee (f:=112) rfl ?_);refine goesL_ (some 5) rfl rfl Tryd.func112 (by kernel_rfl) rfl #[.int .i64 a0_0,.int .i64 1048576] rfl (by (try simp only [List.map_toArray,List.map_cons,List.map_nil]);first | done | rfl | (simp only [List.length_drop,List.length_take];rfl)) ?_;(with_reducible refine (devices_within.calls a0_0 1048576 true _ A4.out).mono ?_);rintro e w' ⟨rfl,⟨nd,rfl⟩⟩;refine ⟨_,rfl,?_⟩) | (go_at_call 112;(with_reducible refine (devices_within.calls a0_1 1099511627775 false _ A6.out).mono ?_);rintro e w' ⟨rfl,⟨nd,rfl⟩⟩))
    go_meet
    case rel=>exact ⟨_,(true),(by first | rfl | (simp;done) | (simp [*];done)),H',⟨by first | omega | exact Nat.le_refl _⟩,⟨by (with_reducible repeat (first | refine blk_drewN ?_ _ | refine blk_drew ?_ | refine blk_alloc ?_ _));exact BK101.out⟩,⟨by repeat (first | (with_reducible first | exact HB.out | apply below_alloc | apply pw_below_drewN | apply below_drew1 | refine below_set ?_ GE101.out) | exact HB.out)⟩⟩
  ·replace c5:=Bool.eq_false_iff.mpr c5
   subst c5
   have H1 : (devices_right.j0 k true a0_0 a0_1 a0_2 a0_3 a0_4 a0_5)=some r:=by rw [if_neg (show ¬ (false=true) by decide)] at H;exact H
   clear H
   have H:=H1
   clear H1
   have H':=Aside0.mk H
   clear H
   have hcz14_0 : w3.cell? ⟨gb101,0,none⟩=some (.int .i64 a0_0):=(blk_cell BK101.out 0).trans rfl
   have hcz14_1 : w3.cell? ⟨gb101,1,none⟩=some (.int .i64 a0_1):=(blk_cell BK101.out 1).trans rfl
   have hcz14_2 : w3.cell? ⟨gb101,2,none⟩=some (.int .i64 a0_2):=(blk_cell BK101.out 2).trans rfl
   have hcz14_3 : w3.cell? ⟨gb101,3,none⟩=some (.int .i64 a0_3):=(blk_cell BK101.out 3).trans rfl
   have hcz14_4 : w3.cell? ⟨gb101,4,none⟩=some (.int .i64 a0_4):=(blk_cell BK101.out 4).trans rfl
   have hcz14_5 : w3.cell? ⟨gb101,5,none⟩=some (.bool a0_5):=(blk_cell BK101.out 5).trans rfl
   have hfz14_0:=blk_frozen BK101.out 0
   have hfz14_1:=blk_frozen BK101.out 1
   have hfz14_2:=blk_frozen BK101.out 2
   have hfz14_3:=blk_frozen BK101.out 3
   have hfz14_4:=blk_frozen BK101.out 4
   have hfz14_5:=blk_frozen BK101.out 5
   go_wp2_with (first | ((with_reducible refine gate_callee (f:=112) rfl ?_);refine goesL_ (some 5) rfl rfl Tryd.func112 (by kernel_rfl) rfl #[.int .i64 a0_0,.int .i64 1048576] rfl (by (try simp only [List.map_toArray,List.map_cons,List.map_nil]);first | done | rfl | (simp only [List.length_drop,List.length_take];rfl)) ?_;(with_reducible refine (devices_within.calls a0_0 1048576 false _ A4.out).mono ?_);rintro e w' ⟨rfl,⟨nd,rfl⟩⟩;refine ⟨_,rfl,?_⟩))
   go_meet
   case rel=>exact ⟨_,(true),(by first | rfl | (simp;done) | (simp [*];done)),H',⟨by first | omega | exact Nat.le_refl _⟩,⟨by (with_reducible repeat (first | refine blk_drewN ?_ _ | refine blk_drew ?_ | refine blk_alloc ?_ _));exact BK101.out⟩,⟨by repeat (first | (with_reducible first | exact HB.out | apply below_alloc | apply pw_below_drewN | apply below_drew1 | refine below_set ?_ GE101.out) | exact HB.out)⟩⟩
 case rest =>
  clear HC2
  try clear c1
  try clear p2
  try clear c5
  try clear c7
  try clear c9
  try clear c11
  try clear hcz11_0
  try clear hcz11_1
  try clear hcz11_2
  try clear hcz11_3
  try clear hcz11_4
  try clear hcz11_5
  try clear hcz12_0
  try clear hcz12_1
  try clear hcz12_2
  try clear hcz12_3
  try clear hcz12_4
  try clear hcz12_5
  try clear hcz13_0
  try clear hcz13_1
  try clear hcz13_2
  try clear hcz13_3
  try clear hcz13_4
  try clear hcz13_5
  try clear hcz14_0
  try clear hcz14_1
  try clear hcz14_2
  try clear hcz14_3
  try clear hcz14_4
  try clear hcz14_5
  try clear hfz11_0
  try clear hfz11_1
  try clear hfz11_2
  try clear hfz11_3
  try clear hfz11_4
  try clear hfz11_5
  try clear hfz12_0
  try clear hfz12_1
  try clear hfz12_2
  try clear hfz12_3
  try clear hfz12_4
  try clear hfz12_5
  try clear hfz13_0
  try clear hfz13_1
  try clear hfz13_2
  try clear hfz13_3
  try clear hfz13_4
  try clear hfz13_5
  try clear hfz14_0
  try clear hfz14_1
  try clear hfz14_2
  try clear hfz14_3
  try clear hfz14_4
  try clear hfz14_5
  obtain ⟨kq,x24_1,rfl,HA,HJ1,BK101,HB⟩:=hcut
  cases kq with
  | zero=>exact absurd HA.out (by simp [devices_right.j0])
  | succ kj1 =>
   have H:=HA.out
   clear HA
   simp only [devices_right.j0] at H
   by_cases c15 : x24_1=true
   ·subst c15
    have H1 : (some false)=some r:=by rw [if_pos rfl] at H;exact H
    clear H
    have H:=H1
    clear H1
    obtain rfl:=Option.some.inj H
    go_wp2
    go_ret
    exact ⟨by first | rfl | (simp [errW_none,errW_some] <;> rfl) | (simp [*,errW_none,errW_some] <;> rfl),by repeat (first | (with_reducible first | exact HB.out | apply below_alloc | apply pw_below_drewN | apply below_drew1 | refine below_set ?_ GE101.out) | exact HB.out)⟩
   ·replace c15:=Bool.eq_false_iff.mpr c15
    subst c15
    have H1 : (if a0_5=true then (some (a0_4 == 0)) else ((group_Valid.f a0_4).bind fun t106=>(if t106=true then (some (a0_4 != 1)) else (some false))))=some r:=by rw [if_neg (show ¬ (false=true) by decide)] at H;exact H
    clear H
    have H:=H1
    clear H1
    by_cases c16 : a0_5=true
    ·subst c16
     have H1 : (some (a0_4 == 0))=some r:=by rw [if_pos rfl] at H;exact H
     clear H
     have H:=H1
     clear H1
     obtain rfl:=Option.some.inj H
     have hcz17_0 : wc.cell? ⟨gb101,0,none⟩=some (.int .i64 a0_0):=(blk_cell BK101.out 0).trans rfl
     have hcz17_1 : wc.cell? ⟨gb101,1,none⟩=some (.int .i64 a0_1):=(blk_cell BK101.out 1).trans rfl
     have hcz17_2 : wc.cell? ⟨gb101,2,none⟩=some (.int .i64 a0_2):=(blk_cell BK101.out 2).trans rfl
     have hcz17_3 : wc.cell? ⟨gb101,3,none⟩=some (.int .i64 a0_3):=(blk_cell BK101.out 3).trans rfl
     have hcz17_4 : wc.cell? ⟨gb101,4,none⟩=some (.int .i64 a0_4):=(blk_cell BK101.out 4).trans rfl
     have hcz17_5 : wc.cell? ⟨gb101,5,none⟩=some (.bool true):=(blk_cell BK101.out 5).trans rfl
     have hfz17_0:=blk_frozen BK101.out 0
     have hfz17_1:=blk_frozen BK101.out 1
     have hfz17_2:=blk_frozen BK101.out 2
     have hfz17_3:=blk_frozen BK101.out 3
     have hfz17_4:=blk_frozen BK101.out 4
     have hfz17_5:=blk_frozen BK101.out 5
     go_wp2
     go_ret
     exact ⟨by first | rfl | (simp [errW_none,errW_some] <;> rfl) | (simp [*,errW_none,errW_some] <;> rfl),by repeat (first | (with_reducible first | exact HB.out | apply below_alloc | apply pw_below_drewN | apply below_drew1 | refine below_set ?_ GE101.out) | exact HB.out)⟩
    ·replace c16:=Bool.eq_false_iff.mpr c16
     subst c16
     have H1 : ((group_Valid.f a0_4).bind fun t106=>(if t106=true then (some (a0_4 != 1)) else (some false)))=some r:=by rw [if_neg (show ¬ (false=true) by decide)] at H;exact H
     clear H
     have H:=H1
     clear H1
     replace H:=Option.bind_eq_some_iff.mp H
     obtain ⟨t106,A180,H⟩:=H
     replace H : (if t106=true then (some (a0_4 != 1)) else (some false))=some r:=H
     have A18:=Aside0.mk A180
     clear A180
     by_cases c19 : t106=true
     ·subst c19
      have H1 : (some (a0_4 != 1))=some r:=by rw [if_pos rfl] at H;exact H
      clear H
      have H:=H1
      clear H1
      obtain rfl:=Option.some.inj H
      have hcz20_0 : wc.cell? ⟨gb101,0,none⟩=some (.int .i64 a0_0):=(blk_cell BK101.out 0).trans rfl
      have hcz20_1 : wc.cell? ⟨gb101,1,none⟩=some (.int .i64 a0_1):=(blk_cell BK101.out 1).trans rfl
      have hcz20_2 : wc.cell? ⟨gb101,2,none⟩=some (.int .i64 a0_2):=(blk_cell BK101.out 2).trans rfl
      have hcz20_3 : wc.cell? ⟨gb101,3,none⟩=some (.int .i64 a0_3):=(blk_cell BK101.out 3).trans rfl
      have hcz20_4 : wc.cell? ⟨gb101,4,none⟩=some (.int .i64 a0_4):=(blk_cell BK101.out 4).trans rfl
      have hcz20_5 : wc.cell? ⟨gb101,5,none⟩=some (.bool false):=(blk_cell BK101.out 5).trans rfl
      have hfz20_0:=blk_frozen BK101.out 0
      have hfz20_1:=blk_frozen BK101.out 1
      have hfz20_2:=blk_frozen BK101.out 2
      have hfz20_3:=blk_frozen BK101.out 3
      have hfz20_4:=blk_frozen BK101.out 4
      have hfz20_5:=blk_frozen BK101.out 5
      go_wp2_with (first | ((with_reducible refine gate_callee (f:=38) rfl ?_);refine goesL_ (some 32) rfl rfl Tryd.func38 (by kernel_rfl) rfl #[.int .i64 a0_4] rfl (by (try simp only [List.map_toArray,List.map_cons,List.map_nil]);first | done | rfl | (simp only [List.length_drop,List.length_take];rfl)) ?_;(with_reducible refine (group_Valid.calls a0_4 true _ A18.out).mono ?_);rintro e w' ⟨rfl,⟨nd,rfl⟩⟩;refine ⟨_,rfl,?_⟩))
      go_ret
      exact ⟨by first | rfl | (simp [errW_none,errW_some] <;> rfl) | (simp [*,errW_none,errW_some] <;> rfl),by repeat (first | (with_reducible first | exact HB.out | apply below_alloc | apply pw_below_drewN | apply below_drew1 | refine below_set ?_ GE101.out) | exact HB.out)⟩
     ·replace c19:=Bool.eq_false_iff.mpr c19
      subst c19
      have H1 : (some false)=some r:=by rw [if_neg (show ¬ (false=true) by decide)] at H;exact H
      clear H
      have H:=H1
      clear H1
      obtain rfl:=Option.some.inj H
      have hcz21_0 : wc.cell? ⟨gb101,0,none⟩=some (.int .i64 a0_0):=(blk_cell BK101.out 0).trans rfl
      have hcz21_1 : wc.cell? ⟨gb101,1,none⟩=some (.int .i64 a0_1):=(blk_cell BK101.out 1).trans rfl
      have hcz21_2 : wc.cell? ⟨gb101,2,none⟩=some (.int .i64 a0_2):=(blk_cell BK101.out 2).trans rfl
      have hcz21_3 : wc.cell? ⟨gb101,3,none⟩=some (.int .i64 a0_3):=(blk_cell BK101.out 3).trans rfl
      have hcz21_4 : wc.cell? ⟨gb101,4,none⟩=some (.int .i64 a0_4):=(blk_cell BK101.out 4).trans rfl
      have hcz21_5 : wc.cell? ⟨gb101,5,none⟩=some (.bool false):=(blk_cell BK101.out 5).trans rfl
      have hfz21_0:=blk_frozen BK101.out 0
      have hfz21_1:=blk_frozen BK101.out 1
      have hfz21_2:=blk_frozen BK101.out 2
      have hfz21_3:=blk_frozen BK101.out 3
      have hfz21_4:=blk_frozen BK101.out 4
      have hfz21_5:=blk_frozen BK101.out 5
      go_wp2_with (first | ((with_reducible refine gate_callee (f:=38) rfl ?_);refine goesL_ (some 32) rfl rfl Tryd.func38 (by kernel_rfl) rfl #[.int .i64 a0_4] rfl (by (try simp only [List.map_toArray,List.map_cons,List.map_nil]);first | done | rfl | (simp only [List.length_drop,List.length_take];rfl)) ?_;(with_reducible refine (group_Valid.calls a0_4 false _ A18.out).mono ?_);rintro e w' ⟨rfl,⟨nd,rfl⟩⟩;refine ⟨_,rfl,?_⟩))
      go_ret
      exact ⟨by first | rfl | (simp [errW_none,errW_some] <;> rfl) | (simp [*,errW_none,errW_some] <;> rfl),by repeat (first | (with_reducible first | exact HB.out | apply below_alloc | apply pw_below_drewN | apply below_drew1 | refine below_set ?_ GE101.out) | exact HB.out)⟩
end Go.Proofs.YtjbcfdgnafmbkaaDoor.PDr
end
section
namespace Go.Proofs.YtjbcfdgnafmbkaaDoor.PGroup
open Go.RowKit Go.Proofs.YtjbcfdgnafmbkaaDoorW.PrintWords Go.Proofs.YtjbcfdgnafmbkaaDoorW.PrintLast Go.Proofs.YtjbcfdgnafmbkaaDoorW.PrintMore
attribute [local go_sem] max2_int min2_int max_two min_two max_three min_three max_four min_four
set_option linter.unusedVariables false
set_option linter.unusedSimpArgs false
def errW : Option Int → Value
 | none=>.nilIface
 | some c=>.iface 0 (.int .i64 c)
theorem errW_none : errW none=.nilIface:=rfl
theorem errW_some (c : Int) : errW (some c)=.iface 0 (.int .i64 c):=rfl
theorem info5 : (Tryd.prog.info? 5).map (fun i=>(i.zero,i.size,i.bytes))=some (some (.int .u8 0),1,1):=by kernel_rfl
end Go.Proofs.YtjbcfdgnafmbkaaDoor.PGroup
end
section
namespace Go.Proofs.YtjbcfdgnafmbkaaDoor.PGroup
open Go.RowKit Go.Proofs.YtjbcfdgnafmbkaaDoorW.PrintWords Go.Proofs.YtjbcfdgnafmbkaaDoorW.PrintLast Go.Proofs.YtjbcfdgnafmbkaaDoorW.PrintMore
attribute [local go_sem] max2_int min2_int max_two min_two max_three min_three max_four min_four
set_option linter.unusedVariables false
set_option linter.unusedSimpArgs false
def group_Mul.f (a0 : Int) (a1 : Int) : Option (Int × Int):=(group_Valid.f a0).bind fun t103=>(if t103=true then ((group_Valid.f a1).bind fun t104=>(if t104=true then (some (Int.tmod (wrap64 (a0 * a1)) 2147483579,0)) else (some (0,100)))) else (some (0,100)))
set_option maxHeartbeats 8000000 in
set_option maxRecDepth 100000 in
theorem group_Mul.calls (a0 : Int) (a1 : Int) (r1 : Int) (r2 : Int) (w : World) (h : group_Mul.f a0 a1=some (r1,r2)) :
  Calls Tryd.prog 37 #[.int .i64 a0,.int .i64 a1] w fun e w'=>e=.returned (.tuple #[.int .i64 r1,.int .i64 r2]) ∧ Drawn0 w w':=by
 have H : ((group_Valid.f a0).bind fun t103=>(if t103=true then ((group_Valid.f a1).bind fun t104=>(if t104=true then (some (Int.tmod (wrap64 (a0 * a1)) 2147483579,0)) else (some (0,100)))) else (some (0,100))))=some (r1,r2):=h
 clear h
 replace H:=Option.bind_eq_some_iff.mp H
 obtain ⟨t103,A30,H⟩:=H
 replace H : (if t103=true then ((group_Valid.f a1).bind fun t104=>(if t104=true then (some (Int.tmod (wrap64 (a0 * a1)) 2147483579,0)) else (some (0,100)))) else (some (0,100)))=some (r1,r2):=H
 have A3:=Aside0.mk A30
 clear A30
 by_cases c4 : t103=true
 ·subst c4
  have H1 : ((group_Valid.f a1).bind fun t104=>(if t104=true then (some (Int.tmod (wrap64 (a0 * a1)) 2147483579,0)) else (some (0,100))))=some (r1,r2):=by rw [if_pos rfl] at H;exact H
  clear H
  have H:=H1
  clear H1
  replace H:=Option.bind_eq_some_iff.mp H
  obtain ⟨t104,A50,H⟩:=H
  replace H : (if t104=true then (some (Int.tmod (wrap64 (a0 * a1)) 2147483579,0)) else (some (0,100)))=some (r1,r2):=H
  have A5:=Aside0.mk A50
  clear A50
  by_cases c6 : t104=true
  ·subst c6
   have H1 : (some (Int.tmod (wrap64 (a0 * a1)) 2147483579,0))=some (r1,r2):=by rw [if_pos rfl] at H;exact H
   clear H
   have H:=H1
   clear H1
   simp only [Option.some.injEq,Prod.mk.injEq] at H
   obtain ⟨rfl,rfl⟩:=H
   go_enter Tryd.func37,Tryd.ntmps37
   go_wp2_with (first | ((with_reducible refine gate_callee (f:=38) rfl ?_);refine goesL_ (some 7) rfl rfl Tryd.func38 (by kernel_rfl) rfl #[.int .i64 a0] rfl (by (try simp only [List.map_toArray,List.map_cons,List.map_nil]);first | done | rfl | (simp only [List.length_drop,List.length_take];rfl)) ?_;(with_reducible refine (group_Valid.calls a0 true _ A3.out).mono ?_);rintro e w' ⟨rfl,⟨nd,rfl⟩⟩;refine ⟨_,rfl,?_⟩) | (go_at_call 38;(with_reducible refine (group_Valid.calls a1 true _ A5.out).mono ?_);rintro e w' ⟨rfl,⟨nd,rfl⟩⟩))
   go_ret2
   exact ⟨by first | rfl | (simp;done) | (simp [*];done),by repeat (first | exact Drawn0.refl _ | apply Drawn0.step)⟩
  ·replace c6:=Bool.eq_false_iff.mpr c6
   subst c6
   have H1 : (some (0,100))=some (r1,r2):=by rw [if_neg (show ¬ (false=true) by decide)] at H;exact H
   clear H
   have H:=H1
   clear H1
   simp only [Option.some.injEq,Prod.mk.injEq] at H
   obtain ⟨rfl,rfl⟩:=H
   go_enter Tryd.func37,Tryd.ntmps37
   go_wp2_with (first | ((with_reducible refine gate_callee (f:=38) rfl ?_);refine goesL_ (some 7) rfl rfl Tryd.func38 (by kernel_rfl) rfl #[.int .i64 a0] rfl (by (try simp only [List.map_toArray,List.map_cons,List.map_nil]);first | done | rfl | (simp only [List.length_drop,List.length_take];rfl)) ?_;(with_reducible refine (group_Valid.calls a0 true _ A3.out).mono ?_);rintro e w' ⟨rfl,⟨nd,rfl⟩⟩;refine ⟨_,rfl,?_⟩) | (go_at_call 38;(with_reducible refine (group_Valid.calls a1 false _ A5.out).mono ?_);rintro e w' ⟨rfl,⟨nd,rfl⟩⟩))
   go_ret2
   exact ⟨by first | rfl | (simp;done) | (simp [*];done),by repeat (first | exact Drawn0.refl _ | apply Drawn0.step)⟩
 ·replace c4:=Bool.eq_false_iff.mpr c4
  subst c4
  have H1 : (some (0,100))=some (r1,r2):=by rw [if_neg (show ¬ (false=true) by decide)] at H;exact H
  clear H
  have H:=H1
  clear H1
  simp only [Option.some.injEq,Prod.mk.injEq] at H
  obtain ⟨rfl,rfl⟩:=H
  go_enter Tryd.func37,Tryd.ntmps37
  go_wp2_with (first | ((with_reducible refine gate_callee (f:=38) rfl ?_);refine goesL_ (some 7) rfl rfl Tryd.func38 (by kernel_rfl) rfl #[.int .i64 a0] rfl (by (try simp only [List.map_toArray,List.map_cons,List.map_nil]);first | done | rfl | (simp only [List.length_drop,List.length_take];rfl)) ?_;(with_reducible refine (group_Valid.calls a0 false _ A3.out).mono ?_);rintro e w' ⟨rfl,⟨nd,rfl⟩⟩;refine ⟨_,rfl,?_⟩))
  go_ret2
  exact ⟨by first | rfl | (simp;done) | (simp [*];done),by repeat (first | exact Drawn0.refl _ | apply Drawn0.step)⟩
def R10_power.l0 : Nat → Int → Int → Int → Option (Int)
 | 0,_,_,_=>none
 | k + 1,x0,x1,x5=>if x1 > 0 then (if (Int.tmod x1 2)=1 then (R10_power.l0 k (Int.tmod (wrap64 (x0 * x0)) 2147483579) (wrap64 (Int.tdiv x1 2)) (Int.tmod (wrap64 (x5 * x0)) 2147483579)) else (R10_power.l0 k (Int.tmod (wrap64 (x0 * x0)) 2147483579) (wrap64 (Int.tdiv x1 2)) x5)) else (some x5)
def R10_power.f (k : Nat) (a0 : Int) (a1 : Int) : Option (Int):=R10_power.l0 k a0 a1 1
theorem R10_power.mono_l : ∀ k,(∀ y0 y1 y2,LeO (R10_power.l0 k y0 y1 y2) (R10_power.l0 (k + 1) y0 y1 y2))
 | 0=>fun _ _ _ r h=>by simp [R10_power.l0] at h
 | k + 1=>by
  have ih0:=R10_power.mono_l k
  ·intro y0 y1 y2
   unfold R10_power.l0
   repeat' first
   | (with_reducible exact ih0 _ _ _)
   | (with_reducible exact LeO.refl _)
   | (with_reducible exact LeO.none _)
   | (with_reducible refine LeO.ite ?_ ?_)
   | (with_reducible refine LeO.bind ?_ (fun _=>?_))
   | exact ih0 _ _ _
   | exact LeO.none _
   | refine LeO.ite ?_ ?_
   | refine LeO.bind ?_ (fun _=>?_)
theorem R10_power.mono : ∀ a0 a1 k,LeO (R10_power.f k a0 a1) (R10_power.f (k + 1) a0 a1):=by
 intro a0 a1 k
 have ih0:=R10_power.mono_l k
 unfold R10_power.f
 repeat' first
   | (with_reducible exact ih0 _ _ _)
   | (with_reducible exact LeO.refl _)
   | (with_reducible exact LeO.none _)
   | (with_reducible refine LeO.ite ?_ ?_)
   | (with_reducible refine LeO.bind ?_ (fun _=>?_))
   | exact ih0 _ _ _
   | exact LeO.none _
   | refine LeO.ite ?_ ?_
   | refine LeO.bind ?_ (fun _=>?_)
set_option maxHeartbeats 8000000 in
set_option maxRecDepth 100000 in
theorem R10_power.calls (k : Nat) (a0 : Int) (a1 : Int) (r : Int) (w : World) (h : R10_power.f k a0 a1=some r) :
  Calls Tryd.prog 93 #[.int .i64 a0,.int .i64 a1] w fun e w'=>e=.returned (.int .i64 r) ∧ Drawn0 w w':=by
 have H : (R10_power.l0 k a0 a1 1)=some r:=h
 clear h
 have H':=Aside0.mk H
 clear H
 go_enter Tryd.func93,Tryd.ntmps93
 go_wp2
 go_loopg [0,1,5] k (fun kq v0 v1 v5 w'=>∃ (x0_1 : Int) (x1_1 : Int) (x5_1 : Int),v0=.int .i64 x0_1 ∧ v1=.int .i64 x1_1 ∧ v5=.int .i64 x5_1 ∧ Aside0 (R10_power.l0 kq x0_1 x1_1 x5_1=some r) ∧ Aside0 (kq ≤ k) ∧ Drawn0 w w')
 case atStart=>exact ⟨(a0),(a1),(1),(by first | rfl | (simp;done) | (simp [*];done)),(by first | rfl | (simp;done) | (simp [*];done)),(by first | rfl | (simp;done) | (simp [*];done)),H',⟨Nat.le_refl _⟩,by repeat (first | exact Drawn0.refl _ | apply Drawn0.step)⟩
 case round =>
  clear H'
  try clear p2
  obtain ⟨x0_1,x1_1,x5_1,rfl,rfl,rfl,HA,HK1,⟨m1,rfl⟩⟩:=hrel
  cases gk with
  | zero=>exact absurd HA.out (by simp [R10_power.l0])
  | succ k1 =>
   have H:=HA.out
   clear HA
   simp only [R10_power.l0] at H
   by_cases c3 : x1_1 > 0
   ·rw [if_pos c3] at H
    have c3b0 : decide (0 < x1_1)=true:=decide_eq_true c3
    clear c3
    by_cases c4 : (Int.tmod x1_1 2)=1
    ·rw [if_pos c4] at H
     have c4b0 : ((Int.tmod x1_1 2) == 1)=true:=beq_iff_eq.mpr c4
     have c4b1 : ((Int.tmod x1_1 2) != 1)=false:=bne_eq_false_iff_eq.mpr c4
     clear c4
     have H':=Aside0.mk H
     clear H
     go_wp2
     go_roundg k1
     case measure=>have:=HK1.out;omega
     case rel=>exact ⟨(Int.tmod (wrap64 (x0_1 * x0_1)) 2147483579),(wrap64 (Int.tdiv x1_1 2)),(Int.tmod (wrap64 (x5_1 * x0_1)) 2147483579),(by first | rfl | (simp;done) | (simp [*];done)),(by first | rfl | (simp;done) | (simp [*];done)),(by first | rfl | (simp;done) | (simp [*];done)),H',⟨by have:=HK1.out;omega⟩,by repeat (first | exact Drawn0.refl _ | apply Drawn0.step)⟩
    ·rw [if_neg c4] at H
     have c4b0 : ((Int.tmod x1_1 2) == 1)=false:=beq_eq_false_iff_ne.mpr c4
     have c4b1 : ((Int.tmod x1_1 2) != 1)=true:=bne_iff_ne.mpr c4
     have H':=Aside0.mk H
     clear H
     go_wp2
     go_roundg k1
     case measure=>have:=HK1.out;omega
     case rel=>exact ⟨(Int.tmod (wrap64 (x0_1 * x0_1)) 2147483579),(wrap64 (Int.tdiv x1_1 2)),(x5_1),(by first | rfl | (simp;done) | (simp [*];done)),(by first | rfl | (simp;done) | (simp [*];done)),(by first | rfl | (simp;done) | (simp [*];done)),H',⟨by have:=HK1.out;omega⟩,by repeat (first | exact Drawn0.refl _ | apply Drawn0.step)⟩
   ·rw [if_neg c3] at H
    have c3b0 : decide (0 < x1_1)=false:=decide_eq_false c3
    clear c3
    obtain rfl:=Option.some.inj H
    go_wp2
    go_ret
    exact ⟨by first | rfl | (simp;done) | (simp [*];done),by repeat (first | exact Drawn0.refl _ | apply Drawn0.step)⟩
def R10_Valid.f (k : Nat) (a0 : Int) : Option (Bool):=if a0 ≥ 1 then (if a0 < 2147483579 then ((R10_power.f k a0 1073741789).bind fun t133=>(some (t133 == 1))) else (some false)) else (some false)
theorem R10_Valid.mono : ∀ a0 k,LeO (R10_Valid.f k a0) (R10_Valid.f (k + 1) a0):=by
 intro a0 k
 unfold R10_Valid.f
 repeat' first
   | (with_reducible exact R10_power.mono _ _ _)
   | (with_reducible exact LeO.refl _)
   | (with_reducible exact LeO.none _)
   | (with_reducible refine LeO.ite ?_ ?_)
   | (with_reducible refine LeO.bind ?_ (fun _=>?_))
   | exact R10_power.mono _ _ _
   | exact LeO.none _
   | refine LeO.ite ?_ ?_
   | refine LeO.bind ?_ (fun _=>?_)
set_option maxHeartbeats 8000000 in
set_option maxRecDepth 100000 in
theorem R10_Valid.calls (k : Nat) (a0 : Int) (r : Bool) (w : World) (h : R10_Valid.f k a0=some r) :
  Calls Tryd.prog 55 #[.int .i64 a0] w fun e w'=>e=.returned (.bool r) ∧ Drawn0 w w':=by
 have H : (if a0 ≥ 1 then (if a0 < 2147483579 then ((R10_power.f k a0 1073741789).bind fun t133=>(some (t133 == 1))) else (some false)) else (some false))=some r:=h
 clear h
 by_cases c2 : a0 ≥ 1
 ·rw [if_pos c2] at H
  have c2b0 : decide (1 ≤ a0)=true:=decide_eq_true c2
  clear c2
  by_cases c3 : a0 < 2147483579
  ·rw [if_pos c3] at H
   have c3b0 : decide (a0 < 2147483579)=true:=decide_eq_true c3
   clear c3
   replace H:=Option.bind_eq_some_iff.mp H
   obtain ⟨t133,A40,H⟩:=H
   replace H : (some (t133 == 1))=some r:=H
   have A4:=Aside0.mk A40
   clear A40
   obtain rfl:=Option.some.inj H
   go_enter Tryd.func55,Tryd.ntmps55
   go_wp2_with (first | (go_at_call 93;(with_reducible refine (R10_power.calls k a0 1073741789 t133 _ A4.out).mono ?_);rintro e w' ⟨rfl,⟨nd,rfl⟩⟩))
   go_ret
   exact ⟨by first | rfl | (simp;done) | (simp [*];done),by repeat (first | exact Drawn0.refl _ | apply Drawn0.step)⟩
  ·rw [if_neg c3] at H
   have c3b0 : decide (a0 < 2147483579)=false:=decide_eq_false c3
   clear c3
   obtain rfl:=Option.some.inj H
   go_enter Tryd.func55,Tryd.ntmps55
   go_wp2
   go_ret
   exact ⟨by first | rfl | (simp;done) | (simp [*];done),by repeat (first | exact Drawn0.refl _ | apply Drawn0.step)⟩
 ·rw [if_neg c2] at H
  have c2b0 : decide (1 ≤ a0)=false:=decide_eq_false c2
  clear c2
  obtain rfl:=Option.some.inj H
  go_enter Tryd.func55,Tryd.ntmps55
  go_wp2
  go_ret
  exact ⟨by first | rfl | (simp;done) | (simp [*];done),by repeat (first | exact Drawn0.refl _ | apply Drawn0.step)⟩
end Go.Proofs.YtjbcfdgnafmbkaaDoor.PGroup
end
section
namespace Go.Proofs.YtjbcfdgnafmbkaaDoor.PGroup
open Go.RowKit Go.Proofs.YtjbcfdgnafmbkaaDoorW.PrintWords Go.Proofs.YtjbcfdgnafmbkaaDoorW.PrintLast Go.Proofs.YtjbcfdgnafmbkaaDoorW.PrintMore
attribute [local go_sem] max2_int min2_int max_two min_two max_three min_three max_four min_four
set_option linter.unusedVariables false
set_option linter.unusedSimpArgs false
mutual
def R02_padded.l0 : Nat → List Int → List Int → Option (List Int)
 | 0,_,_=>none
 | k + 1,x0,x3=>if ((x3.length : Int) % 64)=56 then (R02_padded.l1 k x3 (IntKind.u64.wrap ((IntKind.u64.wrap ((x0.length : Int))) * 8)) 7) else (if x3.length < 140737488355328 then (R02_padded.l0 k x0 (x3 ++ [0])) else (none))
def R02_padded.l1 : Nat → List Int → Int → Int → Option (List Int)
 | 0,_,_,_=>none
 | k + 1,x3,x4,x5=>if x5 ≥ 0 then (if 0 ≤ (wrap64 (8 * x5)) then (if x3.length < 140737488355328 then (R02_padded.l1 k (x3 ++ [(shr .u64 x4 (wrap64 (8 * x5))) % 256]) x4 (wrap64 (x5 - 1))) else (none)) else (none)) else (some x3)
end
def R02_padded.f (k : Nat) (l0 : List Int) : Option (List Int):=(some (([] : List Int) : List Int)).bind fun y136=>(if y136.length + l0.length < 140737488355328 then ((some (y136 ++ l0 : List Int)).bind fun y139=>(if y139.length < 140737488355328 then (R02_padded.l0 k l0 (y139 ++ [128])) else (none))) else (none))
theorem R02_padded.mono_l : ∀ k,(∀ y0 y1,LeO (R02_padded.l0 k y0 y1) (R02_padded.l0 (k + 1) y0 y1)) ∧ (∀ y0 y1 y2,LeO (R02_padded.l1 k y0 y1 y2) (R02_padded.l1 (k + 1) y0 y1 y2))
 | 0=>⟨fun _ _ r h=>by simp [R02_padded.l0] at h,fun _ _ _ r h=>by simp [R02_padded.l1] at h⟩
 | k + 1=>by
  obtain ⟨ih0,ih1⟩:=R02_padded.mono_l k
  refine ⟨?_,?_⟩
  ·intro y0 y1
   unfold R02_padded.l0
   repeat' first
   | (with_reducible exact ih0 _ _)
   | (with_reducible exact ih1 _ _ _)
   | (with_reducible exact LeO.refl _)
   | (with_reducible exact LeO.none _)
   | (with_reducible refine LeO.ite ?_ ?_)
   | (with_reducible refine LeO.bind ?_ (fun _=>?_))
   | exact ih0 _ _
   | exact ih1 _ _ _
   | exact LeO.none _
   | refine LeO.ite ?_ ?_
   | refine LeO.bind ?_ (fun _=>?_)
  ·intro y0 y1 y2
   unfold R02_padded.l1
   repeat' first
   | (with_reducible exact ih0 _ _)
   | (with_reducible exact ih1 _ _ _)
   | (with_reducible exact LeO.refl _)
   | (with_reducible exact LeO.none _)
   | (with_reducible refine LeO.ite ?_ ?_)
   | (with_reducible refine LeO.bind ?_ (fun _=>?_))
   | exact ih0 _ _
   | exact ih1 _ _ _
   | exact LeO.none _
   | refine LeO.ite ?_ ?_
   | refine LeO.bind ?_ (fun _=>?_)
theorem R02_padded.mono : ∀ a0 k,LeO (R02_padded.f k a0) (R02_padded.f (k + 1) a0):=by
 intro a0 k
 obtain ⟨ih0,ih1⟩:=R02_padded.mono_l k
 unfold R02_padded.f
 repeat' first
   | (with_reducible exact ih0 _ _)
   | (with_reducible exact ih1 _ _ _)
   | (with_reducible exact LeO.refl _)
   | (with_reducible exact LeO.none _)
   | (with_reducible refine LeO.ite ?_ ?_)
   | (with_reducible refine LeO.bind ?_ (fun _=>?_))
   | exact ih0 _ _
   | exact ih1 _ _ _
   | exact LeO.none _
   | refine LeO.ite ?_ ?_
   | refine LeO.bind ?_ (fun _=>?_)
set_option maxHeartbeats 8000000 in
set_option maxRecDepth 100000 in
theorem R02_padded.calls (k : Nat) (A0 : Option Addr) (c0 : Nat) (l0 : List Int) (r : List Int) (w : World) (hr0 : Kd.C (Kd.int .u8) w A0 l0.length l0) (hc0 : l0.length ≤ c0) (h : R02_padded.f k l0=some r) :
  Calls Tryd.prog 120 #[.slice A0 l0.length c0] w fun e w'=>∃ v0_ : Value,e=.returned (v0_) ∧ Kd.R (Kd.int .u8) 5 w' w.heap.size (fun _=>True) v0_ r ∧ Below w.heap.size w w':=by
 have HR0:=Aside0.mk hr0
 have HC0:=Aside0.mk hc0
 clear hr0 hc0
 have HB:=Aside0.mk (Below.refl w.heap.size w)
 have H : ((some (([] : List Int) : List Int)).bind fun y136=>(if y136.length + l0.length < 140737488355328 then ((some (y136 ++ l0 : List Int)).bind fun y139=>(if y139.length < 140737488355328 then (R02_padded.l0 k l0 (y139 ++ [128])) else (none))) else (none)))=some r:=h
 clear h
 obtain ⟨y136,hy136⟩ : ∃ y_ : List Int,y_=(([] : List Int)):=⟨_,rfl⟩
 replace H : (if y136.length + l0.length < 140737488355328 then ((some (y136 ++ l0 : List Int)).bind fun y139=>(if y139.length < 140737488355328 then (R02_padded.l0 k l0 (y139 ++ [128])) else (none))) else (none))=some r:=by first | (rw [hy136];with_reducible exact H) | (have H2_:=(Option.bind_some _ _).symm.trans H;rw [hy136];with_reducible exact H2_) | (have H2_:=(Option.bind_some _ _).symm.trans H;with_reducible exact H2_) | with_reducible exact H | (rw [hy136];exact H) | exact H
 have Ny136:=Aside0.mk hy136
 clear hy136
 by_cases c2 : y136.length + l0.length < 140737488355328
 ·rw [if_pos c2] at H
  have LMc2:=Aside0.mk c2
  clear c2
  obtain ⟨y139,hy139⟩ : ∃ y_ : List Int,y_=(y136 ++ l0):=⟨_,rfl⟩
  replace H : (if y139.length < 140737488355328 then (R02_padded.l0 k l0 (y139 ++ [128])) else (none))=some r:=by first | (rw [hy139];with_reducible exact H) | (have H2_:=(Option.bind_some _ _).symm.trans H;rw [hy139];with_reducible exact H2_) | (have H2_:=(Option.bind_some _ _).symm.trans H;with_reducible exact H2_) | with_reducible exact H | (rw [hy139];exact H) | exact H
  have Ny139:=Aside0.mk hy139
  clear hy139
  by_cases c3 : y139.length < 140737488355328
  ·rw [if_pos c3] at H
   have LMc3:=Aside0.mk c3
   clear c3
   obtain ⟨y142,hy142⟩ : ∃ y_ : List Int,y_=(y139 ++ [128]):=⟨_,rfl⟩
   replace H : (R02_padded.l0 k l0 y142)=some r:=by first | (rw [hy142];with_reducible exact H) | (have H2_:=(Option.bind_some _ _).symm.trans H;rw [hy142];with_reducible exact H2_) | (have H2_:=(Option.bind_some _ _).symm.trans H;with_reducible exact H2_) | with_reducible exact H | (rw [hy142];exact H) | exact H
   have Ny142:=Aside0.mk hy142
   clear hy142
   have H':=Aside0.mk H
   clear H
   go_enter Tryd.func120,Tryd.ntmps120
   go_wp2_with (first | ((with_reducible refine gate_dst (N:=6) rfl ?_);refine Kd.R_lit (Kd.int .u8) _ 5 ?hg (N:=6) ?hd (xs:=([] : List Int)) (inner:=[]) (ok:=fun _=>True) (okp:=fun _=>True) ?hr ?hp (fun _ hk=>hk) trivial (Below.refl _ _) (Nat.le_refl _) (by simp) ?_;(case hd=>rfl);(case hg=>rfl);(case hr=>first | (go_simp;done) | (go_simp;rfl));(case hp=>exact (Reps.none _ _));intro v137 w4 ho5 hb hg_ hnew_;clear hg_ hnew_;(first | rw [← Ny136.out] at ho5 | (simp only [Int.reduceToNat] at ho5;rw [← Ny136.out] at ho5));have n0_:=Aside0.mk (Kd.R_lower ho5 (below_size (by repeat (first | (with_reducible first | exact HB.out | apply below_alloc | apply pw_below_drewN | apply below_drew1) | exact HB.out))));have n1_:=Aside0.mk (below_step (by repeat (first | (with_reducible first | exact HB.out | apply below_alloc | apply pw_below_drewN | apply below_drew1) | exact HB.out)) hb);clear HB;have HO138:=n0_;have HB:=n1_;clear n0_ n1_;clear hb ho5) | ((with_reducible refine gate_builtin (b:=.append) (xs:=#[.tmp 6,.tmp 7]) rfl ?_);at_builtin;refine Kd.R_append_rows (Kd.int .u8) (w0:=w) w.heap.size rfl (.tmp 6) (.tmp 7) 22 5 (.int .u8 0) 1 rfl Tryd.underlying22 info5 rfl (by decide) (by omega) v137 y136 l0 _ _ _ (fun _=>True) (fun _=>False) rfl rfl ?aO ?aR (fun _ _ h=>h) (fun _ h=>h.elim) ?aF ?aB ?aS ?aL ?_;(case aR=>repeat (first | exact (Kd.C_below HR0.out HB.out) | (with_reducible refine Kd.C_alloc ?_ _) | (with_reducible refine Kd.C_drewN ?_ _) | (with_reducible refine Kd.C_drew ?_)));(case aB=>exact (by repeat (first | (with_reducible first | exact HB.out | apply below_alloc | apply pw_below_drewN | apply below_drew1) | exact HB.out)));(case aF=>exact (fun _ _=>trivial));(case aO=>exact (by (with_reducible repeat (first | apply Kd.R_alloc | apply Kd.R_drewN | apply Kd.R_drew));exact HO138.out));(case aS=>exact (below_size (by repeat (first | (with_reducible first | exact HB.out | apply below_alloc | apply pw_below_drewN | apply below_drew1) | exact HB.out))));(case aL=>have:=LMc2.out;omega);intro v140 w6 ho hb hg hat;rw [← Ny139.out] at ho;have n0_:=Aside0.mk (hb);have n1_:=Aside0.mk (ho);clear HB;clear HO138;have HB:=n0_;have HO141:=n1_;clear n0_ n1_;clear ho hb hg hat) | ((with_reducible refine gate_builtin (b:=.append) (xs:=#[.tmp 8,.tmp 9]) rfl ?_);at_builtin;refine Kd.R_append (Kd.int .u8) (w0:=w) w.heap.size rfl (.tmp 8) (.tmp 9) 22 5 (.int .u8 0) 1 rfl Tryd.underlying22 info5 rfl (by decide) (by omega) v140 y139 128 [.int .u8 128] (fun _=>True) (fun _=>False) rfl rfl ?aP (fun _ hk=>hk.elim) ?aF ?aO ?aB ?aS ?aL ?_;(case aP=>exact rfl);(case aB=>exact (by repeat (first | (with_reducible first | exact HB.out | apply below_alloc | apply pw_below_drewN | apply below_drew1) | exact HB.out)));(case aF=>exact (fun _ _=>trivial));(case aO=>exact (by (with_reducible repeat (first | apply Kd.R_alloc | apply Kd.R_drewN | apply Kd.R_drew));exact HO141.out));(case aS=>exact (below_size (by repeat (first | (with_reducible first | exact HB.out | apply below_alloc | apply pw_below_drewN | apply below_drew1) | exact HB.out))));(case aL=>have:=LMc3.out;omega);intro v143 w7 ho hb hg hat;rw [← Ny142.out] at ho;have n0_:=Aside0.mk (hb);have n1_:=Aside0.mk (ho);clear HB;clear HO141;have HB:=n0_;have HO144:=n1_;clear n0_ n1_;clear ho hb hg hat))
   go_loopg [3] k (fun kq v3 w'=>∃ (x3_1 : List Int),Aside0 (R02_padded.l0 kq l0 x3_1=some r) ∧ Aside0 (kq ≤ k) ∧ Aside0 (Kd.R (Kd.int .u8) 5 w' w.heap.size (fun _=>True) v3 x3_1) ∧ Aside0 (Below w.heap.size w w'))
   case atStart=>exact ⟨(y142),H',⟨Nat.le_refl _⟩,⟨by (with_reducible repeat (first | apply Kd.R_alloc | apply Kd.R_drewN | apply Kd.R_drew));exact HO144.out⟩,⟨by repeat (first | (with_reducible first | exact HB.out | apply below_alloc | apply pw_below_drewN | apply below_drew1) | exact HB.out)⟩⟩
   case round =>
    clear H'
    try clear c1
    try clear c2
    try clear p2
    try clear c3
    obtain ⟨x3_1,HA,HK1,HO_3,HB⟩:=hrel
    cases gk with
    | zero=>exact absurd HA.out (by simp [R02_padded.l0])
    | succ k1 =>
     have H:=HA.out
     clear HA
     simp only [R02_padded.l0] at H
     by_cases c8 : ((x3_1.length : Int) % 64)=56
     ·rw [if_pos c8] at H
      have c8b0 : (((x3_1.length : Int) % 64) == 56)=true:=beq_iff_eq.mpr c8
      have c8b1 : (((x3_1.length : Int) % 64) != 56)=false:=bne_eq_false_iff_eq.mpr c8
      clear c8
      have H':=Aside0.mk H
      clear H
      obtain ⟨Ao9,co9,eo9⟩:=Kd.R_slice HO_3.out
      subst eo9
      go_wp2
      go_loopg [3,5] k1 (fun kq v3 v5 w'=>∃ (x3_2 : List Int) (x5_2 : Int),v5=.int .i64 x5_2 ∧ Aside0 (R02_padded.l1 kq x3_2 (IntKind.u64.wrap ((IntKind.u64.wrap ((l0.length : Int))) * 8)) x5_2=some r) ∧ Aside0 (kq ≤ k1) ∧ Aside0 (Kd.R (Kd.int .u8) 5 w' w.heap.size (fun _=>True) v3 x3_2) ∧ Aside0 (Below w.heap.size w w'))
      case atStart=>exact ⟨(x3_1),(7),(by first | rfl | (simp;done) | (simp [*];done)),H',⟨Nat.le_refl _⟩,⟨by (with_reducible repeat (first | apply Kd.R_alloc | apply Kd.R_drewN | apply Kd.R_drew));exact HO_3.out⟩,⟨by repeat (first | (with_reducible first | exact HB.out | apply below_alloc | apply pw_below_drewN | apply below_drew1) | exact HB.out)⟩⟩
      case round =>
       clear H'
       try clear c1
       try clear c2
       try clear p2
       try clear c3
       try clear c8
       try clear c8b0
       try clear c8b1
       try clear p2
       obtain ⟨x3_2,x5_2,rfl,HA,HK2,HO_3,HB⟩:=hrel
       cases gk with
       | zero=>exact absurd HA.out (by simp [R02_padded.l1])
       | succ k2 =>
        have H:=HA.out
        clear HA
        simp only [R02_padded.l1] at H
        by_cases c10 : x5_2 ≥ 0
        ·rw [if_pos c10] at H
         have c10b0 : decide (0 ≤ x5_2)=true:=decide_eq_true c10
         clear c10
         obtain ⟨ji11,hji11⟩ : ∃ j_ : Int,(wrap64 (8 * x5_2))=j_:=⟨_,rfl⟩
         replace H : (if 0 ≤ (ji11) then (if x3_2.length < 140737488355328 then (R02_padded.l1 k2 (x3_2 ++ [(shr .u64 (IntKind.u64.wrap ((IntKind.u64.wrap ((l0.length : Int))) * 8)) (ji11)) % 256]) (IntKind.u64.wrap ((IntKind.u64.wrap ((l0.length : Int))) * 8)) (wrap64 (x5_2 - 1))) else (none)) else (none))=some r:=by first | (rw [hji11] at H;exact H) | (simp only [hji11] at H ⊢;exact H)
         have hji11w : (IntKind.i64.wrap (8 * x5_2))=ji11:=(i64_w _).trans hji11
         by_cases c12 : 0 ≤ (ji11)
         ·rw [if_pos c12] at H
          have c12b0:=eq_true c12
          have c12b1 : decide (0 ≤ (ji11))=true:=decide_eq_true c12
          clear c12
          obtain ⟨ji13,hji13⟩ : ∃ j_ : Int,(shr .u64 (IntKind.u64.wrap ((IntKind.u64.wrap ((l0.length : Int))) * 8)) (ji11))=j_:=⟨_,rfl⟩
          replace H : (if x3_2.length < 140737488355328 then (R02_padded.l1 k2 (x3_2 ++ [(ji13) % 256]) (IntKind.u64.wrap ((IntKind.u64.wrap ((l0.length : Int))) * 8)) (wrap64 (x5_2 - 1))) else (none))=some r:=by first | (rw [hji13] at H;exact H) | (simp only [hji13] at H ⊢;exact H)
          have hji13_ : ((IntKind.u64.wrap ((IntKind.u64.wrap ((l0.length : Int))) * 8)) / 2 ^ min (ji11).toNat 64)=ji13:=hji13
          have hji13z : (ji11) ≤ 64 → ((IntKind.u64.wrap ((IntKind.u64.wrap ((l0.length : Int))) * 8)) / 2 ^ (ji11).toNat)=ji13:=shr_small hji13
          by_cases c14 : x3_2.length < 140737488355328
          ·rw [if_pos c14] at H
           have LMc14:=Aside0.mk c14
           clear c14
           obtain ⟨y148,hy148⟩ : ∃ y_ : List Int,y_=(x3_2 ++ [(ji13) % 256]):=⟨_,rfl⟩
           replace H : (R02_padded.l1 k2 y148 (IntKind.u64.wrap ((IntKind.u64.wrap ((l0.length : Int))) * 8)) (wrap64 (x5_2 - 1)))=some r:=by first | (rw [hy148];with_reducible exact H) | (have H2_:=(Option.bind_some _ _).symm.trans H;rw [hy148];with_reducible exact H2_) | (have H2_:=(Option.bind_some _ _).symm.trans H;with_reducible exact H2_) | with_reducible exact H | (rw [hy148];exact H) | exact H
           have Ny148:=Aside0.mk hy148
           clear hy148
           have H':=Aside0.mk H
           clear H
           go_wp2_with (first | ((with_reducible refine gate_builtin (b:=.append) (xs:=#[.tmp 26,.tmp 32]) rfl ?_);at_builtin;refine Kd.R_append (Kd.int .u8) (w0:=w) w.heap.size rfl (.tmp 26) (.tmp 32) 22 5 (.int .u8 0) 1 rfl Tryd.underlying22 info5 rfl (by decide) (by omega) u3 x3_2 ((ji13) % 256) [.int .u8 ((ji13) % 256)] (fun _=>True) (fun _=>False) rfl rfl ?aP (fun _ hk=>hk.elim) ?aF ?aO ?aB ?aS ?aL ?_;(case aP=>exact rfl);(case aB=>exact (by repeat (first | (with_reducible first | exact HB.out | apply below_alloc | apply pw_below_drewN | apply below_drew1) | exact HB.out)));(case aF=>exact (fun _ _=>trivial));(case aO=>exact (by (with_reducible repeat (first | apply Kd.R_alloc | apply Kd.R_drewN | apply Kd.R_drew));exact HO_3.out));(case aS=>exact (below_size (by repeat (first | (with_reducible first | exact HB.out | apply below_alloc | apply pw_below_drewN | apply below_drew1) | exact HB.out))));(case aL=>have:=LMc14.out;omega);intro v149 w15 ho hb hg hat;rw [← Ny148.out] at ho;have n0_:=Aside0.mk (hb);have n1_:=Aside0.mk (ho);clear HB;clear HO_3;have HB:=n0_;have HO150:=n1_;clear n0_ n1_;clear ho hb hg hat))
           go_roundg k2
           case measure=>have:=HK1.out;have:=HK2.out;omega
           case rel=>exact ⟨(y148),(wrap64 (x5_2 - 1)),(by first | rfl | (simp;done) | (simp [*];done)),H',⟨by have:=HK1.out;have:=HK2.out;omega⟩,⟨by (with_reducible repeat (first | apply Kd.R_alloc | apply Kd.R_drewN | apply Kd.R_drew));exact HO150.out⟩,⟨by repeat (first | (with_reducible first | exact HB.out | apply below_alloc | apply pw_below_drewN | apply below_drew1) | exact HB.out)⟩⟩
          ·rw [if_neg c14] at H
           exact absurd H (by simp)
         ·rw [if_neg c12] at H
          exact absurd H (by simp)
        ·rw [if_neg c10] at H
         have c10b0 : decide (0 ≤ x5_2)=false:=decide_eq_false c10
         clear c10
         obtain rfl:=Option.some.inj H
         go_wp2
         go_ret
         exact ⟨_,by first | rfl | (simp [errW_none,errW_some] <;> rfl) | (simp [*,errW_none,errW_some] <;> rfl),by (with_reducible repeat (first | apply Kd.R_alloc | apply Kd.R_drewN | apply Kd.R_drew));exact HO_3.out,by repeat (first | (with_reducible first | exact HB.out | apply below_alloc | apply pw_below_drewN | apply below_drew1) | exact HB.out)⟩
     ·rw [if_neg c8] at H
      have c8b0 : (((x3_1.length : Int) % 64) == 56)=false:=beq_eq_false_iff_ne.mpr c8
      have c8b1 : (((x3_1.length : Int) % 64) != 56)=true:=bne_iff_ne.mpr c8
      by_cases c16 : x3_1.length < 140737488355328
      ·rw [if_pos c16] at H
       have LMc16:=Aside0.mk c16
       clear c16
       obtain ⟨y145,hy145⟩ : ∃ y_ : List Int,y_=(x3_1 ++ [0]):=⟨_,rfl⟩
       replace H : (R02_padded.l0 k1 l0 y145)=some r:=by first | (rw [hy145];with_reducible exact H) | (have H2_:=(Option.bind_some _ _).symm.trans H;rw [hy145];with_reducible exact H2_) | (have H2_:=(Option.bind_some _ _).symm.trans H;with_reducible exact H2_) | with_reducible exact H | (rw [hy145];exact H) | exact H
       have Ny145:=Aside0.mk hy145
       clear hy145
       have H':=Aside0.mk H
       clear H
       obtain ⟨Ao17,co17,eo17⟩:=Kd.R_slice HO_3.out
       subst eo17
       go_wp2_with (first | ((with_reducible refine gate_builtin (b:=.append) (xs:=#[.tmp 15,.tmp 16]) rfl ?_);at_builtin;refine Kd.R_append (Kd.int .u8) (w0:=w) w.heap.size rfl (.tmp 15) (.tmp 16) 22 5 (.int .u8 0) 1 rfl Tryd.underlying22 info5 rfl (by decide) (by omega) (.slice Ao17 x3_1.length co17) x3_1 0 [.int .u8 0] (fun _=>True) (fun _=>False) rfl rfl ?aP (fun _ hk=>hk.elim) ?aF ?aO ?aB ?aS ?aL ?_;(case aP=>exact rfl);(case aB=>exact (by repeat (first | (with_reducible first | exact HB.out | apply below_alloc | apply pw_below_drewN | apply below_drew1) | exact HB.out)));(case aF=>exact (fun _ _=>trivial));(case aO=>exact (by (with_reducible repeat (first | apply Kd.R_alloc | apply Kd.R_drewN | apply Kd.R_drew));exact HO_3.out));(case aS=>exact (below_size (by repeat (first | (with_reducible first | exact HB.out | apply below_alloc | apply pw_below_drewN | apply below_drew1) | exact HB.out))));(case aL=>have:=LMc16.out;omega);intro v146 w18 ho hb hg hat;rw [← Ny145.out] at ho;have n0_:=Aside0.mk (hb);have n1_:=Aside0.mk (ho);clear HB;clear HO_3;have HB:=n0_;have HO147:=n1_;clear n0_ n1_;clear ho hb hg hat))
       go_roundg k1
       case measure=>have:=HK1.out;omega
       case rel=>exact ⟨(y145),H',⟨by have:=HK1.out;omega⟩,⟨by (with_reducible repeat (first | apply Kd.R_alloc | apply Kd.R_drewN | apply Kd.R_drew));exact HO147.out⟩,⟨by repeat (first | (with_reducible first | exact HB.out | apply below_alloc | apply pw_below_drewN | apply below_drew1) | exact HB.out)⟩⟩
      ·rw [if_neg c16] at H
       exact absurd H (by simp)
  ·rw [if_neg c3] at H
   exact absurd H (by simp)
 ·rw [if_neg c2] at H
  exact absurd H (by simp)
def R02_word.f (l0 : List Int) : Option (Int):=if 0 < (l0.length : Int) then (if 1 < (l0.length : Int) then (if 2 < (l0.length : Int) then (if 3 < (l0.length : Int) then (some (Go.bits .or .u32 (Go.bits .or .u32 (Go.bits .or .u32 ((((rd l0 0) % 4294967296) * 16777216) % 4294967296) ((((rd l0 1) % 4294967296) * 65536) % 4294967296)) ((((rd l0 2) % 4294967296) * 256) % 4294967296)) ((rd l0 3) % 4294967296))) else (none)) else (none)) else (none)) else (none)
set_option maxHeartbeats 8000000 in
set_option maxRecDepth 100000 in
theorem R02_word.calls (A0 : Option Addr) (c0 : Nat) (l0 : List Int) (r : Int) (w : World) (hr0 : Kd.C (Kd.int .u8) w A0 l0.length l0) (hc0 : l0.length ≤ c0) (h : R02_word.f l0=some r) :
  Calls Tryd.prog 140 #[.slice A0 l0.length c0] w fun e w'=>e=.returned (.int .u32 r) ∧ Drawn0 w w':=by
 have HR0:=Aside0.mk hr0
 have HC0:=Aside0.mk hc0
 clear hr0 hc0
 have H : (if 0 < (l0.length : Int) then (if 1 < (l0.length : Int) then (if 2 < (l0.length : Int) then (if 3 < (l0.length : Int) then (some (Go.bits .or .u32 (Go.bits .or .u32 (Go.bits .or .u32 ((((rd l0 0) % 4294967296) * 16777216) % 4294967296) ((((rd l0 1) % 4294967296) * 65536) % 4294967296)) ((((rd l0 2) % 4294967296) * 256) % 4294967296)) ((rd l0 3) % 4294967296))) else (none)) else (none)) else (none)) else (none))=some r:=h
 clear h
 by_cases c2 : 0 < (l0.length : Int)
 ·rw [if_pos c2] at H
  have c2b0 : decide (0 < (l0.length : Int))=true:=decide_eq_true c2
  have c2b1 : decide (0 < l0.length)=true:=decide_eq_true (by omega)
  clear c2
  by_cases c3 : 1 < (l0.length : Int)
  ·rw [if_pos c3] at H
   have c3b0 : decide (1 < (l0.length : Int))=true:=decide_eq_true c3
   have c3b1 : decide (1 < l0.length)=true:=decide_eq_true (by omega)
   clear c3
   by_cases c4 : 2 < (l0.length : Int)
   ·rw [if_pos c4] at H
    have c4b0 : decide (2 < (l0.length : Int))=true:=decide_eq_true c4
    have c4b1 : decide (2 < l0.length)=true:=decide_eq_true (by omega)
    clear c4
    by_cases c5 : 3 < (l0.length : Int)
    ·rw [if_pos c5] at H
     have c5b0 : decide (3 < (l0.length : Int))=true:=decide_eq_true c5
     have c5b1 : decide (3 < l0.length)=true:=decide_eq_true (by omega)
     clear c5
     obtain rfl:=Option.some.inj H
     have p151 : 0 ≤ (0 : Int):=(by omega)
     have q151 : 0 < (l0.length : Int):=of_decide_eq_true (by first | (with_reducible assumption) | assumption)
     obtain ⟨ad151,e151,hx151_0⟩:=Kd.at_int HR0.out 0 p151 q151
     cases e151
     have qi151 : (0 < l0.length)=True:=eq_true (by omega)
     (try rw [show ((0 : Int)).toNat=0 from rfl] at hx151_0)
     (try rw [Addr.add_zero'] at hx151_0)
     replace p151:=eq_true p151
     replace q151:=eq_true q151
     have p152 : 0 ≤ (1 : Int):=(by omega)
     have q152 : 1 < (l0.length : Int):=of_decide_eq_true (by first | (with_reducible assumption) | assumption)
     obtain ⟨ad152,e152,hx152_0⟩:=Kd.at_int HR0.out 1 p152 q152
     obtain rfl : ad151=ad152:=(by injection e152)
     (try simp only [show (1 : Int).toNat=1 from rfl,Nat.reduceMul,Nat.reduceEqDiff,Go.Addr.add,↓reduceIte] at hx152_0)
     have qi152 : (1 < l0.length)=True:=eq_true (by omega)
     (try rw [show ((1 : Int)).toNat=1 from rfl] at hx152_0)
     replace p152:=eq_true p152
     replace q152:=eq_true q152
     have p153 : 0 ≤ (2 : Int):=(by omega)
     have q153 : 2 < (l0.length : Int):=of_decide_eq_true (by first | (with_reducible assumption) | assumption)
     obtain ⟨ad153,e153,hx153_0⟩:=Kd.at_int HR0.out 2 p153 q153
     obtain rfl : ad151=ad153:=(by injection e153)
     (try simp only [show (2 : Int).toNat=2 from rfl,Nat.reduceMul,Nat.reduceEqDiff,Go.Addr.add,↓reduceIte] at hx153_0)
     have qi153 : (2 < l0.length)=True:=eq_true (by omega)
     (try rw [show ((2 : Int)).toNat=2 from rfl] at hx153_0)
     replace p153:=eq_true p153
     replace q153:=eq_true q153
     have p154 : 0 ≤ (3 : Int):=(by omega)
     have q154 : 3 < (l0.length : Int):=of_decide_eq_true (by first | (with_reducible assumption) | assumption)
     obtain ⟨ad154,e154,hx154_0⟩:=Kd.at_int HR0.out 3 p154 q154
     obtain rfl : ad151=ad154:=(by injection e154)
     (try simp only [show (3 : Int).toNat=3 from rfl,Nat.reduceMul,Nat.reduceEqDiff,Go.Addr.add,↓reduceIte] at hx154_0)
     have qi154 : (3 < l0.length)=True:=eq_true (by omega)
     (try rw [show ((3 : Int)).toNat=3 from rfl] at hx154_0)
     replace p154:=eq_true p154
     replace q154:=eq_true q154
     go_enter Tryd.func140,Tryd.ntmps140
     go_wp2
     repeat (go_quiet (fail);try go_wp2)
     go_ret
     exact ⟨by first | rfl | (simp;done) | (simp [*];done),by repeat (first | exact Drawn0.refl _ | apply Drawn0.step)⟩
    ·rw [if_neg c5] at H
     exact absurd H (by simp)
   ·rw [if_neg c4] at H
    exact absurd H (by simp)
  ·rw [if_neg c3] at H
   exact absurd H (by simp)
 ·rw [if_neg c2] at H
  exact absurd H (by simp)
end Go.Proofs.YtjbcfdgnafmbkaaDoor.PGroup
end
section
set_option linter.unusedVariables false
namespace Go.Proofs.YtjbcfdgnafmbkaaDoor.PGroup
open Go.RowKit Go.Proofs.YtjbcfdgnafmbkaaDoor Go.Proofs.YtjbcfdgnafmbkaaDoorW.PrintWords Go.Proofs.YtjbcfdgnafmbkaaDoorW.PrintLast
theorem prod_bound {a b : Int} (h1 : 0 ≤ a) (h2 : a < 2147483579) (h3 : 0 ≤ b) (h4 : b < 2147483579) : 0 ≤ a * b ∧ a * b ≤ 4611686018427387904:=by
  refine ⟨Int.mul_nonneg h1 h3,?_⟩
  have e1 : a * b ≤ 2147483579 * b:=Int.mul_le_mul_of_nonneg_right (by omega) h3
  omega
theorem tmod_prod {a b : Int} (h1 : 0 ≤ a) (h2 : a < 2147483579) (h3 : 0 ≤ b) (h4 : b < 2147483579) : Int.tmod (wrap64 (a * b)) 2147483579=mulI a b:=by
  obtain ⟨p1,p2⟩:=prod_bound h1 h2 h3 h4
  have : wrap64 (a * b)=a * b:=by unfold wrap64;omega
  rw [this,Int.tmod_eq_emod_of_nonneg p1];rfl
theorem mul_f (a b : Int) : group_Mul.f a b=some (if validB a=true ∧ validB b=true then (mulI a b,0) else (0,100)):=by
  unfold group_Mul.f group_Valid.f
  simp only [Option.bind_some]
  by_cases ha : validB a=true
  · rw [if_pos ha]
    by_cases hb : validB b=true
    · obtain ⟨a1,a2,_⟩:=validB_true ha
      obtain ⟨b1,b2,_⟩:=validB_true hb
      rw [if_pos hb,if_pos ⟨ha,hb⟩,tmod_prod (by omega) a2 (by omega) b2]
    · rw [if_neg hb,if_neg (fun h=>hb h.2)]
  · rw [if_neg ha,if_neg (fun h=>ha h.1)]
theorem lt_P (x : Nat) : x % 2147483579 < 2147483579:=Nat.mod_lt _ (by decide)
theorem refpower_l0 : ∀ (k a n c : Nat),n < 2 ^ k → a < 2147483579 → c < 2147483579 → n < 9223372036854775808 → R10_power.l0 (k + 1) a n c=some ((Num.fp k a n c : Nat) : Int)
  | 0,a,n,c,h,ha,hc,_=>by
    have : n=0:=by simp at h;omega
    subst this
    rw [R10_power.l0,if_neg (by omega)];rfl
  | k + 1,a,n,c,h,ha,hc,hb=>by
    rw [R10_power.l0,Num.fp]
    by_cases e : n=0
    · subst e;rw [if_neg (by omega)];rfl
    · rw [if_pos (by omega),if_neg e]
      have h1 : n / 2 < 2 ^ k:=by rw [Nat.pow_succ] at h;omega
      have q1 : Int.tmod (wrap64 ((a : Int) * a)) 2147483579=((a * a % 2147483579 : Nat) : Int):=by rw [tmod_prod (by omega) (by omega) (by omega) (by omega),mulI_nat]
      have q2 : Int.tmod (wrap64 ((c : Int) * a)) 2147483579=((c * a % 2147483579 : Nat) : Int):=by rw [tmod_prod (by omega) (by omega) (by omega) (by omega),mulI_nat]
      have q3 : wrap64 (Int.tdiv (n : Int) 2)=((n / 2 : Nat) : Int):=by
        rw [Int.tdiv_eq_ediv_of_nonneg (by omega)];unfold wrap64;omega
      have q4 : Int.tmod (n : Int) 2=((n % 2 : Nat) : Int):=by rw [Int.tmod_eq_emod_of_nonneg (by omega)];omega
      rw [q1,q2,q3,q4]
      have lb : n / 2 < 9223372036854775808:=Nat.lt_of_le_of_lt (Nat.div_le_self _ _) hb
      clear q1 q2 q3 q4 hb h
      obtain ⟨a2,ha2⟩ : ∃ a2,a * a % 2147483579=a2:=⟨_,rfl⟩
      obtain ⟨c2,hc2⟩ : ∃ c2,c * a % 2147483579=c2:=⟨_,rfl⟩
      have la : a2 < 2147483579:=ha2 ▸ lt_P _
      have lc : c2 < 2147483579:=hc2 ▸ lt_P _
      rw [ha2,hc2]
      clear ha2 hc2
      by_cases e2 : n % 2=1
      · have e3 : ((n % 2 : Nat) : Int)=1:=by omega
        rw [if_pos e3,if_pos e2]
        exact refpower_l0 k a2 (n / 2) c2 h1 la lc lb
      · have e3 : ¬ ((n % 2 : Nat) : Int)=1:=by omega
        rw [if_neg e3,if_neg e2]
        exact refpower_l0 k a2 (n / 2) c h1 la hc lb
theorem refpower_f (a n : Nat) (ha : a < 2147483579) (hn : n < 2147483648) : R10_power.f 32 a n=some ((Num.pm a n : Nat) : Int):=by
  unfold R10_power.f
  have:=refpower_l0 31 a n 1 hn ha (by omega) (by omega)
  rw [Num.fp_eq _ _ _ _ hn (by omega),Nat.one_mul,Nat.mod_eq_of_lt (Num.pm_lt _ _)] at this
  exact this
theorem refvalid_f (a : Int) : R10_Valid.f 32 a=some (validB a):=by
  unfold R10_Valid.f
  by_cases h1 : a ≥ 1
  · rw [if_pos h1]
    by_cases h2 : a < 2147483579
    · rw [if_pos h2]
      obtain ⟨a,rfl⟩:=Int.eq_ofNat_of_zero_le (show 0 ≤ a by omega)
      have:=refpower_f a 1073741789 (by omega) (by omega)
      rw [show ((1073741789 : Nat) : Int)=1073741789 from rfl] at this
      rw [this,Option.bind_some]
      congr 1
      rw [Bool.eq_iff_iff,validB_nat,beq_iff_eq]
      omega
    · rw [if_neg h2,valid_out (by omega)]
  · rw [if_neg h1,valid_out (by omega)]
end Go.Proofs.YtjbcfdgnafmbkaaDoor.PGroup
end
