/- Lemmas, walks and printed functions for the claim. -/
import Derived.Test.YtjbcfdgnafmbkaaDoorSDCur2
import Derived.Test.YtjbcfdgnafmbkaaDoorSDCur7
import Derived.Test.YtjbcfdgnafmbkaaDoorSDCur8
import Derived.Test.YtjbcfdgnafmbkaaDoorSDCur14
import Derived.Test.YtjbcfdgnafmbkaaDoorSDCur15
import Derived.LoopIn
import Derived.LoopNIn
import Derived.OwnWalkIn
import Derived.RangeFuncBound
import Derived.RangeFuncCalls
import Derived.RangeFuncLeaves
import Derived.RangeFuncNested
import Derived.Shelf.Abstract
import Derived.Shelf.RegionOpen
import Derived.TacticsInMore
import Derived.WalkArith
section
set_option linter.unusedVariables false
namespace Go.Proofs.YtjbcfdgnafmbkaaDoor.Dev
open Go.RowKit Go.Proofs.YtjbcfdgnafmbkaaDoor Go.Proofs.YtjbcfdgnafmbkaaDoorW.PrintWords Go.Proofs.YtjbcfdgnafmbkaaDoor.PBig
theorem spot_none {w : World} {ad : Addr} {v : Value} (h : w.cell? ad=some v) : ad.spot=none:=by
  unfold World.cell? at h
  cases hsp : ad.spot with
  | none=>rfl
  | some k=>rw [hsp] at h;split at h <;> simp at h
theorem add_none (b o j : Nat) : (⟨b,o,none⟩ : Addr).add j=⟨b,o + j,none⟩:=by unfold Addr.add;split <;> simp_all
def inB (n most : Int) : Bool:=decide (0 ≤ n) && decide (n ≤ most)
def rightD (x : S65) : Bool:=inB x.f0 1048576 && inB x.f1 1099511627775 && inB x.f2 1099511627775 && inB x.f3 63 && (if x.f5=true then x.f4 == 0 else validB x.f4 && x.f4 != 1)
def usedB (l : List S65) (k : Int) : Bool:=l.any (fun y=>decide (y.f4=k) && !y.f5)
def chkG : Int → List S65 → List S65 → Bool
  | _,_,[]=>true
  | last,seen,x :: r=>rightD x && decide (last < x.f0) && !(usedB seen x.f4) && chkG x.f0 (seen ++ [x]) r
def chk (l : List S65) : Int:=if (l.length : Int) > 1024 then 2 else if chkG (-1) [] l=true then 0 else 480
theorem within_f (a b : Int) : PDr.devices_within.f a b=some (inB a b):=by
  unfold PDr.devices_within.f inB
  by_cases h : a ≥ 0
  · rw [if_pos h,decide_eq_true h,Bool.true_and]
  · rw [if_neg h,decide_eq_false (p:=0 ≤ a) h,Bool.false_and]
theorem right_f (x : S65) : PDr.devices_right.f 1 x.f0 x.f1 x.f2 x.f3 x.f4 x.f5=some (rightD x):=by
  unfold PDr.devices_right.f rightD
  simp only [within_f,Option.bind_some,PDr.devices_right.j0]
  unfold group_Valid.f
  cases inB x.f0 1048576 <;> cases inB x.f1 1099511627775 <;> cases inB x.f2 1099511627775 <;> cases inB x.f3 63 <;> cases x.f5 <;> cases validB x.f4 <;> simp
theorem right_c (x : S65) (w : World) : Calls Tryd.prog 79 #[.agg #[.int .i64 x.f0,.int .i64 x.f1,.int .i64 x.f2,.int .i64 x.f3,.int .i64 x.f4,.bool x.f5]] w fun e w'=>e=.returned (.bool (rightD x)) ∧ Below w.heap.size w w' :=
  PDr.devices_right.calls 1 x.f0 x.f1 x.f2 x.f3 x.f4 x.f5 (rightD x) w (right_f x)
theorem el65 {w : World} {A : Option Addr} {xs : List S65} (h : Kd.C k65 w A xs.length xs) (hp : 0 < xs.length) :
    ∃ b o,A=some ⟨b,o,none⟩ ∧ ∀ i,i < xs.length → w.cell? ⟨b,o + i * 6,none⟩=some (.int .i64 (xs.getD i z65).f0) ∧ w.cell? ⟨b,o + i * 6 + 1,none⟩=some (.int .i64 (xs.getD i z65).f1) ∧
      w.cell? ⟨b,o + i * 6 + 2,none⟩=some (.int .i64 (xs.getD i z65).f2) ∧ w.cell? ⟨b,o + i * 6 + 3,none⟩=some (.int .i64 (xs.getD i z65).f3) ∧ w.cell? ⟨b,o + i * 6 + 4,none⟩=some (.int .i64 (xs.getD i z65).f4) ∧ w.cell? ⟨b,o + i * 6 + 5,none⟩=some (.bool (xs.getD i z65).f5):=by
  obtain ⟨ad,hA,hc⟩:=h.2.2 hp
  have hs : ad.spot=none:=by
    obtain ⟨cs,_,hK,hcell⟩:=hc 0 _ (List.getElem?_eq_getElem hp)
    obtain rfl:=k65_open hK
    have:=hcell 0 _ rfl
    rw [Nat.zero_mul,Nat.add_zero,show ad.add 0=ad from rfl] at this
    exact spot_none this
  obtain ⟨b,o,s⟩:=ad
  cases hs
  refine ⟨b,o,hA,fun i hi=>?_⟩
  obtain ⟨cs,_,hK,hcell⟩:=hc i _ (List.getElem?_eq_getElem hi)
  rw [show xs.getD i z65=xs[i] from by rw [List.getD_eq_getElem?_getD,List.getElem?_eq_getElem hi];rfl]
  obtain rfl:=k65_open hK
  have hsz : k65.sz=6:=rfl
  rw [hsz] at hcell
  have e0:=hcell 0 _ rfl
  have e1:=hcell 1 _ rfl
  have e2:=hcell 2 _ rfl
  have e3:=hcell 3 _ rfl
  have e4:=hcell 4 _ rfl
  have e5:=hcell 5 _ rfl
  rw [add_none] at e0 e1 e2 e3 e4 e5
  exact ⟨e0,e1,e2,e3,e4,e5⟩
theorem usedB_snoc (l : List S65) (x : S65) (k : Int) : usedB (l ++ [x]) k=(usedB l k || (decide (x.f4=k) && !x.f5)):=by simp [usedB]
theorem getD_take_drop (l : List S65) (i : Nat) (h : i < l.length) : l.drop i=l.getD i z65 :: l.drop (i + 1):=by
  rw [List.getD_eq_getElem?_getD,List.getElem?_eq_getElem h,Option.getD_some,List.drop_eq_getElem_cons h]
theorem take_snoc65 (l : List S65) (i : Nat) (h : i < l.length) : l.take (i + 1)=l.take i ++ [l.getD i z65]:=by
  rw [List.take_succ_eq_append_getElem h,List.getD_eq_getElem?_getD,List.getElem?_eq_getElem h];rfl
theorem rightD_key {x : S65} (h : rightD x=true) : 0 ≤ x.f4 ∧ x.f4 < 2147483579:=by
  unfold rightD at h
  simp only [Bool.and_eq_true] at h
  have h:=h.2
  split at h
  · have:=eq_of_beq h;omega
  · rw [Bool.and_eq_true] at h
    have:=validB_true h.1
    omega
theorem rightD_no {x : S65} (h : rightD x=true) : 0 ≤ x.f0 ∧ x.f0 ≤ 1048576:=by
  unfold rightD inB at h
  simp only [Bool.and_eq_true,decide_eq_true_eq] at h
  exact h.1.1.1.1
attribute [local go_sem] run_makeMap
set_option maxHeartbeats 2000000 in
set_option maxRecDepth 100000 in
theorem check_c (l : List S65) (A : Option Addr) (c : Nat) (w : World) (hC : Kd.C k65 w A l.length l) :
    Calls Tryd.prog 44 #[.slice A l.length c] w fun e w'=>e=.returned (.int .i64 (chk l)) ∧ Below w.heap.size w w':=by
  unfold chk
  have HC:=Lib.hid hC
  clear hC
  by_cases hbig : (l.length : Int) > 1024
  · rw [if_pos hbig]
    have t0 : decide ((1024 : Int) < (l.length : Int))=true:=decide_eq_true (by omega)
    go_enter Tryd.func44,Tryd.ntmps44
    go_wp2_with fail
    go_ret
    exact ⟨rfl,Below.refl _ w⟩
  · rw [if_neg hbig]
    have t0 : decide ((1024 : Int) < (l.length : Int))=false:=decide_eq_false (by omega)
    obtain ⟨R,hR⟩ : ∃ R,(if chkG (-1) [] l=true then (0 : Int) else 480)=R:=⟨_,rfl⟩
    rw [hR]
    have HR:=Lib.hid hR
    clear hR
    go_enter Tryd.func44,Tryd.ntmps44
    go_wp2_with fail
    generalize hW1 : w.alloc _=W1
    have HB1:=Lib.hid (show Below w.heap.size w W1 by rw [← hW1];exact below_alloc (Below.refl _ w) _)
    have BM1:=Lib.hid (show Bm.BM W1 w.heap.size 0 (usedB (l.take 0)) by rw [← hW1];exact Bm.BM.made w)
    clear hW1
    go_loopw [4,13] (fun v4 v13 wr=>∃ (i : Nat) (last : Int),i ≤ l.length ∧ v13=.int .i64 i ∧ v4=.int .i64 last ∧ Hid (Below w.heap.size w wr) ∧ Hid (Bm.BM wr w.heap.size i (usedB (l.take i))) ∧ Hid (chkG (-1) [] l=chkG last (l.take i) (l.drop i))) (fun _ v13 _=>l.length - (intOf v13).toNat)
    case atStart=>exact ⟨0,-1,by omega,rfl,rfl,HB1,BM1,Lib.hid (by simp)⟩
    case round =>
      obtain ⟨i,last,hil,rfl,rfl,HBr,HM,HG⟩:=hrel
      by_cases hlt : i < l.length
      · obtain ⟨b,o,rfl,hel⟩:=el65 (Kd.C_below HC.out HBr.out) (by omega)
        obtain ⟨q0,q1,q2,q3,q4,q5⟩:=hel i hlt
        have HG2:=Lib.hid (getD_take_drop l i hlt)
        have HT2:=Lib.hid (take_snoc65 l i hlt)
        clear hel
        generalize l.getD i z65=x at *
        obtain ⟨x0,x1,x2,x3,x4,x5⟩:=x
        simp only at q0 q1 q2 q3 q4 q5
        have hrc:=fun W=>right_c ⟨x0,x1,x2,x3,x4,x5⟩ W
        have hky:=@rightD_key ⟨x0,x1,x2,x3,x4,x5⟩
        obtain ⟨rb,hrb⟩ : ∃ rb,rightD ⟨x0,x1,x2,x3,x4,x5⟩=rb:=⟨_,rfl⟩
        obtain ⟨ub,hub⟩ : ∃ ub,usedB (l.take i) x4=ub:=⟨_,rfl⟩
        have HG3 : Hid (chkG (-1) [] l=(rb && decide (last < x0) && !ub && chkG x0 (l.take (i + 1)) (l.drop (i + 1)))):=Lib.hid (by rw [HG.out,HG2.out,chkG,hrb,hub,HT2.out])
        rw [hrb] at hrc hky
        have HRC:=Lib.hid hrc
        have HKY:=Lib.hid hky
        clear hrc hky hrb HG HG2
        simp only at HRC HKY
        go_wp2_with fail
        refine (HRC.out _).mono ?_
        rintro e w2 ⟨rfl,hb⟩
        have HB2:=Lib.hid (below_step (below_alloc HBr.out _) hb)
        have HM2:=Lib.hid ((HM.out.below (below_alloc (Below.refl _ wr) _)).below hb)
        have BK2:=Lib.hid (blk_below (blk_new wr _) hb)
        have hlk:=fun h : (Bm.kl x4).wf=true=>HM2.out.lookup 51 Tryd.underlying51 x4 h
        rw [hub] at hlk
        have hs0 : w2.cell? ⟨wr.heap.size,0,none⟩=some (.int .i64 x0):=(blk_cell BK2.out 0).trans rfl
        have hs4 : w2.cell? ⟨wr.heap.size,4,none⟩=some (.int .i64 x4):=(blk_cell BK2.out 4).trans rfl
        have hs5 : w2.cell? ⟨wr.heap.size,5,none⟩=some (.bool x5):=(blk_cell BK2.out 5).trans rfl
        clear hb
        cases rb with
        | false =>
          have HGf : Hid (chkG (-1) [] l=false):=Lib.hid (by rw [HG3.out];simp)
          clear hlk
          go_wp2_with fail
          go_ret
          exact ⟨by rw [← HR.out,HGf.out];rfl,HB2.out⟩
        | true =>
          have hk : 0 ≤ x4 ∧ x4 < 2147483579:=HKY.out rfl
          have hwf : (Bm.kl x4).wf=true:=WalkArith.wf_i64 (by omega)
          have hlk:=hlk hwf
          by_cases h0 : x0 ≤ last
          · have t1 : decide (x0 ≤ last)=true:=decide_eq_true h0
            have HGf : Hid (chkG (-1) [] l=false):=Lib.hid (by rw [HG3.out,decide_eq_false (p:=last < x0) (by omega)];simp)
            clear hlk
            go_wp2_with fail
            go_ret
            exact ⟨by rw [← HR.out,HGf.out];rfl,HB2.out⟩
          · have t1 : decide (x0 ≤ last)=false:=decide_eq_false h0
            cases ub with
            | true =>
              have HGf : Hid (chkG (-1) [] l=false):=Lib.hid (by rw [HG3.out];simp)
              go_wp2_with fail
              go_ret
              exact ⟨by rw [← HR.out,HGf.out];rfl,HB2.out⟩
            | false =>
              have HGt : Hid (chkG (-1) [] l=chkG x0 (l.take (i + 1)) (l.drop (i + 1))):=Lib.hid (by rw [HG3.out,decide_eq_true (p:=last < x0) (by omega)];simp)
              go_wp2_with fail
              refine wp_region_quiet_tail 9 (by kernel_rfl) (by kernel_rfl) ?_
              simp only [List.take_succ_cons,List.take_zero,List.drop_succ_cons,List.drop_zero]
              repeat (go_big_quiet_step (fail))
              refine wpQuiet_nil ?_
              intro m
              go_wp2_with (at_mapUpdate;refine Bm.put_in (w:=w2.drewN m) (b:=w.heap.size) (n:=i) (U:=usedB (l.take i)) HM2.out rfl _ _ _ 51 rfl Tryd.underlying51 (by have h9 : i ≤ 1024:=(by omega);simp only [maxLen];omega) x4 hwf (!x5) rfl rfl rfl ?_;intro w3 hM3 hg3;have HM3:=Lib.hid hM3;have HB3:=Lib.hid ((pw_below_drewN HB2.out m).grown hg3 (pw_below_drewN HB2.out m).size (fun k hk=>by cases hk;exact Nat.le_refl _));clear hM3 hg3)
              refine ⟨⟨i + 1,x0,by omega,by go_num,rfl,HB3,Lib.hid ?_,HGt⟩,by simp [intOf];omega⟩
              have e : (fun j=>if j=x4 then !x5 else usedB (l.take i) j)=usedB (l.take (i + 1)):=funext fun j=>by
                rw [HT2.out,usedB_snoc]
                by_cases ej : j=x4
                · subst ej;rw [if_pos rfl,hub];simp
                · rw [if_neg ej,decide_eq_false (p:=x4=j) (fun h=>ej h.symm)];simp
              rw [← e]
              exact HM3.out
      · have e : i=l.length:=by omega
        subst e
        have HG2 : Hid (chkG (-1) [] l=true):=Lib.hid (by rw [HG.out,List.drop_length,chkG])
        go_wp2_with fail
        go_ret
        exact ⟨by rw [← HR.out,HG2.out];rfl,HBr.out⟩
end Go.Proofs.YtjbcfdgnafmbkaaDoor.Dev
namespace Go.Proofs.YtjbcfdgnafmbkaaDoor.PBig
open Go.RowKit Go.Proofs.YtjbcfdgnafmbkaaDoor Go.Proofs.YtjbcfdgnafmbkaaDoorW.PrintWords
def devices_Check.f (l0 : List S65) : Option Int:=some (Dev.chk l0)
theorem devices_Check.calls (A0 : Option Addr) (c0 : Nat) (l0 : List S65) (r : Int) (w : World) (hr0 : Kd.C k65 w A0 l0.length l0) (hc0 : l0.length ≤ c0) (h : devices_Check.f l0=some r) :
    Calls Tryd.prog 44 #[.slice A0 l0.length c0] w fun e w'=>e=.returned (.int .i64 r) ∧ Below w.heap.size w w':=by
  obtain rfl:=Option.some.inj h
  exact Dev.check_c l0 A0 c0 w hr0
end Go.Proofs.YtjbcfdgnafmbkaaDoor.PBig
end
section
set_option linter.unusedVariables false
namespace Go.Proofs.YtjbcfdgnafmbkaaDoor.Dev
open Go.RowKit Go.Shelf Go.Proofs.YtjbcfdgnafmbkaaDoor Go.Proofs.YtjbcfdgnafmbkaaDoorW.PrintWords Go.Proofs.YtjbcfdgnafmbkaaDoor.PBig
attribute [local go_sem] Oper.semAt_some
def selB (p t k : Int) (x : S65) : Bool:=decide (x.f3=p) && decide (x.f1 ≤ t) && decide (x.f2 ≤ k)
def encD (x : S65) : Array Value:=#[.agg #[.int .i64 x.f0,.int .i64 x.f1,.int .i64 x.f2,.int .i64 x.f3,.int .i64 x.f4,.bool x.f5]]
theorem of_c (A : Option Addr) (nn c : Nat) (p t k : Int) (w : World) : Calls Tryd.prog 116 #[.slice A nn c,.int .i64 p,.int .i64 t,.int .i64 k] w fun e w' =>
    e=.returned (.func (.func 135) #[] #[.pointer (some ⟨w.heap.size,0,none⟩),.pointer (some ⟨w.heap.size + 1,0,none⟩),.pointer (some ⟨w.heap.size + 1 + 1,0,none⟩),.pointer (some ⟨w.heap.size + 1 + 1 + 1,0,none⟩)]) ∧
    w'=(((w.alloc (.cells #[.slice A nn c] 63)).alloc (.cells #[.int .i64 p] 3)).alloc (.cells #[.int .i64 t] 3)).alloc (.cells #[.int .i64 k] 3):=by
  go_enter Tryd.func116,Tryd.ntmps116
  go_wp2
  go_ret
  exact ⟨rfl,rfl⟩
set_option maxRecDepth 100000 in
set_option maxHeartbeats 2000000 in
theorem of1_in (F : Fence) (n : Nat) (h7 : F.fn 135) (hro : F.round=none) (hn : 1 ≤ n) (b0 b1 b2 b3 : Nat) (A : Option Addr) (c : Nat) (l : List S65) (p t k : Int) (w : World) (hC : Kd.C k65 w A l.length l)
    (q0 : w.cell? ⟨b0,0,none⟩=some (.slice A l.length c)) (q1 : w.cell? ⟨b1,0,none⟩=some (.int .i64 p)) (q2 : w.cell? ⟨b2,0,none⟩=some (.int .i64 t)) (q3 : w.cell? ⟨b3,0,none⟩=some (.int .i64 k)) :
    SeqStopsK F n Tryd.prog 135 #[.pointer (some ⟨b0,0,none⟩),.pointer (some ⟨b1,0,none⟩),.pointer (some ⟨b2,0,none⟩),.pointer (some ⟨b3,0,none⟩)] encD (Below w.heap.size) (fun xs=>xs=l.filter (selB p t k)) (fun _=>True) l.length w:=by
  intro lp J Jx W hW hJ hJx hY h0
  have HC:=Lib.hid hC
  have hln : l.length ≤ 9223372036854775807:=hC.2.1
  have HJ:=Lib.hid hJ
  have HY:=Lib.hid hY
  have Q:=Lib.hid (And.intro q0 (And.intro q1 (And.intro q2 q3)))
  clear hC hJ hY q0 q1 q2 q3
  have c0 : W.cell? ⟨b0,0,none⟩=some (.slice A l.length c):=(hW.cell (World.block_lt_of_cell? w _ Q.out.1)).trans Q.out.1
  refine callsIn_of_wp Tryd.func135 rfl h7 ?_ hro
  simp only [Tryd.ntmps135,List.size_toArray,List.length_cons,List.length_nil,Nat.reduceAdd,Nat.reduceSub,Array.replicate_succ,Array.replicate_zero,List.push_toArray,List.append_toArray,List.nil_append,List.cons_append]
  gi_wp2
  gi_loopw [10] (fun v10 wr=>∃ i : Nat,i ≤ l.length ∧ v10=.int .i64 i ∧ Hid (Below w.heap.size w wr) ∧ Hid (J ((l.take i).filter (selB p t k)) wr)) (fun v10 _=>l.length - (intOf v10).toNat)
  case atStart=>exact ⟨0,by omega,rfl,Lib.hid hW,Lib.hid (by rw [List.take_zero];exact h0)⟩
  case round =>
    obtain ⟨i,hil,rfl,HB,HJr⟩:=hrel
    by_cases hlt : i < l.length
    · obtain ⟨b,o,rfl,hel⟩:=el65 (Kd.C_below HC.out HB.out) (by omega)
      obtain ⟨x0q,x1q,x2q,x3q,x4q,x5q⟩:=hel i hlt
      have c1 : wr.cell? ⟨b1,0,none⟩=some (.int .i64 p):=(HB.out.cell (World.block_lt_of_cell? w _ Q.out.2.1)).trans Q.out.2.1
      have c2 : wr.cell? ⟨b2,0,none⟩=some (.int .i64 t):=(HB.out.cell (World.block_lt_of_cell? w _ Q.out.2.2.1)).trans Q.out.2.2.1
      have c3 : wr.cell? ⟨b3,0,none⟩=some (.int .i64 k):=(HB.out.cell (World.block_lt_of_cell? w _ Q.out.2.2.2)).trans Q.out.2.2.2
      have HT:=Lib.hid (take_snoc65 l i hlt)
      have HLe:=Lib.hid (show ((l.take i).filter (selB p t k)).length < l.length from Nat.lt_of_le_of_lt (List.length_filter_le _ _) (by rw [List.length_take];omega))
      clear hel
      generalize l.getD i z65=x at *
      obtain ⟨x0,x1,x2,x3,x4,x5⟩:=x
      simp only at x0q x1q x2q x3q x4q x5q
      have hW2 : Hid (Below w.heap.size w (wr.alloc (.cells #[.int .i64 x0,.int .i64 x1,.int .i64 x2,.int .i64 x3,.int .i64 x4,.bool x5] 65))):=Lib.hid (below_alloc HB.out _)
      have hJ2 : Hid (J ((l.take i).filter (selB p t k)) (wr.alloc (.cells #[.int .i64 x0,.int .i64 x1,.int .i64 x2,.int .i64 x3,.int .i64 x4,.bool x5] 65))):=Lib.hid (HJ.out _ _ _ none HJr.out (World.grownBy_alloc wr _ none) (by simp))
      have hc1 : (wr.alloc (.cells #[.int .i64 x0,.int .i64 x1,.int .i64 x2,.int .i64 x3,.int .i64 x4,.bool x5] 65)).cell? ⟨b1,0,none⟩=some (.int .i64 p):=((below_alloc (Below.refl _ wr) _).cell (World.block_lt_of_cell? wr _ c1)).trans c1
      have hc2 : (wr.alloc (.cells #[.int .i64 x0,.int .i64 x1,.int .i64 x2,.int .i64 x3,.int .i64 x4,.bool x5] 65)).cell? ⟨b2,0,none⟩=some (.int .i64 t):=((below_alloc (Below.refl _ wr) _).cell (World.block_lt_of_cell? wr _ c2)).trans c2
      have hc3 : (wr.alloc (.cells #[.int .i64 x0,.int .i64 x1,.int .i64 x2,.int .i64 x3,.int .i64 x4,.bool x5] 65)).cell? ⟨b3,0,none⟩=some (.int .i64 k):=((below_alloc (Below.refl _ wr) _).cell (World.block_lt_of_cell? wr _ c3)).trans c3
      obtain ⟨fn,tmps,assign,body,hy,hR⟩:=HY.out _ ⟨x0,x1,x2,x3,x4,x5⟩ _ hJ2.out HLe.out
      dsimp only [encD] at hy
      by_cases h3 : x3=p
      · have e3 : (x3 == p)=true:=beq_iff_eq.mpr h3
        have H3:=Lib.hid h3
        clear h3
        by_cases h1 : x1 ≤ t
        · have e1 : decide (x1 ≤ t)=true:=decide_eq_true h1
          have H1:=Lib.hid h1
          clear h1
          by_cases h2 : x2 ≤ k
          · have e2 : decide (x2 ≤ k)=true:=decide_eq_true h2
            have H2:=Lib.hid h2
            clear h2
            gi_wp2
            refine hR.mono ?_
            rintro e W3 (⟨rfl,hJ3,hk3⟩ | ⟨rfl,hJx3⟩)
            · have HB3:=Lib.hid (hW2.out.trans hk3)
              clear hy hR hk3
              gi_wp2
              go_roundw
              case rel=>exact ⟨i + 1,by omega,by go_num,HB3,Lib.hid (by rw [HT.out,List.filter_append,List.filter_cons_of_pos (by have:=H1.out;have:=H2.out;have:=H3.out;simp [selB];omega),List.filter_nil];exact hJ3)⟩
              case measure=>simp [intOf];omega
            · clear hy hR
              gi_wp2
              refine bodyPost_ret (results_none rfl _ _ _) rfl ?_
              exact ⟨⟨_,rfl⟩,.inr ⟨_,trivial,hJx3⟩⟩
          · have e2 : decide (x2 ≤ k)=false:=decide_eq_false h2
            have H2:=Lib.hid h2
            clear h2 hy hR
            gi_wp2
            refine ⟨fun _ h=>(by cases h),?_⟩
            gi_wp2
            go_roundw
            case rel=>exact ⟨i + 1,by omega,by go_num,hW2,Lib.hid (by rw [HT.out,List.filter_append,List.filter_cons_of_neg (by have:=H2.out;simp [selB];omega),List.filter_nil,List.append_nil];exact hJ2.out)⟩
            case measure=>simp [intOf];omega
        · have e1 : decide (x1 ≤ t)=false:=decide_eq_false h1
          have H1:=Lib.hid h1
          clear h1 hy hR
          gi_wp2
          refine ⟨fun _ h=>(by cases h),?_⟩
          gi_wp2
          go_roundw
          case rel=>exact ⟨i + 1,by omega,by go_num,hW2,Lib.hid (by rw [HT.out,List.filter_append,List.filter_cons_of_neg (by have:=H1.out;simp [selB];intro a1 a2;omega),List.filter_nil,List.append_nil];exact hJ2.out)⟩
          case measure=>simp [intOf];omega
      · have e3 : (x3 == p)=false:=beq_eq_false_iff_ne.mpr h3
        have H3:=Lib.hid h3
        clear h3 hy hR
        gi_wp2
        refine ⟨fun _ h=>(by cases h),?_⟩
        gi_wp2
        go_roundw
        case rel=>exact ⟨i + 1,by omega,by go_num,hW2,Lib.hid (by rw [HT.out,List.filter_append,List.filter_cons_of_neg (by have:=H3.out;simp [selB,this]),List.filter_nil,List.append_nil];exact hJ2.out)⟩
        case measure=>simp [intOf];omega
    · obtain rfl : i=l.length:=by omega
      rw [List.take_length] at HJr
      gi_wp2
      go_end0
      exact ⟨⟨_,rfl⟩,.inl ⟨_,rfl,HJr.out⟩⟩
end Go.Proofs.YtjbcfdgnafmbkaaDoor.Dev
end
section
set_option linter.unusedVariables false
namespace Go.Proofs.YtjbcfdgnafmbkaaDoor.Dev
open Go.RowKit Go.Shelf Go.Proofs.YtjbcfdgnafmbkaaDoor Go.Proofs.YtjbcfdgnafmbkaaDoorW.PrintWords Go.Proofs.YtjbcfdgnafmbkaaDoor.PBig
attribute [local go_sem] Oper.semAt_some
def stepD (a : S65 × Bool) (y : S65) : S65 × Bool:=if a.2=false ∨ a.1.f1 ≤ y.f1 then (y,true) else a
def bestD (l : List S65) : S65 × Bool:=l.foldl stepD (z65,false)
theorem bestD_snoc (l : List S65) (x : S65) : bestD (l ++ [x])=stepD (bestD l) x:=by simp [bestD]
def cmpI (a b : Int) : Int:=if a < b then -1 else if a > b then 1 else 0
theorem cmpI_yes {a b : Int} (h : a ≤ b) : decide (cmpI a b ≤ 0)=true:=decide_eq_true (by unfold cmpI;split <;> (try split) <;> omega)
theorem cmpI_no {a b : Int} (h : ¬ a ≤ b) : decide (cmpI a b ≤ 0)=false:=decide_eq_false (by unfold cmpI;rw [if_neg (by omega),if_pos (by omega)];decide)
theorem cmp_c (x y : S65) (w : World) : Calls Tryd.prog 117 #[.agg #[.int .i64 x.f0,.int .i64 x.f1,.int .i64 x.f2,.int .i64 x.f3,.int .i64 x.f4,.bool x.f5],.agg #[.int .i64 y.f0,.int .i64 y.f1,.int .i64 y.f2,.int .i64 y.f3,.int .i64 y.f4,.bool y.f5]] w fun e w'=>e=.returned (.int .i64 (cmpI x.f1 y.f1)) ∧ Below w.heap.size w w' :=
  PDx.devices_current_1.calls x.f0 x.f1 x.f2 x.f3 x.f4 x.f5 y.f0 y.f1 y.f2 y.f3 y.f4 y.f5 (cmpI x.f1 y.f1) w (by
    unfold PDx.devices_current_1.f PDx.cmp_Compare_int.f PDx.cmp_isNaN_int.f cmpI
    by_cases h1 : x.f1 < y.f1 <;> by_cases h2 : x.f1 > y.f1 <;> simp [h1,h2])
def vD (x : S65) : Value:=.agg #[.int .i64 x.f0,.int .i64 x.f1,.int .i64 x.f2,.int .i64 x.f3,.int .i64 x.f4,.bool x.f5]
def cellsD (x : S65) : Array Value:=#[.int .i64 x.f0,.int .i64 x.f1,.int .i64 x.f2,.int .i64 x.f3,.int .i64 x.f4,.bool x.f5]
theorem keepsFrom_below {B : Nat} {W W' : World} (hb : Below W.heap.size W W') : KeepsFrom B W W':=⟨hb.size,fun k o _ hk _=>(hb.block k (Array.getElem?_eq_some_iff.1 hk).1).trans hk⟩
structure Held (g : Nat) (b : S65 × Bool) (W : World) : Prop where
  o : W.heap[g]?=some (.cells #[.func (.func 117) #[] #[]] 165 (0,0))
  x : W.heap[g + 1]?=some (.cells (cellsD b.1) 65 (0,0))
  k : W.heap[g + 1 + 1]?=some (.cells #[.bool b.2] 4 (0,0))
theorem Held.kept {g : Nat} {b : S65 × Bool} {A B : World} {row : Option Nat} (h : Held g b A) (hg : A.grownBy B row) (hr : ∀ r,row=some r → g + 1 + 1 < r) : Held g b B :=
  ⟨(hg.block g (blk_lt h.o) (fun e=>by have:=hr g e.symm;omega)).trans h.o,(hg.block _ (blk_lt h.x) (fun e=>by have:=hr _ e.symm;omega)).trans h.x,(hg.block _ (blk_lt h.k) (fun e=>by have:=hr _ e.symm;omega)).trans h.k⟩
theorem Held.below {g : Nat} {b : S65 × Bool} {A B : World} (h : Held g b A) (hb : Below A.heap.size A B) : Held g b B:=⟨blk_below h.o hb,blk_below h.x hb,blk_below h.k hb⟩
def putD (V : World) (g : Nat) (y : S65) (ok : Bool) : World :=
  ((((((V.setCell ⟨g + 1,0,none⟩ (.int .i64 y.f0)).setCell ⟨g + 1,1,none⟩ (.int .i64 y.f1)).setCell ⟨g + 1,2,none⟩ (.int .i64 y.f2)).setCell ⟨g + 1,3,none⟩ (.int .i64 y.f3)).setCell ⟨g + 1,4,none⟩ (.int .i64 y.f4)).setCell ⟨g + 1,5,none⟩ (.bool y.f5)).setCell ⟨g + 1 + 1,0,none⟩ (.bool ok)
theorem putD_others (V : World) (g : Nat) (y : S65) (ok : Bool) : KeepsOthers V (putD V g y ok) :=
  (((((((KeepsOthers.setCell V _ _).trans (KeepsOthers.setCell _ _ _)).trans (KeepsOthers.setCell _ _ _)).trans (KeepsOthers.setCell _ _ _)).trans (KeepsOthers.setCell _ _ _)).trans (KeepsOthers.setCell _ _ _)).trans (KeepsOthers.setCell _ _ _))
theorem putD_below {n : Nat} {w0 V : World} (h : Below n w0 V) (g : Nat) (hn : n ≤ g) (y : S65) (ok : Bool) : Below n w0 (putD V g y ok) :=
  ((((((h.setCell (p:=⟨g + 1,0,none⟩) (by simp;omega) _).setCell (p:=⟨g + 1,1,none⟩) (by simp;omega) _).setCell (p:=⟨g + 1,2,none⟩) (by simp;omega) _).setCell (p:=⟨g + 1,3,none⟩) (by simp;omega) _).setCell (p:=⟨g + 1,4,none⟩) (by simp;omega) _).setCell (p:=⟨g + 1,5,none⟩) (by simp;omega) _).setCell (p:=⟨g + 1 + 1,0,none⟩) (by simp;omega) _
theorem putD_held {V : World} {g : Nat} {b : S65 × Bool} (h : Held g b V) (y : S65) (ok : Bool) : Held g (y,ok) (putD V g y ok):=by
  refine ⟨?_,?_,?_⟩
  · exact blk_far (blk_far (blk_far (blk_far (blk_far (blk_far (blk_far h.o (by first | (simp;done) | (simp;omega)) _) (by first | (simp;done) | (simp;omega)) _) (by first | (simp;done) | (simp;omega)) _) (by first | (simp;done) | (simp;omega)) _) (by first | (simp;done) | (simp;omega)) _) (by first | (simp;done) | (simp;omega)) _) (by first | (simp;done) | (simp;omega)) _
  · exact blk_far (blk_set (blk_set (blk_set (blk_set (blk_set (blk_set h.x 0 _) 1 _) 2 _) 3 _) 4 _) 5 _) (by simp) _
  · exact blk_set (blk_far (blk_far (blk_far (blk_far (blk_far (blk_far h.k (by simp) _) (by simp) _) (by simp) _) (by simp) _) (by simp) _) (by simp) _) 0 _
def chainD (W : World) (g : Nat) (m0 m1 m2 m3 m4 : Int) (m5 ok : Bool) : World :=
  (((((((W.setCell ⟨g + 1,0,none⟩ (.int .i64 m0)).setCell ⟨g + 1,1,none⟩ (.int .i64 m1)).setCell ⟨g + 1,2,none⟩ (.int .i64 m2)).setCell ⟨g + 1,3,none⟩ (.int .i64 m3)).setCell ⟨g + 1,4,none⟩ (.int .i64 m4)).setCell ⟨g + 1,5,none⟩ (.bool m5)).setCell ⟨g + 1 + 1,0,none⟩ (.bool ok)).drew
theorem chain_fin {w W : World} {b : S65 × Bool} {g D : Nat} {m0 m1 m2 m3 m4 : Int} {m5 ok : Bool} (h1 : Held g b W) (h2 : Below g w W) (hg : g=w.heap.size) (hD : g + 1 + 1 < D) (hDf : W.heap[D]?=some (.deferred (some []))) :
    (Instr.takeDeferred D).run Tryd.prog (chainD W g m0 m1 m2 m3 m4 m5 ok)=.ok [] ((chainD W g m0 m1 m2 m3 m4 m5 ok).putObj D (.deferred none)) ∧
    ((chainD W g m0 m1 m2 m3 m4 m5 ok).putObj D (.deferred none)).heap[g + 1]?=some (.cells #[.int .i64 m0,.int .i64 m1,.int .i64 m2,.int .i64 m3,.int .i64 m4,.bool m5] 65 (0,0)) ∧ ((chainD W g m0 m1 m2 m3 m4 m5 ok).putObj D (.deferred none)).heap[g + 1 + 1]?=some (.cells #[.bool ok] 4 (0,0)) ∧ Below g w ((chainD W g m0 m1 m2 m3 m4 m5 ok).putObj D (.deferred none)):=by
  have e : chainD W g m0 m1 m2 m3 m4 m5 ok=(putD W g ⟨m0,m1,m2,m3,m4,m5⟩ ok).drew:=by unfold chainD putD;rfl
  rw [e]
  have hDf0:=(putD_others W g ⟨m0,m1,m2,m3,m4,m5⟩ ok).same D _ hDf rfl
  have hH:=putD_held h1 ⟨m0,m1,m2,m3,m4,m5⟩ ok
  have hB':=putD_below h2 g (Nat.le_refl _) ⟨m0,m1,m2,m3,m4,m5⟩ ok
  clear e
  generalize putD W g ⟨m0,m1,m2,m3,m4,m5⟩ ok=V at *
  have hDf' : V.drew.heap[D]?=some (.deferred (some [])):=hDf0
  refine ⟨run_takeDeferred hDf',(World.putObj_heap_other (by omega)).trans hH.x,(World.putObj_heap_other (by omega)).trans hH.k,?_⟩
  subst hg
  exact (below_drew1 hB').trans (belowK_b (w:=w) (Nat.le_refl _) _ D _ _ (by omega) hDf' rfl rfl)
theorem great_end {w W : World} {b : S65 × Bool} {g D : Nat} {m0 m1 m2 m3 m4 : Int} {m5 ok : Bool} {Q : Ending → World → Prop} {t0 t1 t2 t3 t6 t7 t8 t9 t10 t11 t12 t13 t14 t15 t16 t17 t18 t19 t20 : Value} (h1 : Held g b W) (h2 : Below g w W) (hg : g=w.heap.size) (hD : g + 1 + 1 < D) (hDf : W.heap[D]?=some (.deferred (some [])))
    (hQ : ∀ W',Below g w W' → Q (.returned (.tuple #[.agg #[.int .i64 m0,.int .i64 m1,.int .i64 m2,.int .i64 m3,.int .i64 m4,.bool m5],.bool ok])) W') :
    bodyPostM Fence.wide 3 Tryd.prog Tryd.f115 Q Exit.ret { tmps:=#[t0,t1,t2,t3,.pointer (some ⟨g + 1,0,none⟩),.pointer (some ⟨g + 1 + 1,0,none⟩),t6,t7,t8,t9,t10,t11,t12,t13,t14,t15,t16,t17,t18,t19,t20],defers:=[{ target:=Target.collected D,args:=#[] }] }
      ((((((((W.setCell ⟨g + 1,0,none⟩ (.int .i64 m0)).setCell ⟨g + 1,1,none⟩ (.int .i64 m1)).setCell ⟨g + 1,2,none⟩ (.int .i64 m2)).setCell ⟨g + 1,3,none⟩ (.int .i64 m3)).setCell ⟨g + 1,4,none⟩ (.int .i64 m4)).setCell ⟨g + 1,5,none⟩ (.bool m5)).setCell ⟨g + 1 + 1,0,none⟩ (.bool ok)).drew):=by
  have FIN:=chain_fin (m0:=m0) (m1:=m1) (m2:=m2) (m3:=m3) (m4:=m4) (m5:=m5) (ok:=ok) h1 h2 hg hD hDf
  unfold chainD at FIN
  refine ⟨by simp,.inl ⟨_,_,rfl,FIN.1,?_⟩⟩
  obtain ⟨_,f2,f3,f4⟩:=FIN
  generalize World.putObj _ _ _=Wf at f2 f3 f4 ⊢
  have x0 : Wf.cell? ⟨g + 1,0,none⟩=some (.int .i64 m0):=(blk_cell f2 0).trans rfl
  have x1 : Wf.cell? ⟨g + 1,1,none⟩=some (.int .i64 m1):=(blk_cell f2 1).trans rfl
  have x2 : Wf.cell? ⟨g + 1,2,none⟩=some (.int .i64 m2):=(blk_cell f2 2).trans rfl
  have x3 : Wf.cell? ⟨g + 1,3,none⟩=some (.int .i64 m3):=(blk_cell f2 3).trans rfl
  have x4 : Wf.cell? ⟨g + 1,4,none⟩=some (.int .i64 m4):=(blk_cell f2 4).trans rfl
  have x5 : Wf.cell? ⟨g + 1,5,none⟩=some (.bool m5):=(blk_cell f2 5).trans rfl
  have x6 : Wf.cell? ⟨g + 1 + 1,0,none⟩=some (.bool ok):=(blk_cell f3 0).trans rfl
  exact ⟨_,by simp [results,Tryd.results115,go_sem,x0,x1,x2,x3,x4,x5,x6],hQ Wf f4⟩
set_option maxHeartbeats 4000000 in
set_option maxRecDepth 100000 in
theorem greatest_c (lb : Array Value) (xs : List S65) (N : Nat) (w : World) (hs : SeqStopsK Fence.wide 2 Tryd.prog 135 lb encD (Below w.heap.size) (fun ys=>ys=xs) (fun _=>True) N w) :
    Calls Tryd.prog 115 #[.func (.func 135) #[] lb,.func (.func 117) #[] #[]] w fun e w'=>e=.returned (.tuple #[vD (bestD xs).1,.bool (bestD xs).2]) ∧ Below w.heap.size w w':=by
  refine (callsIn_wide (n:=3)).1 ?_
  refine callsIn_of_wp_marks Tryd.func115 rfl trivial ?_ rfl
  simp only [Tryd.ntmps115,List.size_toArray,List.length_cons,List.length_nil,Nat.reduceAdd,Nat.reduceSub,Array.replicate_succ,Array.replicate_zero,List.push_toArray,List.append_toArray,List.nil_append,List.cons_append]
  gi_wp2
  generalize hW0 : World.alloc _ _=W0
  have HH : Held w.heap.size (bestD []) W0:=by
    rw [← hW0]
    refine ⟨blk_alloc (blk_alloc (blk_new w _) _) _,blk_alloc (by have:=blk_new (w.alloc (.cells #[.func (.func 117) #[] #[]] 165)) (.cells #[.int .i64 0,.int .i64 0,.int .i64 0,.int .i64 0,.int .i64 0,.bool false] 65);rw [World.size_alloc] at this;exact this) _,?_⟩
    have:=blk_new ((w.alloc (.cells #[.func (.func 117) #[] #[]] 165)).alloc (.cells #[.int .i64 0,.int .i64 0,.int .i64 0,.int .i64 0,.int .i64 0,.bool false] 65)) (.cells #[.bool false] 4)
    rw [World.size_alloc,World.size_alloc] at this
    exact this
  have hb : Below w.heap.size w W0:=by rw [← hW0];exact below_alloc (below_alloc (below_alloc (Below.refl _ w) _) _) _
  have hsz : W0.heap.size=w.heap.size + 1 + 1 + 1:=by rw [← hW0];simp
  clear hW0
  have HS:=Lib.hid hsz
  clear hsz
  refine wpIn_rangeFunc_ownH rfl (by omega) (gf:=135) (lb:=lb) rfl trivial (enters_of Tryd.func135 (by kernel_rfl) rfl) hs belowK_t (belowK_b (by have:=HS.out;omega)) hb (fun _=>rfl)
    (fun pre W=>Held w.heap.size (bestD pre) W ∧ Below w.heap.size w W) (fun _ _ _=>False) ?hI (fun _ _ _ _ _ h _ _=>h) ⟨HH,hb⟩
    (fun y a' W=>∃ Bx,w.heap.size + 1 + 1 < Bx ∧ W.heap[Bx]?=some (.cells (cellsD y) 65 (0,0)) ∧ a'={ tmps:=#[.func (.func 135) #[] lb,.func (.func 117) #[] #[],undef,.pointer (some ⟨w.heap.size,0,none⟩),.pointer (some ⟨w.heap.size + 1,0,none⟩),.pointer (some ⟨w.heap.size + 1 + 1,0,none⟩),.pointer (some ⟨Bx,0,none⟩),.func (.func 135) #[] lb,vD y,undef,undef,undef,undef,undef,undef,undef,undef,undef,undef,undef,undef],defers:=[] })
    ?hAx ?assign ?body ?done ?stop
  case hI =>
    rintro s A B row ⟨h1,h2⟩ hg hr
    have:=HS.out
    exact ⟨h1.kept hg (fun r e=>by have:=(hr r e).1;omega),h2.grown hg h2.size (fun r e=>by have:=(hr r e).1;omega)⟩
  case hAx =>
    rintro y a' _ A B row ⟨Bx,hB,hx,rfl⟩ hg hr
    refine ⟨Bx,hB,(hg.block Bx (blk_lt hx) (fun e=>?_)).trans hx,rfl⟩
    obtain ⟨_,o,ho,hc⟩:=hr Bx e.symm
    rw [hx] at ho;cases ho;cases hc
  case assign =>
    rintro lp pre y W K ⟨h1,h2⟩ hK
    have hK2:=hK { tmps:=#[.func (.func 135) #[] lb,.func (.func 117) #[] #[],undef,.pointer (some ⟨w.heap.size,0,none⟩),.pointer (some ⟨w.heap.size + 1,0,none⟩),.pointer (some ⟨w.heap.size + 1 + 1,0,none⟩),.pointer (some ⟨W.heap.size,0,none⟩),.func (.func 135) #[] lb,vD y,undef,undef,undef,undef,undef,undef,undef,undef,undef,undef,undef,undef],defers:=[] } (W.alloc (.cells (cellsD y) 65)) ((KeepsOthers.alloc _ _).from _) ((Below.refl _ W).alloc h2.size _) ⟨h1.kept (World.grownBy_alloc W _ none) (by simp),below_alloc h2 _⟩ ⟨W.heap.size,blk_lt h1.k,blk_new W _,rfl⟩
    clear hK
    dsimp only [encD]
    unfold vD cellsD at hK2
    gi_wp2
    exact hK2
  case body =>
    rintro lp pre y a' W hlp ⟨r,hr⟩ ⟨h1,h2⟩ ⟨Bx,hBx,hx,rfl⟩ hlen
    have HP:=Lib.hid (bestD_snoc pre y)
    generalize bestD pre=bb at h1 HP
    obtain ⟨m,ok⟩:=bb
    obtain ⟨m0,m1,m2,m3,m4,m5⟩:=m
    obtain ⟨y0,y1,y2,y3,y4,y5⟩:=y
    have H1:=Lib.hid h1
    have H2:=Lib.hid h2
    have HX:=Lib.hid hx
    have ho:=h1.o
    have hxx:=h1.x
    have hk:=h1.k
    unfold cellsD at hxx hx
    simp only at hxx hx hk
    clear h1 h2
    have s0 : W.cell? ⟨w.heap.size,0,none⟩=some (.func (.func 117) #[] #[]):=(blk_cell ho 0).trans rfl
    have k0 : W.cell? ⟨w.heap.size + 1 + 1,0,none⟩=some (.bool ok):=(blk_cell hk 0).trans rfl
    have kf:=blk_frozen hk 0
    have x0 : W.cell? ⟨w.heap.size + 1,0,none⟩=some (.int .i64 m0):=(blk_cell hxx 0).trans rfl
    have x1 : W.cell? ⟨w.heap.size + 1,1,none⟩=some (.int .i64 m1):=(blk_cell hxx 1).trans rfl
    have x2 : W.cell? ⟨w.heap.size + 1,2,none⟩=some (.int .i64 m2):=(blk_cell hxx 2).trans rfl
    have x3 : W.cell? ⟨w.heap.size + 1,3,none⟩=some (.int .i64 m3):=(blk_cell hxx 3).trans rfl
    have x4 : W.cell? ⟨w.heap.size + 1,4,none⟩=some (.int .i64 m4):=(blk_cell hxx 4).trans rfl
    have x5 : W.cell? ⟨w.heap.size + 1,5,none⟩=some (.bool m5):=(blk_cell hxx 5).trans rfl
    have z0 : W.cell? ⟨Bx,0,none⟩=some (.int .i64 y0):=(blk_cell hx 0).trans rfl
    have z1 : W.cell? ⟨Bx,1,none⟩=some (.int .i64 y1):=(blk_cell hx 1).trans rfl
    have z2 : W.cell? ⟨Bx,2,none⟩=some (.int .i64 y2):=(blk_cell hx 2).trans rfl
    have z3 : W.cell? ⟨Bx,3,none⟩=some (.int .i64 y3):=(blk_cell hx 3).trans rfl
    have z4 : W.cell? ⟨Bx,4,none⟩=some (.int .i64 y4):=(blk_cell hx 4).trans rfl
    have z5 : W.cell? ⟨Bx,5,none⟩=some (.bool y5):=(blk_cell hx 5).trans rfl
    cases ok with
    | false =>
      have xf:=fun i=>blk_frozen hxx i
      gi_wp2
      refine ⟨fun _ h=>(by cases h),?_⟩
      gi_wp2
      refine ⟨(putD_others W w.heap.size ⟨y0,y1,y2,y3,y4,y5⟩ true).from _,putD_below (Below.refl _ W) w.heap.size (Nat.le_refl _) ⟨y0,y1,y2,y3,y4,y5⟩ true,?_,putD_below H2.out w.heap.size (Nat.le_refl _) ⟨y0,y1,y2,y3,y4,y5⟩ true⟩
      rw [HP.out]
      exact putD_held H1.out ⟨y0,y1,y2,y3,y4,y5⟩ true
    | true =>
      by_cases hle : m1 ≤ y1
      · have e1 : decide (cmpI m1 y1 ≤ 0)=true:=cmpI_yes hle
        have HC:=Lib.hid (cmp_c ⟨m0,m1,m2,m3,m4,m5⟩ ⟨y0,y1,y2,y3,y4,y5⟩ W)
        have HL:=Lib.hid hle
        clear hle
        simp only at HC
        gi_wp2_with fail
        refine ⟨trivial,?_⟩
        refine (CallsIn.inRound lp (callsIn_wide.2 HC.out)).mono ?_
        rintro e W2 ⟨rfl,hb2⟩
        have HB2:=Lib.hid hb2
        have H12:=Lib.hid (H1.out.below hb2)
        have hxx2 : W2.heap[w.heap.size + 1]?=some (.cells #[.int .i64 m0,.int .i64 m1,.int .i64 m2,.int .i64 m3,.int .i64 m4,.bool m5] 65 (0,0)):=blk_below hxx hb2
        have hx2 : W2.heap[Bx]?=some (.cells #[.int .i64 y0,.int .i64 y1,.int .i64 y2,.int .i64 y3,.int .i64 y4,.bool y5] 65 (0,0)):=blk_below hx hb2
        have hk2 : W2.heap[w.heap.size + 1 + 1]?=some (.cells #[.bool true] 4 (0,0)):=blk_below hk hb2
        have HKF:=Lib.hid (keepsFrom_below (B:=W0.heap.size) hb2)
        have HBl:=Lib.hid (hb2.mono H2.out.size)
        clear hb2 hxx hx hk s0 k0 kf x0 x1 x2 x3 x4 x5 z0 z1 z2 z3 z4 z5 ho
        have z0 : W2.cell? ⟨Bx,0,none⟩=some (.int .i64 y0):=(blk_cell hx2 0).trans rfl
        have z1 : W2.cell? ⟨Bx,1,none⟩=some (.int .i64 y1):=(blk_cell hx2 1).trans rfl
        have z2 : W2.cell? ⟨Bx,2,none⟩=some (.int .i64 y2):=(blk_cell hx2 2).trans rfl
        have z3 : W2.cell? ⟨Bx,3,none⟩=some (.int .i64 y3):=(blk_cell hx2 3).trans rfl
        have z4 : W2.cell? ⟨Bx,4,none⟩=some (.int .i64 y4):=(blk_cell hx2 4).trans rfl
        have z5 : W2.cell? ⟨Bx,5,none⟩=some (.bool y5):=(blk_cell hx2 5).trans rfl
        have x0 : W2.cell? ⟨w.heap.size + 1,0,none⟩=some (.int .i64 m0):=(blk_cell hxx2 0).trans rfl
        have x1 : W2.cell? ⟨w.heap.size + 1,1,none⟩=some (.int .i64 m1):=(blk_cell hxx2 1).trans rfl
        have x2 : W2.cell? ⟨w.heap.size + 1,2,none⟩=some (.int .i64 m2):=(blk_cell hxx2 2).trans rfl
        have x3 : W2.cell? ⟨w.heap.size + 1,3,none⟩=some (.int .i64 m3):=(blk_cell hxx2 3).trans rfl
        have x4 : W2.cell? ⟨w.heap.size + 1,4,none⟩=some (.int .i64 m4):=(blk_cell hxx2 4).trans rfl
        have x5 : W2.cell? ⟨w.heap.size + 1,5,none⟩=some (.bool m5):=(blk_cell hxx2 5).trans rfl
        have k0 : W2.cell? ⟨w.heap.size + 1 + 1,0,none⟩=some (.bool true):=(blk_cell hk2 0).trans rfl
        have kf:=blk_frozen hk2 0
        have xf:=fun i=>blk_frozen hxx2 i
        clear hxx2 hx2 hk2
        gi_wp2
        refine ⟨HKF.out.trans ((putD_others W2 w.heap.size ⟨y0,y1,y2,y3,y4,y5⟩ true).from _),putD_below HBl.out w.heap.size (Nat.le_refl _) ⟨y0,y1,y2,y3,y4,y5⟩ true,?_,putD_below (H2.out.trans HBl.out) w.heap.size (Nat.le_refl _) ⟨y0,y1,y2,y3,y4,y5⟩ true⟩
        rw [HP.out,stepD,if_pos (Or.inr HL.out)]
        exact putD_held H12.out ⟨y0,y1,y2,y3,y4,y5⟩ true
      · have e1 : decide (cmpI m1 y1 ≤ 0)=false:=cmpI_no hle
        have HC:=Lib.hid (cmp_c ⟨m0,m1,m2,m3,m4,m5⟩ ⟨y0,y1,y2,y3,y4,y5⟩ W)
        have HL:=Lib.hid hle
        clear hle
        simp only at HC
        gi_wp2_with fail
        refine ⟨trivial,?_⟩
        refine (CallsIn.inRound lp (callsIn_wide.2 HC.out)).mono ?_
        rintro e W2 ⟨rfl,hb2⟩
        have HB2:=Lib.hid hb2
        have H12:=Lib.hid (H1.out.below hb2)
        have hxx2 : W2.heap[w.heap.size + 1]?=some (.cells #[.int .i64 m0,.int .i64 m1,.int .i64 m2,.int .i64 m3,.int .i64 m4,.bool m5] 65 (0,0)):=blk_below hxx hb2
        have hx2 : W2.heap[Bx]?=some (.cells #[.int .i64 y0,.int .i64 y1,.int .i64 y2,.int .i64 y3,.int .i64 y4,.bool y5] 65 (0,0)):=blk_below hx hb2
        have hk2 : W2.heap[w.heap.size + 1 + 1]?=some (.cells #[.bool true] 4 (0,0)):=blk_below hk hb2
        have HKF:=Lib.hid (keepsFrom_below (B:=W0.heap.size) hb2)
        have HBl:=Lib.hid (hb2.mono H2.out.size)
        clear hb2 hxx hx hk s0 k0 kf x0 x1 x2 x3 x4 x5 z0 z1 z2 z3 z4 z5 ho
        have z0 : W2.cell? ⟨Bx,0,none⟩=some (.int .i64 y0):=(blk_cell hx2 0).trans rfl
        have z1 : W2.cell? ⟨Bx,1,none⟩=some (.int .i64 y1):=(blk_cell hx2 1).trans rfl
        have z2 : W2.cell? ⟨Bx,2,none⟩=some (.int .i64 y2):=(blk_cell hx2 2).trans rfl
        have z3 : W2.cell? ⟨Bx,3,none⟩=some (.int .i64 y3):=(blk_cell hx2 3).trans rfl
        have z4 : W2.cell? ⟨Bx,4,none⟩=some (.int .i64 y4):=(blk_cell hx2 4).trans rfl
        have z5 : W2.cell? ⟨Bx,5,none⟩=some (.bool y5):=(blk_cell hx2 5).trans rfl
        have x0 : W2.cell? ⟨w.heap.size + 1,0,none⟩=some (.int .i64 m0):=(blk_cell hxx2 0).trans rfl
        have x1 : W2.cell? ⟨w.heap.size + 1,1,none⟩=some (.int .i64 m1):=(blk_cell hxx2 1).trans rfl
        have x2 : W2.cell? ⟨w.heap.size + 1,2,none⟩=some (.int .i64 m2):=(blk_cell hxx2 2).trans rfl
        have x3 : W2.cell? ⟨w.heap.size + 1,3,none⟩=some (.int .i64 m3):=(blk_cell hxx2 3).trans rfl
        have x4 : W2.cell? ⟨w.heap.size + 1,4,none⟩=some (.int .i64 m4):=(blk_cell hxx2 4).trans rfl
        have x5 : W2.cell? ⟨w.heap.size + 1,5,none⟩=some (.bool m5):=(blk_cell hxx2 5).trans rfl
        have k0 : W2.cell? ⟨w.heap.size + 1 + 1,0,none⟩=some (.bool true):=(blk_cell hk2 0).trans rfl
        have kf:=blk_frozen hk2 0
        have xf:=fun i=>blk_frozen hxx2 i
        clear hxx2 hx2 hk2
        gi_wp2
        refine ⟨HKF.out,HBl.out,?_,H2.out.trans HBl.out⟩
        rw [HP.out,stepD,if_neg (by simp;exact HL.out)]
        exact H12.out
  case done =>
    rintro D ys W hD rfl ⟨h1,h2⟩ hDf
    obtain ⟨bb,hbb⟩ : ∃ bb,bestD ys=bb:=⟨_,rfl⟩
    rw [hbb] at h1
    obtain ⟨m,ok⟩:=bb
    obtain ⟨m0,m1,m2,m3,m4,m5⟩:=m
    have H1:=Lib.hid h1
    have H2:=Lib.hid h2
    have hxx:=h1.x
    have hk:=h1.k
    unfold cellsD at hxx
    simp only at hxx hk
    clear h1 h2
    have k0 : W.cell? ⟨w.heap.size + 1 + 1,0,none⟩=some (.bool ok):=(blk_cell hk 0).trans rfl
    have kf:=blk_frozen hk 0
    have x0 : W.cell? ⟨w.heap.size + 1,0,none⟩=some (.int .i64 m0):=(blk_cell hxx 0).trans rfl
    have x1 : W.cell? ⟨w.heap.size + 1,1,none⟩=some (.int .i64 m1):=(blk_cell hxx 1).trans rfl
    have x2 : W.cell? ⟨w.heap.size + 1,2,none⟩=some (.int .i64 m2):=(blk_cell hxx 2).trans rfl
    have x3 : W.cell? ⟨w.heap.size + 1,3,none⟩=some (.int .i64 m3):=(blk_cell hxx 3).trans rfl
    have x4 : W.cell? ⟨w.heap.size + 1,4,none⟩=some (.int .i64 m4):=(blk_cell hxx 4).trans rfl
    have x5 : W.cell? ⟨w.heap.size + 1,5,none⟩=some (.bool m5):=(blk_cell hxx 5).trans rfl
    have xf:=fun i=>blk_frozen hxx i
    clear hxx hk
    have hmo : Tryd.prog.follows .mixedOrders=true:=by kernel_rfl
    gi_wp2
    have HDf:=Lib.hid hDf
    have HQ:=Lib.hid hbb
    clear hDf hbb
    gi_region_with_o (fail)
    all_goals gi_wp2
    all_goals refine great_end H1.out H2.out rfl (by have:=HS.out;omega) HDf.out ?_
    all_goals intro W' hb'
    all_goals refine ⟨?_,hb'⟩
    all_goals rw [HQ.out]
    all_goals rfl
  case stop =>
    rintro D c pre W _ _ h _
    exact h.elim
end Go.Proofs.YtjbcfdgnafmbkaaDoor.Dev
end
section
set_option linter.unusedVariables false
namespace Go.Proofs.YtjbcfdgnafmbkaaDoor.Dev
open Go.RowKit Go.Shelf Go.Proofs.YtjbcfdgnafmbkaaDoor Go.Proofs.YtjbcfdgnafmbkaaDoorW.PrintWords Go.Proofs.YtjbcfdgnafmbkaaDoor.PBig
theorem within_c (a b : Int) (w : World) : Calls Tryd.prog 112 #[.int .i64 a,.int .i64 b] w fun e w'=>e=.returned (.bool (inB a b)) ∧ ∃ m,w'=w.drewN m :=
  (PDr.devices_within.calls a b (inB a b) w (within_f a b)).mono fun e w' ⟨h,k⟩=>⟨h,k.out⟩
def argB (p t k : Int) : Bool:=inB p 63 && inB t 1099511627775 && inB k 1099511627775
def cur (l : List S65) (p t k : Int) : S65 × Bool:=bestD (l.filter (selB p t k))
set_option maxHeartbeats 1000000 in
theorem current_err (l : List S65) (A : Option Addr) (c : Nat) (p t k : Int) (w : World) (hC : Kd.C k65 w A l.length l) (he : chk l ≠ 0) :
    Calls Tryd.prog 84 #[.slice A l.length c,.int .i64 p,.int .i64 t,.int .i64 k] w fun e w'=>e=.returned (.tuple #[vD z65,.bool false,.int .i64 (chk l)]) ∧ Below w.heap.size w w':=by
  have HC:=Lib.hid (fun W (hb : Below w.heap.size w W)=>check_c l A c W (Kd.C_below hC hb))
  generalize chk l=ck at *
  have t1 : (ck == 0)=false:=beq_eq_false_iff_ne.mpr he
  have t2 : (ck != 0)=true:=bne_iff_ne.mpr he
  clear hC he
  unfold vD z65
  go_enter Tryd.func84,Tryd.ntmps84
  go_wp2_with fail
  refine (HC.out _ (below_alloc (Below.refl _ w) _)).mono ?_
  rintro e w1 ⟨rfl,hb1⟩
  have BK:=blk_below (blk_new w _) hb1
  have HB:=Lib.hid (below_step (below_alloc (Below.refl _ w) _) hb1)
  have x0 : w1.cell? ⟨w.heap.size,0,none⟩=some (.int .i64 0):=(blk_cell BK 0).trans rfl
  have x1 : w1.cell? ⟨w.heap.size,1,none⟩=some (.int .i64 0):=(blk_cell BK 1).trans rfl
  have x2 : w1.cell? ⟨w.heap.size,2,none⟩=some (.int .i64 0):=(blk_cell BK 2).trans rfl
  have x3 : w1.cell? ⟨w.heap.size,3,none⟩=some (.int .i64 0):=(blk_cell BK 3).trans rfl
  have x4 : w1.cell? ⟨w.heap.size,4,none⟩=some (.int .i64 0):=(blk_cell BK 4).trans rfl
  have x5 : w1.cell? ⟨w.heap.size,5,none⟩=some (.bool false):=(blk_cell BK 5).trans rfl
  have xf:=fun i=>blk_frozen BK i
  clear hb1
  go_wp2
  refine bodyPost_ret (results_ctt rfl _ _ w.heap.size 65 #[.int .i64 0,.int .i64 0,.int .i64 0,.int .i64 0,.int .i64 0,.bool false] (0,0) _ rfl (blk_set (blk_set (blk_set (blk_set (blk_set (blk_set BK 0 _) 1 _) 2 _) 3 _) 4 _) 5 _) Tryd.underlying65 rfl (by kernel_rfl)) rfl ?_
  exact ⟨rfl,below_set (below_set (below_set (below_set (below_set (below_set HB.out (Nat.le_refl _)) (Nat.le_refl _)) (Nat.le_refl _)) (Nat.le_refl _)) (Nat.le_refl _)) (Nat.le_refl _)⟩
set_option maxHeartbeats 2000000 in
theorem current_arg (l : List S65) (A : Option Addr) (c : Nat) (p t k : Int) (w : World) (hC : Kd.C k65 w A l.length l) (he : chk l=0) (ha : argB p t k=false) :
    Calls Tryd.prog 84 #[.slice A l.length c,.int .i64 p,.int .i64 t,.int .i64 k] w fun e w'=>e=.returned (.tuple #[vD z65,.bool false,.int .i64 1]) ∧ Below w.heap.size w w':=by
  have HC:=Lib.hid (fun W (hb : Below w.heap.size w W)=>check_c l A c W (Kd.C_below hC hb))
  rw [he] at HC
  have W1:=Lib.hid (fun W=>within_c p 63 W)
  have W2:=Lib.hid (fun W=>within_c t 1099511627775 W)
  have W3:=Lib.hid (fun W=>within_c k 1099511627775 W)
  unfold argB at ha
  clear hC he
  unfold vD z65
  generalize inB p 63=ba at *
  generalize inB t 1099511627775=bb at *
  generalize inB k 1099511627775=bc at *
  go_enter Tryd.func84,Tryd.ntmps84
  go_wp2_with fail
  refine (HC.out _ (below_alloc (Below.refl _ w) _)).mono ?_
  rintro e w1 ⟨rfl,hb1⟩
  have HB:=Lib.hid (below_step (below_alloc (Below.refl _ w) _) hb1)
  have BK:=blk_below (blk_new w _) hb1
  have x0 : w1.cell? ⟨w.heap.size,0,none⟩=some (.int .i64 0):=(blk_cell BK 0).trans rfl
  have x1 : w1.cell? ⟨w.heap.size,1,none⟩=some (.int .i64 0):=(blk_cell BK 1).trans rfl
  have x2 : w1.cell? ⟨w.heap.size,2,none⟩=some (.int .i64 0):=(blk_cell BK 2).trans rfl
  have x3 : w1.cell? ⟨w.heap.size,3,none⟩=some (.int .i64 0):=(blk_cell BK 3).trans rfl
  have x4 : w1.cell? ⟨w.heap.size,4,none⟩=some (.int .i64 0):=(blk_cell BK 4).trans rfl
  have x5 : w1.cell? ⟨w.heap.size,5,none⟩=some (.bool false):=(blk_cell BK 5).trans rfl
  have xf:=fun i=>blk_frozen BK i
  clear hb1
  cases ba <;> cases bb <;> cases bc <;> first | (exact absurd ha (by decide)) | skip
  all_goals clear ha
  all_goals go_wp2_with (go_at_call 112;(first | with_reducible refine (W1.out _).mono ?_ | with_reducible refine (W2.out _).mono ?_ | with_reducible refine (W3.out _).mono ?_);rintro e1 w9 ⟨rfl,m,rfl⟩)
  all_goals refine bodyPost_ret (results_ctt rfl _ _ w.heap.size 65 #[.int .i64 0,.int .i64 0,.int .i64 0,.int .i64 0,.int .i64 0,.bool false] (0,0) _ rfl (by first | exact (blk_set (blk_set (blk_set (blk_set (blk_set (blk_set (blk_drewN BK _) 0 _) 1 _) 2 _) 3 _) 4 _) 5 _) | exact (blk_set (blk_set (blk_set (blk_set (blk_set (blk_set (blk_drewN (blk_drewN BK _) _) 0 _) 1 _) 2 _) 3 _) 4 _) 5 _) | exact (blk_set (blk_set (blk_set (blk_set (blk_set (blk_set (blk_drewN (blk_drewN (blk_drewN BK _) _) _) 0 _) 1 _) 2 _) 3 _) 4 _) 5 _) | exact (blk_set (blk_set (blk_set (blk_set (blk_set (blk_set BK 0 _) 1 _) 2 _) 3 _) 4 _) 5 _)) Tryd.underlying65 rfl (by kernel_rfl)) rfl ?_
  all_goals exact ⟨rfl,by with_reducible first | exact below_set (below_set (below_set (below_set (below_set (below_set (pw_below_drewN HB.out _) (Nat.le_refl _)) (Nat.le_refl _)) (Nat.le_refl _)) (Nat.le_refl _)) (Nat.le_refl _)) (Nat.le_refl _) | exact below_set (below_set (below_set (below_set (below_set (below_set (pw_below_drewN (pw_below_drewN HB.out _) _) (Nat.le_refl _)) (Nat.le_refl _)) (Nat.le_refl _)) (Nat.le_refl _)) (Nat.le_refl _)) (Nat.le_refl _) | exact below_set (below_set (below_set (below_set (below_set (below_set (pw_below_drewN (pw_below_drewN (pw_below_drewN HB.out _) _) _) (Nat.le_refl _)) (Nat.le_refl _)) (Nat.le_refl _)) (Nat.le_refl _)) (Nat.le_refl _)) (Nat.le_refl _) | exact below_set (below_set (below_set (below_set (below_set (below_set HB.out (Nat.le_refl _)) (Nat.le_refl _)) (Nat.le_refl _)) (Nat.le_refl _)) (Nat.le_refl _)) (Nat.le_refl _)⟩
theorem blk6 {V : World} {g t : Nat} {a0 a1 a2 a3 a4 a5 u0 u1 u2 u3 u4 u5 : Value} (h : V.heap[g]?=some (.cells #[a0,a1,a2,a3,a4,a5] t (0,0))) :
    ((((((V.setCell ⟨g,0,none⟩ u0).setCell ⟨g,1,none⟩ u1).setCell ⟨g,2,none⟩ u2).setCell ⟨g,3,none⟩ u3).setCell ⟨g,4,none⟩ u4).setCell ⟨g,5,none⟩ u5).heap[g]?=some (.cells #[u0,u1,u2,u3,u4,u5] t (0,0)) :=
  blk_set (blk_set (blk_set (blk_set (blk_set (blk_set h 0 u0) 1 u1) 2 u2) 3 u3) 4 u4) 5 u5
theorem bel6 {w V : World} {g : Nat} {u0 u1 u2 u3 u4 u5 : Value} (h : Below w.heap.size w V) (hg : w.heap.size ≤ g) :
    Below w.heap.size w ((((((V.setCell ⟨g,0,none⟩ u0).setCell ⟨g,1,none⟩ u1).setCell ⟨g,2,none⟩ u2).setCell ⟨g,3,none⟩ u3).setCell ⟨g,4,none⟩ u4).setCell ⟨g,5,none⟩ u5) :=
  below_set (below_set (below_set (below_set (below_set (below_set h hg) hg) hg) hg) hg) hg
set_option maxHeartbeats 2000000 in
theorem current_ok (l : List S65) (A : Option Addr) (c : Nat) (p t k : Int) (w : World) (hC : Kd.C k65 w A l.length l) (he : chk l=0) (ha : argB p t k=true) :
    Calls Tryd.prog 84 #[.slice A l.length c,.int .i64 p,.int .i64 t,.int .i64 k] w fun e w'=>e=.returned (.tuple #[vD (cur l p t k).1,.bool ((cur l p t k).2 && !(cur l p t k).1.f5),.int .i64 0]) ∧ Below w.heap.size w w':=by
  have HC:=Lib.hid (fun W (hb : Below w.heap.size w W)=>check_c l A c W (Kd.C_below hC hb))
  rw [he] at HC
  have W1:=Lib.hid (fun W=>within_c p 63 W)
  have W2:=Lib.hid (fun W=>within_c t 1099511627775 W)
  have W3:=Lib.hid (fun W=>within_c k 1099511627775 W)
  unfold argB at ha
  simp only [Bool.and_eq_true] at ha
  rw [ha.1.1] at W1
  rw [ha.1.2] at W2
  rw [ha.2] at W3
  have HKC:=Lib.hid hC
  obtain ⟨bb,hbb⟩ : ∃ bb,bestD (l.filter (selB p t k))=bb:=⟨_,rfl⟩
  have HG:=Lib.hid (fun lb W hs=>greatest_c lb (l.filter (selB p t k)) l.length W hs)
  unfold cur
  rw [hbb] at HG ⊢
  clear hC he ha hbb
  obtain ⟨⟨m0,m1,m2,m3,m4,m5⟩,ok⟩:=bb
  unfold vD at HG ⊢
  simp only at HG ⊢
  go_enter Tryd.func84,Tryd.ntmps84
  go_wp2_with fail
  refine (HC.out _ (below_alloc (Below.refl _ w) _)).mono ?_
  rintro e w1 ⟨rfl,hb1⟩
  have HB:=Lib.hid (below_step (below_alloc (Below.refl _ w) _) hb1)
  have BK:=blk_below (blk_new w _) hb1
  have x0 : w1.cell? ⟨w.heap.size,0,none⟩=some (.int .i64 0):=(blk_cell BK 0).trans rfl
  have x1 : w1.cell? ⟨w.heap.size,1,none⟩=some (.int .i64 0):=(blk_cell BK 1).trans rfl
  have x2 : w1.cell? ⟨w.heap.size,2,none⟩=some (.int .i64 0):=(blk_cell BK 2).trans rfl
  have x3 : w1.cell? ⟨w.heap.size,3,none⟩=some (.int .i64 0):=(blk_cell BK 3).trans rfl
  have x4 : w1.cell? ⟨w.heap.size,4,none⟩=some (.int .i64 0):=(blk_cell BK 4).trans rfl
  have x5 : w1.cell? ⟨w.heap.size,5,none⟩=some (.bool false):=(blk_cell BK 5).trans rfl
  have xf:=fun i=>blk_frozen BK i
  clear hb1
  go_upto_region 6 with (go_at_call 112;(first | with_reducible refine (W1.out _).mono ?_ | with_reducible refine (W2.out _).mono ?_ | with_reducible refine (W3.out _).mono ?_);rintro e1 w9 ⟨rfl,m,rfl⟩)
  generalize hV : World.drewN _ _=V
  have HBV:=Lib.hid (show Below w.heap.size w V by rw [← hV];exact pw_below_drewN HB.out _)
  have BKV:=Lib.hid (show V.heap[w.heap.size]?=some (.cells #[.int .i64 0,.int .i64 0,.int .i64 0,.int .i64 0,.int .i64 0,.bool false] 65 (0,0)) by rw [← hV];exact blk_drewN BK _)
  clear hV BK HB x0 x1 x2 x3 x4 x5 xf HC W1 W2 W3
  go_wp2_with fail
  refine (of_c A l.length c p t k V).mono ?_
  rintro e V4 ⟨rfl,hV4⟩
  have r0 : V4.heap[V.heap.size]?=some (.cells #[.slice A l.length c] 63 (0,0)):=by rw [hV4];exact blk_alloc (blk_alloc (blk_alloc (blk_new V _) _) _) _
  have r1 : V4.heap[V.heap.size + 1]?=some (.cells #[.int .i64 p] 3 (0,0)):=by
    rw [hV4]
    have h:=blk_new (V.alloc (.cells #[.slice A l.length c] 63)) (.cells #[.int .i64 p] 3)
    rw [World.size_alloc] at h
    exact blk_alloc (blk_alloc h _) _
  have r2 : V4.heap[V.heap.size + 1 + 1]?=some (.cells #[.int .i64 t] 3 (0,0)):=by
    rw [hV4]
    have h:=blk_new ((V.alloc (.cells #[.slice A l.length c] 63)).alloc (.cells #[.int .i64 p] 3)) (.cells #[.int .i64 t] 3)
    rw [World.size_alloc,World.size_alloc] at h
    exact blk_alloc h _
  have r3 : V4.heap[V.heap.size + 1 + 1 + 1]?=some (.cells #[.int .i64 k] 3 (0,0)):=by
    rw [hV4]
    have h:=blk_new (((V.alloc (.cells #[.slice A l.length c] 63)).alloc (.cells #[.int .i64 p] 3)).alloc (.cells #[.int .i64 t] 3)) (.cells #[.int .i64 k] 3)
    rw [World.size_alloc,World.size_alloc,World.size_alloc] at h
    exact h
  have q0 : V4.cell? ⟨V.heap.size,0,none⟩=some (.slice A l.length c):=(blk_cell r0 0).trans rfl
  have q1 : V4.cell? ⟨V.heap.size + 1,0,none⟩=some (.int .i64 p):=(blk_cell r1 0).trans rfl
  have q2 : V4.cell? ⟨V.heap.size + 1 + 1,0,none⟩=some (.int .i64 t):=(blk_cell r2 0).trans rfl
  have q3 : V4.cell? ⟨V.heap.size + 1 + 1 + 1,0,none⟩=some (.int .i64 k):=(blk_cell r3 0).trans rfl
  clear r0 r1 r2 r3
  have hb4 : Below V.heap.size V V4:=by rw [hV4];exact below_alloc (below_alloc (below_alloc (below_alloc (Below.refl _ V) _) _) _) _
  have HB4:=Lib.hid (below_step HBV.out hb4)
  have BK4:=Lib.hid (blk_below BKV.out hb4)
  have HG2:=Lib.hid (HG.out _ V4 (of1_in Fence.wide 2 trivial rfl (by omega) _ _ _ _ A c l p t k V4 (Kd.C_below HKC.out HB4.out) q0 q1 q2 q3))
  clear q0 q1 q2 q3 hb4 hV4 HG HBV BKV
  go_wp2_with fail
  refine HG2.out.mono ?_
  rintro e V5 ⟨rfl,hb5⟩
  have HB5:=Lib.hid (below_step HB4.out hb5)
  have BK:=blk_below BK4.out hb5
  have xf:=fun i=>blk_frozen BK i
  have x0 : V5.cell? ⟨w.heap.size,0,none⟩=some (.int .i64 0):=(blk_cell BK 0).trans rfl
  have x1 : V5.cell? ⟨w.heap.size,1,none⟩=some (.int .i64 0):=(blk_cell BK 1).trans rfl
  have x2 : V5.cell? ⟨w.heap.size,2,none⟩=some (.int .i64 0):=(blk_cell BK 2).trans rfl
  have x3 : V5.cell? ⟨w.heap.size,3,none⟩=some (.int .i64 0):=(blk_cell BK 3).trans rfl
  have x4 : V5.cell? ⟨w.heap.size,4,none⟩=some (.int .i64 0):=(blk_cell BK 4).trans rfl
  have x5 : V5.cell? ⟨w.heap.size,5,none⟩=some (.bool false):=(blk_cell BK 5).trans rfl
  clear hb5
  cases ok
  all_goals go_wp2_with fail
  all_goals refine bodyPost_ret (results_ctt rfl _ _ w.heap.size 65 #[.int .i64 m0,.int .i64 m1,.int .i64 m2,.int .i64 m3,.int .i64 m4,.bool m5] (0,0) _ rfl (blk6 (blk6 BK)) Tryd.underlying65 rfl (by kernel_rfl)) rfl ?_
  all_goals refine ⟨?_,bel6 (bel6 HB5.out (Nat.le_refl _)) (Nat.le_refl _)⟩
  all_goals first | rfl | simp
end Go.Proofs.YtjbcfdgnafmbkaaDoor.Dev
namespace Go.Proofs.YtjbcfdgnafmbkaaDoor.PBig
open Go.RowKit Go.Proofs.YtjbcfdgnafmbkaaDoor Go.Proofs.YtjbcfdgnafmbkaaDoorW.PrintWords
def devices_current.v (l : List S65) (p t k : Int) : S65 × Bool × Int :=
  if Dev.chk l ≠ 0 then (z65,false,Dev.chk l) else if Dev.argB p t k=true then ((Dev.cur l p t k).1,(Dev.cur l p t k).2 && !(Dev.cur l p t k).1.f5,0) else (z65,false,1)
def devices_current.f (l0 : List S65) (a1 a2 a3 : Int) : Option (Int × Int × Int × Int × Int × Bool × Bool × Int) :=
  some ((devices_current.v l0 a1 a2 a3).1.f0,(devices_current.v l0 a1 a2 a3).1.f1,(devices_current.v l0 a1 a2 a3).1.f2,(devices_current.v l0 a1 a2 a3).1.f3,(devices_current.v l0 a1 a2 a3).1.f4,(devices_current.v l0 a1 a2 a3).1.f5,(devices_current.v l0 a1 a2 a3).2.1,(devices_current.v l0 a1 a2 a3).2.2)
theorem devices_current.calls (A0 : Option Addr) (c0 : Nat) (l0 : List S65) (a1 a2 a3 : Int) (r1 r2 r3 r4 r5 : Int) (r6 r7 : Bool) (r8 : Int) (w : World) (hr0 : Kd.C k65 w A0 l0.length l0) (hc0 : l0.length ≤ c0) (h : devices_current.f l0 a1 a2 a3=some (r1,r2,r3,r4,r5,r6,r7,r8)) :
    Calls Tryd.prog 84 #[.slice A0 l0.length c0,.int .i64 a1,.int .i64 a2,.int .i64 a3] w fun e w'=>e=.returned (.tuple #[.agg #[.int .i64 r1,.int .i64 r2,.int .i64 r3,.int .i64 r4,.int .i64 r5,.bool r6],.bool r7,.int .i64 r8]) ∧ Below w.heap.size w w':=by
  have h:=Option.some.inj h
  simp only [Prod.mk.injEq] at h
  obtain ⟨rfl,rfl,rfl,rfl,rfl,rfl,rfl,rfl⟩:=h
  unfold devices_current.v
  by_cases he : Dev.chk l0=0
  · rw [if_neg (fun h=>h he)]
    by_cases ha : Dev.argB a1 a2 a3=true
    · rw [if_pos ha];exact Dev.current_ok l0 A0 c0 a1 a2 a3 w hr0 he ha
    · rw [if_neg ha];exact Dev.current_arg l0 A0 c0 a1 a2 a3 w hr0 he (by simpa using ha)
  · rw [if_pos he];exact Dev.current_err l0 A0 c0 a1 a2 a3 w hr0 he
end Go.Proofs.YtjbcfdgnafmbkaaDoor.PBig
end
section
set_option linter.unusedVariables false
namespace Go.Proofs.YtjbcfdgnafmbkaaDoor.Dev
open Go.Proofs.YtjbcfdgnafmbkaaDoor.PBig
structure Good (l : List S65) : Prop where
  r : ∀ x ∈ l,rightD x=true
  n : l.Pairwise (fun a b=>a.f0 < b.f0)
  k : l.Pairwise (fun a b=>¬ (a.f4=b.f4 ∧ a.f5=false))
theorem usedB_iff (l : List S65) (k : Int) : usedB l k=true ↔ ∃ y ∈ l,y.f4=k ∧ y.f5=false:=by
  unfold usedB
  rw [List.any_eq_true]
  constructor
  · rintro ⟨y,h,e⟩
    simp only [Bool.and_eq_true,decide_eq_true_eq,Bool.not_eq_true'] at e
    exact ⟨y,h,e⟩
  · rintro ⟨y,h,e⟩
    exact ⟨y,h,by simp only [Bool.and_eq_true,decide_eq_true_eq,Bool.not_eq_true'];exact e⟩
theorem chkG_iff : ∀ (l : List S65) (last : Int) (seen : List S65),chkG last seen l=true ↔
    (∀ x ∈ l,rightD x=true) ∧ (∀ x ∈ l,last < x.f0) ∧ l.Pairwise (fun a b=>a.f0 < b.f0) ∧ l.Pairwise (fun a b=>¬ (a.f4=b.f4 ∧ a.f5=false)) ∧ ∀ y ∈ seen,∀ x ∈ l,¬ (y.f4=x.f4 ∧ y.f5=false)
  | [],last,seen=>by simp [chkG]
  | x :: r,last,seen=>by
    rw [chkG,Bool.and_eq_true,Bool.and_eq_true,Bool.and_eq_true,chkG_iff r x.f0 (seen ++ [x]),decide_eq_true_eq,Bool.not_eq_true',← Bool.not_eq_true,usedB_iff]
    constructor
    · rintro ⟨⟨⟨h1,h2⟩,h3⟩,h4,h5,h6,h7,h8⟩
      refine ⟨?_,?_,?_,?_,?_⟩
      · intro y hy;rcases List.mem_cons.1 hy with rfl | hy
        · exact h1
        · exact h4 y hy
      · intro y hy;rcases List.mem_cons.1 hy with rfl | hy
        · exact h2
        · exact Int.lt_trans h2 (h5 y hy)
      · exact List.Pairwise.cons h5 h6
      · exact List.Pairwise.cons (fun y hy=>h8 x (by simp) y hy) h7
      · intro y hy z hz
        rcases List.mem_cons.1 hz with rfl | hz
        · exact fun e=>h3 ⟨y,hy,e⟩
        · exact h8 y (by simp [hy]) z hz
    · rintro ⟨h1,h2,h3,h4,h5⟩
      obtain ⟨h3a,h3b⟩:=List.pairwise_cons.1 h3
      obtain ⟨h4a,h4b⟩:=List.pairwise_cons.1 h4
      refine ⟨⟨⟨h1 x (by simp),h2 x (by simp)⟩,?_⟩,fun y hy=>h1 y (by simp [hy]),h3a,h3b,h4b,?_⟩
      · rintro ⟨y,hy,e⟩;exact h5 y hy x (by simp) e
      · intro y hy z hz
        rcases List.mem_append.1 hy with hy | hy
        · exact h5 y hy z (by simp [hz])
        · obtain rfl : y=x:=by simpa using hy
          exact h4a z hz
theorem chk_ok {l : List S65} : chk l=0 ↔ l.length ≤ 1024 ∧ Good l:=by
  unfold chk
  constructor
  · intro h
    split at h
    · exact absurd h (by decide)
    · rename_i hl
      split at h
      · rename_i hc
        obtain ⟨h1,_,h3,h4,_⟩:=(chkG_iff _ _ _).1 hc
        exact ⟨by omega,h1,h3,h4⟩
      · exact absurd h (by decide)
  · rintro ⟨hl,h⟩
    rw [if_neg (by omega),if_pos ((chkG_iff _ _ _).2 ⟨h.r,fun x hx=>by have:=rightD_no (h.r x hx);omega,h.n,h.k,by simp⟩)]
theorem selB_iff {p t k : Int} {x : S65} : selB p t k x=true ↔ x.f3=p ∧ x.f1 ≤ t ∧ x.f2 ≤ k:=by
  unfold selB
  simp only [Bool.and_eq_true,decide_eq_true_eq,and_assoc]
end Go.Proofs.YtjbcfdgnafmbkaaDoor.Dev
end
section
set_option linter.unusedVariables false
namespace Go.Proofs.YtjbcfdgnafmbkaaDoor.Dev
open Go.RowKit Go.Proofs.YtjbcfdgnafmbkaaDoor Go.Proofs.YtjbcfdgnafmbkaaDoorW.PrintWords Go.Proofs.YtjbcfdgnafmbkaaDoor.PBig
def BoxD (W : World) (B : Nat) (x : S65) : Prop:=W.heap[B]?=some (.cells #[.int .i64 x.f0,.int .i64 x.f1,.int .i64 x.f2,.int .i64 x.f3,.int .i64 x.f4,.bool x.f5] 65 (0,0))
def againB (x y : S65) : Bool:=!x.f5 && (y.f4 == x.f4)
theorem add2_c (x y : S65) (B : Nat) (W : World) (h : BoxD W B x) : Calls Tryd.prog 78 #[.agg #[.int .i64 y.f0,.int .i64 y.f1,.int .i64 y.f2,.int .i64 y.f3,.int .i64 y.f4,.bool y.f5],.pointer (some ⟨B,0,none⟩)] W fun e w'=>e=.returned (.bool (againB x y)) ∧ Below W.heap.size W w':=by
  have h4 : ∀ ob,(W.alloc ob).cell? ⟨B,4,none⟩=some (.int .i64 x.f4):=fun ob=>(blk_cell (blk_alloc h ob) 4).trans rfl
  have h5 : ∀ ob,(W.alloc ob).cell? ⟨B,5,none⟩=some (.bool x.f5):=fun ob=>(blk_cell (blk_alloc h ob) 5).trans rfl
  unfold againB
  obtain ⟨x0,x1,x2,x3,x4,x5⟩:=x
  simp only at h4 h5 ⊢
  clear h
  cases x5
  all_goals go_enter Tryd.func78,Tryd.ntmps78
  all_goals go_wp2
  all_goals go_ret
  all_goals exact ⟨by first | rfl | simp,below_alloc (Below.refl _ W) _⟩
theorem BoxD.below {A W : World} {B : Nat} {x : S65} (h : BoxD A B x) (hb : Below A.heap.size A W) : BoxD W B x:=blk_below h hb
set_option maxHeartbeats 1000000 in
theorem index_c (l : List S65) (A : Option Addr) (c : Nat) (x : S65) (B : Nat) (w : World) (hC : Kd.C k65 w A l.length l) (hx : BoxD w B x) :
    Calls Tryd.prog 111 #[.slice A l.length c,.func (.func 78) #[] #[.pointer (some ⟨B,0,none⟩)]] w fun e w'=>(∃ v : Int,e=.returned (.int .i64 v) ∧ decide (0 ≤ v)=l.any (againB x)) ∧ Below w.heap.size w w':=by
  have HC:=Lib.hid hC
  have hln : l.length ≤ 9223372036854775807:=hC.2.1
  have HX:=Lib.hid hx
  clear hC hx
  go_enter Tryd.func111,Tryd.ntmps111
  go_wp2
  go_loopw [8] (fun v8 wr=>∃ i : Nat,i ≤ l.length ∧ v8=.int .i64 i ∧ Hid (Below w.heap.size w wr) ∧ Hid ((l.take i).any (againB x)=false)) (fun v8 _=>l.length - (intOf v8).toNat)
  case atStart=>exact ⟨0,by omega,rfl,Lib.hid (Below.refl _ w),Lib.hid (by simp)⟩
  case round =>
    obtain ⟨i,hil,rfl,HB,HA⟩:=hrel
    by_cases hlt : i < l.length
    · obtain ⟨b,o,rfl,hel⟩:=el65 (Kd.C_below HC.out HB.out) (by omega)
      obtain ⟨q0,q1,q2,q3,q4,q5⟩:=hel i hlt
      have HT:=Lib.hid (take_snoc65 l i hlt)
      have HM:=Lib.hid (show l.getD i z65 ∈ l by rw [List.getD_eq_getElem?_getD,List.getElem?_eq_getElem hlt];exact List.getElem_mem hlt)
      clear hel
      generalize l.getD i z65=y at *
      obtain ⟨rb,hrb⟩ : ∃ rb,againB x y=rb:=⟨_,rfl⟩
      have HCl:=Lib.hid (add2_c x y B wr (HX.out.below HB.out))
      rw [hrb] at HCl
      have HR:=Lib.hid hrb
      clear hrb
      obtain ⟨y0,y1,y2,y3,y4,y5⟩:=y
      simp only at q0 q1 q2 q3 q4 q5 HCl
      cases rb with
      | false =>
        go_wp2_with (go_at_call 78;refine HCl.out.mono ?_;rintro e w2 ⟨rfl,hb⟩;have HB2:=Lib.hid (below_step HB.out hb);clear hb)
        go_roundw
        case rel=>exact ⟨i + 1,by omega,by go_num,HB2,Lib.hid (by rw [HT.out,List.any_append,HA.out];simp [HR.out])⟩
        case measure=>simp [intOf];omega
      | true =>
        go_wp2_with (go_at_call 78;refine HCl.out.mono ?_;rintro e w2 ⟨rfl,hb⟩;have HB2:=Lib.hid (below_step HB.out hb);clear hb)
        go_ret
        exact ⟨⟨_,rfl,by rw [List.any_eq_true.2 ⟨_,HM.out,HR.out⟩];simp⟩,HB2.out⟩
    · obtain rfl : i=l.length:=by omega
      rw [List.take_length] at HA
      go_wp2
      go_ret
      exact ⟨⟨-1,rfl,by rw [HA.out];decide⟩,HB.out⟩
theorem contains_c (l : List S65) (A : Option Addr) (c : Nat) (x : S65) (B : Nat) (w : World) (hC : Kd.C k65 w A l.length l) (hx : BoxD w B x) :
    Calls Tryd.prog 77 #[.slice A l.length c,.func (.func 78) #[] #[.pointer (some ⟨B,0,none⟩)]] w fun e w'=>e=.returned (.bool (l.any (againB x))) ∧ Below w.heap.size w w':=by
  have HI:=Lib.hid (index_c l A c x B w hC hx)
  generalize l.any (againB x)=r at *
  clear hC hx
  go_enter Tryd.func77,Tryd.ntmps77
  go_wp2_with (go_at_call 111;refine HI.out.mono ?_;rintro e w2 ⟨⟨v,rfl,hv⟩,hb⟩;have HB2:=Lib.hid hb;clear hb)
  go_ret
  exact ⟨by first | rfl | simp [hv],HB2.out⟩
end Go.Proofs.YtjbcfdgnafmbkaaDoor.Dev
end
section
set_option linter.unusedVariables false
namespace Go.Proofs.YtjbcfdgnafmbkaaDoor.Dev
open Go.RowKit Go.Proofs.YtjbcfdgnafmbkaaDoor Go.Proofs.YtjbcfdgnafmbkaaDoorW.PrintWords Go.Proofs.YtjbcfdgnafmbkaaDoor.PBig
theorem add1_c (x : S65) (n : Int) (w : World) : Calls Tryd.prog 75 #[.agg #[.int .i64 x.f0,.int .i64 x.f1,.int .i64 x.f2,.int .i64 x.f3,.int .i64 x.f4,.bool x.f5],.int .i64 n] w fun e w'=>e=.returned (.int .i64 (cmpI x.f0 n)) ∧ Below w.heap.size w w' :=
  PDx.devices_Add_1.calls x.f0 x.f1 x.f2 x.f3 x.f4 x.f5 n (cmpI x.f0 n) w (by
    unfold PDx.devices_Add_1.f PDx.cmp_Compare_int.f PDx.cmp_isNaN_int.f cmpI
    by_cases h1 : x.f0 < n <;> by_cases h2 : x.f0 > n <;> simp [h1,h2])
theorem cmpI_lt {a b : Int} (h : a < b) : decide (cmpI a b < 0)=true:=decide_eq_true (by unfold cmpI;rw [if_pos h];decide)
theorem cmpI_ge {a b : Int} (h : ¬ a < b) : decide (cmpI a b < 0)=false:=decide_eq_false (by unfold cmpI;rw [if_neg h];split <;> decide)
theorem cmpI_eq {a b : Int} (h : b ≤ a) : (cmpI a b == 0)=decide (a=b):=by
  unfold cmpI
  by_cases e : a=b
  · subst e;simp
  · rw [if_neg (by omega),if_pos (by omega),decide_eq_false e];rfl
set_option maxHeartbeats 1000000 in
theorem bs_c (l : List S65) (A : Option Addr) (c : Nat) (no : Int) (w : World) (hC : Kd.C k65 w A l.length l) (hl : l.length ≤ 1024) (hs : ∀ i j,i < j → j < l.length → (l.getD i z65).f0 < (l.getD j z65).f0) :
    Calls Tryd.prog 74 #[.slice A l.length c,.int .i64 no,.func (.func 75) #[] #[]] w fun e w'=>(∃ (at_ : Nat) (fd : Bool),e=.returned (.tuple #[.int .i64 at_,.bool fd]) ∧ at_ ≤ l.length ∧ (∀ i,i < at_ → (l.getD i z65).f0 < no) ∧ (∀ i,at_ ≤ i → i < l.length → no ≤ (l.getD i z65).f0) ∧ fd=(decide (at_ < l.length) && decide ((l.getD at_ z65).f0=no))) ∧ Below w.heap.size w w':=by
  have HC:=Lib.hid hC
  have HS:=Lib.hid hs
  clear hC hs
  go_enter Tryd.func74,Tryd.ntmps74
  go_wp2
  go_loopw [9,10] (fun v9 v10 wr=>∃ lo hi : Nat,lo ≤ hi ∧ hi ≤ l.length ∧ v9=.int .i64 lo ∧ v10=.int .i64 hi ∧ Hid (Below w.heap.size w wr) ∧ Hid (∀ i,i < lo → (l.getD i z65).f0 < no) ∧ Hid (∀ i,hi ≤ i → i < l.length → no ≤ (l.getD i z65).f0)) (fun v9 v10 _=>(intOf v10).toNat - (intOf v9).toNat)
  case atStart=>exact ⟨0,l.length,by omega,by omega,rfl,rfl,Lib.hid (Below.refl _ w),Lib.hid (fun i h=>absurd h (by omega)),Lib.hid (fun i h1 h2=>absurd h1 (by omega))⟩
  case round =>
    obtain ⟨lo,hi,hlh,hhl,rfl,rfl,HB,HL,HH⟩:=hrel
    by_cases hlt : lo < hi
    · obtain ⟨b,o,rfl,hel⟩:=el65 (Kd.C_below HC.out HB.out) (by omega)
      obtain ⟨q0,q1,q2,q3,q4,q5⟩:=hel ((lo + hi) / 2) (by omega)
      clear hel
      have HX:=Lib.hid (add1_c (l.getD ((lo + hi) / 2) z65) no wr)
      generalize hy : l.getD ((lo + hi) / 2) z65=y at *
      obtain ⟨y0,y1,y2,y3,y4,y5⟩:=y
      simp only at q0 q1 q2 q3 q4 q5 HX
      have HY:=Lib.hid hy
      clear hy
      have HB0:=Lib.hid HB.out
      by_cases hc : y0 < no
      · have t1 : decide (cmpI y0 no < 0)=true:=cmpI_lt hc
        have HCc:=Lib.hid hc
        clear hc
        go_wp2_with (go_at_call 75;refine HX.out.mono ?_;rintro e w2 ⟨rfl,hb⟩;have HB2:=Lib.hid (below_step HB0.out hb);clear hb)
        go_roundw
        case rel=>exact ⟨(lo + hi) / 2 + 1,hi,by omega,by omega,by go_num,rfl,HB2,Lib.hid (fun i hi'=>by
          rcases Nat.lt_or_ge i ((lo + hi) / 2) with h | h
          · have:=HS.out i ((lo + hi) / 2) h (by omega);rw [HY.out] at this;have:=HCc.out;simp at *;omega
          · obtain rfl : i=(lo + hi) / 2:=by omega
            rw [HY.out];exact HCc.out),HH⟩
        case measure=>simp [intOf];omega
      · have t1 : decide (cmpI y0 no < 0)=false:=cmpI_ge hc
        have HCc:=Lib.hid hc
        clear hc
        go_wp2_with (go_at_call 75;refine HX.out.mono ?_;rintro e w2 ⟨rfl,hb⟩;have HB2:=Lib.hid (below_step HB0.out hb);clear hb)
        go_roundw
        case rel=>exact ⟨lo,(lo + hi) / 2,by omega,by omega,rfl,by go_num,HB2,HL,Lib.hid (fun i h1 h2=>by
          rcases Nat.lt_or_ge ((lo + hi) / 2) i with h | h
          · have:=HS.out ((lo + hi) / 2) i h h2;rw [HY.out] at this;have:=HCc.out;simp at *;omega
          · obtain rfl : i=(lo + hi) / 2:=by omega
            rw [HY.out];have:=HCc.out;simp at *;omega)⟩
        case measure=>simp [intOf];omega
    · obtain rfl : lo=hi:=by omega
      by_cases hn : lo < l.length
      · obtain ⟨b,o,rfl,hel⟩:=el65 (Kd.C_below HC.out HB.out) (by omega)
        obtain ⟨q0,q1,q2,q3,q4,q5⟩:=hel lo hn
        clear hel
        have HX:=Lib.hid (add1_c (l.getD lo z65) no wr)
        generalize hy : l.getD lo z65=y at *
        obtain ⟨y0,y1,y2,y3,y4,y5⟩:=y
        simp only at q0 q1 q2 q3 q4 q5 HX
        have HY:=Lib.hid hy
        clear hy
        have hge:=HH.out lo (Nat.le_refl _) hn
        rw [HY.out] at hge
        have HGE:=Lib.hid hge
        clear hge
        go_wp2_with (go_at_call 75;refine HX.out.mono ?_;rintro e w2 ⟨rfl,hb⟩;have HB2:=Lib.hid (below_step HB.out hb);clear hb)
        go_ret2
        refine ⟨⟨lo,_,rfl,hhl,HL.out,HH.out,?_⟩,HB2.out⟩
        rw [HY.out,decide_eq_true hn,Bool.true_and]
        exact cmpI_eq HGE.out
      · go_wp2
        go_ret2
        exact ⟨⟨lo,_,rfl,hhl,HL.out,HH.out,by rw [decide_eq_false hn];rfl⟩,HB.out⟩
end Go.Proofs.YtjbcfdgnafmbkaaDoor.Dev
end
section
set_option linter.unusedVariables false
namespace Go.Proofs.YtjbcfdgnafmbkaaDoor.Sha
open Go.RowKit Go.Proofs.YtjbcfdgnafmbkaaDoor Go.Proofs.YtjbcfdgnafmbkaaDoorW.PrintWords Go.Proofs.YtjbcfdgnafmbkaaDoor.PGroup Go.Proofs.YtjbcfdgnafmbkaaDoorW.PrintMore
set_option maxHeartbeats 400000 in
theorem rror_c (x n : Nat) (hx : x < 4294967296) (h1 : 1 ≤ n) (h2 : n ≤ 31) (w : World) :
    Calls Tryd.prog 141 #[.int .u32 x,.int .i64 n] w fun e w'=>e=.returned (.int .u32 (ror x n)) ∧ ∃ n,w'=w.drewN n:=by
  have e1 : IntKind.i64.wrap (32 - (n : Int))=((32 - n : Nat) : Int):=by rw [IntKind.wrap_i64];omega
  obtain ⟨m,hm⟩ : ∃ m,m=32 - n:=⟨_,rfl⟩
  rw [← hm] at e1
  have HM:=Lib.hid hm
  have hm31 : m ≤ 31:=by omega
  have hm1 : 1 ≤ m:=by omega
  clear hm
  go_enter Tryd.func141,Tryd.ntmps141
  go_wp2
  go_quiet (fail)
  go_wp2
  go_ret
  refine ⟨ret_u32 ?_,_,rfl⟩
  have e1 : ((x : Int) * 2 ^ (32 - n) % 4294967296)=((x * 2 ^ (32 - n) % 4294967296 : Nat) : Int):=by simp
  have e2 : ((x : Int) / 2 ^ n)=((x / 2 ^ n : Nat) : Int):=by simp
  first
    | (rw [HM.out,e1,e2,u32_or_nat _ _ (Nat.lt_of_le_of_lt (Nat.div_le_self _ _) hx) (Nat.mod_lt _ (by decide))];rfl)
    | (rw [e1,e2,u32_or_nat _ _ (Nat.lt_of_le_of_lt (Nat.div_le_self _ _) hx) (Nat.mod_lt _ (by decide))];rfl)
theorem or_shift (a b n : Nat) (hb : b < 2 ^ n) : a * 2 ^ n ||| b=a * 2 ^ n + b:=by
  rw [Nat.mul_comm,Nat.two_pow_add_eq_or_of_lt hb]
theorem word_f (a b c d : Nat) (ha : a < 256) (hb : b < 256) (hc : c < 256) (hd : d < 256) : R02_word.f (toI [a,b,c,d])=some (((((a * 256 + b) * 256 + c) * 256 + d : Nat)) : Int):=by
  have r0 : rd (toI [a,b,c,d]) 0=(a : Int):=rfl
  have r1 : rd (toI [a,b,c,d]) 1=(b : Int):=rfl
  have r2 : rd (toI [a,b,c,d]) 2=(c : Int):=rfl
  have r3 : rd (toI [a,b,c,d]) 3=(d : Int):=rfl
  have hl : ((toI [a,b,c,d]).length : Int)=4:=rfl
  unfold R02_word.f
  rw [hl,if_pos (by omega),if_pos (by omega),if_pos (by omega),if_pos (by omega),r0,r1,r2,r3]
  have q0 : ((a : Int) % 4294967296 * 16777216 % 4294967296)=((a * 16777216 : Nat) : Int):=by omega
  have q1 : ((b : Int) % 4294967296 * 65536 % 4294967296)=((b * 65536 : Nat) : Int):=by omega
  have q2 : ((c : Int) % 4294967296 * 256 % 4294967296)=((c * 256 : Nat) : Int):=by omega
  have q3 : ((d : Int) % 4294967296)=(d : Int):=by omega
  rw [q0,q1,q2,q3,u32_or_nat _ _ (by omega) (by omega)]
  have o1 : a * 16777216 ||| b * 65536=(a * 256 + b) * 65536:=by
    exact (or_shift a (b * 65536) 24 (by omega)).trans (by omega)
  rw [o1,u32_or_nat _ _ (by omega) (by omega)]
  have o2 : (a * 256 + b) * 65536 ||| c * 256=((a * 256 + b) * 256 + c) * 256:=by
    exact (or_shift (a * 256 + b) (c * 256) 16 (by omega)).trans (by omega)
  rw [o2,u32_or_nat _ _ (by omega) (by omega)]
  have o3 : ((a * 256 + b) * 256 + c) * 256 ||| d=((a * 256 + b) * 256 + c) * 256 + d:=by
    exact or_shift ((a * 256 + b) * 256 + c) d 8 (by omega)
  rw [o3]
theorem rword_c (b off cap : Nat) (l : List Nat) (o : Nat) (hl : ∀ x ∈ l,x < 256) (w : World) (hcap : 4 ≤ cap)
    (hc : ∀ j,j < 4 → w.cell? ⟨b,off + j,none⟩=some (.int .u8 (l.getD (o + j) 0 : Nat))) :
    Calls Tryd.prog 140 #[.slice (some ⟨b,off,none⟩) 4 cap] w fun e w'=>e=.returned (.int .u32 (word4 l o : Nat)) ∧ ∃ n,w'=w.drewN n:=by
  have g:=fun i=>getD_lt hl i
  have hC : Kd.C (Kd.int .u8) w (some ⟨b,off,none⟩) (toI [l.getD o 0,l.getD (o + 1) 0,l.getD (o + 2) 0,l.getD (o + 3) 0]).length (toI [l.getD o 0,l.getD (o + 1) 0,l.getD (o + 2) 0,l.getD (o + 3) 0]):=by
    refine ⟨rfl,by show 4 ≤ _;decide,fun _=>⟨_,rfl,fun j p hj=>?_⟩⟩
    have hjl : j < 4:=by have:=(List.getElem?_eq_some_iff.1 hj).1;simpa [toI] using this
    refine ⟨[.int .u8 p],rfl,rfl,fun i u hu=>?_⟩
    have hp : p=(l.getD (o + j) 0 : Nat):=by
      match j,hjl,hj with
      | 0,_,hj=>exact (Option.some.inj hj).symm
      | 1,_,hj=>exact (Option.some.inj hj).symm
      | 2,_,hj=>exact (Option.some.inj hj).symm
      | 3,_,hj=>exact (Option.some.inj hj).symm
    match i,hu with
    | 0,hu =>
      cases hu
      show w.cell? ((⟨b,off,none⟩ : Addr).add (j * 1 + 0))=_
      rw [Nat.mul_one,Nat.add_zero,show (⟨b,off,none⟩ : Addr).add j=⟨b,off + j,none⟩ from by unfold Addr.add;split <;> simp_all,hc j hjl,hp]
  exact (R02_word.calls (some ⟨b,off,none⟩) cap _ _ w hC (by show 4 ≤ cap;exact hcap) (word_f _ _ _ _ (g o) (g (o + 1)) (g (o + 2)) (g (o + 3)))).mono fun e w' ⟨h1,h2⟩=>⟨h1,h2.out⟩
theorem be8_get2 (n : Nat) : toI (be8 n)=[((n / 2 ^ 56 % 256 : Nat) : Int),((n / 2 ^ 48 % 256 : Nat) : Int),((n / 2 ^ 40 % 256 : Nat) : Int),((n / 2 ^ 32 % 256 : Nat) : Int),((n / 2 ^ 24 % 256 : Nat) : Int),((n / 2 ^ 16 % 256 : Nat) : Int),((n / 2 ^ 8 % 256 : Nat) : Int),((n % 256 : Nat) : Int)]:=rfl
theorem l1_step (k : Nat) (x : List Int) (n i : Nat) (hi : i ≤ 7) (hx : x.length < 140737488355328) :
    R02_padded.l1 (k + 1) x n (i : Int)=R02_padded.l1 k (x ++ [((n / 2 ^ (8 * i) % 256 : Nat) : Int)]) n ((i : Int) - 1):=by
  have e1 : wrap64 (8 * (i : Int))=((8 * i : Nat) : Int):=by unfold wrap64;omega
  have e2 : wrap64 ((i : Int) - 1)=(i : Int) - 1:=by unfold wrap64;omega
  have e3 : shr .u64 (n : Int) ((8 * i : Nat) : Int) % 256=((n / 2 ^ (8 * i) % 256 : Nat) : Int):=by
    unfold shr
    rw [show min ((8 * i : Nat) : Int).toNat (IntKind.u64.bits)=8 * i from by
      have : IntKind.u64.bits=64:=rfl
      rw [this];omega]
    simp
  rw [R02_padded.l1,if_pos (by omega),e1,if_pos (by omega),if_pos hx,e2,e3]
theorem l1_all (k : Nat) (x : List Int) (n : Nat) (hx : x.length + 8 < 140737488355328) : R02_padded.l1 (k + 9) x n 7=some (x ++ toI (be8 n)):=by
  have s:=l1_step (k + 8) x n 7 (by omega) (by omega)
  rw [show ((7 : Nat) : Int)=7 from rfl] at s
  rw [s]
  have s:=l1_step (k + 7) (x ++ [((n / 2 ^ (8 * 7) % 256 : Nat) : Int)]) n 6 (by omega) (by simp;omega)
  rw [show ((7 : Int) - 1)=((6 : Nat) : Int) from rfl,s]
  have s:=l1_step (k + 6) (x ++ [((n / 2 ^ (8 * 7) % 256 : Nat) : Int)] ++ [((n / 2 ^ (8 * 6) % 256 : Nat) : Int)]) n 5 (by omega) (by simp;omega)
  rw [show (((6 : Nat) : Int) - 1)=((5 : Nat) : Int) from rfl,s]
  rw [show (((5 : Nat) : Int) - 1)=((4 : Nat) : Int) from rfl,l1_step (k + 5) _ n 4 (by omega) (by simp;omega)]
  rw [show (((4 : Nat) : Int) - 1)=((3 : Nat) : Int) from rfl,l1_step (k + 4) _ n 3 (by omega) (by simp;omega)]
  rw [show (((3 : Nat) : Int) - 1)=((2 : Nat) : Int) from rfl,l1_step (k + 3) _ n 2 (by omega) (by simp;omega)]
  rw [show (((2 : Nat) : Int) - 1)=((1 : Nat) : Int) from rfl,l1_step (k + 2) _ n 1 (by omega) (by simp;omega)]
  rw [show (((1 : Nat) : Int) - 1)=((0 : Nat) : Int) from rfl,l1_step (k + 1) _ n 0 (by omega) (by simp;omega)]
  rw [R02_padded.l1,if_neg (by omega),be8_get2]
  simp
theorem l0_all (x0 : List Int) (h0 : x0.length ≤ 1125899906842624) : ∀ (z k : Nat) (x : List Int),(x.length + z) % 64=56 → (∀ j,j < z → (x.length + j) % 64 ≠ 56) → x.length + z + 8 < 140737488355328 →
    R02_padded.l0 (k + z + 10) x0 x=some (x ++ List.replicate z 0 ++ toI (be8 (x0.length * 8)))
  | 0,k,x,h1,h2,h3=>by
    have e : IntKind.u64.wrap (IntKind.u64.wrap (x0.length : Int) * 8)=((x0.length * 8 : Nat) : Int):=by rw [IntKind.wrap_u64,IntKind.wrap_u64];omega
    rw [show k + 0 + 10=(k + 9) + 1 from by omega,R02_padded.l0,if_pos (by omega),e,l1_all k x _ (by omega)]
    simp
  | z + 1,k,x,h1,h2,h3=>by
    have hz:=h2 0 (by omega)
    rw [show k + (z + 1) + 10=(k + z + 10) + 1 from by omega,R02_padded.l0,if_neg (by omega),if_pos (by omega),
      l0_all x0 h0 z k (x ++ [0]) (by simp;omega) (fun j hj=>by have:=h2 (j + 1) (by omega);simp;omega) (by simp;omega)]
    rw [List.replicate_succ]
    simp
theorem padded_f (l : List Nat) (h0 : l.length ≤ 35184372088832) : ∃ k,R02_padded.f k (toI l)=some (toI (padL l)):=by
  have hl : (toI l).length=l.length:=toI_length l
  have:=l0_all (toI l) (by omega) ((if l.length % 64 ≤ 55 then 55 else 119) - l.length % 64) 0 ([] ++ toI l ++ [128]) (by simp [hl];split <;> omega) (fun j hj=>by simp [hl];revert hj;split <;> intro hj <;> omega) (by simp [hl];split <;> omega)
  refine ⟨0 + ((if l.length % 64 ≤ 55 then 55 else 119) - l.length % 64) + 10,?_⟩
  unfold R02_padded.f
  simp only [Option.bind_some]
  rw [if_pos (by simp [hl];omega),if_pos (by simp [hl];omega),this]
  unfold padL
  simp only [toI_append,List.nil_append,hl]
  congr 2
  simp [toI]
set_option maxHeartbeats 1000000 in
set_option maxRecDepth 100000 in
theorem rnumbers_c (w : World) : Calls Tryd.prog 142 #[] w fun e w'=>e=.returned (.agg (ints .u32 K).toArray) ∧ w.grownBy w' none:=by
  go_enter Tryd.func142,Tryd.ntmps142
  have hvz : (Tryd.prog.info? 172).map (·.size)=some (ints .u32 K).toArray.size:=by kernel_rfl
  have hvo : (ints .u32 K).toArray.all (·.oneCell')=true:=by kernel_rfl
  have hv32 : (ints .u32 (List.replicate 64 0)).toArray.size=(ints .u32 K).toArray.size:=by kernel_rfl
  have hset:=setRow_heap (w.alloc (.cells (ints .u32 (List.replicate 64 0)).toArray 172)) w.heap.size (ints .u32 (List.replicate 64 0)).toArray (ints .u32 K).toArray 172 (0,0) (Arr.new w 172 (ints .u32 (List.replicate 64 0)))
  have hgf:=grown_below (grown_alloc (grownBy_refl w none) (.cells (ints .u32 (List.replicate 64 0)).toArray 172)) (below_setRow (Below.refl w.heap.size _) (Nat.le_refl _) (ints .u32 K).toArray) (Nat.le_refl _)
  go_wp2_with (refine wpList_store_row rfl 172 (.tmp 0) (.tmp 1) rfl w.heap.size (ints .u32 K).toArray rfl rfl 172 (ints .u32 (List.replicate 64 0)).toArray (Arr.new w 172 (ints .u32 (List.replicate 64 0))) hvz hv32 hvo ?_)
  exact bodyPost_ret (v:=.agg (ints .u32 K).toArray) (results_cell_row rfl _ _ w.heap.size 172 (ints .u32 K).toArray (0,0) (.array 64 132) rfl hset (by kernel_rfl) rfl hvz) rfl ⟨rfl,hgf⟩
end Go.Proofs.YtjbcfdgnafmbkaaDoor.Sha
end
section
set_option linter.unusedVariables false
namespace Go.Proofs.YtjbcfdgnafmbkaaDoor.Sha
open Go.RowKit Go.Proofs.YtjbcfdgnafmbkaaDoor Go.Proofs.YtjbcfdgnafmbkaaDoorW.PrintWords Go.Proofs.YtjbcfdgnafmbkaaDoor.PGroup Go.Proofs.YtjbcfdgnafmbkaaDoorW.PrintMore
theorem mj_bits (a b c : Nat) (ha : a < 4294967296) (hb : b < 4294967296) (hc : c < 4294967296) :
    bits .xor .u32 (bits .xor .u32 (bits .and .u32 (a : Int) b) (bits .and .u32 (a : Int) c)) (bits .and .u32 (b : Int) c)=(mj a b c : Nat):=by
  rw [u32_and_nat a b ha hb,u32_and_nat a c ha hc,u32_and_nat b c hb hc,u32_xor_nat _ _ (and_lt ha) (and_lt ha),u32_xor_nat _ _ (xor_lt (and_lt ha) (and_lt ha)) (and_lt hb),mj_ref]
theorem ch_bits (e f g : Nat) (he : e < 4294967296) (hf : f < 4294967296) (hg : g < 4294967296) :
    bits .xor .u32 (bits .and .u32 (e : Int) f) (bits .and .u32 ((4294967295 - e : Nat) : Int) g)=(ch e f g : Nat):=by
  rw [u32_and_nat e f he hf,u32_and_nat _ g (by omega) hg,u32_xor_nat _ _ (and_lt he) (and_lt (by omega)),(ch_ref e f g hg).resolve_right (by omega)]
theorem xor_max (e : Nat) (h : e < 4294967296) : 4294967295 ^^^ e=4294967295 - e:=by
  refine Nat.eq_of_testBit_eq fun i=>?_
  have h1 : 4294967295 - e=2 ^ 32 - (e + 1):=by omega
  rw [h1,Nat.testBit_xor,Nat.testBit_two_pow_sub_succ (show e < 2 ^ 32 from h),show (4294967295 : Nat)=2 ^ 32 - 1 from rfl,Nat.testBit_two_pow_sub_one]
  by_cases hi : i < 32
  · simp [hi]
  · have h2 : e.testBit i=false:=Nat.testBit_lt_two_pow (Nat.lt_of_lt_of_le h (by
        have : (2 : Nat) ^ 32 ≤ 2 ^ i:=Nat.pow_le_pow_right (by decide) (by omega)
        simpa using this))
    simp [hi,h2]
theorem not_bits (e : Nat) (h : e < 4294967296) : bits .xor .u32 (if IntKind.u32.signed=true then -1 else IntKind.u32.max) (e : Int)=((4294967295 - e : Nat) : Int):=by
  rw [if_neg (by decide),show IntKind.u32.max=((4294967295 : Nat) : Int) from rfl,u32_xor_nat _ _ (by decide) h,xor_max e h]
theorem rror_q (x n : Nat) (k : Int) (hk : k=(n : Int)) (hx : x < 4294967296) (h1 : 1 ≤ n) (h2 : n ≤ 31) (w : World) (m : Nat) :
    Calls Tryd.prog 141 #[.int .u32 x,.int .i64 k] (w.drewN m) fun e w'=>e=.returned (.int .u32 (ror x n)) ∧ ∃ m,w'=w.drewN m:=by
  rw [hk]
  exact Calls.quiet_of (rror_c x n hx h1 h2 _)
structure RB (w W : World) (st : St) : Prop where
  s : Arr W w.heap.size 133 (ints .u32 (stV st))
  r : Arr W (w.heap.size + 1) 133 (ints .u32 (List.replicate 8 0))
  g : w.grownBy W none
theorem RB.set {w W : World} {st : St} (h : RB w W st) {b : Nat} (hb : w.heap.size + 1 < b) (j : Nat) (v : Value) : RB w (W.setCell ⟨b,j,none⟩ v) st :=
  ⟨h.s.other (by omega) _ _,h.r.other (by omega) _ _,grown_new h.g (by omega) _ _⟩
theorem RB.drewN {w W : World} {st : St} (h : RB w W st) (n : Nat) : RB w (W.drewN n) st:=⟨h.s.drewN n,h.r.drewN n,grown_drewN h.g n⟩
theorem RB.alloc {w W : World} {st : St} (h : RB w W st) (o : Obj) : RB w (W.alloc o) st:=⟨h.s.alloc o,h.r.alloc o,grown_alloc h.g o⟩
theorem RB.grown {w W W' : World} {st : St} (h : RB w W st) (g : W.grownBy W' none) : RB w W' st:=⟨h.s.kept g (by simp),h.r.kept g (by simp),grownBy_trans h.g g⟩
theorem RB.below {w W W' : World} {st : St} (h : RB w W st) {n : Nat} (g : Below n W W') (hn : w.heap.size + 1 < n) : RB w W' st:=⟨h.s.below g (by omega),h.r.below g (by omega),grown_below h.g g (by omega)⟩
theorem RB.start (w : World) (st : St) : RB w ((w.alloc (.cells (ints .u32 (stV st)).toArray 133)).alloc (.cells (ints .u32 (List.replicate 8 0)).toArray 133)) st :=
  ⟨(Arr.new w 133 _).alloc _,by have:=Arr.new (w.alloc (.cells (ints .u32 (stV st)).toArray 133)) 133 (ints .u32 (List.replicate 8 0));simpa using this,grown_alloc (grown_alloc (grownBy_refl w none) _) _⟩
set_option maxHeartbeats 2000000 in
set_option maxRecDepth 100000 in
theorem rblock_c (bb off cap : Nat) (st : St) (hst : st.ok) (l : List Nat) (hl : l.length=64) (hb : ∀ x ∈ l,x < 256) (w : World)
    (hblk : ∀ j,j < 64 → w.cell? ⟨bb,off + j,none⟩=some (.int .u8 (l.getD j 0 : Nat))) (h64 : 64 ≤ cap) (hcap : cap ≤ 9223372036854775807) :
    Calls Tryd.prog 121 #[.agg (ints .u32 (stV st)).toArray,.slice (some ⟨bb,off,none⟩) 64 cap] w fun e w'=>e=.returned (.agg (ints .u32 (stV (absorb st l))).toArray) ∧ w.grownBy w' none:=by
  have HBLK:=Lib.hid hblk
  have HB:=Lib.hid hb
  have HLEN:=Lib.hid hl
  clear hblk hb hl
  obtain ⟨fin,hfin⟩ : ∃ f,f=absorb st l:=⟨_,rfl⟩
  have HWS:=Lib.hid (show fin=st.add (rnds K (words1 l 48) st 64) from hfin)
  rw [← hfin]
  clear hfin
  have HST:=Lib.hid hst
  obtain ⟨zs,hzs⟩ : ∃ zs,zs=ints .u32 (List.replicate 64 0):=⟨_,rfl⟩
  have hvz : (Tryd.prog.info? 172).map (·.size)=some zs.toArray.size:=by rw [hzs];kernel_rfl
  have hvo : zs.toArray.all (·.oneCell')=true:=by rw [hzs];kernel_rfl
  have hst0:=RB.start w st
  have hA0:=Arr.new ((w.alloc (.cells (ints .u32 (stV st)).toArray 133)).alloc (.cells (ints .u32 (List.replicate 8 0)).toArray 133)) 172 (ints .u32 (List.replicate 64 0))
  have hz0 : ((w.alloc (.cells (ints .u32 (stV st)).toArray 133)).alloc (.cells (ints .u32 (List.replicate 8 0)).toArray 133)).heap.size=w.heap.size + 1 + 1:=by simp
  rw [hz0] at hA0
  have hset:=setRow_heap _ _ _ (ints .u32 (List.replicate 64 0)).toArray 172 (0,0) hA0
  have hrb:=(hst0.alloc (.cells (ints .u32 (List.replicate 64 0)).toArray 172)).below (below_setRow (Below.refl (w.heap.size + 1 + 1) _) (Nat.le_refl _) (ints .u32 (List.replicate 64 0)).toArray) (by omega)
  have HVZ:=Lib.hid hvz
  have HVO:=Lib.hid hvo
  have HZS:=Lib.hid hzs
  have HA0:=Lib.hid hA0
  have HSET:=Lib.hid hset
  have HRB:=Lib.hid hrb
  clear hvz hvo hzs hst0 hA0 hz0 hset hrb hst
  obtain ⟨sa,sb,sc,sd,se,sf,sg,sh⟩:=st
  rw [show (ints .u32 (stV ⟨sa,sb,sc,sd,se,sf,sg,sh⟩)).toArray=#[.int .u32 sa,.int .u32 sb,.int .u32 sc,.int .u32 sd,.int .u32 se,.int .u32 sf,.int .u32 sg,.int .u32 sh] from rfl]
  go_enter Tryd.func121,Tryd.ntmps121
  go_upto_block 0 with (refine wpList_store_row rfl 172 (.tmp 5) (.tmp 22) rfl (w.heap.size + 1 + 1) (ints .u32 (List.replicate 64 0)).toArray rfl rfl 172 (ints .u32 (List.replicate 64 0)).toArray HA0.out (by rw [← HZS.out];exact HVZ.out) rfl (by rw [← HZS.out];exact HVO.out) ?_;generalize hW : World.setRow _ _ _=W1;have hR1 : RB w W1 ⟨sa,sb,sc,sd,se,sf,sg,sh⟩:=(by rw [← hW];exact HRB.out);have hA1 : Arr W1 (w.heap.size + 1 + 1) 172 (ints .u32 (List.replicate 64 0)):=(by rw [← hW];exact HSET.out);have HR1:=Lib.hid hR1;have HA1:=Lib.hid hA1;clear hR1 hA1 hW)
  clear HRB HSET HA0
  obtain ⟨A,hA⟩ : ∃ A,A=w.heap.size + 1 + 1:=⟨_,rfl⟩
  rw [← hA] at HA1 ⊢
  have hAw : w.heap.size + 1 < A:=by omega
  have HAE:=Lib.hid hA
  clear hA
  have HSTE : Hid ((⟨sa,sb,sc,sd,se,sf,sg,sh⟩ : St)=⟨sa,sb,sc,sd,se,sf,sg,sh⟩):=Lib.hid rfl
  go_wp2
  go_loopw [6] (fun v w'=>∃ t : Nat,t ≤ 16 ∧ v=.int .i64 t ∧ Arr w' A 172 (ints .u32 (words0 l t)) ∧ RB w w' ⟨sa,sb,sc,sd,se,sf,sg,sh⟩) (fun v _=>16 - (intOf v).toNat)
  case atStart=>exact ⟨0,by omega,rfl,HA1.out,HR1.out⟩
  case round =>
    clear HA1 HR1
    obtain ⟨t,ht,rfl,hA,hR⟩:=hrel
    by_cases hlt : t < 16
    · have hg:=hR.g
      have hcw : ∀ j,j < 4 → wr.cell? ⟨bb,off + 4 * t + j,none⟩=some (.int .u8 (l.getD (4 * t + j) 0 : Nat)):=fun j hj=>by
        rw [Nat.add_assoc];exact cell_grown hg (HBLK.out (4 * t + j) (by omega)) (fun r e=>by cases e)
      have hword:=rword_c bb (off + 4 * t) (cap - 4 * t) l (4 * t) HB.out wr (by omega) hcw
      have HWC:=Lib.hid hword
      have hs:=hA.set t (.int .u32 (word4 l (4 * t) : Nat))
      rw [ints_set] at hs
      have HSET:=Lib.hid hs
      have HRR:=Lib.hid hR
      have hc:=hA.cell (ints_get .u32 (words0 l t) (j:=t) (by rw [words0_length];omega))
      have hf:=hA.frozen t
      clear hcw hword hs hR hg
      go_wp2_with fail
      refine HWC.out.mono ?_;rintro e w' ⟨rfl,n,rfl⟩
      go_wp2
      go_roundw
      case rel=>exact ⟨t + 1,by omega,by go_num,HSET.out.drewN n,(HRR.out.drewN n).set hAw _ _⟩
      case measure=>simp [intOf];omega
    · have : t=16:=by omega
      subst this
      go_wp2
      go_loopg [7] 49 (fun g v w'=>∃ t : Nat,16 ≤ t ∧ t ≤ 64 ∧ v=.int .i64 t ∧ Arr w' A 172 (ints .u32 (words1 l (t - 16))) ∧ RB w w' ⟨sa,sb,sc,sd,se,sf,sg,sh⟩ ∧ 64 - t < g)
      case atStart=>exact ⟨16,by omega,by omega,rfl,hA,hR,by omega⟩
      case round =>
        clear hA hR
        obtain ⟨t,ht0,ht,rfl,hA,hR,hgk⟩:=hrel
        by_cases hlt : t < 64
        · have wl:=words1_length l (t - 16)
          have gl:=fun j=>words1_lt HB.out (t - 16) j
          obtain ⟨i16,j16⟩ : ∃ i,i=t - 16:=⟨_,rfl⟩
          obtain ⟨i15,j15⟩ : ∃ i,i=t - 15:=⟨_,rfl⟩
          obtain ⟨i7,j7⟩ : ∃ i,i=t - 7:=⟨_,rfl⟩
          obtain ⟨i2,j2⟩ : ∃ i,i=t - 2:=⟨_,rfl⟩
          have w16 : IntKind.i64.wrap ((t : Int) - 16)=(i16 : Int):=by rw [IntKind.wrap_i64];omega
          have w15 : IntKind.i64.wrap ((t : Int) - 15)=(i15 : Int):=by rw [IntKind.wrap_i64];omega
          have w7 : IntKind.i64.wrap ((t : Int) - 7)=(i7 : Int):=by rw [IntKind.wrap_i64];omega
          have w2 : IntKind.i64.wrap ((t : Int) - 2)=(i2 : Int):=by rw [IntKind.wrap_i64];omega
          have b16 : (i16 : Int) < 64:=by omega
          have b15 : (i15 : Int) < 64:=by omega
          have b7 : (i7 : Int) < 64:=by omega
          have b2 : (i2 : Int) < 64:=by omega
          have b0 : (t : Int) < 64:=by omega
          have c16:=hA.cell (ints_get .u32 (words1 l (t - 16)) (j:=i16) (by omega))
          have c15:=hA.cell (ints_get .u32 (words1 l (t - 16)) (j:=i15) (by omega))
          have c7:=hA.cell (ints_get .u32 (words1 l (t - 16)) (j:=i7) (by omega))
          have c2:=hA.cell (ints_get .u32 (words1 l (t - 16)) (j:=i2) (by omega))
          have ct:=hA.cell (ints_get .u32 (words1 l (t - 16)) (j:=t) (by omega))
          have hf:=hA.frozen t
          have g16:=gl i16;have g15:=gl i15;have g7:=gl i7;have g2:=gl i2
          have hs:=hA.set t (.int .u32 (nextW (words1 l (t - 16)) t : Nat))
          rw [ints_set] at hs
          have hs2 : Hid (Arr (wr.setCell ⟨A,t,none⟩ (.int .u32 (nextW (words1 l (t - 16)) t : Nat))) A 172 (ints .u32 (words1 l (t + 1 - 16)))):=Lib.hid (by
            rw [show t + 1 - 16=(t - 16) + 1 from by omega,words1,show 16 + (t - 16)=t from by omega];exact hs)
          have hn : Hid (nextW (words1 l (t - 16)) t=add (add (add ((words1 l (t - 16)).getD i16 0) (s0 ((words1 l (t - 16)).getD i15 0))) ((words1 l (t - 16)).getD i7 0)) (s1 ((words1 l (t - 16)).getD i2 0))):=Lib.hid (by rw [j16,j15,j7,j2];rfl)
          have HRR:=Lib.hid hR
          clear hs gl wl j16 j15 j7 j2 hR
          generalize (words1 l (t - 16)).getD i16 0=x16 at *
          generalize (words1 l (t - 16)).getD i15 0=x15 at *
          generalize (words1 l (t - 16)).getD i7 0=x7 at *
          generalize (words1 l (t - 16)).getD i2 0=x2 at *
          generalize (words1 l (t - 16)).getD t 0=xt at *
          generalize nextW (words1 l (t - 16)) t=nw at *
          clear hA
          have e1:=u32_xor_nat (ror x15 7) (ror x15 18) (ror_lt g15) (ror_lt g15)
          have e2 : bits .xor .u32 ((ror x15 7 ^^^ ror x15 18 : Nat) : Int) ((x15 : Int) / 8)=(s0 x15 : Nat):=u32_xor_nat (ror x15 7 ^^^ ror x15 18) (x15 / 8) (xor_lt (ror_lt g15) (ror_lt g15)) (by omega)
          have e3:=u32_xor_nat (ror x2 17) (ror x2 19) (ror_lt g2) (ror_lt g2)
          have e4 : bits .xor .u32 ((ror x2 17 ^^^ ror x2 19 : Nat) : Int) ((x2 : Int) / 1024)=(s1 x2 : Nat):=u32_xor_nat (ror x2 17 ^^^ ror x2 19) (x2 / 1024) (xor_lt (ror_lt g2) (ror_lt g2)) (by omega)
          have r1:=fun n=>rror_q x15 7 7 rfl g15 (by decide) (by decide) wr n
          have r2:=fun n=>rror_q x15 18 18 rfl g15 (by decide) (by decide) wr n
          have r3:=fun n=>rror_q x2 17 17 rfl g2 (by decide) (by decide) wr n
          have r4:=fun n=>rror_q x2 19 19 rfl g2 (by decide) (by decide) wr n
          have R1:=Lib.hid r1;have R2:=Lib.hid r2;have R3:=Lib.hid r3;have R4:=Lib.hid r4
          clear r1 r2 r3 r4
          go_wp2
          refine wp_region_quiet_tail 28 (by kernel_rfl) (by kernel_rfl) ?_
          simp only [List.take_succ_cons,List.take_zero,List.drop_succ_cons,List.drop_zero]
          repeat (go_big_quiet_step (first | with_reducible exact R1.out _ | with_reducible exact R2.out _ | with_reducible exact R3.out _ | with_reducible exact R4.out _))
          refine wpQuiet_nil ?_
          intro n
          have hs3 : Hid (Arr ((wr.setCell ⟨A,t,none⟩ (.int .u32 (((x16 : Int) + (s0 x15 : Nat) + x7 + (s1 x2 : Nat)) % 4294967296))).drewN n) A 172 (ints .u32 (words1 l (t + 1 - 16)))):=Lib.hid (by
            rw [show ((x16 : Int) + (s0 x15 : Nat) + x7 + (s1 x2 : Nat)) % 4294967296=(nw : Int) by rw [hn.out];unfold add;omega];exact hs2.out.drewN n)
          clear hs2
          go_wp2
          go_roundg (64 - t)
          case rel=>exact ⟨t + 1,by omega,by omega,by go_num,hs3.out,(HRR.out.drewN n).set hAw _ _,by omega⟩
          case measure=>omega
        · have : t=64:=by omega
          subst this
          have hnum:=rnumbers_c wr
          have HNUM:=Lib.hid hnum
          have HAA:=Lib.hid hA
          have HRR:=Lib.hid hR
          clear hnum hA hR hgk
          go_wp2_with fail
          refine HNUM.out.mono ?_
          rintro e w1 ⟨rfl,hg1⟩
          have hA1:=HAA.out.kept hg1 (by simp)
          have hR1:=HRR.out.grown hg1
          obtain ⟨kz,hkz⟩ : ∃ kz,kz=ints .u32 K:=⟨_,rfl⟩
          have hvz : (Tryd.prog.info? 172).map (·.size)=some kz.toArray.size:=by rw [hkz];kernel_rfl
          have hvo : kz.toArray.all (·.oneCell')=true:=by rw [hkz];kernel_rfl
          have hv32 : (ints .u32 (List.replicate 64 0)).toArray.size=kz.toArray.size:=by rw [hkz];kernel_rfl
          rw [← hkz]
          have hB0:=Arr.new w1 172 (ints .u32 (List.replicate 64 0))
          have hset:=setRow_heap _ _ _ kz.toArray 172 (0,0) hB0
          have hbw:=below_setRow (Below.refl w1.heap.size (w1.alloc (.cells (ints .u32 (List.replicate 64 0)).toArray 172))) (Nat.le_refl _) kz.toArray
          have hr2:=(hR1.alloc (.cells (ints .u32 (List.replicate 64 0)).toArray 172)).below hbw (by have:=hR1.r.lt;omega)
          have ha2:=(hA1.alloc (.cells (ints .u32 (List.replicate 64 0)).toArray 172)).below hbw hA1.lt
          have HVZ1:=Lib.hid hvz
          have HVO1:=Lib.hid hvo
          have HV32:=Lib.hid hv32
          have HB0:=Lib.hid hB0
          have HS2:=Lib.hid hset
          have HR2:=Lib.hid hr2
          have HA2:=Lib.hid ha2
          have HKZ:=Lib.hid hkz
          clear hvz hvo hv32 hB0 hset hbw hr2 ha2 hkz hA1 hR1 hg1 HAA HRR HNUM
          go_upto_region 13 with (refine wpList_store_row rfl 172 (.tmp 10) (.tmp 78) rfl w1.heap.size kz.toArray rfl rfl 172 (ints .u32 (List.replicate 64 0)).toArray HB0.out HVZ1.out HV32.out HVO1.out ?_;generalize hW : World.setRow _ _ _=w2;have hR2 : RB w w2 ⟨sa,sb,sc,sd,se,sf,sg,sh⟩:=(by rw [← hW];exact HR2.out);have hA2 : Arr w2 A 172 (ints .u32 (words1 l (64 - 16))):=(by rw [← hW];exact HA2.out);have hK2 : Arr w2 w1.heap.size 172 (ints .u32 K):=(by rw [← hW,← HKZ.out];exact HS2.out);clear hW)
          clear HB0 HS2 HR2 HA2 HV32
          generalize hKB : w1.heap.size=KB at *
          have q0 : w2.cell? ⟨w.heap.size,0,none⟩=some (.int .u32 sa):=hR2.s.cell rfl
          have q1 : w2.cell? ⟨w.heap.size,1,none⟩=some (.int .u32 sb):=hR2.s.cell rfl
          have q2 : w2.cell? ⟨w.heap.size,2,none⟩=some (.int .u32 sc):=hR2.s.cell rfl
          have q3 : w2.cell? ⟨w.heap.size,3,none⟩=some (.int .u32 sd):=hR2.s.cell rfl
          have q4 : w2.cell? ⟨w.heap.size,4,none⟩=some (.int .u32 se):=hR2.s.cell rfl
          have q5 : w2.cell? ⟨w.heap.size,5,none⟩=some (.int .u32 sf):=hR2.s.cell rfl
          have q6 : w2.cell? ⟨w.heap.size,6,none⟩=some (.int .u32 sg):=hR2.s.cell rfl
          have q7 : w2.cell? ⟨w.heap.size,7,none⟩=some (.int .u32 sh):=hR2.s.cell rfl
          have HK:=Lib.hid hK2
          have HA:=Lib.hid hA2
          have HR:=Lib.hid hR2
          clear hK2 hA2 hR2 hKB
          go_quiet (fail)
          clear q0 q1 q2 q3 q4 q5 q6 q7
          go_wp2
          have hws:=words1_lt HB.out 48
          have hwl:=words1_length l 48
          generalize words1 l (64 - 16)=ws at *
          generalize hq0 : w2.drewN _=w3
          have hA3 : Arr w3 A 172 (ints .u32 ws):=by rw [← hq0];exact HA.out.drewN _
          have hK3 : Arr w3 KB 172 (ints .u32 K):=by rw [← hq0];exact HK.out.drewN _
          have hR3 : RB w w3 ⟨sa,sb,sc,sd,se,sf,sg,sh⟩:=by rw [← hq0];exact HR.out.drewN _
          have HWL:=Lib.hid hws
          have HWN:=Lib.hid hwl
          clear hq0 HA HK HR hws hwl
          go_loopg [11,12,13,14,15,16,17,18,19] 65 (fun g v11 v12 v13 v14 v15 v16 v17 v18 v19 w'=>∃ (t : Nat) (xa xb xc xd xe xf xg xh : Nat),t ≤ 64 ∧ v19=.int .i64 t ∧ Hid (rnds K ws ⟨sa,sb,sc,sd,se,sf,sg,sh⟩ t=⟨xa,xb,xc,xd,xe,xf,xg,xh⟩) ∧
            v11=.int .u32 xa ∧ v12=.int .u32 xb ∧ v13=.int .u32 xc ∧ v14=.int .u32 xd ∧ v15=.int .u32 xe ∧ v16=.int .u32 xf ∧ v17=.int .u32 xg ∧ v18=.int .u32 xh ∧
            Arr w' A 172 (ints .u32 ws) ∧ Arr w' KB 172 (ints .u32 K) ∧ RB w w' ⟨sa,sb,sc,sd,se,sf,sg,sh⟩ ∧ 64 - t < g)
          case atStart=>exact ⟨0,_,_,_,_,_,_,_,_,by omega,rfl,Lib.hid rfl,rfl,rfl,rfl,rfl,rfl,rfl,rfl,rfl,hA3,hK3,hR3,by omega⟩
          case round =>
            clear hA3 hK3 hR3
            obtain ⟨t,xa,xb,xc,xd,xe,xf,xg,xh,ht,rfl,HE,rfl,rfl,rfl,rfl,rfl,rfl,rfl,rfl,hA,hK,hR,hgk⟩:=hrel
            by_cases hlt : t < 64
            · have hok:=rnds_ok HST.out K ws t
              rw [HE.out] at hok
              obtain ⟨o1,o2,o3,o4,o5,o6,o7,o8⟩:=hok
              simp only at o1 o2 o3 o4 o5 o6 o7 o8
              have hk:=hK.cell (ints_get .u32 K (j:=t) (by show t < 64;exact hlt))
              have hw:=hA.cell (ints_get .u32 ws (j:=t) (by rw [HWN.out];exact hlt))
              have wlt:=HWL.out t
              have HN : Hid (rnds K ws ⟨sa,sb,sc,sd,se,sf,sg,sh⟩ (t + 1)=rnd ⟨xa,xb,xc,xd,xe,xf,xg,xh⟩ (K.getD t 0) (ws.getD t 0)):=Lib.hid (by rw [rnds,HE.out])
              have HAA:=Lib.hid hA
              have HKK:=Lib.hid hK
              have HRR:=Lib.hid hR
              clear hA hK hR HE
              generalize ws.getD t 0=wt at *
              generalize K.getD t 0=kt at *
              have b0 : (t : Int) < 64:=by omega
              have R1:=Lib.hid fun n=>rror_q xe 6 6 rfl o5 (by decide) (by decide) wr n
              have R2:=Lib.hid fun n=>rror_q xe 11 11 rfl o5 (by decide) (by decide) wr n
              have R3:=Lib.hid fun n=>rror_q xe 25 25 rfl o5 (by decide) (by decide) wr n
              have f1:=u32_xor_nat (ror xe 6) (ror xe 11) (ror_lt o5) (ror_lt o5)
              have f2 : bits .xor .u32 ((ror xe 6 ^^^ ror xe 11 : Nat) : Int) ((ror xe 25 : Nat) : Int)=(S1 xe : Nat):=u32_xor_nat (ror xe 6 ^^^ ror xe 11) (ror xe 25) (xor_lt (ror_lt o5) (ror_lt o5)) (ror_lt o5)
              have f3a : bits .xor .u32 (if IntKind.u32.signed=true then -1 else IntKind.u32.max) (xe : Int)=((4294967295 - xe : Nat) : Int):=not_bits xe o5
              have f3:=ch_bits xe xf xg o5 o6 o7
              go_wp2
              go_quiet ((first | with_reducible exact R1.out _ | with_reducible exact R2.out _ | with_reducible exact R3.out _))
              have hp : (((xh : Int) + (S1 xe : Nat) + (ch xe xf xg : Nat) + kt) % 4294967296 + wt) % 4294967296=(t1 ⟨xa,xb,xc,xd,xe,xf,xg,xh⟩ kt wt : Nat):=by
                show _=((add (add (add (add xh (S1 xe)) (ch xe xf xg)) kt) wt : Nat) : Int)
                unfold add;omega
              rw [hp]
              clear hp f1 f2 f3 f3a hk hw R1 R2 R3
              have f4:=u32_xor_nat (ror xa 2) (ror xa 13) (ror_lt o1) (ror_lt o1)
              have f5 : bits .xor .u32 ((ror xa 2 ^^^ ror xa 13 : Nat) : Int) ((ror xa 22 : Nat) : Int)=(S0 xa : Nat):=u32_xor_nat (ror xa 2 ^^^ ror xa 13) (ror xa 22) (xor_lt (ror_lt o1) (ror_lt o1)) (ror_lt o1)
              have f6:=mj_bits xa xb xc o1 o2 o3
              generalize hw3 : wr.drewN nq=w3
              have hA3:=HAA.out.drewN nq
              have hK3:=HKK.out.drewN nq
              have hR3:=HRR.out.drewN nq
              rw [hw3] at hA3 hK3 hR3
              have HA3:=Lib.hid hA3
              have HK3:=Lib.hid hK3
              have HR3:=Lib.hid hR3
              clear hw3 hA3 hK3 hR3 HAA HKK HRR
              have R1:=Lib.hid fun n=>rror_q xa 2 2 rfl o1 (by decide) (by decide) w3 n
              have R2:=Lib.hid fun n=>rror_q xa 13 13 rfl o1 (by decide) (by decide) w3 n
              have R3:=Lib.hid fun n=>rror_q xa 22 22 rfl o1 (by decide) (by decide) w3 n
              go_wp2_with fail
              refine (R1.out 0).mono ?_
              rintro e w' ⟨rfl,m1,rfl⟩
              go_wp2_with fail
              refine (R2.out m1).mono ?_
              rintro e w' ⟨rfl,m2,rfl⟩
              go_wp2_with fail
              refine (R3.out m2).mono ?_
              rintro e w' ⟨rfl,m3,rfl⟩
              have z1 : Hid ((((t1 ⟨xa,xb,xc,xd,xe,xf,xg,xh⟩ kt wt : Nat) : Int) + ((S0 xa : Nat) + (mj xa xb xc : Nat) : Int) % 4294967296) % 4294967296=(add (t1 ⟨xa,xb,xc,xd,xe,xf,xg,xh⟩ kt wt) (t2 ⟨xa,xb,xc,xd,xe,xf,xg,xh⟩) : Nat)):=Lib.hid (by
                show _=((add _ (add (S0 xa) (mj xa xb xc)) : Nat) : Int)
                unfold add;omega)
              have z2 : Hid (((xd : Int) + (t1 ⟨xa,xb,xc,xd,xe,xf,xg,xh⟩ kt wt : Nat)) % 4294967296=(add xd (t1 ⟨xa,xb,xc,xd,xe,xf,xg,xh⟩ kt wt) : Nat)):=Lib.hid (by unfold add;omega)
              go_wp2
              go_roundg (64 - t)
              case rel =>
                exact ⟨t + 1,add (t1 ⟨xa,xb,xc,xd,xe,xf,xg,xh⟩ kt wt) (t2 ⟨xa,xb,xc,xd,xe,xf,xg,xh⟩),xa,xb,xc,add xd (t1 ⟨xa,xb,xc,xd,xe,xf,xg,xh⟩ kt wt),xe,xf,xg,by omega,by go_num,Lib.hid (by rw [HN.out];rfl),
                  by rw [z1.out],rfl,rfl,rfl,by rw [z2.out],rfl,rfl,rfl,HA3.out.drewN m3,HK3.out.drewN m3,HR3.out.drewN m3,by omega⟩
              case measure=>omega
            · have : t=64:=by omega
              subst this
              have q0 : wr.cell? ⟨w.heap.size,0,none⟩=some (.int .u32 sa):=hR.s.cell rfl
              have q1 : wr.cell? ⟨w.heap.size,1,none⟩=some (.int .u32 sb):=hR.s.cell rfl
              have q2 : wr.cell? ⟨w.heap.size,2,none⟩=some (.int .u32 sc):=hR.s.cell rfl
              have q3 : wr.cell? ⟨w.heap.size,3,none⟩=some (.int .u32 sd):=hR.s.cell rfl
              have q4 : wr.cell? ⟨w.heap.size,4,none⟩=some (.int .u32 se):=hR.s.cell rfl
              have q5 : wr.cell? ⟨w.heap.size,5,none⟩=some (.int .u32 sf):=hR.s.cell rfl
              have q6 : wr.cell? ⟨w.heap.size,6,none⟩=some (.int .u32 sg):=hR.s.cell rfl
              have q7 : wr.cell? ⟨w.heap.size,7,none⟩=some (.int .u32 sh):=hR.s.cell rfl
              obtain ⟨vs,hvs⟩ : ∃ vs : Array Value,vs=#[.int .u32 (((sa : Int) + xa) % 4294967296),.int .u32 (((sb : Int) + xb) % 4294967296),.int .u32 (((sc : Int) + xc) % 4294967296),.int .u32 (((sd : Int) + xd) % 4294967296),.int .u32 (((se : Int) + xe) % 4294967296),.int .u32 (((sf : Int) + xf) % 4294967296),.int .u32 (((sg : Int) + xg) % 4294967296),.int .u32 (((sh : Int) + xh) % 4294967296)]:=⟨_,rfl⟩
              have hvf : vs=(ints .u32 (stV fin)).toArray:=by
                rw [hvs,HWS.out,HE.out]
                simp only [St.add,stV,ints,List.map_cons,List.map_nil,add]
                simp
              have hvz : (Tryd.prog.info? 133).map (·.size)=some vs.size:=by rw [hvs];kernel_rfl
              have hvo : vs.all (·.oneCell')=true:=by rw [hvf];simp [ints,Value.oneCell']
              have hv8 : (ints .u32 (List.replicate 8 0)).toArray.size=vs.size:=by rw [hvs];rfl
              have hset:=setRow_heap wr (w.heap.size + 1) _ vs 133 (0,0) hR.r
              have hgf:=grown_below hR.g (below_setRow (Below.refl w.heap.size wr) (Nat.le_succ w.heap.size) vs) (Nat.le_refl _)
              have HRr:=Lib.hid hR.r
              have HVS:=Lib.hid hvs
              have HVF:=Lib.hid hvf
              have HVZ2:=Lib.hid hvz
              have HVO2:=Lib.hid hvo
              have HV8:=Lib.hid hv8
              have HST2:=Lib.hid hset
              have HGF:=Lib.hid hgf
              clear hvs hvf hvz hvo hv8 hset hgf hA hK hR
              go_wp2_with (refine wpList_store_row rfl 133 (.tmp 4) (.tmp 190) rfl (w.heap.size + 1) vs rfl (by rw [HVS.out];rfl) 133 (ints .u32 (List.replicate 8 0)).toArray HRr.out HVZ2.out HV8.out HVO2.out ?_)
              exact bodyPost_ret (v:=.agg vs) (results_cell_row rfl _ _ (w.heap.size + 1) 133 vs (0,0) (.array 8 132) rfl HST2.out (by kernel_rfl) rfl HVZ2.out) rfl ⟨by rw [HVF.out],HGF.out⟩
end Go.Proofs.YtjbcfdgnafmbkaaDoor.Sha
end
section
set_option linter.unusedVariables false
namespace Go.Proofs.YtjbcfdgnafmbkaaDoor.Sha
open Go.RowKit Go.Proofs.YtjbcfdgnafmbkaaDoor Go.Proofs.YtjbcfdgnafmbkaaDoorW.PrintWords Go.Proofs.YtjbcfdgnafmbkaaDoor.PGroup Go.Proofs.YtjbcfdgnafmbkaaDoorW.PrintMore
theorem grownBy_setRow (W : World) (g : Nat) (cs : Array Value) : W.grownBy (W.setRow g cs) (some g) :=
  ⟨rfl,rfl,rfl,Nat.le_of_eq (size_setRow W g cs).symm,fun k _ hk=>setRow_other W g k cs (fun e=>hk (by rw [e]))⟩
theorem stV_length (s : St) : (stV s).length=8:=rfl
theorem below_none {A B : World} (h : A.grownBy B none) : Below A.heap.size A B:=⟨h.os,h.tape,h.output,h.size,fun k hk=>h.block k hk (by simp)⟩
theorem C_of_byt {w : World} {A : Option Addr} {l : List Nat} (h : Byt w A l) (hl : l.length ≤ 9223372036854775807) : Kd.C (Kd.int .u8) w A l.length (toI l):=by
  refine ⟨toI_length l,hl,fun hp=>?_⟩
  obtain ⟨b,o,rfl,hc⟩:=h.2 hp
  refine ⟨_,rfl,fun j p hj=>?_⟩
  have hjl : j < l.length:=by have:=(List.getElem?_eq_some_iff.1 hj).1;rwa [toI_length] at this
  refine ⟨[.int .u8 p],rfl,rfl,fun i u hu=>?_⟩
  have hp : p=(l.getD j 0 : Nat):=by
    simp only [toI,List.getElem?_map,List.getElem?_eq_getElem hjl,Option.map_some,Option.some.injEq] at hj
    rw [← hj,List.getD_eq_getElem?_getD,List.getElem?_eq_getElem hjl];rfl
  match i,hu with
  | 0,hu =>
    cases hu
    show w.cell? ((⟨b,o,none⟩ : Addr).add (j * 1 + 0))=_
    rw [Nat.mul_one,Nat.add_zero,show (⟨b,o,none⟩ : Addr).add j=⟨b,o + j,none⟩ from by unfold Addr.add;split <;> simp_all,hp]
    exact hc j hjl
theorem Byt.grown {A B : World} {row : Option Nat} {a : Option Addr} {l : List Nat} (h : Byt A a l) (g : A.grownBy B none) : Byt B a l :=
  ⟨h.1,fun hp=>by
    obtain ⟨b,o,e,hc⟩:=h.2 hp
    exact ⟨b,o,e,fun j hj=>cell_grown g (hc j hj) (fun r e=>by cases e)⟩⟩
theorem blocks_drop (N n : Nat) (st : St) (p : List Nat) (hn : n < N) (h : blocks N H0 p=blocks (N - n) st (p.drop (64 * n))) :
    blocks N H0 p=blocks (N - (n + 1)) (absorb st ((p.drop (64 * n)).take 64)) (p.drop (64 * (n + 1))):=by
  rw [h,show N - n=(N - (n + 1)) + 1 from by omega]
  show blocks _ _ ((p.drop (64 * n)).drop 64)=_
  rw [List.drop_drop,Nat.mul_add]
theorem bytes_get (s : St) (i : Nat) (h : i < 32) : (bytes s).getD i 0=(stV s).getD (i / 4) 0 / 2 ^ (24 - 8 * (i % 4)) % 256:=by
  obtain ⟨q,r,rfl,hr,hq⟩ : ∃ q r,i=4 * q + r ∧ r < 4 ∧ q < 8:=⟨i / 4,i % 4,by omega,by omega,by omega⟩
  rw [show (4 * q + r) / 4=q from by omega,show (4 * q + r) % 4=r from by omega]
  match q,hq,r,hr with
  | 0,_,0,_=>rfl | 0,_,1,_=>rfl | 0,_,2,_=>rfl | 0,_,3,_=>simp [bytes,be4,stV]
  | 1,_,0,_=>rfl | 1,_,1,_=>rfl | 1,_,2,_=>rfl | 1,_,3,_=>simp [bytes,be4,stV]
  | 2,_,0,_=>rfl | 2,_,1,_=>rfl | 2,_,2,_=>rfl | 2,_,3,_=>simp [bytes,be4,stV]
  | 3,_,0,_=>rfl | 3,_,1,_=>rfl | 3,_,2,_=>rfl | 3,_,3,_=>simp [bytes,be4,stV]
  | 4,_,0,_=>rfl | 4,_,1,_=>rfl | 4,_,2,_=>rfl | 4,_,3,_=>simp [bytes,be4,stV]
  | 5,_,0,_=>rfl | 5,_,1,_=>rfl | 5,_,2,_=>rfl | 5,_,3,_=>simp [bytes,be4,stV]
  | 6,_,0,_=>rfl | 6,_,1,_=>rfl | 6,_,2,_=>rfl | 6,_,3,_=>simp [bytes,be4,stV]
  | 7,_,0,_=>rfl | 7,_,1,_=>rfl | 7,_,2,_=>rfl | 7,_,3,_=>simp [bytes,be4,stV]
set_option maxHeartbeats 2000000 in
set_option maxRecDepth 100000 in
theorem rsum_c (A : Option Addr) (cap : Nat) (l : List Nat) (w : World) (hC : Kd.C (Kd.int .u8) w A l.length (toI l)) (hb : ∀ x ∈ l,x < 256) (hlen : l.length ≤ cap) (hsm : l.length ≤ 35184372088832) :
    Calls Tryd.prog 94 #[.slice A l.length cap] w fun e w'=>e=.returned (.agg (ints .u8 (sum l)).toArray) ∧ w.grownBy w' none:=by
  obtain ⟨k,hk⟩:=padded_f l hsm
  have hpl:=padL_length l
  have hpb:=padL_lt hb
  have hps:=sum_pad l
  obtain ⟨p,hp⟩ : ∃ p,p=padL l:=⟨_,rfl⟩
  rw [← hp] at hk hpl hpb hps
  have HC:=Lib.hid hC
  have HK:=Lib.hid hk
  have HPB:=Lib.hid hpb
  have HSUM:=Lib.hid hps
  obtain ⟨N,hN⟩ : ∃ N,N=l.length / 64 + if l.length % 64 ≤ 55 then 1 else 2:=⟨_,rfl⟩
  have hNs : N ≤ 549755813890:=by rw [hN];split <;> omega
  have hN1 : 1 ≤ N:=by rw [hN];split <;> omega
  rw [← hN] at hpl
  have HPL:=Lib.hid hpl
  clear hC hk hpb hps hp hN hb
  have hll:=toI_length l
  have HLL:=Lib.hid hll
  clear hll
  go_enter Tryd.func94,Tryd.ntmps94
  go_wp2_with fail
  generalize hW1 : (w.alloc _).alloc _=W1
  have hD1 : Arr W1 w.heap.size 30 (ints .u8 (List.replicate 32 0)):=by rw [← hW1];exact (Arr.new w 30 _).alloc _
  have hS1 : Arr W1 (w.heap.size + 1) 133 (ints .u32 (stV H0)):=by
    rw [← hW1];have:=Arr.new (w.alloc (.cells (ints .u8 (List.replicate 32 0)).toArray 30)) 133 (ints .u32 (stV H0));rw [show (w.alloc (.cells (ints .u8 (List.replicate 32 0)).toArray 30)).heap.size=w.heap.size + 1 from by simp] at this;exact this
  have hg1 : w.grownBy W1 none:=by rw [← hW1];exact grown_alloc (grown_alloc (grownBy_refl w none) _) _
  clear hW1
  have hpc:=R02_padded.calls k A cap (toI l) (toI p) W1 (by rw [HLL.out];exact Kd.C_below HC.out (below_none hg1)) (by rw [HLL.out];exact hlen) HK.out
  rw [HLL.out] at hpc
  refine hpc.mono ?_
  clear hpc
  rintro e w2 ⟨v,rfl,hR2,hb2⟩
  have hD2:=hD1.below hb2 hD1.lt
  have hS2:=hS1.below hb2 hS1.lt
  have hg2:=grown_below hg1 hb2 hg1.size
  obtain ⟨b,c2,rfl,hgb,hglt,_⟩:=Kd.R_form hR2 (by rw [toI_length,HPL.out];omega)
  obtain ⟨A2,c2',he2,hc2,hr2⟩:=Kd.R_reads hR2
  injection he2 with he2 he3 he4
  subst he2 he4
  clear he3
  have hcap2 : c2 ≤ 9223372036854775807:=R_cap hR2
  have hbS : b ≠ w.heap.size + 1:=by have:=hS1.lt;omega
  rw [toI_length] at hc2 hr2 ⊢
  have hby2:=byt_of_C hr2 HPB.out
  have HBY:=Lib.hid hby2
  clear hR2 hr2 hby2 hD1 hS1 hg1 hb2
  rw [HPL.out] at hc2 ⊢
  go_wp2
  go_loopg [5] (N + 1) (fun g v w'=>∃ (n : Nat) (st : St),n ≤ N ∧ st.ok ∧ v=.int .i64 (64 * (n : Int)) ∧ Hid (blocks N H0 p=blocks (N - n) st (p.drop (64 * n))) ∧ Arr w' (w.heap.size + 1) 133 (ints .u32 (stV st)) ∧ Arr w' w.heap.size 30 (ints .u8 (List.replicate 32 0)) ∧ w.grownBy w' none ∧ w2.grownBy w' (some (w.heap.size + 1)) ∧ N - n < g)
  case atStart=>exact ⟨0,H0,by omega,H0_ok,rfl,Lib.hid rfl,hS2,hD2,hg2,grownBy_refl _ _,by omega⟩
  case round =>
    clear hS2 hD2
    obtain ⟨n,st,hn,hst,rfl,HE,hS,hD,hg,hg3,hgk⟩:=hrel
    by_cases hlt : n < N
    · have t1 : decide ((64 * (n : Int)) < (64 * (N : Int)))=true:=decide_eq_true (by omega)
      obtain ⟨b',o,hA2,hcell⟩:=HBY.out.2 (by rw [HPL.out];omega)
      injection hA2 with hA2
      injection hA2 with hA2 hA3 hA4
      subst hA2 hA3
      clear hA4
      have hdl : (p.drop (64 * n)).length=64 * N - 64 * n:=by rw [List.length_drop,HPL.out]
      have hcell2 : ∀ j,j < 64 → wr.cell? ⟨b,64 * n + j,none⟩=some (.int .u8 (((p.drop (64 * n)).take 64).getD j 0 : Nat)):=fun j hj=>by
        have:=cell_grown hg3 (hcell (64 * n + j) (by rw [HPL.out];omega)) (fun r e=>by cases e;exact hbS)
        rw [Nat.zero_add] at this
        rw [this]
        simp [List.getD,hj]
      have hblk:=fun m=>rblock_c b (64 * n) (c2 - 64 * n) st hst ((p.drop (64 * n)).take 64) (by rw [List.length_take,hdl];omega) (fun x hx=>HPB.out x (List.mem_of_mem_drop (List.mem_of_mem_take hx))) (wr.drewN m) hcell2 (by omega) (by omega)
      have HE2 : Hid (blocks N H0 p=blocks (N - (n + 1)) (absorb st ((p.drop (64 * n)).take 64)) (p.drop (64 * (n + 1)))):=Lib.hid (blocks_drop N n st p hlt HE.out)
      have hok2:=absorb_ok st ((p.drop (64 * n)).take 64)
      generalize absorb st ((p.drop (64 * n)).take 64)=st2 at *
      have HBL:=Lib.hid hblk
      have HSS:=Lib.hid hS
      have HDD:=Lib.hid hD
      have HOK2:=Lib.hid hok2
      clear hcell hcell2 hdl hblk hok2 HE
      have HGG:=Lib.hid hg
      have HG3:=Lib.hid hg3
      obtain ⟨sa,sb,sc,sd,se,sf,sg,sh⟩:=st
      have q0 : wr.cell? ⟨w.heap.size + 1,0,none⟩=some (.int .u32 sa):=hS.cell rfl
      have q1 : wr.cell? ⟨w.heap.size + 1,1,none⟩=some (.int .u32 sb):=hS.cell rfl
      have q2 : wr.cell? ⟨w.heap.size + 1,2,none⟩=some (.int .u32 sc):=hS.cell rfl
      have q3 : wr.cell? ⟨w.heap.size + 1,3,none⟩=some (.int .u32 sd):=hS.cell rfl
      have q4 : wr.cell? ⟨w.heap.size + 1,4,none⟩=some (.int .u32 se):=hS.cell rfl
      have q5 : wr.cell? ⟨w.heap.size + 1,5,none⟩=some (.int .u32 sf):=hS.cell rfl
      have q6 : wr.cell? ⟨w.heap.size + 1,6,none⟩=some (.int .u32 sg):=hS.cell rfl
      have q7 : wr.cell? ⟨w.heap.size + 1,7,none⟩=some (.int .u32 sh):=hS.cell rfl
      clear hS hD hg hg3 hst
      go_wp2_with fail
      refine wp_region_quiet_tail 6 (by kernel_rfl) (by kernel_rfl) ?_
      simp only [List.take_succ_cons,List.take_zero,List.drop_succ_cons,List.drop_zero]
      repeat (go_big_quiet_step (fail))
      refine wpQuiet_nil ?_
      intro m
      clear q0 q1 q2 q3 q4 q5 q6 q7
      go_wp2_with fail
      refine (HBL.out m).mono ?_
      rintro e w4 ⟨rfl,hg4⟩
      have hS4:=(HSS.out.drewN m).kept hg4 (by simp)
      have hD4:=(HDD.out.drewN m).kept hg4 (by simp)
      have hg5:=grownBy_trans (grown_drewN HGG.out m) hg4
      have hg6:=grownBy_trans (grown_drewN HG3.out m) (grown_row_of_none hg4 (some (w.heap.size + 1)))
      obtain ⟨vs,hvs⟩ : ∃ vs,vs=ints .u32 (stV st2):=⟨_,rfl⟩
      have hvz : (Tryd.prog.info? 133).map (·.size)=some vs.toArray.size:=by rw [show vs.toArray.size=8 from by rw [hvs,List.size_toArray,ints_length];rfl];kernel_rfl
      have hvo : vs.toArray.all (·.oneCell')=true:=by rw [hvs];simp [ints,Value.oneCell']
      have hv8 : (ints .u32 (stV ⟨sa,sb,sc,sd,se,sf,sg,sh⟩)).toArray.size=vs.toArray.size:=by rw [hvs,List.size_toArray,List.size_toArray,ints_length,ints_length,stV_length,stV_length]
      have hset:=setRow_heap w4 (w.heap.size + 1) _ vs.toArray 133 (0,0) hS4
      have hgr:=grownBy_setRow w4 (w.heap.size + 1) vs.toArray
      have hD7:=hD4.kept hgr (by simp)
      have hg7:=grown_trans_new hg5 hgr (by omega)
      have hg8:=grownBy_trans hg6 hgr
      have HVS:=Lib.hid hvs
      have HVZ:=Lib.hid hvz
      have HVO:=Lib.hid hvo
      have HV8:=Lib.hid hv8
      have HS4:=Lib.hid hS4
      have HS7:=Lib.hid hset
      have HD7:=Lib.hid hD7
      have HG7:=Lib.hid hg7
      have HG8:=Lib.hid hg8
      rw [← hvs]
      clear hvz hvo hv8 hset hgr hD7 hg7 hg8 hg5 hg6 hS4 hD4 hg4 hvs
      go_wp2_with (refine wpList_store_row rfl 133 (.tmp 3) (.tmp 23) rfl (w.heap.size + 1) vs.toArray rfl rfl 133 (ints .u32 (stV ⟨sa,sb,sc,sd,se,sf,sg,sh⟩)).toArray HS4.out HVZ.out HV8.out HVO.out ?_)
      generalize hW8 : w4.setRow _ _=w8
      have hS8 : Arr w8 (w.heap.size + 1) 133 (ints .u32 (stV st2)):=by rw [← hW8,← HVS.out];exact HS7.out
      go_roundg (N - n)
      case rel=>exact ⟨n + 1,st2,by omega,HOK2.out,congrArg (Value.int .i64) (by omega),HE2,hS8,by rw [← hW8];exact HD7.out,by rw [← hW8];exact HG7.out,by rw [← hW8];exact HG8.out,by omega⟩
      case measure=>omega
    · have : n=N:=by omega
      subst this
      have hfe : sum l=bytes st:=by rw [HSUM.out,HPL.out,Nat.mul_div_cancel_left _ (by decide),HE.out,Nat.sub_self];rfl
      have HF:=Lib.hid hfe
      clear HE hfe hg3
      obtain ⟨zs,hzs⟩ : ∃ zs,zs=ints .u8 (List.replicate 32 0):=⟨_,rfl⟩
      have hvz : (Tryd.prog.info? 30).map (·.size)=some zs.toArray.size:=by rw [hzs];kernel_rfl
      have hvo : zs.toArray.all (·.oneCell')=true:=by rw [hzs];kernel_rfl
      have hA0:=Arr.new wr 30 (ints .u8 (List.replicate 32 0))
      have hset:=setRow_heap _ _ _ (ints .u8 (List.replicate 32 0)).toArray 30 (0,0) hA0
      have hbw:=below_setRow (Below.refl wr.heap.size (wr.alloc (.cells (ints .u8 (List.replicate 32 0)).toArray 30))) (Nat.le_refl _) (ints .u8 (List.replicate 32 0)).toArray
      have hS1:=(hS.alloc (.cells (ints .u8 (List.replicate 32 0)).toArray 30)).below hbw hS.lt
      have hD1:=(hD.alloc (.cells (ints .u8 (List.replicate 32 0)).toArray 30)).below hbw hD.lt
      have hg1:=grown_below (grown_alloc hg (.cells (ints .u8 (List.replicate 32 0)).toArray 30)) hbw hg.size
      have hlt1:=hS.lt
      have HVZ:=Lib.hid hvz
      have HVO:=Lib.hid hvo
      have HZS:=Lib.hid hzs
      have HA0:=Lib.hid hA0
      have HSET:=Lib.hid hset
      have HS1:=Lib.hid hS1
      have HD1:=Lib.hid hD1
      have HG1:=Lib.hid hg1
      clear hvz hvo hzs hA0 hset hbw hS1 hD1 hg1 hS hD hg
      go_upto_block 2 with (refine wpList_store_row rfl 30 (.tmp 6) (.tmp 24) rfl wr.heap.size (ints .u8 (List.replicate 32 0)).toArray rfl rfl 30 (ints .u8 (List.replicate 32 0)).toArray HA0.out (by rw [← HZS.out];exact HVZ.out) rfl (by rw [← HZS.out];exact HVO.out) ?_;generalize hW : World.setRow _ _ _=W5;have hS5 : Arr W5 (w.heap.size + 1) 133 (ints .u32 (stV st)):=(by rw [← hW];exact HS1.out);have hD5 : Arr W5 w.heap.size 30 (ints .u8 (List.replicate 32 0)):=(by rw [← hW];exact HD1.out);have hE5 : Arr W5 wr.heap.size 30 (ints .u8 (List.replicate 32 0)):=(by rw [← hW];exact HSET.out);have hg5 : w.grownBy W5 none:=(by rw [← hW];exact HG1.out);have HS5:=Lib.hid hS5;have HD5:=Lib.hid hD5;have HE5:=Lib.hid hE5;have HG5:=Lib.hid hg5;clear hS5 hD5 hE5 hg5 hW)
      clear HA0 HSET HS1 HD1 HG1
      obtain ⟨E,hE⟩ : ∃ E,E=wr.heap.size:=⟨_,rfl⟩
      rw [← hE] at HE5 ⊢
      have hEw : w.heap.size + 1 < E:=by omega
      clear hE hlt1
      go_wp2
      go_loopg [7] 33 (fun g v w'=>∃ i : Nat,i ≤ 32 ∧ v=.int .i64 i ∧ Arr w' E 30 (ints .u8 ((bytes st).take i ++ (List.replicate 32 0).drop i)) ∧ Arr w' (w.heap.size + 1) 133 (ints .u32 (stV st)) ∧ Arr w' w.heap.size 30 (ints .u8 (List.replicate 32 0)) ∧ w.grownBy w' none ∧ 32 - i < g)
      case atStart=>exact ⟨0,by omega,rfl,HE5.out,HS5.out,HD5.out,HG5.out,by omega⟩
      case round =>
        clear HE5 HS5 HD5 HG5
        obtain ⟨i,hi,rfl,hE,hS,hD,hg,hgk⟩:=hrel
        by_cases hlt : i < 32
        · have b0 : (i : Int) < 32:=by omega
          obtain ⟨c,hc⟩ : ∃ c,c=24 - 8 * (i % 4):=⟨_,rfl⟩
          have hc24 : c ≤ 24:=by omega
          have w1 : IntKind.i64.wrap (24 - 8 * ((i : Int) % 4))=(c : Int):=by rw [IntKind.wrap_i64];omega
          have w2 : (24 - 8 * ((i : Int) % 4))=(c : Int):=by omega
          have cS:=hS.cell (ints_get .u32 (stV st) (j:=i / 4) (by simp [stV];omega))
          have cE:=hE.cell (ints_get .u8 ((bytes st).take i ++ (List.replicate 32 0).drop i) (j:=i) (by simp [bytes_length];omega))
          have fE:=hE.frozen i
          have hs:=hE.set i (.int .u8 ((bytes st).getD i 0 : Nat))
          rw [ints_set,cut_set (bytes st) (List.replicate 32 0) i (by rw [bytes_length];omega) (by simp [bytes_length])] at hs
          rw [cut_get (bytes st) (List.replicate 32 0) i (by rw [bytes_length];omega)] at cE
          have hget:=bytes_get st i hlt
          rw [← hc] at hget
          have HHS:=Lib.hid hs
          have HSS:=Lib.hid (hS.other (B':=E) (by omega) i (.int .u8 ((bytes st).getD i 0 : Nat)))
          have HDD:=Lib.hid (hD.other (B':=E) (by omega) i (.int .u8 ((bytes st).getD i 0 : Nat)))
          have HGG:=Lib.hid (grown_new hg (b:=E) (by omega) i (.int .u8 ((bytes st).getD i 0 : Nat)))
          clear hs hS hD hg hE
          generalize (stV st).getD (i / 4) 0=x at *
          generalize (bytes st).getD i 0=y at *
          generalize (List.replicate 32 0).getD i 0=z at *
          have hy : ((x : Int) / 2 ^ c % 256)=(y : Int):=by rw [hget];simp
          clear hget hc
          go_wp2
          have hfix : ((x : Int) / 2 ^ c) % 256=(y : Int):=hy
          go_roundg (32 - i)
          case rel=>exact ⟨i + 1,by omega,by go_num,HHS.out,HSS.out,HDD.out,HGG.out,by omega⟩
          case measure=>omega
        · have : i=32:=by omega
          subst this
          have e32 : (bytes st).take 32 ++ (List.replicate 32 0).drop 32=bytes st:=by
            rw [List.take_of_length_le (by rw [bytes_length];decide),List.drop_of_length_le (by simp),List.append_nil]
          rw [e32,← HF.out] at hE
          have hvl : (ints .u8 (sum l)).length=32:=by rw [HF.out];rfl
          have hvo : (ints .u8 (sum l)).toArray.all (·.oneCell')=true:=by simp [ints,Value.oneCell']
          obtain ⟨vs,hvs⟩ : ∃ vs,vs=ints .u8 (sum l):=⟨_,rfl⟩
          rw [← hvs] at hE hvl hvo
          have hvz : (Tryd.prog.info? 30).map (·.size)=some vs.toArray.size:=by rw [List.size_toArray,hvl];kernel_rfl
          have hv32 : (ints .u8 (List.replicate 32 0)).toArray.size=vs.toArray.size:=by rw [List.size_toArray,List.size_toArray,hvl,ints_length,List.length_replicate]
          have hu : Tryd.prog.underlying 30=some (.array 32 5):=by kernel_rfl
          have hset:=setRow_heap wr w.heap.size _ vs.toArray 30 (0,0) hD
          have hgf:=grown_below hg (below_setRow (Below.refl w.heap.size wr) (Nat.le_refl _) vs.toArray) (Nat.le_refl _)
          have HU:=Lib.hid hu
          have HVZ2:=Lib.hid hvz
          have HVO2:=Lib.hid hvo
          have HV32:=Lib.hid hv32
          have HP:=Lib.hid hE
          have HDD:=Lib.hid hD
          have HSET:=Lib.hid hset
          have HGF:=Lib.hid hgf
          have HVSU:=Lib.hid hvs
          clear hvl hvo hvs hvz hv32 hu hset hgf hE hD hS hg e32
          go_wp2_with (first | (refine wpList_load_row rfl 30 (.tmp 6) rfl E rfl 30 vs.toArray (0,0) (.array 32 5) HP.out HU.out rfl HVZ2.out ?_) | (refine wpList_store_row rfl 30 (.tmp 2) (.tmp 41) rfl w.heap.size vs.toArray rfl rfl 30 (ints .u8 (List.replicate 32 0)).toArray HDD.out HVZ2.out HV32.out HVO2.out ?_))
          exact bodyPost_ret (v:=.agg vs.toArray) (results_cell_row rfl _ _ w.heap.size 30 vs.toArray (0,0) (.array 32 5) rfl HSET.out HU.out rfl HVZ2.out) rfl ⟨by rw [HVSU.out],HGF.out⟩
end Go.Proofs.YtjbcfdgnafmbkaaDoor.Sha
end
section
set_option linter.unusedVariables false
namespace Go.Proofs.YtjbcfdgnafmbkaaDoor.Sha
open Go.RowKit Go.Proofs.YtjbcfdgnafmbkaaDoor Go.Proofs.YtjbcfdgnafmbkaaDoorW.PrintWords Go.Proofs.YtjbcfdgnafmbkaaDoor.PGroup Go.Proofs.YtjbcfdgnafmbkaaDoorW.PrintMore
set_option maxHeartbeats 1000000 in
set_option maxRecDepth 100000 in
theorem rtagged_c (tag : ByteArray) (A : Option Addr) (cap : Nat) (l : List Nat) (w : World) (hC : Kd.C (Kd.int .u8) w A l.length (toI l)) (hl : ∀ x ∈ l,x < 256) (hc0 : l.length ≤ cap) (hs1 : tag.size ≤ 1099511627776) (hs2 : l.length ≤ 1099511627776) :
    Calls Tryd.prog 56 #[.string tag,.slice A l.length cap] w fun e w'=>e=.returned (.agg (ints .u8 (tagged (strL tag) l)).toArray) ∧ w.grownBy w' none:=by
  have HC:=Lib.hid hC
  have HB:=Lib.hid hl
  clear hC hl
  have hconv : ∀ W : World,(convert 9 22 (.string tag)).run Tryd.prog W=.ok (.slice (some ⟨W.heap.size,0,none⟩) tag.size (grownCap W tag.size 0 5))
      (W.drew.alloc (.cells (bytesRow tag (grownCap W tag.size 0 5)) 5 ((bytesRow tag (grownCap W tag.size 0 5)).size,(bytesRow tag (grownCap W tag.size 0 5)).size + 1))) :=
    fun W=>run_bytes_of_string W 9 22 5 tag (by kernel_rfl) und22 (by kernel_rfl)
  go_enter Tryd.func56,Tryd.ntmps56
  go_wp2_with fail
  generalize hW1 : w.alloc _=W1
  have hD1 : Arr W1 w.heap.size 30 (ints .u8 (List.replicate 32 0)):=by rw [← hW1];exact Arr.new w 30 (ints .u8 (List.replicate 32 0))
  have hg1 : w.grownBy W1 none:=by rw [← hW1];exact World.grownBy_alloc w _ none
  have hz1 : W1.heap.size=w.heap.size + 1:=by rw [← hW1];simp
  clear hW1 hconv
  rw [← hz1]
  generalize hcap : grownCap W1 tag.size 0 5=cp
  have hcp1 : tag.size ≤ cp:=by rw [← hcap];exact grownCap_ge _ _ _ _
  have hcp2 : cp ≤ 9223372036854775807:=by rw [← hcap];exact grownCap_le_maxLen _ _ _ _ (by simp only [maxLen];omega)
  clear hcap
  have hT2:=World.alloc_heap_new W1 (.cells (bytesRow tag cp) 5 ((bytesRow tag cp).size,(bytesRow tag cp).size + 1))
  have hg2:=World.grownBy_alloc W1 (.cells (bytesRow tag cp) 5 ((bytesRow tag cp).size,(bytesRow tag cp).size + 1)) none
  have hg3:=grown_drew (grownBy_trans hg1 hg2)
  have hby:=cells_string (W1.alloc (.cells (bytesRow tag cp) 5 ((bytesRow tag cp).size,(bytesRow tag cp).size + 1))).drew tag W1.heap.size cp _ hT2
  have hD2 : Arr (W1.alloc (.cells (bytesRow tag cp) 5 ((bytesRow tag cp).size,(bytesRow tag cp).size + 1))).drew w.heap.size 30 (ints .u8 (List.replicate 32 0)):=(hD1.alloc _).drew
  generalize (W1.alloc (.cells (bytesRow tag cp) 5 ((bytesRow tag cp).size,(bytesRow tag cp).size + 1))).drew=W2 at *
  clear hT2 hg2 hg1 hD1
  rw [← strL_length tag]
  refine (rsum_c (some ⟨W1.heap.size,0,none⟩) cp (strL tag) W2 (C_of_byt hby (by rw [strL_length];omega)) (strL_lt tag) (by rw [strL_length];exact hcp1) (by rw [strL_length];omega)).mono ?_
  rintro e w3 ⟨rfl,hg4⟩
  have hD3:=hD2.kept hg4 (by simp)
  have hg5:=grownBy_trans hg3 hg4
  have hw3:=hg5.size
  have hDl:=hD3.lt
  clear hby hD2 hg3 hg4
  rw [strL_length tag]
  have hvz : (Tryd.prog.info? 30).map (·.size)=some (ints .u8 (sum (strL tag))).toArray.size:=by rw [List.size_toArray,ints_length,sum,bytes_length];kernel_rfl
  have hvo : (ints .u8 (sum (strL tag))).toArray.all (·.oneCell')=true:=by simp [ints,Value.oneCell']
  have hv32 : (ints .u8 (List.replicate 32 0)).toArray.size=(ints .u8 (sum (strL tag))).toArray.size:=by rw [List.size_toArray,List.size_toArray,ints_length,ints_length,sum,bytes_length,List.length_replicate]
  have HVZ:=Lib.hid hvz
  have HVO:=Lib.hid hvo
  have HV32:=Lib.hid hv32
  clear hvz hvo hv32
  go_upto_region 2 with (refine wpList_store_row rfl 30 (.tmp 5) (.tmp 8) rfl w3.heap.size (ints .u8 (sum (strL tag))).toArray rfl rfl 30 (ints .u8 (List.replicate 32 0)).toArray (Arr.new w3 30 (ints .u8 (List.replicate 32 0))) HVZ.out HV32.out HVO.out ?_)
  generalize hW4 : World.setRow _ _ _=W4
  have hA3 : Arr (w3.alloc (.cells (ints .u8 (List.replicate 32 0)).toArray 30)) w3.heap.size 30 (ints .u8 (List.replicate 32 0)):=Arr.new w3 30 _
  have hT4 : Arr W4 w3.heap.size 30 (ints .u8 (sum (strL tag))):=by rw [← hW4];exact setRow_heap _ _ _ _ _ _ hA3
  have hD4 : Arr W4 w.heap.size 30 (ints .u8 (List.replicate 32 0)):=by rw [← hW4];exact (hD3.alloc _).below (below_setRow (Below.refl w3.heap.size _) (Nat.le_refl _) _) hDl
  have hg6 : w.grownBy W4 none:=by rw [← hW4];exact grown_below (grown_alloc hg5 _) (below_setRow (Below.refl w.heap.size _) hw3 _) (Nat.le_refl _)
  have hz4 : W4.heap.size=w3.heap.size + 1:=by rw [← hW4];simp [World.setRow]
  have hlS : W4.heap.size=W4.heap.size:=rfl
  have hl32 : (sum (strL tag)).length=32:=bytes_length _
  have hC1 : Kd.C (Kd.int .u8) W4 (some ⟨w3.heap.size,0,none⟩) 32 (toI (sum (strL tag))):=by
    have:=C_of_arr hT4 (by rw [hl32];decide)
    rw [hl32] at this;exact this
  have hC2:=Kd.C_below HC.out (below_none hg6)
  have HC1:=Lib.hid hC1
  have HC2:=Lib.hid hC2
  have HD4:=Lib.hid hD4
  have HG6:=Lib.hid hg6
  have HL32:=Lib.hid hl32
  have hlI : (toI (sum (strL tag))).length=32:=by rw [toI_length,hl32]
  have HLI:=Lib.hid hlI
  clear hC1 hC2 hD4 hg6 hl32 hlI hlS hW4 hA3 hT4 hD3 hg5 hz4
  go_wp2_with (first | ((with_reducible refine gate_dst (N:=9) rfl ?_);refine Kd.R_lit (Kd.int .u8) _ 5 ?hg (N:=9) ?hd (xs:=([] : List Int)) (inner:=[]) (ok:=fun _=>True) (okp:=fun _=>True) ?hr ?hp (fun _ hk=>hk) trivial (Below.refl _ _) (Nat.le_refl _) (by simp) ?_;(case hd=>rfl);(case hg=>rfl);(case hr=>first | (go_simp;done) | (go_simp;rfl));(case hp=>exact (Reps.none _ _));intro v9 w5 ho5 hb5 hgr5 hnew5;have HO5:=Lib.hid ho5;have HB5:=Lib.hid hb5;have hs5:=hb5.size;have hC5:=Kd.C_below HC1.out hb5;have HC5:=Lib.hid hC5;clear ho5 hb5 hgr5 hnew5 hC5) | (at_builtin;refine Kd.R_append_rows (Kd.int .u8) (w0:=W4) W4.heap.size rfl (.tmp 9) (.tmp 10) 22 5 (.int .u8 0) 1 rfl und22 inf5 rfl (by decide) (by omega) v9 [] (toI (sum (strL tag))) (some ⟨w3.heap.size,0,none⟩) 32 32 (fun _=>True) (fun _=>False) rfl rfl HO5.out HC5.out (fun _ _ h=>h) (fun _ h=>h.elim) (fun _ _=>trivial) HB5.out hs5 (by have:=HLI.out;simp only [List.length_nil];omega) ?_;intro v11 w6 hR6 hb6 hg6 hat6;have HR6:=Lib.hid hR6;have HB6:=Lib.hid hb6;have hs6:=hb6.size;have hC6:=Kd.C_below HC2.out hb6;have HC6:=Lib.hid hC6;clear hR6 hb6 hg6 hat6 hC6) | (at_builtin;refine Kd.R_append_rows (Kd.int .u8) (w0:=W4) W4.heap.size rfl (.tmp 11) (.tmp 12) 22 5 (.int .u8 0) 1 rfl und22 inf5 rfl (by decide) (by omega) v11 ([] ++ toI (sum (strL tag))) (toI l) A l.length cap (fun _=>True) (fun _=>False) rfl rfl HR6.out HC6.out (fun _ _ h=>h) (fun _ h=>h.elim) (fun _ _=>trivial) HB6.out hs6 (by have h1:=HLI.out;have h2:=toI_length l;rw [List.nil_append];omega) ?_;intro v13 w7 hR7 hb7 hg7 hat7;have HR7:=Lib.hid hR7;have HB7:=Lib.hid hb7;clear hR7 hb7 hg7 hat7))
  have hR7:=HR7.out
  rw [List.nil_append,← toI_append] at hR7
  have hD7:=HD4.out.below HB7.out HD4.out.lt
  have hg7:=grown_below HG6.out HB7.out HG6.out.size
  obtain ⟨A6,c6,rfl,hc6,hr6⟩:=Kd.R_reads hR7
  have hcap6 : c6 ≤ 9223372036854775807:=R_cap hR7
  rw [toI_length] at hc6 hr6 ⊢
  have hlt6 : ∀ x ∈ sum (strL tag) ++ l,x < 256:=by
    intro x hx
    rcases List.mem_append.1 hx with hx | hx
    · exact bytes_lt _ x hx
    · exact HB.out x hx
  refine (rsum_c A6 c6 (sum (strL tag) ++ l) w7 hr6 hlt6 hc6 (by rw [List.length_append,HL32.out];omega)).mono ?_
  rintro e w8 ⟨rfl,hg9⟩
  have hD8:=hD7.kept hg9 (by simp)
  have hg10:=grownBy_trans hg7 hg9
  clear hR7 hD7 hg7 hg9 hr6 hc6 hcap6 HR7 HB7 HVZ HVO HV32
  have hvz : (Tryd.prog.info? 30).map (·.size)=some (ints .u8 (sum (sum (strL tag) ++ l))).toArray.size:=by rw [List.size_toArray,ints_length,sum,bytes_length];kernel_rfl
  have hvo : (ints .u8 (sum (sum (strL tag) ++ l))).toArray.all (·.oneCell')=true:=by simp [ints,Value.oneCell']
  have hv32 : (ints .u8 (List.replicate 32 0)).toArray.size=(ints .u8 (sum (sum (strL tag) ++ l))).toArray.size:=by rw [List.size_toArray,List.size_toArray,ints_length,ints_length,sum,bytes_length,List.length_replicate]
  have HVZ:=Lib.hid hvz
  have HVO:=Lib.hid hvo
  have HV32:=Lib.hid hv32
  have HD7:=Lib.hid hD8
  clear hvz hvo hv32 hD8
  go_wp2_with (refine wpList_store_row rfl 30 (.tmp 4) (.tmp 14) rfl w.heap.size (ints .u8 (sum (sum (strL tag) ++ l))).toArray rfl rfl 30 (ints .u8 (List.replicate 32 0)).toArray HD7.out HVZ.out HV32.out HVO.out ?_)
  have hfin : ints .u8 (tagged (strL tag) l)=ints .u8 (sum (sum (strL tag) ++ l)):=by rw [tagged]
  rw [hfin]
  generalize ints .u8 (sum (sum (strL tag) ++ l))=vs at *
  have hset:=setRow_heap w8 w.heap.size (ints .u8 (List.replicate 32 0)).toArray vs.toArray 30 (0,0) HD7.out
  have hgf:=grown_below hg10 (below_setRow (Below.refl w.heap.size w8) (Nat.le_refl w.heap.size) vs.toArray) (Nat.le_refl _)
  generalize World.setRow _ _ _=w9 at *
  exact bodyPost_ret (v:=.agg vs.toArray) (results_cell_row rfl _ _ w.heap.size 30 vs.toArray (0,0) (.array 32 5) rfl hset (by kernel_rfl) rfl HVZ.out) rfl ⟨rfl,hgf⟩
set_option maxHeartbeats 1000000 in
set_option maxRecDepth 100000 in
theorem rhash_c (tag : ByteArray) (A : Option Addr) (cap : Nat) (l : List Nat) (w : World) (hC : Kd.C (Kd.int .u8) w A l.length (toI l)) (hl : ∀ x ∈ l,x < 256) (hc0 : l.length ≤ cap) (hs1 : tag.size ≤ 1099511627776) (hs2 : l.length ≤ 1099511627776) :
    Calls Tryd.prog 21 #[.string tag,.slice A l.length cap] w fun e w'=>e=.returned (.int .i64 (hashN (strL tag) l)) ∧ w.grownBy w' none:=by
  have HT:=Lib.hid (rtagged_c tag A cap l w hC hl hc0 hs1 hs2)
  clear hC hl
  go_enter Tryd.func21,Tryd.ntmps21
  go_wp2_with fail
  refine HT.out.mono ?_
  rintro e w1 ⟨rfl,hg1⟩
  have HH : Hid (hashN (strL tag) l=num8 (tagged (strL tag) l) % 1073741789):=Lib.hid rfl
  have hdl:=tagged_length (strL tag) l
  have hdb:=tagged_lt (strL tag) l
  obtain ⟨R,hRE⟩ : ∃ R,R=hashN (strL tag) l:=⟨_,rfl⟩
  rw [← hRE] at HH
  have HRE:=Lib.hid hRE
  clear hRE
  generalize tagged (strL tag) l=D at *
  have hvz : (Tryd.prog.info? 30).map (·.size)=some (ints .u8 D).toArray.size:=by rw [List.size_toArray,ints_length,hdl];kernel_rfl
  have hvo : (ints .u8 D).toArray.all (·.oneCell')=true:=by simp [ints,Value.oneCell']
  have hv32 : (ints .u8 (List.replicate 32 0)).toArray.size=(ints .u8 D).toArray.size:=by rw [List.size_toArray,List.size_toArray,ints_length,ints_length,hdl,List.length_replicate]
  have hset:=setRow_heap (w1.alloc (.cells (ints .u8 (List.replicate 32 0)).toArray 30)) w1.heap.size (ints .u8 (List.replicate 32 0)).toArray (ints .u8 D).toArray 30 (0,0) (Arr.new w1 30 (ints .u8 (List.replicate 32 0)))
  have hgf:=grown_below (grown_alloc hg1 (.cells (ints .u8 (List.replicate 32 0)).toArray 30)) (below_setRow (Below.refl w.heap.size _) hg1.size (ints .u8 D).toArray) (Nat.le_refl _)
  have HS:=Lib.hid hset
  have HG:=Lib.hid hgf
  have HVZ:=Lib.hid hvz
  have HVO:=Lib.hid hvo
  have HV32:=Lib.hid hv32
  have HDL:=Lib.hid hdl
  have HDB:=Lib.hid hdb
  clear hvz hvo hv32 hset hgf hg1 hdl hdb HT
  go_upto_region 2 with (refine wpList_store_row rfl 30 (.tmp 5) (.tmp 10) rfl w1.heap.size (ints .u8 D).toArray rfl rfl 30 (ints .u8 (List.replicate 32 0)).toArray (Arr.new w1 30 (ints .u8 (List.replicate 32 0))) HVZ.out HV32.out HVO.out ?_;generalize hW : World.setRow _ _ _=w4;have hA4 : Arr w4 w1.heap.size 30 (ints .u8 D):=(by rw [← hW];exact HS.out);have HG4 : Hid (w.grownBy w4 none):=Lib.hid (by rw [← hW];exact HG.out);clear HS HG hW HVZ HVO HV32)
  have hl:=fun j (hj : j < 32)=>hA4.cell (ints_get .u8 D (j:=j) (by rw [HDL.out];exact hj))
  have d0:=hl 0 (by decide)
  have d1:=hl 1 (by decide)
  have d2:=hl 2 (by decide)
  have d3:=hl 3 (by decide)
  have d4:=hl 4 (by decide)
  have d5:=hl 5 (by decide)
  have d6:=hl 6 (by decide)
  have d7:=hl 7 (by decide)
  clear hl hA4
  have g0:=getD_lt HDB.out 0
  have g1:=getD_lt HDB.out 1
  have g2:=getD_lt HDB.out 2
  have g3:=getD_lt HDB.out 3
  have g4:=getD_lt HDB.out 4
  have g5:=getD_lt HDB.out 5
  have g6:=getD_lt HDB.out 6
  have g7:=getD_lt HDB.out 7
  have HR : Hid (R=(((((((D.getD 0 0 % 128 * 256 + D.getD 1 0) * 256 + D.getD 2 0) * 256 + D.getD 3 0) * 256 + D.getD 4 0) * 256 + D.getD 5 0) * 256 + D.getD 6 0) * 256 + D.getD 7 0) % 1073741789):=Lib.hid (by rw [HH.out];rfl)
  generalize D.getD 0 0=x0 at *
  generalize D.getD 1 0=x1 at *
  generalize D.getD 2 0=x2 at *
  generalize D.getD 3 0=x3 at *
  generalize D.getD 4 0=x4 at *
  generalize D.getD 5 0=x5 at *
  generalize D.getD 6 0=x6 at *
  generalize D.getD 7 0=x7 at *
  obtain ⟨y0,hy0⟩ : ∃ y,y=x0 % 128:=⟨_,rfl⟩
  obtain ⟨y1,hy1⟩ : ∃ y,y=y0 * 256 + x1:=⟨_,rfl⟩
  obtain ⟨y2,hy2⟩ : ∃ y,y=y1 * 256 + x2:=⟨_,rfl⟩
  obtain ⟨y3,hy3⟩ : ∃ y,y=y2 * 256 + x3:=⟨_,rfl⟩
  obtain ⟨y4,hy4⟩ : ∃ y,y=y3 * 256 + x4:=⟨_,rfl⟩
  obtain ⟨y5,hy5⟩ : ∃ y,y=y4 * 256 + x5:=⟨_,rfl⟩
  obtain ⟨y6,hy6⟩ : ∃ y,y=y5 * 256 + x6:=⟨_,rfl⟩
  obtain ⟨y7,hy7⟩ : ∃ y,y=y6 * 256 + x7:=⟨_,rfl⟩
  have b0 : y0 < 128:=by omega
  have b1 : y1 < 32768:=by omega
  have b2 : y2 < 8388608:=by omega
  have b3 : y3 < 2147483648:=by omega
  have b4 : y4 < 549755813888:=by omega
  have b5 : y5 < 140737488355328:=by omega
  have b6 : y6 < 36028797018963968:=by omega
  have b7 : y7 < 9223372036854775808:=by omega
  have m0 : ((x0 : Int) % 128)=(y0 : Int):=by omega
  have st : ∀ (y x z : Nat),z=y * 256 + x → z < 9223372036854775808 → wrap64 ((y : Int) * 256)=(y : Int) * 256 ∧ wrap64 ((y : Int) * 256 + x)=(z : Int) ∧ ((y : Int) * 256 + x=(z : Int)):=by
    intro y x z h1 h2
    refine ⟨?_,?_,by omega⟩ <;> (unfold wrap64;omega)
  have Q1:=Lib.hid (And.intro (st y0 x1 y1 hy1 (by omega)) (And.intro d1 g1))
  have Q2:=Lib.hid (And.intro (st y1 x2 y2 hy2 (by omega)) (And.intro d2 g2))
  have Q3:=Lib.hid (And.intro (st y2 x3 y3 hy3 (by omega)) (And.intro d3 g3))
  have Q4:=Lib.hid (And.intro (st y3 x4 y4 hy4 (by omega)) (And.intro d4 g4))
  have Q5:=Lib.hid (And.intro (st y4 x5 y5 hy5 (by omega)) (And.intro d5 g5))
  have Q6:=Lib.hid (And.intro (st y5 x6 y6 hy6 (by omega)) (And.intro d6 g6))
  have Q7:=Lib.hid (And.intro (st y6 x7 y7 hy7 (by omega)) (And.intro d7 g7))
  have HF : Hid (((y7 : Int) % 1073741789)=(R : Int)):=Lib.hid (by rw [HR.out,← hy0,← hy1,← hy2,← hy3,← hy4,← hy5,← hy6,← hy7];simp)
  clear hy0 hy1 hy2 hy3 hy4 hy5 hy6 hy7 d1 d2 d3 d4 d5 d6 d7 g1 g2 g3 g4 g5 g6 g7 b1 b2 b3 b4 b5 b6 st HR HH
  go_wp2
  refine wp_loop_rounds 8 ?_
  have M0:=Lib.hid m0
  clear d0 m0
  rw [rounds_succ]
  have ed:=Q1.out.2.1
  have eg:=Q1.out.2.2
  go_wp2
  clear ed eg
  rw [rounds_succ]
  have ed:=Q2.out.2.1
  have eg:=Q2.out.2.2
  go_wp2
  clear ed eg
  rw [rounds_succ]
  have ed:=Q3.out.2.1
  have eg:=Q3.out.2.2
  go_wp2
  clear ed eg
  rw [rounds_succ]
  have ed:=Q4.out.2.1
  have eg:=Q4.out.2.2
  go_wp2
  clear ed eg
  rw [rounds_succ]
  have ed:=Q5.out.2.1
  have eg:=Q5.out.2.2
  go_wp2
  clear ed eg
  rw [rounds_succ]
  have ed:=Q6.out.2.1
  have eg:=Q6.out.2.2
  go_wp2
  clear ed eg
  rw [rounds_succ]
  have ed:=Q7.out.2.1
  have eg:=Q7.out.2.2
  go_wp2
  clear ed eg
  rw [rounds_succ]
  go_wp2
  go_ret
  refine ⟨congrArg (fun z=>Ending.returned (.int .i64 z)) ?_,HG4.out⟩
  rw [M0.out,Q1.out.1.2.2,Q2.out.1.1,Q2.out.1.2.1,Q3.out.1.1,Q3.out.1.2.1,Q4.out.1.1,Q4.out.1.2.1,Q5.out.1.1,Q5.out.1.2.1,Q6.out.1.1,Q6.out.1.2.1,Q7.out.1.1,Q7.out.1.2.1,Int.tmod_eq_emod_of_nonneg (by omega),HF.out]
  rw [HRE.out]
end Go.Proofs.YtjbcfdgnafmbkaaDoor.Sha
end
section
set_option linter.unusedVariables false
namespace Go.Proofs.YtjbcfdgnafmbkaaDoor.Sha
def bytesOk (l : List Int) : Bool:=l.all (fun x=>decide (0 ≤ x) && decide (x < 256)) && decide (l.length ≤ 1099511627776)
theorem bytesOk_of {l : List Int} (h : bytesOk l=true) : toI (l.map Int.toNat)=l ∧ (∀ x ∈ l.map Int.toNat,x < 256) ∧ l.length ≤ 1099511627776:=by
  unfold bytesOk at h
  simp only [Bool.and_eq_true,List.all_eq_true,decide_eq_true_eq] at h
  refine ⟨?_,?_,h.2⟩
  · rw [toI,List.map_map]
    refine (List.map_congr_left (g:=id) fun x hx=>?_).trans (List.map_id _)
    have:=h.1 x hx
    simp only [Function.comp,id];omega
  · intro x hx
    obtain ⟨y,hy,rfl⟩:=List.mem_map.1 hx
    have:=h.1 y hy;omega
theorem bytesOk_toI {l : List Nat} (h : ∀ x ∈ l,x < 256) (hl : l.length ≤ 1099511627776) : bytesOk (toI l)=true:=by
  unfold bytesOk
  simp only [Bool.and_eq_true,List.all_eq_true,decide_eq_true_eq]
  refine ⟨fun x hx=>?_,by rw [toI_length];exact hl⟩
  obtain ⟨y,hy,rfl⟩:=List.mem_map.1 hx
  have:=h y hy
  exact ⟨by omega,by omega⟩
theorem toNat_toI (l : List Nat) : (toI l).map Int.toNat=l:=by
  rw [toI,List.map_map]
  exact (List.map_congr_left (g:=id) fun x _=>by simp).trans (List.map_id _)
end Go.Proofs.YtjbcfdgnafmbkaaDoor.Sha
namespace Go.Proofs.YtjbcfdgnafmbkaaDoor.PBig
open Go.RowKit Go.Proofs.YtjbcfdgnafmbkaaDoor Go.Proofs.YtjbcfdgnafmbkaaDoorW.PrintWords
def R10_Hash.f (a0 : ByteArray) (l1 : List Int) : Option Int:=if Sha.bytesOk l1=true ∧ a0.size ≤ 1099511627776 then some (Sha.hashN (Sha.strL a0) (l1.map Int.toNat) : Nat) else none
theorem R10_Hash.calls (a0 : ByteArray) (A1 : Option Addr) (c1 : Nat) (l1 : List Int) (r : Int) (w : World) (hr1 : Kd.C (Kd.int .u8) w A1 l1.length l1) (hc1 : l1.length ≤ c1) (h : R10_Hash.f a0 l1=some r) :
    Calls Tryd.prog 21 #[.string a0,.slice A1 l1.length c1] w fun e w'=>e=.returned (.int .i64 r) ∧ Below w.heap.size w w':=by
  unfold R10_Hash.f at h
  split at h
  case isFalse=>cases h
  case isTrue hc2 =>
    cases h
    obtain ⟨h1,h2,h3⟩:=Sha.bytesOk_of hc2.1
    have hll : (l1.map Int.toNat).length=l1.length:=List.length_map _
    have:=Sha.rhash_c a0 A1 c1 (l1.map Int.toNat) w (by rw [h1,hll];exact hr1) h2 (by rw [hll];exact hc1) hc2.2 (by rw [hll];exact h3)
    rw [hll] at this
    exact this.mono fun e w' ⟨h1,h2⟩=>⟨h1,(Below.refl _ _).grown h2 (Nat.le_refl _) (by simp)⟩
end Go.Proofs.YtjbcfdgnafmbkaaDoor.PBig
end
